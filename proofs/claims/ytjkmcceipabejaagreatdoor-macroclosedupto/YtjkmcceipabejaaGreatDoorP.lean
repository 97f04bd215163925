/- Further functions: what they answer, and what that means. -/
import Derived.Test.YtjkmcceipabejaaGreatDoorO
set_option linter.unusedSimpArgs false
set_option linter.unusedVariables false
set_option linter.unusedSectionVars false
namespace Go.Proofs.Ae
open Go Go.RowKit
def c71i0 : CCode := (.reg [⟨some 4, (.box (.tmp 1)), none⟩, ⟨some 5, (.box (.tmp 2)), none⟩, ⟨some 6, (.alloc [(.int .i64 0), (.slc .full []), (.int .i64 0), (.int .i64 0), (.int .i64 0), (.slc .full [])]), none⟩])
def c71i1 : CCode := (.reg [⟨some 20, (.mkfn 124 [] [(.tmp 5)]), none⟩, ⟨some 7, (.mov (.tmp 20)), none⟩])
def c71i2 : CCode := (.seq (.reg [⟨some 21, (.faddr 0 .sc (.tmp 4)), none⟩, ⟨some 22, (.load .sc (.tmp 21)), none⟩, ⟨some 23, (.bin .eql (.tmp 22) (.const (.int .i64 10))), none⟩]) (.cond (.tmp 23) (.seq (.drg [⟨⟨some 25, (.mov (.tmp 0)), none⟩, .light 0 0, [(0, none)]⟩, ⟨⟨some 26, (.nilck (.tmp 25)), none⟩, .light 0 0, [(25, some 0)]⟩, ⟨⟨some 27, (.faddr 0 .sc (.tmp 26)), none⟩, .light 0 0, [(26, some 1)]⟩, ⟨⟨some 28, (.load .sc (.tmp 27)), none⟩, .light 0 0, [(27, some 2)]⟩, ⟨⟨some 29, (.faddr 1 .sc (.tmp 4)), none⟩, .light 0 0, [(4, none)]⟩, ⟨⟨some 30, (.load .sc (.tmp 29)), none⟩, .light 0 0, [(29, some 4)]⟩, ⟨⟨some 31, (.iaddrS .sc (.tmp 30) (.const (.int .i64 0))), none⟩, .light 0 0, [(30, some 5)]⟩, ⟨⟨some 32, (.load .sc (.tmp 31)), none⟩, .light 0 0, [(31, some 6)]⟩, ⟨⟨some 33, (.call (.fn 15) [(.tmp 28), (.tmp 32)]), none⟩, .heavy, [(28, some 3), (32, some 7)]⟩, ⟨⟨some 24, (.mov (.tmp 33)), none⟩, .light 1 1, [(33, some 8)]⟩, ⟨⟨some 34, (.extr (.tmp 24) 0), none⟩, .light 1 1, [(24, some 9)]⟩, ⟨⟨some 35, (.extr (.tmp 24) 1), none⟩, .light 1 2, [(24, some 9)]⟩, ⟨⟨some 8, (.alloc [(.str []), (.slc .full []), (.int .i64 0), (.slc .full []), (.int .i64 0), (.int .i64 0), (.int .i64 0), (.slc .full [])]), none⟩, .alloc [(.str []), (.slc .full []), (.int .i64 0), (.slc .full []), (.int .i64 0), (.int .i64 0), (.int .i64 0), (.slc .full [])] 0 1, []⟩, ⟨⟨none, (.store 8 (.tmp 8) (.tmp 34)), none⟩, .heavy, [(8, some 12), (34, some 10)]⟩, ⟨⟨some 9, (.mov (.tmp 35)), none⟩, .light 2 2, [(35, some 11)]⟩]) (.seq (.reg [⟨some 36, .mkmap, none⟩, ⟨some 10, (.mov (.tmp 36)), none⟩]) (.seq (.seq (.reg [⟨some 37, (.faddr 1 .sc (.tmp 4)), none⟩, ⟨some 38, (.load .sc (.tmp 37)), none⟩, ⟨some 39, (.slcV .sc (.tmp 38) (some (.const (.int .i64 1))) none none), none⟩, ⟨some 40, (.len 1 (.tmp 39)), none⟩, ⟨some 41, (.mov (.const (.int .i64 0))), none⟩]) (.block 0 (.loop ⟨[0, 6, 7, 8, 10, 39, 40, 41], [(41, none)], true⟩ c71b0))) (.seq (.reg [⟨some 57, (.mov (.tmp 0)), none⟩, ⟨some 58, (.faddr 2 (.ag 6) (.tmp 8)), none⟩, ⟨some 59, (.load (.ag 6) (.tmp 58)), none⟩, ⟨some 60, (.mov (.tmp 10)), none⟩, ⟨some 61, (.call (.fn 71) [(.tmp 57), (.tmp 59), (.tmp 60)]), none⟩, ⟨none, (.store 6 (.tmp 6) (.tmp 61)), none⟩]) .ret)))) .skip))
def c71i3 : CCode := (.reg [⟨some 62, (.load (.ag 6) (.tmp 4)), none⟩, ⟨some 13, (.alloc [(.int .i64 0), (.slc .full []), (.int .i64 0), (.int .i64 0), (.int .i64 0), (.slc .full [])]), none⟩, ⟨none, (.store 6 (.tmp 13) (.tmp 62)), none⟩])
def c71i4 : CCode := (.reg [⟨some 63, (.faddr 1 .sc (.tmp 4)), none⟩, ⟨some 64, (.load .sc (.tmp 63)), none⟩, ⟨some 65, (.call (.fn 125) [(.tmp 64)]), none⟩, ⟨some 66, (.faddr 1 .sc (.tmp 13)), none⟩, ⟨none, (.store 1 (.tmp 66) (.tmp 65)), none⟩, ⟨some 67, (.faddr 5 .sc (.tmp 13)), none⟩, ⟨none, (.store 1 (.tmp 67) (.const (.slc .full []))), none⟩])
def c71i5 : CCode := (.seq (.reg [⟨some 68, (.load (.ag 6) (.tmp 4)), none⟩, ⟨some 69, (.call (.fn 96) [(.tmp 68)]), none⟩, ⟨some 70, (.mov (.tmp 69)), none⟩, ⟨some 71, (.load .sc (.tmp 5)), some (70, true)⟩, ⟨some 72, (.isnil 2 true (.tmp 71)), some (70, true)⟩, ⟨some 73, (.pick (.tmp 70) (.tmp 72) (.const (.bool false))), none⟩]) (.cond (.tmp 73) (.seq (.reg [⟨some 74, (.load .sc (.tmp 5)), none⟩, ⟨some 75, (.call (.fn 126) [(.tmp 74)]), none⟩, ⟨none, (.store 1 (.tmp 5) (.tmp 75)), none⟩]) (.drg [⟨⟨some 76, (.load .sc (.tmp 5)), none⟩, .light 0 1, [(5, none)]⟩, ⟨⟨some 77, (.faddr 1 .sc (.tmp 4)), none⟩, .light 0 1, [(4, none)]⟩, ⟨⟨some 78, (.load .sc (.tmp 77)), none⟩, .light 0 1, [(77, some 1)]⟩, ⟨⟨some 79, (.iaddrS .sc (.tmp 78) (.const (.int .i64 0))), none⟩, .light 0 1, [(78, some 2)]⟩, ⟨⟨some 80, (.load .sc (.tmp 79)), none⟩, .light 0 1, [(79, some 3)]⟩, ⟨⟨some 81, (.mov (.tmp 0)), none⟩, .light 0 0, [(0, none)]⟩, ⟨⟨some 82, (.call (.fn 127) [(.tmp 81)]), none⟩, .heavy, [(81, some 5)]⟩, ⟨⟨none, (.ins true (.tmp 76) (.tmp 80) (.tmp 82)), none⟩, .heavy, [(76, some 0), (80, some 4), (82, some 6)]⟩])) .skip))
def c71i6 : CCode := (.seq (.reg [⟨some 83, (.faddr 1 .sc (.tmp 4)), none⟩, ⟨some 84, (.load .sc (.tmp 83)), none⟩, ⟨some 85, (.len 1 (.tmp 84)), none⟩, ⟨some 86, (.mov (.const (.int .i64 0))), none⟩]) (.block 2 (.loop ⟨[0, 4, 5, 6, 13, 84, 85, 86], [(86, none)], true⟩ c71b1)))
theorem c71_b : c71.body = .seq c71i0 (.seq c71i1 (.seq c71i2 (.seq c71i3 (.seq c71i4 c71t5)))) := rfl
theorem c71_5 : c71t5 = .seq c71i5 c71t6 := rfl
theorem c71_6 : c71t6 = .seq c71i6 c71t7 := rfl
theorem lkS_ptS (x y z : Str) : ∀ l : List (Str × Str), lkS (ptS l x y) z = if z == x then some y else lkS l z
  | [] => rfl
  | p :: l => by
    have ih := lkS_ptS x y z l
    simp only [ptS]
    cases h : x == p.1 with
    | true =>
      have e : x = p.1 := by simpa using h
      simp only [if_true, lkS]
      cases hz : z == x with
      | true => simp
      | false =>
        have : (z == p.1) = false := by rw [← e]; exact hz
        simp [this]
    | false =>
      simp only [Bool.false_eq_true, if_false, lkS, ih]
      cases hp : z == p.1 with
      | true =>
        have e : z = p.1 := by simpa using hp
        have : (z == x) = false := by
          simp at h ⊢
          rw [e]; exact fun k => h k.symm
        simp [this]
      | false => simp
def inA (a : Option (List (Str × Str))) (ps : List Vr) (xs : List Str) (i : Nat) : List (Str × Str) := ((ps.zip xs).take i).foldl (fun m q => ptS m q.1.nm (rn a q.2)) []
theorem inA_succ {a : Option (List (Str × Str))} {ps : List Vr} {xs : List Str} {i : Nat} {v : Vr} {x : Str} (hv : ps[i]? = some v) (hx : xs[i]? = some x) : inA a ps xs (i + 1) = ptS (inA a ps xs i) v.nm (rn a x) := by
  unfold inA
  have : (ps.zip xs)[i]? = some (v, x) := by
    rw [List.getElem?_zip_eq_some]
    exact ⟨hv, hx⟩
  rw [take_succ_of this, List.foldl_append]
  rfl
def AsI (a : Option (List (Str × Str))) : Prop := ∀ m, a = some m → ∀ x y, lkS m x = some y → isId y = true
theorem AsI.rn {a : Option (List (Str × Str))} (h : AsI a) {x : Str} (hx : isId x = true) : isId (rn a x) = true := by
  unfold Ae.rn
  cases a with
  | none => exact hx
  | some m =>
    simp only [ren]
    cases hl : lkS m x with
    | none => exact hx
    | some y => exact h m rfl x y hl
theorem AsI.put {m : List (Str × Str)} (h : AsI (some m)) {x y : Str} (hy : isId y = true) : AsI (some (ptS m x y)) := by
  intro m' e z u hu
  cases e
  rw [lkS_ptS] at hu
  split at hu
  · cases hu; exact hy
  · exact h m rfl z u hu
theorem AsI.inA {a : Option (List (Str × Str))} (h : AsI a) (ps : List Vr) (xs : List Str) (hx : ∀ x ∈ xs, isId x = true) (i : Nat) : AsI (some (inA a ps xs i)) := by
  induction i with
  | zero =>
    intro m e x y hl
    cases e
    simp [Ae.inA, lkS] at hl
  | succ i ih =>
    by_cases hi : i < (ps.zip xs).length
    · have hi' : i < ps.length ∧ i < xs.length := by rw [List.length_zip] at hi; omega
      rw [inA_succ (List.getElem?_eq_getElem hi'.1) (List.getElem?_eq_getElem hi'.2)]
      exact ih.put (h.rn (hx _ (List.getElem_mem hi'.2)))
    · have : Ae.inA a ps xs (i + 1) = Ae.inA a ps xs i := by
        unfold Ae.inA
        rw [List.take_of_length_le (by omega), List.take_of_length_le (by omega)]
      rw [this]; exact ih
theorem set_same {α : Type} (l : List α) (i : Nat) (a : α) (h : l[i]? = some a) : l.set i a = l := by
  apply List.ext_getElem?
  intro j
  by_cases hj : i = j
  · subst hj
    rw [List.getElem?_set_self (List.getElem?_eq_some_iff.1 h).1, h]
  · rw [List.getElem?_set_ne hj]
section
variable {G : Nat → Option AV} {cl : Caller} {yl : Nat → List AV → Mem → Option (AV × Mem)} {N : Nat}
theorem loop71a (d : Mc) (xs : List Str) (a : Option (List (Str × Str))) {p q5 q6 q8 qi : Nat} {O : List Obj} {R : List Arr} {ts : Slots} (hlen : xs.length = d.ps.length) (hb : xs.length < big) (hN : xs.length < N)
    (hqi : O[qi]? = some (.map [])) (h8 : ∀ X, (O.set qi X)[q8]? = some (.cells (mcc d)))
    (h124 : ∀ m x, cl 124 [.str x, .ptr q5 0] ⟨O.set qi (.map m), R⟩ = some (.str (rn a x), ⟨O.set qi (.map m), R⟩))
    (l0 : look 0 ts = .ptr p 0) (l6 : look 6 ts = .ptr q6 0) (l7 : look 7 ts = .fn 124 [] [.ptr q5 0]) (l8 : look 8 ts = .ptr q8 0) (l10 : look 10 ts = .map qi) (l39 : look 39 ts = .slc .shared (xs.map .str)) (l40 : look 40 ts = .int .i64 xs.length) (l41 : look 41 ts = .int .i64 0) (k m : Nat) :
    ∃ ts', iter true (evalC G true cl yl N c71b0) ⟨[0, 6, 7, 8, 10, 39, 40, 41], [(41, none)], true⟩ k m N ⟨ts, ⟨O, R⟩, []⟩ = some (.exit 0, ⟨ts', ⟨O.set qi (.map (asE (inA a d.ps xs xs.length))), R⟩, []⟩) ∧
      look 0 ts' = .ptr p 0 ∧ look 6 ts' = .ptr q6 0 ∧ look 8 ts' = .ptr q8 0 ∧ look 10 ts' = .map qi := by
  unfold big at hb
  have hlt := (List.getElem?_eq_some_iff.1 hqi).1
  have gi : ∀ X, (O.set qi X)[qi]? = some X := fun X => List.getElem?_set_self hlt
  have main := iter_inv (mu := true) (step := evalC G true cl yl N c71b0) (an := ⟨[0, 6, 7, 8, 10, 39, 40, 41], [(41, none)], true⟩) (k := k) (m := m) (N := N) xs (fun _ => (none : Option Unit))
    (fun i s => ∃ ts, s = ⟨ts, ⟨O.set qi (.map (asE (inA a d.ps xs i))), R⟩, []⟩ ∧ look 0 ts = .ptr p 0 ∧ look 6 ts = .ptr q6 0 ∧ look 7 ts = .fn 124 [] [.ptr q5 0] ∧ look 8 ts = .ptr q8 0 ∧ look 10 ts = .map qi ∧ look 39 ts = .slc .shared (xs.map .str) ∧ look 40 ts = .int .i64 xs.length ∧ look 41 ts = .int .i64 (i : Nat))
    (fun r e s => e = .exit 0 ∧ ∃ ts, s = ⟨ts, ⟨O.set qi (.map (asE (inA a d.ps xs xs.length))), R⟩, []⟩ ∧ look 0 ts = .ptr p 0 ∧ look 6 ts = .ptr q6 0 ∧ look 8 ts = .ptr q8 0 ∧ look 10 ts = .map qi)
    (s0 := ⟨ts, ⟨O, R⟩, []⟩) hN ⟨ts, by rw [show asE (inA a d.ps xs 0) = [] from rfl, set_same O qi _ hqi], l0, l6, l7, l8, l10, l39, l40, l41⟩ ?_ ?_
  · obtain ⟨e, s', h1, -, rfl, ts', rfl, h2⟩ := main
    exact ⟨ts', h1, h2⟩
  · rintro i x s hx hi ⟨ts, rfl, k0, k6, k7, k8, k10, k39, k40, k41⟩
    have hx' := (List.getElem?_eq_some_iff.1 hx).2
    have hi2 : i < d.ps.length := by omega
    have hv := List.getElem?_eq_getElem hi2
    have w1 := wrap_succ (i := i) (by omega)
    have kc := h124 (asE (inA a d.ps xs i)) x
    have hp := put_asE d.ps[i].nm (rn a x) (inA a d.ps xs i)
    rw [inA_succ hv hx]
    generalize inA a d.ps xs i = mm at *
    simp -implicitDefEqProofs [c71b0, k0, k6, k7, k8, k10, k39, k40, k41, hi, hx', hi2, w1, h8, gi, kc, hp, mcc_eq, insA, keyK, List.set_set]
  · rintro s ⟨ts, rfl, k0, k6, k7, k8, k10, k39, k40, k41⟩
    simp -implicitDefEqProofs [c71b0, k0, k6, k7, k8, k10, k39, k40, k41]
end
def c71call : CCode := (.seq (.seq (.reg [⟨some 37, (.faddr 1 .sc (.tmp 4)), none⟩, ⟨some 38, (.load .sc (.tmp 37)), none⟩, ⟨some 39, (.slcV .sc (.tmp 38) (some (.const (.int .i64 1))) none none), none⟩, ⟨some 40, (.len 1 (.tmp 39)), none⟩, ⟨some 41, (.mov (.const (.int .i64 0))), none⟩]) (.block 0 (.loop ⟨[0, 6, 7, 8, 10, 39, 40, 41], [(41, none)], true⟩ c71b0))) (.seq (.reg [⟨some 57, (.mov (.tmp 0)), none⟩, ⟨some 58, (.faddr 2 (.ag 6) (.tmp 8)), none⟩, ⟨some 59, (.load (.ag 6) (.tmp 58)), none⟩, ⟨some 60, (.mov (.tmp 10)), none⟩, ⟨some 61, (.call (.fn 71) [(.tmp 57), (.tmp 59), (.tmp 60)]), none⟩, ⟨none, (.store 6 (.tmp 6) (.tmp 61)), none⟩]) .ret))
def c71k0 : CCode := (.drg [⟨⟨some 25, (.mov (.tmp 0)), none⟩, .light 0 0, [(0, none)]⟩, ⟨⟨some 26, (.nilck (.tmp 25)), none⟩, .light 0 0, [(25, some 0)]⟩, ⟨⟨some 27, (.faddr 0 .sc (.tmp 26)), none⟩, .light 0 0, [(26, some 1)]⟩, ⟨⟨some 28, (.load .sc (.tmp 27)), none⟩, .light 0 0, [(27, some 2)]⟩, ⟨⟨some 29, (.faddr 1 .sc (.tmp 4)), none⟩, .light 0 0, [(4, none)]⟩, ⟨⟨some 30, (.load .sc (.tmp 29)), none⟩, .light 0 0, [(29, some 4)]⟩, ⟨⟨some 31, (.iaddrS .sc (.tmp 30) (.const (.int .i64 0))), none⟩, .light 0 0, [(30, some 5)]⟩, ⟨⟨some 32, (.load .sc (.tmp 31)), none⟩, .light 0 0, [(31, some 6)]⟩, ⟨⟨some 33, (.call (.fn 15) [(.tmp 28), (.tmp 32)]), none⟩, .heavy, [(28, some 3), (32, some 7)]⟩, ⟨⟨some 24, (.mov (.tmp 33)), none⟩, .light 1 1, [(33, some 8)]⟩, ⟨⟨some 34, (.extr (.tmp 24) 0), none⟩, .light 1 1, [(24, some 9)]⟩, ⟨⟨some 35, (.extr (.tmp 24) 1), none⟩, .light 1 2, [(24, some 9)]⟩, ⟨⟨some 8, (.alloc [(.str []), (.slc .full []), (.int .i64 0), (.slc .full []), (.int .i64 0), (.int .i64 0), (.int .i64 0), (.slc .full [])]), none⟩, .alloc [(.str []), (.slc .full []), (.int .i64 0), (.slc .full []), (.int .i64 0), (.int .i64 0), (.int .i64 0), (.slc .full [])] 0 1, []⟩, ⟨⟨none, (.store 8 (.tmp 8) (.tmp 34)), none⟩, .heavy, [(8, some 12), (34, some 10)]⟩, ⟨⟨some 9, (.mov (.tmp 35)), none⟩, .light 2 2, [(35, some 11)]⟩])
def c71k1 : CCode := (.reg [⟨some 36, .mkmap, none⟩, ⟨some 10, (.mov (.tmp 36)), none⟩])
def c71i2a : CCode := (.reg [⟨some 21, (.faddr 0 .sc (.tmp 4)), none⟩, ⟨some 22, (.load .sc (.tmp 21)), none⟩, ⟨some 23, (.bin .eql (.tmp 22) (.const (.int .i64 10))), none⟩])
theorem c71_2 : c71i2 = .seq c71i2a (.cond (.tmp 23) (.seq c71k0 (.seq c71k1 c71call)) .skip) := rfl
abbrev zn6 : List AV := [.int .i64 0, .slc .full [], .int .i64 0, .int .i64 0, .int .i64 0, .slc .full []]
section
variable {G : Nat → Option AV} {cl : Caller} {yl : Nat → List AV → Mem → Option (AV × Mem)} {N : Nat}
theorem evTA (n : Nd) (s : Str) (d : Mc) (xs : List Str) (a : Option (List (Str × Str))) {p q4 q5 q6 q8 qi : Nat} {z : List AV} {c0 c1 c2 c3 c4 c5 : AV} {O O1 : List Obj} {R R1 : List Arr} {ts : Slots} (hn : n.ns = s :: xs) (hlen : xs.length = d.ps.length) (hb : xs.length < big) (hN : xs.length < N)
    (hqi : O[qi]? = some (.map [])) (h4 : O[q4]? = some (.cells (ndc n))) (h8 : ∀ X, (O.set qi X)[q8]? = some (.cells (mcc d)))
    (h124 : ∀ m x, cl 124 [.str x, .ptr q5 0] ⟨O.set qi (.map m), R⟩ = some (.str (rn a x), ⟨O.set qi (.map m), R⟩))
    (h71 : cl 71 [.ptr p 0, av d.bd, .map qi] ⟨O.set qi (.map (asE (inA a d.ps xs xs.length))), R⟩ = some (.agg [c0, c1, c2, c3, c4, c5], ⟨O1, R1⟩)) (h6 : O1[q6]? = some (.cells z)) (hz : z.length = 6)
    (l0 : look 0 ts = .ptr p 0) (l4 : look 4 ts = .ptr q4 0) (l6 : look 6 ts = .ptr q6 0) (l7 : look 7 ts = .fn 124 [] [.ptr q5 0]) (l8 : look 8 ts = .ptr q8 0) (l10 : look 10 ts = .map qi) :
    ∃ ts', evalC G true cl yl N c71call ⟨ts, ⟨O, R⟩, []⟩ = some (.ret, ⟨ts', ⟨O1.set q6 (.cells [c0, c1, c2, c3, c4, c5]), R1⟩, []⟩) ∧ look 6 ts' = .ptr q6 0 := by
  obtain ⟨ts1, -, -, -, -, -⟩ : ∃ ts : Slots, True ∧ True ∧ True ∧ True ∧ True := ⟨[], trivial, trivial, trivial, trivial, trivial⟩
  have e1 := fun k m => loop71a (G := G) (yl := yl) (N := N) d xs a hlen hb hN hqi h8 h124 (q6 := q6)
    (ts := (41, .int .i64 0) :: (40, .int .i64 xs.length) :: (39, .slc .shared (xs.map .str)) :: (38, .slc .shared (.str s :: xs.map .str)) :: (37, .ptr q4 1) :: ts) (by simpa using l0) (by simpa using l6) (by simpa using l7) (by simpa using l8) (by simpa using l10) rfl rfl rfl k m
  obtain ⟨ts2, e2, k0, k6, k8, k10⟩ := e1 O.length R.length
  have ht : (xs.map AV.str).take xs.length = xs.map .str := List.take_of_length_le (by simp)
  have hz1 : szOk 1 (.str s :: xs.map .str) = true := rfl
  have hd : z.drop 6 = [] := List.drop_eq_nil_of_le (by omega)
  have h8' := h8 (.map (asE (inA a d.ps xs xs.length)))
  rw [mcc_eq] at h8'
  have hll : (0 : Int) < (xs.length : Int) + 1 := by omega
  simp -implicitDefEqProofs [c71call, l4, h4, hn, hz1, ht, e2, k0, k6, k8, k10, h8', h71, h6, hz, hd]
end
section
variable {G : Nat → Option AV} {cl : Caller} {yl : Nat → List AV → Mem → Option (AV × Mem)} {N : Nat}
theorem evS_cal (n : Nd) (s : Str) (xs : List Str) (d : Mc) {v : AV} {p id tq c : Nat} {tk : List Str} {O : List Obj} {R : List Arr} (hop : n.op = 10) (hn : n.ns = s :: xs) (hv : cells v = some [v]) (hm : Mk O p id tq c tk)
    (h15 : ∀ X, Gr (cl 15 [.ptr id 0, .str s] ⟨O ++ X, R⟩) (.tup [mcv d, .bool true]) (O ++ X) R) :
    ∃ (Y : List Obj) (ts : Slots), evalC G true cl yl N c71.body ⟨frame 0 [.ptr p 0, av n, v], ⟨O, R⟩, []⟩ = thenC (evalC G true cl yl N c71call ⟨ts, ⟨O ++ (.cells (ndc n) :: .cells [v] :: .cells zn6 :: .cells (mcc d) :: (Y ++ [.map []])), R⟩, []⟩) (evalC G true cl yl N (.seq c71i3 (.seq c71i4 c71t5))) ∧
      look 0 ts = .ptr p 0 ∧ look 4 ts = .ptr O.length 0 ∧ look 6 ts = .ptr (O.length + 2) 0 ∧ look 7 ts = .fn 124 [] [.ptr (O.length + 1) 0] ∧ look 8 ts = .ptr (O.length + 3) 0 ∧ look 10 ts = .map (O.length + (4 + Y.length)) := by
  obtain ⟨Y, hY⟩ := h15 [.cells (ndc n), .cells [v], .cells zn6, .cells [.str [], .slc .full [], .int .i64 0, .slc .full [], .int .i64 0, .int .i64 0, .int .i64 0, .slc .full []]]
  have hp := fun X => get_old hm.p X
  have hlen : Y.length + 1 + 1 + 1 + 1 = 4 + Y.length := by omega
  simp -implicitDefEqProofs at hY
  refine ⟨Y, ?_⟩
  apply Exists.intro
  apply And.intro
  · rw [c71_b, c71_2]
    simp -implicitDefEqProofs [c71i0, c71i1, c71i2a, c71k0, c71k1, hop, hn, hv, hp, hY, mcc_eq, hlen]
    rfl
  · refine ⟨?_, ?_, ?_, ?_, ?_, ?_⟩ <;> first | rfl | simp
theorem ev71_cal (n : Nd) (s : Str) (xs : List Str) (d : Mc) (a : Option (List (Str × Str))) {v : AV} {p id tq c : Nat} {tk : List Str} {O : List Obj} {R : List Arr} {Q : Nat → AV → List Obj → List Arr → Prop} (hop : n.op = 10) (hn : n.ns = s :: xs) (hlen : xs.length = d.ps.length) (hb : xs.length < big) (hN : xs.length < N) (hA : AsV O v a) (hm : Mk O p id tq c tk)
    (h15 : ∀ X, Gr (cl 15 [.ptr id 0, .str s] ⟨O ++ X, R⟩) (.tup [mcv d, .bool true]) (O ++ X) R)
    (h124 : ∀ q5 O' x, O'[q5]? = some (.cells [v]) → AsV O' v a → cl 124 [.str x, .ptr q5 0] ⟨O', R⟩ = some (.str (rn a x), ⟨O', R⟩))
    (h71 : ∀ X qi, (O ++ X)[qi]? = some (.map (asE (inA a d.ps xs xs.length))) → ∃ c0 c1 c2 c3 c4 c5 O1 R1, cl 71 [.ptr p 0, av d.bd, .map qi] ⟨O ++ X, R⟩ = some (.agg [c0, c1, c2, c3, c4, c5], ⟨O1, R1⟩) ∧ Fro p (O ++ X) O1 ∧ Q O.length (.agg [c0, c1, c2, c3, c4, c5]) O1 R1) :
    ∃ c0 c1 c2 c3 c4 c5 O1 R1, callA G true cl yl N c71 [.ptr p 0, av n, v] ⟨O, R⟩ = some (.agg [c0, c1, c2, c3, c4, c5], ⟨O1.set (O.length + 2) (.cells [c0, c1, c2, c3, c4, c5]), R1⟩) ∧ Fro p O O1 ∧ Q O.length (.agg [c0, c1, c2, c3, c4, c5]) O1 R1 := by
  obtain ⟨Y, ts, hS, l0, l4, l6, l7, l8, l10⟩ := evS_cal (G := G) (yl := yl) (N := N) n s xs d hop hn hA.cells hm h15
  have hpl := (List.getElem?_eq_some_iff.1 hm.p).1
  have hsetq : ∀ X : Obj, (O ++ (Obj.cells (ndc n) :: .cells [v] :: .cells zn6 :: .cells (mcc d) :: (Y ++ [Obj.map []]))).set (O.length + (4 + Y.length)) X = O ++ (.cells (ndc n) :: .cells [v] :: .cells zn6 :: .cells (mcc d) :: (Y ++ [X])) := by
    intro X
    rw [set_new]
    congr 1
    have e : 4 + Y.length = Y.length + 1 + 1 + 1 + 1 := by omega
    rw [e]
    simp
  have e4 : 4 + Y.length = Y.length + 1 + 1 + 1 + 1 := by omega
  have hget : ∀ X : Obj, (O ++ (Obj.cells (ndc n) :: .cells [v] :: .cells zn6 :: .cells (mcc d) :: (Y ++ [X])))[O.length + (4 + Y.length)]? = some X := by
    intro X
    rw [e4, get_new]; simp
  obtain ⟨c0, c1, c2, c3, c4, c5, O1, R1, k71, kF, kQ⟩ := h71 _ (O.length + (4 + Y.length)) (hget (.map (asE (inA a d.ps xs xs.length))))
  have h6 : O1[O.length + 2]? = some (.cells zn6) := kF.old (by simp) (by omega)
  obtain ⟨ts', e1, e2⟩ := evTA (G := G) (cl := cl) (yl := yl) (N := N) n s d xs a (p := p) (q4 := O.length) (q5 := O.length + 1) (q6 := O.length + 2) (q8 := O.length + 3) (qi := O.length + (4 + Y.length)) (R := R) (ts := ts) hn hlen hb hN (hget _) (by simp) (fun X => by rw [hsetq]; simp)
    (fun m x => by rw [hsetq]; exact h124 _ _ x (by simp) (hA.app _)) (by rw [hsetq]; exact k71) h6 rfl l0 l4 l6 l7 l8 l10
  refine ⟨c0, c1, c2, c3, c4, c5, O1, R1, ?_, (Fro.app _ _ _).trans kF, kQ⟩
  have hlt := (List.getElem?_eq_some_iff.1 h6).1
  unfold callA
  rw [hS, e1]
  simp -implicitDefEqProofs [thenC, leave, takeMarks, e2, c71, hlt]
theorem evS_non (n : Nd) {v nv : AV} {p : Nat} {O : List Obj} {R R0 : List Arr} (hop : n.op ≠ 10) (hv : cells v = some [v]) (hnv : cells nv = some [nv])
    (h125 : ∀ O', cl 125 [.slc .shared (n.ns.map .str)] ⟨O', R⟩ = some (nv, ⟨O', R0⟩)) :
    ∃ ts : Slots, evalC G true cl yl N c71.body ⟨frame 0 [.ptr p 0, av n, v], ⟨O, R⟩, []⟩ = evalC G true cl yl N c71t5 ⟨ts, ⟨O ++ [.cells (ndc n), .cells [v], .cells zn6, .cells (nc6 n.op n.so n.nn n.mm nv (.slc .full []))], R0⟩, []⟩ ∧
      look 0 ts = .ptr p 0 ∧ look 4 ts = .ptr O.length 0 ∧ look 5 ts = .ptr (O.length + 1) 0 ∧ look 6 ts = .ptr (O.length + 2) 0 ∧ look 13 ts = .ptr (O.length + 3) 0 := by
  have hop' : (n.op == 10) = false := by simp [hop]
  apply Exists.intro
  apply And.intro
  · rw [c71_b, c71_2]
    simp -implicitDefEqProofs [c71i0, c71i1, c71i2a, c71i3, c71i4, hop, hop', hv, hnv, h125, ndc_eq, nc6]
    rfl
  · refine ⟨?_, ?_, ?_, ?_, ?_⟩ <;> first | rfl | simp
theorem evB_no (n : Nd) {v : AV} {p q4 q5 q6 q13 : Nat} {O : List Obj} {R : List Arr} {ts : Slots} (b : Bool) (hb : b = true → v = .nilm) (h4 : O[q4]? = some (.cells (ndc n))) (h5 : O[q5]? = some (.cells [v]))
    (h96 : ∀ M, cl 96 [av n] M = some (.bool b, M))
    (l0 : look 0 ts = .ptr p 0) (l4 : look 4 ts = .ptr q4 0) (l5 : look 5 ts = .ptr q5 0) (l6 : look 6 ts = .ptr q6 0) (l13 : look 13 ts = .ptr q13 0) :
    ∃ ts' : Slots, evalC G true cl yl N c71t5 ⟨ts, ⟨O, R⟩, []⟩ = evalC G true cl yl N c71t6 ⟨ts', ⟨O, R⟩, []⟩ ∧ look 0 ts' = .ptr p 0 ∧ look 4 ts' = .ptr q4 0 ∧ look 5 ts' = .ptr q5 0 ∧ look 6 ts' = .ptr q6 0 ∧ look 13 ts' = .ptr q13 0 := by
  cases b with
  | false =>
    apply Exists.intro
    apply And.intro
    · rw [c71_5]
      simp -implicitDefEqProofs [c71i5, l4, l5, h4, h5, h96]
      rfl
    · refine ⟨?_, ?_, ?_, ?_, ?_⟩ <;> simpa using by assumption
  | true =>
    have := hb rfl
    subst this
    apply Exists.intro
    apply And.intro
    · rw [c71_5]
      simp -implicitDefEqProofs [c71i5, l4, l5, h4, h5, h96]
      rfl
    · refine ⟨?_, ?_, ?_, ?_, ?_⟩ <;> simpa using by assumption
theorem evB_yes (n : Nd) (s : Str) (ss : List Str) (m : List (Str × Str)) {p q q4 q5 q6 q13 id tq c : Nat} {tk : List Str} {O : List Obj} {R : List Arr} {ts : Slots} (hn : n.ns = s :: ss) (h4 : O[q4]? = some (.cells (ndc n))) (h5 : O[q5]? = some (.cells [.map q])) (hq : O[q]? = some (.map (asE m)))
    (h45 : q4 ≠ q5) (hm : Mk O p id tq c tk) (hp5 : p ≠ q5) (hp4 : p ≠ q4)
    (h96 : ∀ M, cl 96 [av n] M = some (.bool true, M))
    (h126 : cl 126 [.map q] ⟨O, R⟩ = some (.map O.length, ⟨O ++ [.map (asE m)], R⟩))
    (h127 : ∀ O', Mk O' p id tq c tk → ∃ k, c < k ∧ k ≤ c + tk.length + 1 ∧ cl 127 [.ptr p 0] ⟨O', R⟩ = some (.str (zz k), ⟨O'.set p (.cells [.ptr id 0, .map tq, .int .i64 (k : Nat)]), R⟩))
    (l0 : look 0 ts = .ptr p 0) (l4 : look 4 ts = .ptr q4 0) (l5 : look 5 ts = .ptr q5 0) (l6 : look 6 ts = .ptr q6 0) (l13 : look 13 ts = .ptr q13 0) :
    ∃ k, c < k ∧ k ≤ c + tk.length + 1 ∧ ∃ (O' : List Obj) (ts' : Slots), evalC G true cl yl N c71t5 ⟨ts, ⟨O, R⟩, []⟩ = evalC G true cl yl N c71t6 ⟨ts', ⟨O', R⟩, []⟩ ∧ look 0 ts' = .ptr p 0 ∧ look 4 ts' = .ptr q4 0 ∧ look 5 ts' = .ptr q5 0 ∧ look 6 ts' = .ptr q6 0 ∧ look 13 ts' = .ptr q13 0 ∧
      Mk O' p id tq k tk ∧ O'[q5]? = some (.cells [.map O.length]) ∧ O'[O.length]? = some (.map (asE (ptS m s (zz k)))) ∧ O.length ≤ O'.length ∧ ∀ i, i < O.length → i ≠ p → i ≠ q5 → O'[i]? = O[i]? := by
  have l5lt := (List.getElem?_eq_some_iff.1 h5).1
  have l4lt := (List.getElem?_eq_some_iff.1 h4).1
  have plt := (List.getElem?_eq_some_iff.1 hm.p).1
  have tlt := (List.getElem?_eq_some_iff.1 hm.tq).1
  have htp := hm.ne
  have ht5 : tq ≠ q5 := fun e => by have := hm.tq; rw [e, h5] at this; cases this
  obtain ⟨O2, hO2⟩ : ∃ O2, (O ++ [Obj.map (asE m)]).set q5 (.cells [.map O.length]) = O2 := ⟨_, rfl⟩
  have len2 : O2.length = O.length + 1 := by rw [← hO2]; simp
  have get2 : ∀ i, i < O.length → i ≠ q5 → O2[i]? = O[i]? := fun i hi hne => by rw [← hO2, List.getElem?_set_ne (by omega), List.getElem?_append_left hi]
  have g25 : O2[q5]? = some (.cells [.map O.length]) := by rw [← hO2]; exact List.getElem?_set_self (by simp; omega)
  have g2m : O2[O.length]? = some (.map (asE m)) := by rw [← hO2, List.getElem?_set_ne (by omega)]; simp
  have g24 : O2[q4]? = some (.cells (ndc n)) := by rw [get2 q4 l4lt h45]; exact h4
  have hm2 : Mk O2 p id tq c tk := ⟨by rw [get2 p plt hp5]; exact hm.p, by rw [get2 tq tlt ht5]; exact hm.tq⟩
  obtain ⟨k, k1, k2, k127⟩ := h127 O2 hm2
  refine ⟨k, k1, k2, ?_⟩
  obtain ⟨O3, hO3⟩ : ∃ O3, O2.set p (.cells [.ptr id 0, .map tq, .int .i64 (k : Nat)]) = O3 := ⟨_, rfl⟩
  rw [hO3] at k127
  have len3 : O3.length = O.length + 1 := by rw [← hO3]; simp [len2]
  have get3 : ∀ i, i ≠ p → O3[i]? = O2[i]? := fun i hne => by rw [← hO3, List.getElem?_set_ne (by omega)]
  have g35 : O3[q5]? = some (.cells [.map O.length]) := by rw [get3 q5 (by omega)]; exact g25
  have g34 : O3[q4]? = some (.cells (ndc n)) := by rw [get3 q4 (by omega)]; exact g24
  have g3m : O3[O.length]? = some (.map (asE m)) := by rw [get3 _ (by omega)]; exact g2m
  have hput := put_asE s (zz k) m
  have g5a := get_old h5 [Obj.map (asE m)]
  have hp3 : ∀ X : Obj, O3[p]? = some (.cells [.ptr id 0, .map tq, .int .i64 (k : Nat)]) := fun _ => by rw [← hO3]; exact List.getElem?_set_self (by omega)
  have hlenr : (O ++ [Obj.map (asE m)]).length = O.length + 1 := by simp
  refine ⟨O3.set O.length (.map (asE (ptS m s (zz k)))), ?_⟩
  apply Exists.intro
  apply And.intro
  · rw [c71_5]
    simp -implicitDefEqProofs [c71i5, l0, l4, l5, h4, h5, g5a, h96, h126, hO2, g25, g24, g2m, k127, g35, g34, g3m, hn, insA, keyK, hput]
    rfl
  · refine ⟨by simpa using l0, by simpa using l4, by simpa using l5, by simpa using l6, by simpa using l13, ⟨?_, ?_⟩, ?_, ?_, by simp [len3], fun i hi h1 h2 => ?_⟩
    · rw [List.getElem?_set_ne (by omega)]; exact hp3 .mark
    · rw [List.getElem?_set_ne (by omega), get3 tq htp, get2 tq tlt ht5]; exact hm.tq
    · rw [List.getElem?_set_ne (by omega)]; exact g35
    · exact List.getElem?_set_self (by omega)
    · rw [List.getElem?_set_ne (by omega), get3 i h1, get2 i hi h2]
theorem evN71 (n : Nd) (a : Option (List (Str × Str))) {v nv kv : AV} {p q4 q5 q6 q13 lo : Nat} {op so nn mm : Int} {O : List Obj} {R : List Arr} {ts : Slots} (hb : n.ns.length < big) (hN : n.ns.length < N) (hv : AsV O v a) (h4 : O[q4]? = some (.cells (ndc n))) (h5 : O[q5]? = some (.cells [v])) (h13 : O[q13]? = some (.cells (nc6 op so nn mm nv kv))) (hnm : NmAt R n.ns lo R.length nv)
    (l0 : look 0 ts = .ptr p 0) (l4 : look 4 ts = .ptr q4 0) (l5 : look 5 ts = .ptr q5 0) (l6 : look 6 ts = .ptr q6 0) (l13 : look 13 ts = .ptr q13 0) :
    ∃ (R' : List Arr) (ts' : Slots), evalC G true cl yl N c71t6 ⟨ts, ⟨O, R⟩, []⟩ = evalC G true cl yl N c71t7 ⟨ts', ⟨O, R'⟩, []⟩ ∧ look 0 ts' = .ptr p 0 ∧ look 4 ts' = .ptr q4 0 ∧ look 5 ts' = .ptr q5 0 ∧ look 6 ts' = .ptr q6 0 ∧ look 13 ts' = .ptr q13 0 ∧
      R'.length = R.length ∧ NmAt R' (n.ns.map (rn a)) lo R.length nv ∧ ∀ i, i ≠ lo → R'[i]? = R[i]? := by
  obtain ⟨ts', R', e1, k0, k4, k5, k6, k13, kl, kn, ko⟩ := loop71n (G := G) (cl := cl) (yl := yl) (N := N) n.ns a v nv (p := p) (q4 := q4) (q6 := q6) (R := R) (ts := (86, .int .i64 0) :: (85, .int .i64 n.ns.length) :: (84, .slc .shared (n.ns.map .str)) :: (83, .ptr q4 1) :: ts) hb hN hv h5 h13 hnm (by simpa using l0) (by simpa using l4) (by simpa using l5) (by simpa using l6) (by simpa using l13) rfl rfl rfl O.length R.length
  refine ⟨R', ts', ?_, k0, k4, k5, k6, k13, kl, kn, ko⟩
  rw [c71_6]
  simp -implicitDefEqProofs [c71i6, l4, h4, e1]
end
theorem vd_map {op so nn mm : Int} {ns ns' : List Str} {l l' : List Nd} (h : ndE (.mk op ns so nn mm l) = 0) (h1 : ns'.length = ns.length) (h2 : ∀ x ∈ ns', isId x = true) (h3 : l'.length = l.length) (h4 : ∀ x ∈ l', ndE x = 0) : ndE (.mk op ns' so nn mm l') = 0 := by
  rw [vd_iff] at h ⊢
  obtain ⟨a1, a2, a3, a4, a5⟩ := h
  refine ⟨a1, a2, ?_, a4, h4⟩
  have h2' : ns'.all isId = true := by rw [List.all_eq_true]; exact h2
  have h2'' : ns.all isId = true := (has_parts a3).2.2.2.1
  have e : hasF (.mk op ns' so nn mm l') = hasF (.mk op ns so nn mm l) := by
    unfold hasF
    simp only [Nd.op, Nd.ns, Nd.so, Nd.nn, Nd.mm, Nd.l, h1, h3, h2', h2'']
    first | done | rfl | (congr)
  rw [e]; exact a3
theorem ns_ids {n : Nd} (h : ndE n = 0) : ∀ x ∈ n.ns, isId x = true := by
  have := (has_parts (vd_iff.1 h).has).2.2.2.1
  rw [List.all_eq_true] at this
  exact this
theorem Ld_len {A : List Arr} {n : Nd} {lo hi : Nat} {v : AV} (h : Ld A n lo hi v) : ∃ c0 c1 c2 c3 c4 c5, v = .agg [c0, c1, c2, c3, c4, c5] := by
  cases n with
  | mk op ns so nn mm l =>
    simp only [Ld] at h
    obtain ⟨nv, kv, m, b, vs, rfl, _⟩ := h
    exact ⟨_, _, _, _, _, _, rfl⟩
structure NdQ (kn : Kn) (O : List Obj) (R : List Arr) (p id tq c : Nat) (tk : List Str) (n : Nd) (a : Option (List (Str × Str))) (r : Nd) (v : AV) (O' : List Obj) (R' : List Arr) : Prop where
  row : ∃ Y, R' = R ++ Y
  ld : Ld R' r R.length R'.length v
  vd : ndE r = 0
  nc : ncl r = true
  sz : sz r = esz kn n
  dp : dp r = edp kn n
  same : a = none → ncl n = true → r = n
  fro : Fro p O O'
  mkr : ∃ c', Mk O' p id tq c' tk ∧ c ≤ c' ∧ c' ≤ c + esz kn n * (tk.length + 1)
def NdOK (cl : Caller) (kn : Kn) (w : List Mc) (p id tq : Nat) (tk : List Str) (n : Nd) (a : Option (List (Str × Str))) : Prop :=
  ∀ (O : List Obj) (R : List Arr) (c : Nat) (v : AV), Mk O p id tq c tk → SetR O id w → AsV O v a → c + esz kn n * (tk.length + 1) < big → ∃ r v' O' R', cl 71 [.ptr p 0, av n, v] ⟨O, R⟩ = some (v', ⟨O', R'⟩) ∧ NdQ kn O R p id tq c tk n a r v' O' R'
def nmV (ns : List Str) (R : List Arr) : AV := match ns with
  | [] => .slc .full []
  | _ :: _ => .osl R.length 0 0 ns.length
def nmR (ns : List Str) (R : List Arr) : List Arr := match ns with
  | [] => R
  | _ :: _ => R ++ [.wr 0 9 .sc (ns.map .str)]
theorem nmV_cells (ns : List Str) (R : List Arr) : cells (nmV ns R) = some [nmV ns R] := by cases ns <;> rfl
theorem nm_at (ns : List Str) (R : List Arr) : NmAt (nmR ns R) ns R.length (nmR ns R).length (nmV ns R) := by
  cases ns with
  | nil => exact .inl ⟨rfl, rfl, Nat.le_refl _⟩
  | cons s ss => exact .inr ⟨by simp, by simp [nmR], rfl, by simp [nmR]⟩
theorem nmR_pre (ns : List Str) (R : List Arr) : ∃ Z, nmR ns R = R ++ Z := by
  cases ns with
  | nil => exact ⟨[], by simp [nmR]⟩
  | cons s ss => exact ⟨_, rfl⟩
theorem SetR.fro {O O' : List Obj} {p id : Nat} {w : List Mc} {a b : AV} {cs : List AV} (h : SetR O id w) (k : Fro p O O') (hp : O[p]? = some (.cells (a :: b :: cs))) : SetR O' id w := by
  obtain ⟨sp, h⟩ := h
  refine ⟨sp, k.old h fun e => ?_⟩
  rw [e, hp] at h
  simp at h
theorem rn_none (ns : List Str) : ns.map (rn none) = ns := by
  induction ns with
  | nil => rfl
  | cons x xs ih => rw [List.map_cons, ih]; rfl
structure Cs71 (cl : Caller) (n : Nd) (p id tq : Nat) (tk : List Str) : Prop where
  h96 : ∀ M, cl 96 [av n] M = some (.bool (n.op == 16 || n.op == 17), M)
  h125 : ∀ O R, cl 125 [.slc .shared (n.ns.map .str)] ⟨O, R⟩ = some (nmV n.ns R, ⟨O, nmR n.ns R⟩)
  h126 : ∀ O R q m, O[q]? = some (.map (asE m)) → cl 126 [.map q] ⟨O, R⟩ = some (.map O.length, ⟨O ++ [.map (asE m)], R⟩)
  h127 : ∀ O R c, Mk O p id tq c tk → c + tk.length + 1 < big → ∃ k, c < k ∧ k ≤ c + tk.length + 1 ∧ cl 127 [.ptr p 0] ⟨O, R⟩ = some (.str (zz k), ⟨O.set p (.cells [.ptr id 0, .map tq, .int .i64 (k : Nat)]), R⟩)
section
variable {G : Nat → Option AV} {cl : Caller} {yl : Nat → List AV → Mem → Option (AV × Mem)} {N : Nat}
theorem evP71 (kn : Kn) (w : List Mc) (n : Nd) (a : Option (List (Str × Str))) {p id tq c : Nat} {tk : List Str} {O : List Obj} {R : List Arr} {v : AV} (hv : ndE n = 0) (hop : n.op ≠ 10) (hb : n.ns.length < big) (hN : n.ns.length < N) (hC : Cs71 cl n p id tq tk) (hm : Mk O p id tq c tk) (hs : SetR O id w) (hA : AsV O v a) (hI : AsI a) (hbud : c + (tk.length + 1) < big) :
    ∃ (O2 : List Obj) (R1 : List Arr) (v1 nv : AV) (a1 : Option (List (Str × Str))) (c1 : Nat) (ts : Slots), evalC G true cl yl N c71.body ⟨frame 0 [.ptr p 0, av n, v], ⟨O, R⟩, []⟩ = evalC G true cl yl N c71t7 ⟨ts, ⟨O2, R1⟩, []⟩ ∧
      look 0 ts = .ptr p 0 ∧ look 4 ts = .ptr O.length 0 ∧ look 5 ts = .ptr (O.length + 1) 0 ∧ look 6 ts = .ptr (O.length + 2) 0 ∧ look 13 ts = .ptr (O.length + 3) 0 ∧
      O2[O.length]? = some (.cells (ndc n)) ∧ O2[O.length + 1]? = some (.cells [v1]) ∧ O2[O.length + 2]? = some (.cells zn6) ∧ O2[O.length + 3]? = some (.cells (nc6 n.op n.so n.nn n.mm nv (.slc .full []))) ∧
      Fro p O O2 ∧ Mk O2 p id tq c1 tk ∧ SetR O2 id w ∧ AsV O2 v1 a1 ∧ AsI a1 ∧ (a = none → a1 = none) ∧ c ≤ c1 ∧ c1 ≤ c + (tk.length + 1) ∧ NmAt R1 (n.ns.map (rn a1)) R.length R1.length nv ∧ ∃ Z, R1 = R ++ Z := by
  have hpl := (List.getElem?_eq_some_iff.1 hm.p).1
  obtain ⟨h96, h125, h126, h127⟩ := hC
  obtain ⟨ts, e1, l0, l4, l5, l6, l13⟩ := evS_non (G := G) (yl := yl) (N := N) n (p := p) hop hA.cells (nmV_cells n.ns R) (fun O' => h125 O' R)
  obtain ⟨O1, hO1⟩ : ∃ O1, O ++ [.cells (ndc n), .cells [v], .cells zn6, .cells (nc6 n.op n.so n.nn n.mm (nmV n.ns R) (.slc .full []))] = O1 := ⟨_, rfl⟩
  rw [hO1] at e1
  have g0 : O1[O.length]? = some (.cells (ndc n)) := by rw [← hO1]; simp
  have g1 : O1[O.length + 1]? = some (.cells [v]) := by rw [← hO1]; simp
  have g2 : O1[O.length + 2]? = some (.cells zn6) := by rw [← hO1]; simp
  have g3 : O1[O.length + 3]? = some (.cells (nc6 n.op n.so n.nn n.mm (nmV n.ns R) (.slc .full []))) := by rw [← hO1]; simp
  have len1 : O1.length = O.length + 4 := by rw [← hO1]; simp
  have hF1 : Fro p O O1 := by rw [← hO1]; exact .app _ _ _
  have hm1 : Mk O1 p id tq c tk := by rw [← hO1]; exact hm.app _
  have hs1 : SetR O1 id w := by rw [← hO1]; exact hs.grow _
  have hA1 : AsV O1 v a := by rw [← hO1]; exact hA.app _
  -- the middle
  have mid : ∃ (O2 : List Obj) (v1 : AV) (a1 : Option (List (Str × Str))) (c1 : Nat) (ts2 : Slots), evalC G true cl yl N c71t5 ⟨ts, ⟨O1, nmR n.ns R⟩, []⟩ = evalC G true cl yl N c71t6 ⟨ts2, ⟨O2, nmR n.ns R⟩, []⟩ ∧
      look 0 ts2 = .ptr p 0 ∧ look 4 ts2 = .ptr O.length 0 ∧ look 5 ts2 = .ptr (O.length + 1) 0 ∧ look 6 ts2 = .ptr (O.length + 2) 0 ∧ look 13 ts2 = .ptr (O.length + 3) 0 ∧
      O2[O.length]? = some (.cells (ndc n)) ∧ O2[O.length + 1]? = some (.cells [v1]) ∧ O2[O.length + 2]? = some (.cells zn6) ∧ O2[O.length + 3]? = some (.cells (nc6 n.op n.so n.nn n.mm (nmV n.ns R) (.slc .full []))) ∧
      Fro p O O2 ∧ Mk O2 p id tq c1 tk ∧ SetR O2 id w ∧ AsV O2 v1 a1 ∧ AsI a1 ∧ (a = none → a1 = none) ∧ c ≤ c1 ∧ c1 ≤ c + (tk.length + 1) := by
    by_cases hno : (n.op == 16 || n.op == 17) = true → v = .nilm
    · obtain ⟨ts2, e2, k0, k4, k5, k6, k13⟩ := evB_no (G := G) (cl := cl) (yl := yl) (N := N) n (R := nmR n.ns R) _ hno g0 g1 h96 l0 l4 l5 l6 l13
      exact ⟨O1, v, a, c, ts2, e2, k0, k4, k5, k6, k13, g0, g1, g2, g3, hF1, hm1, hs1, hA1, hI, fun h => h, Nat.le_refl _, by omega⟩
    · have hb1 : (n.op == 16 || n.op == 17) = true := Classical.byContradiction fun h => hno fun h' => absurd h' h
      have hv1 : v ≠ .nilm := fun h => hno fun _ => h
      have h15 : 15 < n.op := by
        rcases Bool.or_eq_true_iff.1 hb1 with h | h <;> simp at h <;> omega
      obtain ⟨s, ss, hn⟩ := List.exists_cons_of_ne_nil (vd_ns hv (.inr h15))
      cases hA1 with
      | nil => exact absurd rfl hv1
      | map hq =>
        rename_i q m
        rw [hb1] at h96
        obtain ⟨k, k1, k2, O2, ts2, e2, m0, m4, m5, m6, m13, q1, q2, q3, q4, q5⟩ := evB_yes (G := G) (cl := cl) (yl := yl) (N := N) n s ss m (R := nmR n.ns R) hn g0 g1 hq (by omega) hm1 (by omega) (by omega) h96 (h126 _ _ _ _ hq) (fun O' h => h127 O' _ c h (by omega)) l0 l4 l5 l6 l13
        have keep : ∀ i, i < O1.length → i ≠ p → i ≠ O.length + 1 → O2[i]? = O1[i]? := q5
        refine ⟨O2, .map O1.length, some (ptS m s (zz k)), k, ts2, e2, m0, m4, m5, m6, m13, ?_, q2, ?_, ?_, ⟨by omega, fun i hi hp => ?_⟩, q1, ?_, .map q3, ?_, fun h => (by cases h), by omega, by omega⟩
        · rw [keep _ (by omega) (by omega) (by omega)]; exact g0
        · rw [keep _ (by omega) (by omega) (by omega)]; exact g2
        · rw [keep _ (by omega) (by omega) (by omega)]; exact g3
        · rw [keep i (by omega) hp (by omega)]; exact hF1.get i hi hp
        · obtain ⟨sp, hsp⟩ := hs
          have hil := (List.getElem?_eq_some_iff.1 hsp).1
          refine ⟨sp, ?_⟩
          have hne : id ≠ p := fun e => by rw [e, hm.p] at hsp; simp at hsp
          rw [keep id (by omega) hne (by omega), hF1.get id hil hne]; exact hsp
        · exact hI.put (zz_id (by omega))
  obtain ⟨O2, v1, a1, c1, ts2, e2, k0, k4, k5, k6, k13, q0, q1, q2, q3, q4, q5, q6, q7, q8, q9, q10, q11⟩ := mid
  obtain ⟨R1, ts3, e3, m0, m4, m5, m6, m13, n1, n2, n3⟩ := evN71 (G := G) (cl := cl) (yl := yl) (N := N) n a1 (lo := R.length) (R := nmR n.ns R) hb hN q7 q0 q1 q3 (nm_at n.ns R) k0 k4 k5 k6 k13
  refine ⟨O2, R1, v1, nmV n.ns R, a1, c1, ts3, by rw [e1, e2, e3], m0, m4, m5, m6, m13, q0, q1, q2, q3, q4, q5, q6, q7, q8, q9, q10, q11, by rw [n1]; exact n2, ?_⟩
  refine Old.pre (l := R) fun i x hx => ?_
  have hil := (List.getElem?_eq_some_iff.1 hx).1
  obtain ⟨Z, hZ⟩ := nmR_pre n.ns R
  rw [n3 i (by omega), hZ, List.getElem?_append_left hil]
  exact hx
theorem callA71 {args : List AV} {M : Mem} {ts : Slots} {O : List Obj} {R : List Arr} {q6 : Nat} {cs : List AV} (h : evalC G true cl yl N c71.body ⟨frame 0 args, M, []⟩ = some (.ret, ⟨ts, ⟨O, R⟩, []⟩)) (l6 : look 6 ts = .ptr q6 0) (h6 : O[q6]? = some (.cells cs)) (hl : cs.length = 6) : callA G true cl yl N c71 args M = some (.agg cs, ⟨O, R⟩) := by
  unfold callA
  rw [h]
  have : cs.take 6 = cs := List.take_of_length_le (by omega)
  simp -implicitDefEqProofs [leave, takeMarks, l6, c71, h6, hl, this]
theorem nc6_len (op so nn mm : Int) (nv kv : AV) : (nc6 op so nn mm nv kv).length = 6 := rfl
theorem ev71_non (kn : Kn) (w : List Mc) (n : Nd) (a : Option (List (Str × Str))) {p id tq c : Nat} {tk : List Str} {O : List Obj} {R : List Arr} {v : AV} (hv : ndE n = 0) (hop : n.op ≠ 10) (hb : n.ns.length < big) (hN : n.ns.length < N) (hN3 : 3 ≤ N) (hC : Cs71 cl n p id tq tk)
    (hk : ∀ x ∈ n.l, ∀ a', AsI a' → NdOK cl kn w p id tq tk x a') (hm : Mk O p id tq c tk) (hs : SetR O id w) (hA : AsV O v a) (hI : AsI a) (hbud : c + esz kn n * (tk.length + 1) < big) :
    ∃ r v' O' R', callA G true cl yl N c71 [.ptr p 0, av n, v] ⟨O, R⟩ = some (v', ⟨O', R'⟩) ∧ NdQ kn O R p id tq c tk n a r v' O' R' := by
  have es : esz kn n = 1 + eszL kn n.l := by cases n with | mk op ns so nn mm l => simp only [Nd.op] at hop; simp only [esz, if_neg hop, Nd.l]
  have ed : edp kn n = edpL kn n.l + 1 := by cases n with | mk op ns so nn mm l => simp only [Nd.op] at hop; simp only [edp, if_neg hop, Nd.l]
  have hpl := (List.getElem?_eq_some_iff.1 hm.p).1
  have hmul : esz kn n * (tk.length + 1) = (tk.length + 1) + eszL kn n.l * (tk.length + 1) := by rw [es, Nat.add_mul, Nat.one_mul]
  obtain ⟨O2, R1, v1, nv, a1, c1, ts, e1, l0, l4, l5, l6, l13, q0, q1, q2, q3, q4, q5, q6, q7, q8, q9, q10, q11, q12, Z, rfl⟩ := evP71 (G := G) (cl := cl) (yl := yl) (N := N) kn w n a (R := R) hv hop hb hN hC hm hs hA hI (by omega)
  have ids : ∀ x ∈ n.ns.map (rn a1), isId x = true := by
    intro x hx
    obtain ⟨y, hy, rfl⟩ := List.mem_map.1 hx
    exact q8.rn (ns_ids hv y hy)
  have opb : (n.op == 10) = false := by simp [hop]
  have lenO2 : O.length ≤ O2.length := q4.len
  cases n with
  | mk op ns so nn mm l =>
  simp only [Nd.op, Nd.ns, Nd.so, Nd.nn, Nd.mm, Nd.l] at *
  -- the kids, by their number
  have hlen : l = [] ∨ (∃ x, l = [x]) ∨ ∃ x y, l = [x, y] := by
    have hv' := vk_of hv
    cases hv' with
    | cst op h => exact .inl rfl
    | two op x y h hx hy => exact .inl rfl
    | lab x k hx h => exact .inl rfl
    | smd x k m hx h => exact .inl rfl
    | sng x hx => exact .inl rfl
    | cal x xs h hx => exact absurd rfl hop
    | not x ha => exact .inr (.inl ⟨_, rfl⟩)
    | bin op x y h ha hb => exact .inr (.inr ⟨_, _, rfl⟩)
    | qnt op x so y h hx hs ha => exact .inr (.inl ⟨_, rfl⟩)
  rcases hlen with rfl | ⟨x, rfl⟩ | ⟨x, y, rfl⟩
  · obtain ⟨ts', e2, k6⟩ := evD0 (G := G) (cl := cl) (yl := yl) (N := N) (.mk op ns so nn mm []) rfl op so nn mm nv (.slc .full []) (R := R ++ Z) hN3 q0 q3 q2 rfl l4 l6 l13
    have hlt := (List.getElem?_eq_some_iff.1 q2).1
    refine ⟨Nd.mk op (ns.map (rn a1)) so nn mm [], _, _, _, callA71 (e1.trans e2) k6 (List.getElem?_set_self hlt) rfl, ⟨_, rfl⟩, ld_mk0 q12, vd_map hv (by simp) ids rfl (by simp), by simp [ncl, nclL, opb], by rw [es]; simp [sz, szL, eszL], by rw [ed]; simp [dp, dpL, edpL], fun h _ => ?_, ⟨by simpa using lenO2, fun i hi hp => ?_⟩, c1, ⟨?_, ?_⟩, q10, by omega⟩
    · rw [q9 h, rn_none]
    · rw [List.getElem?_set_ne (by omega)]
      exact q4.get i hi hp
    · rw [List.getElem?_set_ne (by omega)]; exact q5.p
    · have htq := (List.getElem?_eq_some_iff.1 hm.tq).1
      rw [List.getElem?_set_ne (by omega)]; exact q5.tq
  · have hE : eszL kn [x] * (tk.length + 1) = esz kn x * (tk.length + 1) := by simp [eszL]
    obtain ⟨r1, vx, O3, R3, kc, kq⟩ := hk x (by simp) a1 q8 (O2 ++ [.cells (ndc x)]) (R ++ Z) c1 v1 (q5.app _) (q6.grow _) (q7.app _) (by omega)
    obtain ⟨⟨Y, rfl⟩, b2, b3, b4, b5, b6, b7, b8, cc, b9, b10, b11⟩ := kq
    obtain ⟨c0, c1', c2, c3, c4, c5, rfl⟩ := Ld_len b2
    have g0 := b8.old (get_old q2 [.cells (ndc x)]) (by omega)
    have g3 := b8.old (get_old q3 [.cells (ndc x)]) (by omega)
    have htq := (List.getElem?_eq_some_iff.1 hm.tq).1
    have len3 : O2.length + 1 ≤ O3.length := by have := b8.len; simpa using this
    have hlt2 : O.length + 2 < O3.length := (List.getElem?_eq_some_iff.1 g0).1
    obtain ⟨ts', e2, k6⟩ := evD1 (G := G) (cl := cl) (yl := yl) (N := N) (.mk op ns so nn mm [x]) x rfl op so nn mm nv (R := R ++ Z) hN3 (by omega) q0 q1 q3 kc g3 g0 rfl l0 l4 l5 l6 l13
    refine ⟨Nd.mk op (ns.map (rn a1)) so nn mm [r1], _, _, _, callA71 (e1.trans e2) k6 (List.getElem?_set_self (by simpa using hlt2)) rfl, ⟨Z ++ Y ++ [wr6 0 [c0, c1', c2, c3, c4, c5], wr6 0 [c0, c1', c2, c3, c4, c5]], by simp⟩, ?_, vd_map hv (by simp) ids rfl (by simpa using b3), by simp [ncl, nclL, opb, b4], by rw [es]; simp [sz, szL, eszL, b5]; omega, by rw [ed]; simp [dp, dpL, edpL, b6], fun h hc => ?_, ⟨by simp; omega, fun i hi hp => ?_⟩, cc, ⟨?_, ?_⟩, by omega, by omega⟩
    · exact ld_mk1 (wr6 0 [c0, c1', c2, c3, c4, c5]) q12 b2
    · simp only [ncl, nclL, Bool.and_eq_true] at hc
      rw [q9 h, rn_none, b7 (q9 h) hc.2.1]
    · rw [List.getElem?_set_ne (by omega), List.getElem?_set_ne (by omega), b8.get i (by simp; omega) hp, List.getElem?_append_left (by omega)]
      exact q4.get i hi hp
    · rw [List.getElem?_set_ne (by omega), List.getElem?_set_ne (by omega)]; exact b9.p
    · rw [List.getElem?_set_ne (by omega), List.getElem?_set_ne (by omega)]; exact b9.tq
  · have hE : eszL kn [x, y] * (tk.length + 1) = esz kn x * (tk.length + 1) + esz kn y * (tk.length + 1) := by simp [eszL, Nat.add_mul]
    obtain ⟨r1, vx, O3, R3, kc, kq⟩ := hk x (by simp) a1 q8 (O2 ++ [.cells (ndc x)]) (R ++ Z) c1 v1 (q5.app _) (q6.grow _) (q7.app _) (by omega)
    obtain ⟨⟨Y, rfl⟩, b2, b3, b4, b5, b6, b7, b8, cc, b9, b10, b11⟩ := kq
    obtain ⟨c0, c1', c2, c3, c4, c5, rfl⟩ := Ld_len b2
    have g0 := b8.old (get_old q2 [.cells (ndc x)]) (by omega)
    have g1 := b8.old (get_old q1 [.cells (ndc x)]) (by omega)
    have g3 := b8.old (get_old q3 [.cells (ndc x)]) (by omega)
    have htq := (List.getElem?_eq_some_iff.1 hm.tq).1
    have len3 : O2.length + 1 ≤ O3.length := by have := b8.len; simpa using this
    have hlt2 : O.length + 2 < O3.length := (List.getElem?_eq_some_iff.1 g0).1
    have hlt3 : O.length + 3 < O3.length := (List.getElem?_eq_some_iff.1 g3).1
    obtain ⟨O3', hO3'⟩ : ∃ O3', O3.set (O.length + 3) (.cells (nc6 op so nn mm nv (.osl ((R ++ Z ++ Y).length + 1) 0 0 1))) = O3' := ⟨_, rfl⟩
    have len3' : O3'.length = O3.length := by rw [← hO3']; simp
    have get3 : ∀ i, i ≠ O.length + 3 → O3'[i]? = O3[i]? := fun i h => by rw [← hO3', List.getElem?_set_ne (by omega)]
    have set3 : O3'[O.length + 3]? = some (.cells (nc6 op so nn mm nv (.osl ((R ++ Z ++ Y).length + 1) 0 0 1))) := by rw [← hO3']; exact List.getElem?_set_self hlt3
    have f3 : Fro p (O2 ++ [.cells (ndc x)]) O3 := b8
    have hm3 : Mk O3' p id tq cc tk := ⟨by rw [get3 p (by omega)]; exact b9.p, by rw [get3 tq (by omega)]; exact b9.tq⟩
    have hs3 : SetR O3' id w := by
      obtain ⟨sp, hsp⟩ := q6.fro ((Fro.app p O2 [.cells (ndc x)]).trans b8) q5.p
      obtain ⟨sp', hsp'⟩ := hs
      have := (List.getElem?_eq_some_iff.1 hsp').1
      exact ⟨sp, by rw [get3 id (by omega)]; exact hsp⟩
    have hA3 : AsV O3' v1 a1 := by
      have h1 := (q7.app [.cells (ndc x)]).fro b8 (get_old q5.p [.cells (ndc x)])
      cases h1 with
      | nil => exact .nil
      | map h =>
        refine .map ?_
        rw [get3 _ (fun e => by rw [e, g3] at h; cases h)]
        exact h
    obtain ⟨r2, vy, O4, R4, kc2, kq2⟩ := hk y (by simp) a1 q8 (O3' ++ [.cells (ndc y)]) (R ++ Z ++ Y ++ [wr6 0 [c0, c1', c2, c3, c4, c5], wr6 0 [c0, c1', c2, c3, c4, c5]]) cc v1 (hm3.app _) (hs3.grow _) (hA3.app _) (by omega)
    obtain ⟨⟨Y2, rfl⟩, d2, d3, d4, d5, d6, d7, d8, cd, d9, d10, d11⟩ := kq2
    obtain ⟨u0, u1, u2, u3, u4, u5, rfl⟩ := Ld_len d2
    have w2 := d8.old (get_old ((get3 _ (by omega)).trans g0) [.cells (ndc y)]) (by omega)
    have w3 := d8.old (get_old set3 [.cells (ndc y)]) (by omega)
    have len4 : O3.length + 1 ≤ O4.length := by have := d8.len; simpa [len3'] using this
    have hrow : (R ++ Z ++ Y ++ [wr6 0 [c0, c1', c2, c3, c4, c5], wr6 0 [c0, c1', c2, c3, c4, c5]] ++ Y2)[(R ++ Z ++ Y).length + 1]? = some (wr6 0 [c0, c1', c2, c3, c4, c5]) := by
      rw [List.append_assoc (R ++ Z ++ Y)]
      exact (get_new _ _ 1).trans rfl
    obtain ⟨ts', e2, k6⟩ := evD2 (G := G) (cl := cl) (yl := yl) (N := N) (.mk op ns so nn mm [x, y]) x y rfl op so nn mm nv (R := R ++ Z) hN3 (by omega) (by omega) q0 q1 q3 kc g3 g1 (by rw [hO3']; exact kc2) w3 hrow w2 rfl l0 l4 l5 l6 l13
    have hset : ((R ++ Z ++ Y ++ [wr6 0 [c0, c1', c2, c3, c4, c5], wr6 0 [c0, c1', c2, c3, c4, c5]] ++ Y2) ++ [wr6 0 [u0, u1, u2, u3, u4, u5]]).set ((R ++ Z ++ Y).length + 1) (wr6 1 [c0, c1', c2, c3, c4, c5, u0, u1, u2, u3, u4, u5]) = R ++ Z ++ Y ++ [wr6 0 [c0, c1', c2, c3, c4, c5], wr6 1 [c0, c1', c2, c3, c4, c5, u0, u1, u2, u3, u4, u5]] ++ Y2 ++ [wr6 0 [u0, u1, u2, u3, u4, u5]] := by
      rw [List.append_assoc (R ++ Z ++ Y), List.append_assoc (R ++ Z ++ Y), set_new]
      simp
    rw [hset] at e2
    have hlt4 : O.length + 2 < O4.length := by omega
    refine ⟨Nd.mk op (ns.map (rn a1)) so nn mm [r1, r2], _, _, _, callA71 (e1.trans e2) k6 (List.getElem?_set_self (by simpa using hlt4)) rfl, ⟨Z ++ Y ++ [wr6 0 [c0, c1', c2, c3, c4, c5], wr6 1 [c0, c1', c2, c3, c4, c5, u0, u1, u2, u3, u4, u5]] ++ Y2 ++ [wr6 0 [u0, u1, u2, u3, u4, u5]], by simp⟩, ?_, vd_map hv (by simp) ids rfl (by simp [b3, d3]), by simp [ncl, nclL, opb, b4, d4], by rw [es]; simp [sz, szL, eszL, b5, d5]; omega, by rw [ed]; simp [dp, dpL, edpL, b6, d6], fun h hc => ?_, ⟨by simp; omega, fun i hi hp => ?_⟩, cd, ⟨?_, ?_⟩, by omega, by omega⟩
    · exact ld_mk2 (wr6 0 [c0, c1', c2, c3, c4, c5]) (wr6 0 [c0, c1', c2, c3, c4, c5]) (wr6 0 [u0, u1, u2, u3, u4, u5]) q12 b2 d2
    · simp only [ncl, nclL, Bool.and_eq_true] at hc
      rw [q9 h, rn_none, b7 (q9 h) hc.2.1, d7 (q9 h) hc.2.2.1]
    · rw [List.getElem?_set_ne (by omega), List.getElem?_set_ne (by omega), d8.get i (by simp; omega) hp, List.getElem?_append_left (by omega), get3 i (by omega), b8.get i (by simp; omega) hp, List.getElem?_append_left (by omega)]
      exact q4.get i hi hp
    · rw [List.getElem?_set_ne (by omega), List.getElem?_set_ne (by omega)]; exact d9.p
    · rw [List.getElem?_set_ne (by omega), List.getElem?_set_ne (by omega)]; exact d9.tq
end
end Go.Proofs.Ae
namespace Go.Proofs.Ae
open Go Go.RowKit
set_option maxRecDepth 100000
def natE (i : Nat) : List AV := [.int .i64 (i : Nat)]
theorem natE_inj (a b : Nat) (h : natE a = natE b) : a = b := by simp [natE] at h; omega
section
variable {t : Nat}
theorem run74 : runTo (both (GG t) TB 100000 false 200).1 74 [.slc .full []] (.tup []) = true := by kernel_rfl
theorem run75 : runTo (both (GG t) TB 100000 false 200).1 75 [.slc .full []] (.slc .full []) = true := by kernel_rfl
theorem orc74 : OrcAt Tryz.prog (GG t) 74 [.slc .full []] (.tup [], none) := fun U bs es w args hG hV hfr => pgood_run (both_ok (T := TB) (N := 100000) hmix kis tabOK oB 200 false).1 (runTo_inv run74) rfl hG hV hfr
theorem orc75 : OrcAt Tryz.prog (GG t) 75 [.slc .full []] (.slc .full [], none) := fun U bs es w args hG hV hfr => pgood_run (both_ok (T := TB) (N := 100000) hmix kis tabOK oB 200 false).1 (runTo_inv run75) rfl hG hV hfr
def nilE (_ : Unit) : List AV := [.slc .full []]
theorem nilE_inj (a b : Unit) (h : nilE a = nilE b) : a = b := rfl
noncomputable abbrev K7a : List (Nat × (List AV → Ores)) := (74, spR nilE (fun _ => (.tup [], none)) (fun _ => True)) :: (75, spR nilE (fun _ => (.slc .full [], none)) (fun _ => True)) :: (47, spR (fun k : Int => [.int .i64 k]) (fun k => (.str (snm k), none)) (fun _ => True)) :: (179, spR natE (fun i => (.str (Lib.decDigits i), none)) (fun i => i < big)) :: Q3
theorem kk7 : OrcOK Tryz.prog (GG t) (orcOf K7a) := by
  refine orc_cons (orc_cons ?_ fun ags r hr => ?_) fun ags r hr => ?_
  rotate_left
  · obtain ⟨i, rfl, hi, rfl⟩ := spR_inv hr
    exact orc75
  · obtain ⟨i, rfl, hi, rfl⟩ := spR_inv hr
    exact orc74
  refine orc_con _ _ _ ok47 (fun k _ => ⟨1, ev47 k⟩) ?_
  refine orc_cons kq3 fun ags r hr => ?_
  obtain ⟨i, rfl, hi, rfl⟩ := spR_inv hr
  exact orc179 i hi
theorem ev27 {G : Nat → Option AV} {cl : Caller} {yl : Nat → List AV → Mem → Option (AV × Mem)} {N : Nat} (q : Qn) (h76 : ∀ M, cl 76 [.slc .shared (q.fr.map vrv), .slc .shared (q.fr.map vrv)] M = some (.bool true, M)) (h77 : ∀ M, cl 77 [av q.bd, av q.bd] M = some (.bool true, M)) :
    pureA G false cl yl N c27 [qsv q, qsv q] = some (.bool true, none) := by
  simp -implicitDefEqProofs [c27, h76, h77]
noncomputable abbrev K8 : List (Nat × (List AV → Ores)) := (27, spR eQ2 (fun _ => (.bool true, none)) OkQ) :: (66, spR eQ (fun q => (.int .i64 (cqE q), none)) OkQ) :: K7a
theorem kk8 : OrcOK Tryz.prog (GG t) (orcOf K8) := by
  refine orc_con _ _ _ ok27 (fun q h => ⟨1, ev27 q (fun M => ?_) fun M => ?_⟩) (orc_con _ _ _ ok66 (fun q h => ⟨q.fr.length + 1, ?_⟩) kk7)
  · exact spC_v eVV_inj q.fr (by repeat first | exact .here | refine .there ?_ rfl) (by exact h.fr) (by exact rfl) (by rfl) M
  · exact spC_v av2_inj (q.bd, q.bd) (by repeat first | exact .here | refine .there ?_ rfl) (by exact h.bd) (by exact a2 _ _) (by
      have : sameN q.bd q.bd = true := (sameN_iff _ _).2 rfl
      simp only [this]) M
  refine ev66 q h.fr (Nat.lt_succ_self _) (fun v hv M => ?_) (fun k M => ?_) (fun M => ?_)
  · exact spC_v str1_inj v.nm (by repeat first | exact .here | refine .there ?_ rfl) (by exact trivial) (by rfl) (by rfl) M
  · exact spC_v int_inj k (by repeat first | exact .here | refine .there ?_ rfl) (by exact trivial) (by rfl) (by rfl) M
  · exact spC_v av1_inj q.bd (by repeat first | exact .here | refine .there ?_ rfl) (by exact h.bd) (by exact a1 _) (by rfl) M
end
section
variable {t : Nat} {N : Nat}
noncomputable abbrev BC (t N k : Nat) : Caller := BW (GG t) (orcOf K8) N k
noncomputable abbrev YC (t N k : Nat) := YW (GG t) (orcOf K8) N k
noncomputable abbrev BX (t N k : Nat) : Caller := (both (GG t) (TW (orcOf K8)) N true k).1
noncomputable abbrev YX (t N k : Nat) := (both (GG t) (TW (orcOf K8)) N true k).2
theorem bx_sp {k f : Nat} {ags : List AV} {r : AV × Option Arr} (h : orcW (orcOf K8) f ags = some r) (M : Mem) : BX t N (k + 1) f ags M = takeV true r M := by
  unfold BX
  rw [both]
  have : (TW (orcOf K8)).orc f ags = some r := h
  simp only [this]
theorem bx_in {k f : Nat} {ags : List AV} {cf : CFn} (h1 : orcW (orcOf K8) f ags = none) (hf : fns f = some cf) (hp : (cf.pure && !mutv f && (argL ags).isSome) = false) (M : Mem) :
    BX t N (k + 1) f ags M = callA (GG t) true (BX t N k) (YX t N k) N cf ags M := by
  have e1 : (TW (orcOf K8)).orc f ags = none := h1
  have e2 : (TW (orcOf K8)).fns f = some cf := hf
  have e3 : (TW (orcOf K8)).mutf f = mutv f := rfl
  unfold BX YX
  rw [both]
  simp only [e1, e2, e3, Bool.true_and, hp, Bool.not_true, Bool.false_and]
  rfl
theorem bc_seal {k : Nat} {ags : List AV} (M : Mem) : BC t N (k + 1) 71 ags M = sealed (callA (GG t) true (BX t N k) (YX t N k) N c71 ags M) := by
  have h1 : orcW (orcOf K8) 71 ags = none := by unfold orcW; split <;> rfl
  have e1 : (TW (orcOf K8)).orc 71 ags = none := h1
  have e2 : (TW (orcOf K8)).fns 71 = some c71 := rfl
  have e3 : (TW (orcOf K8)).mutf 71 = true := rfl
  unfold BC BX YX
  rw [BW, both]
  simp only [e1, e2, e3]
  rfl
theorem x45 {k : Nat} {O : List Obj} {R : List Arr} {p : Nat} {x : Str} (hp : O[p]? = some (.cells [.str x])) (m : Mc) (X : List Obj) :
    BX t N (k + 1) 45 [mcv m, .ptr p 0] ⟨O ++ X, R⟩ = some (.bool (m.nm == x), ⟨O ++ X ++ [.cells (mcc m)], R⟩) := by
  rw [bx_in (cf := c45) (by unfold orcW; split <;> rfl) rfl (by rfl)]
  exact ev45m m (get_old hp X)
theorem takeV_mct (m : Mc) (M : Mem) : takeV true (mcv m, none) M = some (mcv m, M) := rfl
theorem x15 {k : Nat} {O : List Obj} {R : List Arr} {id : Nat} {w : List Mc} (hs : SetR O id w) (hb : w.length < big) (hN : w.length < N) (hm : ∀ d ∈ w, OkM d) (x : Str) :
    Gr (BX t N (k + 3) 15 [.ptr id 0, .str x] ⟨O, R⟩) (lup w x) O R := by
  rw [bx_in (cf := c15) (by unfold orcW; split <;> rfl) rfl (by rfl)]
  refine ev15t w x hs (fun sp X p hp => ?_) (fun d hd M => ?_)
  · rw [bx_in (cf := c44) (by unfold orcW; split <;> rfl) rfl (by rw [argL_fnp]; rfl)]
    exact ev44m w sp x hp hb hN fun m Y => x45 hp m Y
  · exact (bx_sp (orcW_v eM_inj d (by repeat first | exact .here | refine .there ?_ rfl) (by exact hm d hd) (by exact aM d)) M).trans (takeV_mct d M)
theorem x124 {k : Nat} (a : Option (List (Str × Str))) (s : Str) {O : List Obj} {R : List Arr} {q : Nat} {v : AV} (hq : O[q]? = some (.cells [v])) (h : AsV O v a) : BX t N (k + 1) 124 [.str s, .ptr q 0] ⟨O, R⟩ = some (.str (rn a s), ⟨O, R⟩) := by
  rw [bx_in (cf := c124) (by unfold orcW; split <;> rfl) rfl (by rfl)]
  exact ev124 a s hq h
theorem flat_str8 : ∀ l : List Str, flat (l.map AV.str) = some (l.map .str)
  | [] => rfl
  | x :: l => by simp [flat, flat_str8 l]
theorem plain_str8 : ∀ l : List Str, plainL (l.map AV.str) = true
  | [] => rfl
  | x :: l => by simp [plainL, plain_str8 l]
theorem x71c {k : Nat} (n : Nd) (hv : ndE n = 0) (p id tq : Nat) (tk : List Str) (hT : tk.length + 1 < N) : Cs71 (BX t N (k + 2)) n p id tq tk where
  h96 := fun M => (bx_sp (orcW_v av1_inj n (by repeat first | exact .here | refine .there ?_ rfl) (by exact trivial) (by exact a1 n)) M).trans rfl
  h125 := fun O R => by
    have h125 : Has K8 125 (cloneA 9 1) := (by repeat first | exact .here | refine .there ?_ rfl)
    have hl := ns_le hv
    cases hn : n.ns with
    | nil =>
      have e : orcW (orcOf K8) 125 [.slc .shared []] = some (.slc .full [], none) := by
        unfold orcW
        have : argL [.slc .shared []] = some [.slc .shared []] := rfl
        simp only [this, h125.eq]
        rfl
      exact (bx_sp e _).trans rfl
    | cons s ss =>
      rw [hn] at hl
      have b1 : (ss.length + 1) * 4096 ≤ 140737488355328 := by simp at hl; omega
      have e : orcW (orcOf K8) 125 [.slc .shared ((s :: ss).map .str)] = some (.slc .shared ((s :: ss).map .str), some (.app (ss.length + 1) 9 1)) := by
        unfold orcW
        have : argL [.slc .shared ((s :: ss).map .str)] = some [.slc .shared ((s :: ss).map .str)] := rfl
        simp only [this, h125.eq]
        simp [cloneA, b1]
      rw [bx_sp e]
      have hf := flat_str8 (s :: ss)
      have hp := plain_str8 (s :: ss)
      have hz : szOk 1 ((s :: ss).map AV.str) = true := rfl
      simp only [takeV, hf, hp, hz, Bool.true_and]
      simp [nmV, nmR]
  h126 := fun O R q m hq => by
    rw [bx_in (cf := c126) (by unfold orcW; split <;> rfl) rfl (by rfl)]
    exact ev126 m hq
  h127 := fun O R c hm hb => by
    have h := ev127 (G := GG t) (cl := BX t N (k + 1)) (yl := YX t N (k + 1)) (N := N) tk (R := R) hm hb hT (fun i hi M => (bx_sp (orcW_v natE_inj i (by repeat first | exact .here | refine .there ?_ rfl) (by exact hi) (by rfl)) M).trans rfl)
    obtain ⟨j, h1, h2, h3⟩ := h
    refine ⟨j, h1, h2, ?_⟩
    rw [bx_in (cf := c127) (by unfold orcW; split <;> rfl) rfl (by rfl)]
    exact h3
theorem x71 {w : List Mc} (hw : Wf w) (hb : w.length < big) (hN : w.length < N) (hN20 : 20 < N) (hm : ∀ d ∈ w, OkM d) (p id tq : Nat) (tk : List Str) (hT : tk.length + 1 < N) :
    ∀ (k : Nat) (u v : List Mc) (n : Nd) (a : Option (List (Str × Str))), w = u ++ v → cok u n → ndE n = 0 → AsI a → edp (knw w) n + u.length + 8 ≤ k → NdOK (BX t N k) (knw w) w p id tq tk n a := by
  intro k
  induction k with
  | zero => intro u v n a _ _ _ _ h; omega
  | succ k ih =>
    intro u v n a huv hc hv hI hk O R c val hM hs hA hbud
    have hcl : BX t N (k + 1) 71 [.ptr p 0, av n, val] ⟨O, R⟩ = callA (GG t) true (BX t N k) (YX t N k) N c71 [.ptr p 0, av n, val] ⟨O, R⟩ := bx_in (cf := c71) (by unfold orcW; split <;> rfl) rfl (by rfl) _
    rw [hcl]
    have hnl := ns_le hv
    by_cases h10 : n.op = 10
    · obtain ⟨s, xs, d, hn, hf, hlen⟩ : ∃ s xs d, n.ns = s :: xs ∧ fnd u s = some d ∧ xs.length = d.ps.length := by
        cases n with
        | mk op ns so nn mm l => simp only [cok] at hc; exact hc.1 h10
      obtain ⟨u1, u2, hu, hds⟩ := fnd_split hf
      have hfw : fnd w s = some d := by rw [huv]; exact fnd_app hf v
      have hwd : w = u1 ++ d :: (u2 ++ v) := by rw [huv, hu]; simp
      have hat : knf (knw w) s = (esz (knw w) d.bd, edp (knw w) d.bd) := by
        have := knw_at (u := u1) (d := d) (v := u2 ++ v) (by rw [← hwd]; exact hw)
        rw [← hwd, hds] at this
        exact this
      have md := may_md (hw u1 d (u2 ++ v) hwd)
      have es : esz (knw w) n = esz (knw w) d.bd := by cases n with | mk op ns so nn mm l => simp only [Nd.op, Nd.ns] at h10 hn; simp only [esz, h10, if_true, hn, hdS, hat]
      have ed : edp (knw w) n = edp (knw w) d.bd := by cases n with | mk op ns so nn mm l => simp only [Nd.op, Nd.ns] at h10 hn; simp only [edp, h10, if_true, hn, hdS, hat]
      have hlu : lup w s = .tup [mcv d, .bool true] := by unfold lup; rw [hfw]
      have hul : u.length = u1.length + 1 + u2.length := by rw [hu]; simp; omega
      have ids : ∀ x ∈ xs, isId x = true := fun x hx => ns_ids hv x (by rw [hn]; simp [hx])
      obtain ⟨j, rfl⟩ : ∃ j, k = j + 3 := ⟨k - 3, by omega⟩
      have hxl : xs.length < 20 := by rw [hn] at hnl; simp at hnl; omega
      obtain ⟨c0, c1, c2, c3, c4, c5, O1, R1, e1, hF, r, hq⟩ := ev71_cal (G := GG t) (cl := BX t N (j + 3)) (yl := YX t N (j + 3)) (N := N) n s xs d a (O := O) (R := R)
        (Q := fun _ val O1 R1 => ∃ r, (∃ Y, R1 = R ++ Y) ∧ Ld R1 r R.length R1.length val ∧ ndE r = 0 ∧ ncl r = true ∧ sz r = esz (knw w) d.bd ∧ dp r = edp (knw w) d.bd ∧ ∃ c', Mk O1 p id tq c' tk ∧ c ≤ c' ∧ c' ≤ c + esz (knw w) d.bd * (tk.length + 1))
        h10 hn hlen (by unfold big; omega) (by omega) hA hM (fun X => by
          have := x15 (t := t) (N := N) (k := j) (R := R) (hs.grow X) hb hN hm s
          rwa [hlu] at this)
        (fun q5 O' x h1 h2 => x124 (k := j + 2) a x h1 h2)
        (fun X qi hqi => by
          have hI' : AsI (some (inA a d.ps xs xs.length)) := hI.inA d.ps xs ids xs.length
          obtain ⟨r, v', O', R', h1, h2⟩ := ih u1 (d :: (u2 ++ v)) d.bd (some (inA a d.ps xs xs.length)) hwd md.cok md.vd hI' (by omega) (O ++ X) R c (.map qi) (hM.app X) (hs.grow X) (.map hqi) (by rw [← es]; exact hbud)
          obtain ⟨c0, c1, c2, c3, c4, c5, rfl⟩ := Ld_len h2.ld
          exact ⟨c0, c1, c2, c3, c4, c5, O', R', h1, h2.fro, r, h2.row, h2.ld, h2.vd, h2.nc, h2.sz, h2.dp, h2.mkr⟩)
      obtain ⟨q1, q2, q3, q4, q5, q6, c', q7, q8, q9⟩ := hq
      have hpl := (List.getElem?_eq_some_iff.1 hM.p).1
      have htl := (List.getElem?_eq_some_iff.1 hM.tq).1
      refine ⟨r, _, _, _, e1, q1, q2, q3, q4, by rw [es]; exact q5, by rw [ed]; exact q6, fun _ hnc => ?_, ⟨by simpa using hF.len, fun i hi hp => ?_⟩, c', ⟨?_, ?_⟩, q8, by rw [es]; exact q9⟩
      · cases n with
        | mk op ns so nn mm l =>
          simp only [Nd.op] at h10
          subst h10
          simp [ncl] at hnc
      · rw [List.getElem?_set_ne (by omega)]; exact hF.get i hi hp
      · rw [List.getElem?_set_ne (by omega)]; exact q7.p
      · rw [List.getElem?_set_ne (by omega)]; exact q7.tq
    · obtain ⟨j, rfl⟩ : ∃ j, k = j + 2 := ⟨k - 2, by omega⟩
      refine ev71_non (G := GG t) (cl := BX t N (j + 2)) (yl := YX t N (j + 2)) (N := N) (knw w) w n a hv h10 (by unfold big; omega) (by omega) (by omega) (x71c (k := j) n hv p id tq tk hT) (fun x hx a' ha' => ?_) hM hs hA hI hbud
      refine ih u v x a' huv ?_ (ndE_kid hv hx) ha' ?_
      · cases n with
        | mk op ns so nn mm l =>
          simp only [cok] at hc
          have : ∀ l : List Nd, cokL u l → x ∈ l → cok u x := by
            intro l
            induction l with
            | nil => intro _ h; simp at h
            | cons y ys ih2 =>
              intro h hx
              simp only [cokL] at h
              rcases List.mem_cons.1 hx with rfl | hx
              · exact h.1
              · exact ih2 h.2 hx
          exact this l hc.2 hx
      · have : edp (knw w) x + 1 ≤ edp (knw w) n := by
          cases n with
          | mk op ns so nn mm l =>
            simp only [Nd.op] at h10
            simp only [edp, if_neg h10]
            have : ∀ l : List Nd, x ∈ l → edp (knw w) x ≤ edpL (knw w) l := by
              intro l
              induction l with
              | nil => intro h; simp at h
              | cons y ys ih2 =>
                intro hx
                simp only [edpL]
                rcases List.mem_cons.1 hx with rfl | hx
                · omega
                · have := ih2 hx; omega
            have := this l hx
            omega
        omega
end
end Go.Proofs.Ae
namespace Go.Proofs.Ae
open Go Go.RowKit
section
variable {t : Nat} {N : Nat}
theorem p97e {k : Nat} {O : List Obj} {R : List Arr} {c : AV} (v : Vr) (hc : cells c = some [c]) :
    BC t N (k + 1) 97 [c, vrv v] ⟨O, R⟩ = some (.fn 158 [] [.ptr (O.length + 1) 0, .ptr O.length 0], ⟨O ++ [.cells [c], .cells (vrc v)], R⟩) := by
  rw [BC, bw_in (cf := c97) (by unfold orcW; split <;> rfl) rfl rfl rfl]
  exact ev97 hc
theorem look_oke {O : List Obj} {c : AV} {env : List Vr} (h : Sc O c env) : ∀ k, env.length < k → LookOK (BC t N k) O c env := by
  induction h with
  | nil =>
    intro k hk
    obtain ⟨k, rfl⟩ := Nat.exists_eq_succ_of_ne_zero (n := k) (by omega)
    refine ⟨98, [], rfl, fun x X R => ?_⟩
    refine bw_sp (spC_v str1_inj x (by repeat first | exact .here | refine .there ?_ rfl) (by exact trivial) (by rfl) ?_ _)
    rfl
  | snoc h hi hj ih =>
    rename_i c env v i j
    intro k hk
    obtain ⟨k, rfl⟩ := Nat.exists_eq_succ_of_ne_zero (n := k) (by omega)
    refine ⟨158, _, rfl, fun x X R => ?_⟩
    rw [BC, bw_in (cf := c158) (by unfold orcW; split <;> rfl) rfl rfl rfl]
    rw [lkv_snoc]
    cases hv : v.nm == x with
    | true =>
      rw [if_pos rfl]
      exact ev158a (c := c) x (get_old hi X) hv
    | false =>
      rw [if_neg (by simp)]
      obtain ⟨f, cap, rfl, hl⟩ := ih k (by simp at hk; omega)
      exact ev158b x (get_old hi X) (get_old hj X) hv (hl x X R)
theorem p45e {k : Nat} {O : List Obj} {R : List Arr} {p : Nat} {x : Str} (hp : O[p]? = some (.cells [.str x])) (m : Mc) (X : List Obj) :
    BC t N (k + 1) 45 [mcv m, .ptr p 0] ⟨O ++ X, R⟩ = some (.bool (m.nm == x), ⟨O ++ X ++ [.cells (mcc m)], R⟩) := by
  rw [BC, bw_in (cf := c45) (by unfold orcW; split <;> rfl) rfl rfl (by rfl)]
  exact ev45 m (get_old hp X)
theorem p15e {k : Nat} {O : List Obj} {R : List Arr} {id : Nat} {w : List Mc} (hs : SetR O id w) (hb : w.length < big) (hN : w.length < N) (hm : ∀ d ∈ w, OkM d) (x : Str) :
    Gr (BC t N (k + 3) 15 [.ptr id 0, .str x] ⟨O, R⟩) (lup w x) O R := by
  rw [BC, bw_in (cf := c15) (by unfold orcW; split <;> rfl) rfl rfl rfl]
  refine ev15R w x hs (fun sp X p hp => ?_) (fun d hd M => ?_)
  · rw [bw_in (cf := c44) (by unfold orcW; split <;> rfl) rfl rfl (by rw [argL_fnp]; rfl)]
    exact ev44 w sp x hp hb hN fun m Y => p45e hp m Y
  · exact bw_sp (spC_v eM_inj d (by repeat first | exact .here | refine .there ?_ rfl) (by exact hm d hd) (by exact aM d) (by rfl) M)
theorem p95e {k : Nat} {O : List Obj} {R : List Arr} {id : Nat} {w : List Mc} (hs : SetR O id w) (hb : w.length < big) (hN : w.length < N) (hm : ∀ d ∈ w, OkM d) (n : Nd) (env : List Vr) {c : AV} (hc : Sc O c env) (he : ∀ v ∈ env, 0 ≤ v.so) (hk : env.length < k + 3) (hne : n.ns ≠ []) (hnb : n.ns.length < big) (hnN : n.ns.length < N) :
    Gr (BC t N (k + 4) 95 [.ptr id 0, av n, c] ⟨O, R⟩) (.int .i64 (callE w n.ns env)) O R := by
  obtain ⟨f, cap, rfl⟩ := hc.fn
  rw [BC, bw_in (cf := c95) (by unfold orcW; split <;> rfl) rfl rfl rfl]
  exact ev95 w n env he hne hnb hnN (fun x _ X => p15e (hs.grow X) hb hN hm x) (look_oke hc _ hk)
theorem p39e {w : List Mc} (hb : w.length < big) (hN : w.length < N) (hm : ∀ d ∈ w, OkM d) (all : Bool) : ∀ (sn : Nat) (n : Nd), sz n ≤ sn → ndE n = 0 → bk n ≤ big → bk n < N → ∀ (env : List Vr), (∀ v ∈ env, 0 ≤ v.so) →
    ∀ (k : Nat) (O : List Obj) (R : List Arr) (id : Nat) (c : AV), SetR O id w → Sc O c env → env.length + 2 * dp n + 4 < k →
      Gr (BC t N k 39 [.ptr id 0, av n, c, .bool all] ⟨O, R⟩) (.int .i64 (wlk w all n env)) O R := by
  intro sn
  induction sn with
  | zero => intro n h; have := sz_eq n; omega
  | succ sn ih =>
    intro n hsn hv hbn hbN env he k O R id c hs hc hk
    obtain ⟨k, rfl⟩ := Nat.exists_eq_succ_of_ne_zero (n := k) (by omega)
    have hnl := names_bk n
    have hll := len_bk n
    have hd1 : 1 ≤ dp n := by have := dp_eq n; omega
    obtain ⟨f, cap, rfl⟩ := hc.fn
    rw [BC, bw_in (cf := c39) (by unfold orcW; split <;> rfl) rfl rfl rfl]
    have hin := inn_len n env
    refine ev39 w all n env he (by omega) (by omega) (by omega) (by omega) ⟨fun h => vd_ns hv (.inr h), vd_cal hv, (vd_iff.1 hv).op1, hc, fun X => (look_oke hc k (by omega)).grow X, ?_, ?_, ?_, ?_⟩
    · intro x hx X c' hc'
      have hd := dp_child hx
      have := bk_child hx
      have := sz_child hx
      exact ih x (by omega) (ndE_kid hv hx) (by omega) (by omega) _ (inn_so hv he) k _ R id c' (hs.grow X) hc' (by omega)
    · intro h10 X
      obtain ⟨j, rfl⟩ : ∃ j, k = j + 4 := ⟨k - 4, by omega⟩
      exact p95e (hs.grow X) hb hN hm n env (hc.grow X) he (by omega) (vd_ns hv (.inl h10)) (by omega) (by omega)
    · intro M
      obtain ⟨j, rfl⟩ : ∃ j, k = j + 1 := ⟨k - 1, by omega⟩
      exact bw_sp (spC_v av1_inj n (by repeat first | exact .here | refine .there ?_ rfl) (by exact trivial) (by exact a1 n) (by rfl) M)
    · intro v X
      obtain ⟨j, rfl⟩ : ∃ j, k = j + 1 := ⟨k - 1, by omega⟩
      exact p97e v rfl
end
theorem deepL_nc6 {M : Mem} {f : Nat} {op so nn mm : Int} {nv kv nv' kv' : AV} {rest r : List AV} (h1 : deep M (f + 5) nv = some nv') (h2 : deep M (f + 1) kv = some kv') (hr : deepL M (f + 1) rest = some r) :
    deepL M (f + 7) (.int .i64 op :: nv :: .int .i64 so :: .int .i64 nn :: .int .i64 mm :: kv :: rest) = some (.int .i64 op :: nv' :: .int .i64 so :: .int .i64 nn :: .int .i64 mm :: kv' :: r) := by
  simp only [deepL, deep_int, h1, h2, hr]
theorem deepL_strs {M : Mem} : ∀ (l : List Str) (f : Nat), l.length < f → deepL M f (l.map .str) = some (l.map .str)
  | [], f, h => by
    obtain ⟨f, rfl⟩ : ∃ g, f = g + 1 := ⟨f - 1, by simp at h; omega⟩
    simp only [List.map_nil, deepL]
  | x :: xs, f, h => by
    simp only [List.length_cons] at h
    obtain ⟨f, rfl⟩ : ∃ g, f = g + 2 := ⟨f - 2, by omega⟩
    have ih := deepL_strs (M := M) xs (f + 1) (by omega)
    simp only [List.map_cons, deepL, deep_str, ih]
theorem chunk_strs : ∀ (l : List Str), chunk 1 .sc l.length (l.map .str) = some (l.map .str)
  | [] => rfl
  | x :: xs => by
    have ih := chunk_strs xs
    simp [chunk, unit, ih]
theorem deep_nm {M : Mem} {A : List Arr} {ns : List Str} {lo m : Nat} {nv : AV} (hA : M.arrs = A) (h : NmAt A ns lo m nv) (hl : ns.length ≤ 17) (f : Nat) : deep M (f + 20) nv = some (.slc .shared (ns.map .str)) := by
  rcases h with ⟨rfl, rfl, _⟩ | ⟨h1, h2, rfl, h4⟩
  · rfl
  · have hr : rowOf M lo 0 = some (9, .sc, ns.map .str) := rowOf_eq (by rw [hA]; exact h4)
    have e1 := deepL_strs (M := M) ns (f + 19) (by omega)
    have e2 := chunk_strs ns
    simp only [deep, hr, Lay.sz, Nat.zero_add, Nat.mul_one, List.length_map, Nat.le_refl, if_true, Nat.zero_mul, List.drop_zero]
    rw [List.take_of_length_le (by simp), e1]
    simp only [e2]
theorem chunk_1 (a : Nd) : chunk 6 (.ag 6) 1 (ndc a) = some [av a] := by cases a; rfl
theorem chunk_2 (a b : Nd) : chunk 6 (.ag 6) 2 (ndc a ++ ndc b) = some [av a, av b] := by cases a; cases b; rfl
def Dp (M : Mem) (A : List Arr) (n : Nd) : Prop := ∀ (lo hi : Nat) (v : AV) (f : Nat) (rest r : List AV), Ld A n lo hi v → 13 * dp n + 3 ≤ f → deepL M (f + 1) rest = some r → deepL M (f + 7) (celL v ++ rest) = some (ndc n ++ r)
theorem deep_leaf {M : Mem} {A : List Arr} (hA : M.arrs = A) (op so nn mm : Int) (ns : List Str) (hl : ns.length ≤ 17) : Dp M A (.mk op ns so nn mm []) := by
  intro lo hi v f rest r h hf hr
  simp only [Ld] at h
  obtain ⟨nv, kv, md, b, vs, rfl, hnm, hmh, hkv, hL⟩ := h
  have hk : kv = .slc .full [] := by
    rcases hkv with ⟨_, h⟩ | ⟨k, h, _⟩
    · exact h
    · simp at h
  subst hk
  have hd : dp (.mk op ns so nn mm []) = 1 := rfl
  rw [hd] at hf
  obtain ⟨g, rfl⟩ : ∃ g, f = g + 15 := ⟨f - 15, by omega⟩
  exact deepL_nc6 (f := g + 15) (deep_nm hA hnm hl g) rfl hr
theorem deep_one {M : Mem} {A : List Arr} (hA : M.arrs = A) (op so nn mm : Int) (ns : List Str) (a : Nd) (hl : ns.length ≤ 17) (ih : Dp M A a) : Dp M A (.mk op ns so nn mm [a]) := by
  intro lo hi v f rest r h hf hr
  simp only [Ld, LdL] at h
  obtain ⟨nv, kv, md, b, vs, rfl, hnm, hmh, hkv, va, vs', l1, h1, rfl, a1, a2, a3, a4, a5, rfl⟩ := h
  rcases hkv with ⟨h0, _⟩ | ⟨k, h0, rfl, h2, h3, h4⟩
  · simp at h0
  · simp at h0
    subst h0
    have hd : dp (.mk op ns so nn mm [a]) = dp a + 1 := by simp [dp, dpL]
    rw [hd] at hf
    obtain ⟨g, rfl⟩ : ∃ g, f = g + 15 := ⟨f - 15, by omega⟩
    have hrow : rowOf M b 0 = some (40, .ag 6, flC [va]) := rowOf_eq (by rw [hA]; exact h2)
    have hfl : flC [va] = celL va := by simp [flC]
    obtain ⟨c0, c1, c2, c3, c4, c5, rfl⟩ := Ld_len a5
    have key := ih l1 h1 _ (g + 8) [] [] a5 (by omega) rfl
    rw [List.append_nil, List.append_nil] at key
    have hk : deep M (g + 16) (.osl b 0 0 1) = some (.slc .shared (avL [a])) := by
      simp only [deep, hrow, hfl, Lay.sz]
      simp only [celL] at key ⊢
      simp only [List.length_cons, List.length_nil, Nat.zero_add, Nat.zero_mul, Nat.one_mul, List.drop_zero, Nat.le_refl, if_true, List.take_succ_cons, List.take_zero, List.take_nil]
      rw [key]
      simp only [chunk_1]
      rfl
    exact deepL_nc6 (f := g + 15) (deep_nm hA hnm hl g) hk hr
theorem deep_two {M : Mem} {A : List Arr} (hA : M.arrs = A) (op so nn mm : Int) (ns : List Str) (a c : Nd) (hl : ns.length ≤ 17) (ih : Dp M A a) (ih2 : Dp M A c) : Dp M A (.mk op ns so nn mm [a, c]) := by
  intro lo hi v f rest r h hf hr
  simp only [Ld, LdL] at h
  obtain ⟨nv, kv, md, b, vs, rfl, hnm, hmh, hkv, va, vs', l1, h1, rfl, a1, a2, a3, a4, a5, vb, vs2, l2, h22, rfl, b1, b2, b3, b4, b5, rfl⟩ := h
  rcases hkv with ⟨h0, _⟩ | ⟨k, h0, rfl, h2, h3, h4⟩
  · simp at h0
  · simp at h0
    subst h0
    have hd : dp (.mk op ns so nn mm [a, c]) = max (dp a) (dp c) + 1 := by simp [dp, dpL]
    rw [hd] at hf
    obtain ⟨g, rfl⟩ : ∃ g, f = g + 15 := ⟨f - 15, by omega⟩
    have hrow : rowOf M b 1 = some (40, .ag 6, flC [va, vb]) := rowOf_eq (by rw [hA]; exact h2)
    have hfl : flC [va, vb] = celL va ++ celL vb := by simp [flC]
    obtain ⟨c0, c1, c2, c3, c4, c5, rfl⟩ := Ld_len a5
    obtain ⟨d0, d1, d2, d3, d4, d5, rfl⟩ := Ld_len b5
    have k2 := ih2 l2 h22 _ (g + 2) [] [] b5 (by omega) rfl
    rw [List.append_nil, List.append_nil] at k2
    have key := ih l1 h1 _ (g + 8) _ _ a5 (by omega) k2
    have hk : deep M (g + 16) (.osl b 1 0 2) = some (.slc .shared (avL [a, c])) := by
      simp only [deep, hrow, hfl, Lay.sz]
      simp only [celL, List.cons_append, List.nil_append] at key ⊢
      simp only [List.length_cons, List.length_nil, Nat.zero_add, Nat.zero_mul, Nat.reduceAdd, Nat.reduceMul, List.drop_zero, Nat.le_refl, if_true, List.take_succ_cons, List.take_zero, List.take_nil]
      rw [key]
      simp only [chunk_2]
      rfl
    exact deepL_nc6 (f := g + 15) (deep_nm hA hnm hl g) hk hr
theorem deep_all {M : Mem} {A : List Arr} (hA : M.arrs = A) : ∀ (s : Nat) (n : Nd), sz n ≤ s → ndE n = 0 → Dp M A n
  | 0, n, hs, _ => by have := sz_eq n; omega
  | s + 1, n, hs, hv => by
    have hn := ns_le hv
    cases vk_of hv with
    | cst op h => exact deep_leaf hA op 0 0 0 [] hn
    | two op x y h hx hy => exact deep_leaf hA op 0 0 0 [x, y] hn
    | lab x q hx h => exact deep_leaf hA 7 0 q 0 [x] hn
    | smd x q m hx h => exact deep_leaf hA 8 0 q m [x] hn
    | sng x hx => exact deep_leaf hA 9 0 0 0 [x] hn
    | cal x xs h hx => exact deep_leaf hA 10 0 0 0 (x :: xs) hn
    | not a ha =>
      have hz : sz (nd 11 [a]) = sz a + 1 := by simp [nd, sz, szL]
      exact deep_one hA 11 0 0 0 [] a hn (deep_all hA s a (by omega) ha)
    | bin op a b h ha hb =>
      have hz : sz (nd op [a, b]) = sz a + sz b + 1 := by simp [nd, sz, szL]
      have p1 := sz_eq a
      have p2 := sz_eq b
      exact deep_two hA op 0 0 0 [] a b hn (deep_all hA s a (by omega) ha) (deep_all hA s b (by omega) hb)
    | qnt op x so a h hx hso ha =>
      have hz : sz (qn op x so a) = sz a + 1 := by simp [qn, sz, szL]
      exact deep_one hA op so 0 0 [x] a hn (deep_all hA s a (by omega) ha)
theorem deep_ld {O : List Obj} {R : List Arr} {n : Nd} {lo hi : Nat} {v : AV} (h : Ld R n lo hi v) (hv : ndE n = 0) (hd : dp n ≤ 256) : deep ⟨O, R⟩ 4000 v = some (av n) := by
  obtain ⟨c0, c1, c2, c3, c4, c5, rfl⟩ := Ld_len h
  have := deep_all (M := ⟨O, R⟩) rfl (sz n) n (Nat.le_refl _) hv lo hi _ 3992 [] [] h (by omega) rfl
  rw [List.append_nil, List.append_nil] at this
  rw [deep]
  simp only [celL] at this
  rw [this]
  rw [av_ndc]
def c24i0 : CCode := (.reg [⟨some 3, (.box (.tmp 1)), none⟩, ⟨some 4, (.alloc [(.slc .full []), (.int .i64 0), (.slc .full []), (.int .i64 0), (.int .i64 0), (.int .i64 0), (.slc .full [])]), none⟩, ⟨some 5, (.mov (.const (.int .i64 0))), none⟩])
def c24i1 : CCode := (.seq (.reg [⟨some 17, (.mov (.tmp 0)), none⟩, ⟨some 18, (.isnil 4 false (.tmp 17)), none⟩]) (.cond (.tmp 18) (.seq (.reg [⟨some 19, (.build [(.slc .full []), (.int .i64 0), (.slc .full []), (.int .i64 0), (.int .i64 0), (.int .i64 0), (.slc .full [])] []), none⟩, ⟨none, (.store 7 (.tmp 4) (.tmp 19)), none⟩, ⟨some 5, (.mov (.const (.int .i64 1))), none⟩]) .ret) .skip))
def c24i2 : CCode := (.reg [⟨some 20, (.load (.ag 7) (.tmp 3)), none⟩, ⟨some 21, (.call (.fn 66) [(.tmp 20)]), none⟩, ⟨some 6, (.mov (.tmp 21)), none⟩])
def c24i3 : CCode := (.seq (.reg [⟨some 22, (.mov (.tmp 6)), none⟩, ⟨some 23, (.bin .eql (.tmp 22) (.const (.int .i64 0))), none⟩]) (.cond (.tmp 23) (.drg [⟨⟨some 24, (.mov (.tmp 0)), none⟩, .light 0 1, [(0, none)]⟩, ⟨⟨some 25, (.faddr 1 (.ag 6) (.tmp 3)), none⟩, .light 0 1, [(3, none)]⟩, ⟨⟨some 26, (.load (.ag 6) (.tmp 25)), none⟩, .light 0 1, [(25, some 1)]⟩, ⟨⟨some 27, (.faddr 0 .sc (.tmp 3)), none⟩, .light 0 0, [(3, none)]⟩, ⟨⟨some 28, (.load .sc (.tmp 27)), none⟩, .light 0 0, [(27, some 3)]⟩, ⟨⟨some 29, (.call (.fn 40) [(.tmp 28)]), none⟩, .heavy, [(28, some 4)]⟩, ⟨⟨some 30, (.call (.fn 39) [(.tmp 24), (.tmp 26), (.tmp 29), (.const (.bool false))]), none⟩, .heavy, [(24, some 0), (26, some 2), (29, some 5)]⟩, ⟨⟨some 6, (.mov (.tmp 30)), none⟩, .light 2 2, [(30, some 6)]⟩]) .skip))
def c24i4 : CCode := (.seq (.reg [⟨some 31, (.mov (.tmp 6)), none⟩, ⟨some 32, (.bin .neq (.tmp 31) (.const (.int .i64 0))), none⟩]) (.cond (.tmp 32) (.seq (.reg [⟨some 33, (.build [(.slc .full []), (.int .i64 0), (.slc .full []), (.int .i64 0), (.int .i64 0), (.int .i64 0), (.slc .full [])] []), none⟩, ⟨some 34, (.mov (.tmp 6)), none⟩, ⟨none, (.store 7 (.tmp 4) (.tmp 33)), none⟩, ⟨some 5, (.mov (.tmp 34)), none⟩]) .ret) .skip))
def c24i5 : CCode := (.seq (.drg [⟨⟨some 36, (.mov (.tmp 0)), none⟩, .light 0 0, [(0, none)]⟩, ⟨⟨some 37, (.call (.fn 67) [(.tmp 36)]), none⟩, .heavy, [(36, some 0)]⟩, ⟨⟨some 38, (.faddr 1 (.ag 6) (.tmp 3)), none⟩, .light 0 1, [(3, none)]⟩, ⟨⟨some 39, (.load (.ag 6) (.tmp 38)), none⟩, .light 0 1, [(38, some 2)]⟩, ⟨⟨some 40, (.call (.tmp 37) [(.tmp 39)]), none⟩, .heavy, [(37, some 1), (39, some 3)]⟩, ⟨⟨some 35, (.mov (.tmp 40)), none⟩, .light 2 2, [(40, some 4)]⟩, ⟨⟨some 41, (.extr (.tmp 35) 0), none⟩, .light 2 2, [(35, some 5)]⟩, ⟨⟨some 42, (.extr (.tmp 35) 1), none⟩, .light 2 2, [(35, some 5)]⟩, ⟨⟨some 7, (.mov (.tmp 41)), none⟩, .light 2 2, [(41, some 6)]⟩, ⟨⟨some 8, (.mov (.tmp 42)), none⟩, .light 2 2, [(42, some 7)]⟩]) (.block 0 (.seq (.reg [⟨some 44, (.mov (.tmp 7)), none⟩, ⟨some 45, (.bin .gtr (.tmp 44) (.const (.int .i64 4096))), none⟩, ⟨some 43, (.mov (.tmp 45)), none⟩]) (.cond (.tmp 43) (.seq (.reg [⟨some 46, (.build [(.slc .full []), (.int .i64 0), (.slc .full []), (.int .i64 0), (.int .i64 0), (.int .i64 0), (.slc .full [])] []), none⟩, ⟨none, (.store 7 (.tmp 4) (.tmp 46)), none⟩, ⟨some 5, (.mov (.const (.int .i64 8))), none⟩]) .ret) (.seq (.reg [⟨some 48, (.mov (.tmp 8)), none⟩, ⟨some 49, (.bin .gtr (.tmp 48) (.const (.int .i64 256))), none⟩, ⟨some 47, (.mov (.tmp 49)), none⟩]) (.cond (.tmp 47) (.seq (.reg [⟨some 50, (.build [(.slc .full []), (.int .i64 0), (.slc .full []), (.int .i64 0), (.int .i64 0), (.int .i64 0), (.slc .full [])] []), none⟩, ⟨none, (.store 7 (.tmp 4) (.tmp 50)), none⟩, ⟨some 5, (.mov (.const (.int .i64 16))), none⟩]) .ret) .skip))))))
def c24i6 : CCode := (.reg [⟨some 51, (.mov (.tmp 0)), none⟩, ⟨some 52, .mkmap, none⟩, ⟨some 53, (.build [.nilp, .nilm, (.int .i64 0)] [(0, 1, (.tmp 51)), (1, 1, (.tmp 52))]), none⟩, ⟨some 54, (.box (.tmp 53)), none⟩, ⟨some 9, (.alloc [.nilp]), none⟩, ⟨none, (.store 1 (.tmp 9) (.tmp 54)), none⟩])
def c24i7 : CCode := (.reg [⟨some 55, (.mkfn 68 [] [(.tmp 9)]), none⟩, ⟨some 10, (.mov (.tmp 55)), none⟩])
def c24i8 : CCode := (.seq (.reg [⟨some 56, (.faddr 0 .sc (.tmp 3)), none⟩, ⟨some 57, (.load .sc (.tmp 56)), none⟩, ⟨some 58, (.len 1 (.tmp 57)), none⟩, ⟨some 59, (.mov (.const (.int .i64 0))), none⟩]) (.block 1 (.loop ⟨[0, 3, 4, 9, 10, 57, 58, 59], [(59, none)], true⟩ c24b0)))
def c24i9 : CCode := (.reg [⟨some 68, (.faddr 1 (.ag 6) (.tmp 3)), none⟩, ⟨some 69, (.load (.ag 6) (.tmp 68)), none⟩, ⟨some 70, (.mov (.tmp 10)), none⟩, ⟨some 71, (.call (.fn 69) [(.tmp 69), (.tmp 70)]), none⟩])
def c24i10 : CCode := (.seq (.reg [⟨some 72, (.mov (.tmp 0)), none⟩, ⟨some 73, (.nilck (.tmp 72)), none⟩, ⟨some 74, (.faddr 0 .sc (.tmp 73)), none⟩, ⟨some 75, (.load .sc (.tmp 74)), none⟩, ⟨some 76, (.len 1 (.tmp 75)), none⟩, ⟨some 77, (.mov (.const (.int .i64 0))), none⟩]) (.block 3 (.loop ⟨[3, 4, 9, 10, 75, 76, 77], [(77, none)], true⟩ c24b2)))
def c24i11 : CCode := (.drg [⟨⟨some 102, (.faddr 0 .sc (.tmp 3)), none⟩, .light 0 0, [(3, none)]⟩, ⟨⟨some 103, (.load .sc (.tmp 102)), none⟩, .light 0 0, [(102, some 0)]⟩, ⟨⟨some 104, (.call (.fn 70) [(.tmp 103)]), none⟩, .heavy, [(103, some 1)]⟩, ⟨⟨some 105, (.load .sc (.tmp 9)), none⟩, .light 0 1, [(9, none)]⟩, ⟨⟨some 106, (.faddr 1 (.ag 6) (.tmp 3)), none⟩, .light 0 1, [(3, none)]⟩, ⟨⟨some 107, (.load (.ag 6) (.tmp 106)), none⟩, .light 0 1, [(106, some 4)]⟩, ⟨⟨some 108, (.call (.fn 71) [(.tmp 105), (.tmp 107), (.const .nilm)]), none⟩, .heavy, [(105, some 3), (107, some 5)]⟩, ⟨⟨some 109, (.build [(.slc .full []), (.int .i64 0), (.slc .full []), (.int .i64 0), (.int .i64 0), (.int .i64 0), (.slc .full [])] [(0, 1, (.tmp 104)), (1, 6, (.tmp 108))]), none⟩, .light 2 2, [(104, some 2), (108, some 6)]⟩, ⟨⟨none, (.store 7 (.tmp 4) (.tmp 109)), none⟩, .heavy, [(4, none), (109, some 7)]⟩, ⟨⟨some 5, (.mov (.const (.int .i64 0))), none⟩, .light 3 3, []⟩])
def c24i12 : CCode := .ret
def c24t8 : CCode := .seq c24i8 (.seq c24i9 (.seq c24i10 (.seq c24i11 (c24i12))))
def c24t6 : CCode := .seq c24i6 (.seq c24i7 (c24t8))
theorem c24_b : c24.body = .seq c24i0 (.seq c24i1 (.seq c24i2 (.seq c24i3 (.seq c24i4 (.seq c24i5 (c24t6)))))) := rfl
section
variable {G : Nat → Option AV} {cl : Caller} {yl : Nat → List AV → Mem → Option (AV × Mem)} {N : Nat}
abbrev H68 (cl : Caller) (c p id tq : Nat) : Prop := ∀ s O R tk, TkAt O c p id tq tk → cl 68 [.str s, .ptr c 0] ⟨O, R⟩ = some (.tup [], ⟨O.set tq (.map (tkE (tkP tk s))), R⟩)
theorem h68_fro {cl : Caller} {c p id tq : Nat} (h : H68 cl c p id tq) (s : Str) {O : List Obj} (R : List Arr) {tk : List Str} (hT : TkAt O c p id tq tk) :
    ∃ O' tk', cl 68 [.str s, .ptr c 0] ⟨O, R⟩ = some (.tup [], ⟨O', R⟩) ∧ Fro tq O O' ∧ O'[tq]? = some (.map (tkE tk')) ∧ tk'.length ≤ tk.length + 1 :=
  ⟨_, _, h s O R tk hT, .set _ _ _, List.getElem?_set_self (List.getElem?_eq_some_iff.1 hT.tq).1, tkP_len _ _⟩
theorem loop24a (vs : List Vr) (sp : Sp) {t0 t3 t4 : AV} {c p id tq : Nat} {tk : List Str} {O : List Obj} {R : List Arr} (hT : TkAt O c p id tq tk) (hb : vs.length < big) (hN : vs.length < N) (h68 : H68 cl c p id tq) (k : Nat) :
    ∃ e s', iter false (evalC G false cl yl N c24b0) ⟨[0, 3, 4, 9, 10, 57, 58, 59], [(59, none)], true⟩ k R.length N ⟨[(0, t0), (3, t3), (4, t4), (9, .ptr c 0), (10, .fn 68 [] [.ptr c 0]), (57, .slc sp (vs.map vrv)), (58, .int .i64 vs.length), (59, .int .i64 0)], ⟨O, R⟩, []⟩ = some (e, s') ∧ e ≠ .normal ∧
      (e = .exit 1 ∧ ∃ (O1 : List Obj) (tk1 : List Str) (ts : Slots), s' = ⟨ts, ⟨O1, R⟩, []⟩ ∧ look 0 ts = t0 ∧ look 3 ts = t3 ∧ look 4 ts = t4 ∧ look 9 ts = .ptr c 0 ∧ look 10 ts = .fn 68 [] [.ptr c 0] ∧ Fro tq O O1 ∧ O1[tq]? = some (.map (tkE tk1)) ∧ tk1.length ≤ tk.length + vs.length) := by
  unfold big at hb
  refine (iter_inv (mu := false) (step := evalC G false cl yl N c24b0) (an := ⟨[0, 3, 4, 9, 10, 57, 58, 59], [(59, none)], true⟩) (k := k) (m := R.length) (N := N) vs (fun _ => (none : Option Unit))
    (fun i st => ∃ (O1 : List Obj) (tk1 : List Str), st = ⟨[(0, t0), (3, t3), (4, t4), (9, .ptr c 0), (10, .fn 68 [] [.ptr c 0]), (57, .slc sp (vs.map vrv)), (58, .int .i64 vs.length), (59, .int .i64 (i : Nat))], ⟨O1, R⟩, []⟩ ∧ Fro tq O O1 ∧ O1[tq]? = some (.map (tkE tk1)) ∧ tk1.length ≤ tk.length + i)
    (fun r e s' => e = .exit 1 ∧ ∃ (O1 : List Obj) (tk1 : List Str) (ts : Slots), s' = ⟨ts, ⟨O1, R⟩, []⟩ ∧ look 0 ts = t0 ∧ look 3 ts = t3 ∧ look 4 ts = t4 ∧ look 9 ts = .ptr c 0 ∧ look 10 ts = .fn 68 [] [.ptr c 0] ∧ Fro tq O O1 ∧ O1[tq]? = some (.map (tkE tk1)) ∧ tk1.length ≤ tk.length + vs.length) hN ⟨O, tk, rfl, .refl _ _, hT.tq, by omega⟩ ?_ ?_)
  · rintro i v st hx hi ⟨O1, tk1, rfl, hF, hQ, hl⟩
    have hx' := (List.getElem?_eq_some_iff.1 hx).2
    have w1 := wrap_succ (i := i) (by omega)
    obtain ⟨O2, tk2, k1, k2, k3, k4⟩ := h68_fro h68 v.nm R (((hT.fro hF hQ)).app [.cells (vrc v)])
    have fin : Fro tq O O2 := (hF.trans (.app _ _ _)).trans k2
    unfold vrc at k1
    simp -implicitDefEqProofs [c24b0, hi, hx', w1, k1]
    exact ⟨fin, tk2, k3, by omega⟩
  · rintro st ⟨O1, tk1, rfl, hF, hQ, hl⟩
    simp -implicitDefEqProofs [c24b0]
    refine ⟨O1, tk1, _, ⟨rfl, rfl⟩, ?_⟩
    simp
    exact ⟨hF, hQ, hl⟩
theorem loop24i (vs : List Vr) {t3 t4 t14 t75 t76 t77 : AV} {c p id tq : Nat} {tk : List Str} {O : List Obj} {R : List Arr} (hT : TkAt O c p id tq tk) (hb : vs.length < big) (hN : vs.length < N) (h68 : H68 cl c p id tq) (k : Nat) :
    ∃ e s', iter false (evalC G false cl yl N c24b1) ⟨[3, 4, 9, 10, 14, 75, 76, 77, 86, 87, 88], [(88, none)], true⟩ k R.length N ⟨[(3, t3), (4, t4), (9, .ptr c 0), (10, .fn 68 [] [.ptr c 0]), (14, t14), (75, t75), (76, t76), (77, t77), (86, .slc .shared (vs.map vrv)), (87, .int .i64 vs.length), (88, .int .i64 0)], ⟨O, R⟩, []⟩ = some (e, s') ∧ e ≠ .normal ∧
      (e = .exit 5 ∧ ∃ (O1 : List Obj) (tk1 : List Str) (ts : Slots), s' = ⟨ts, ⟨O1, R⟩, []⟩ ∧ look 3 ts = t3 ∧ look 4 ts = t4 ∧ look 9 ts = .ptr c 0 ∧ look 10 ts = .fn 68 [] [.ptr c 0] ∧ look 14 ts = t14 ∧ look 75 ts = t75 ∧ look 76 ts = t76 ∧ look 77 ts = t77 ∧ Fro tq O O1 ∧ O1[tq]? = some (.map (tkE tk1)) ∧ tk1.length ≤ tk.length + vs.length) := by
  unfold big at hb
  refine (iter_inv (mu := false) (step := evalC G false cl yl N c24b1) (an := ⟨[3, 4, 9, 10, 14, 75, 76, 77, 86, 87, 88], [(88, none)], true⟩) (k := k) (m := R.length) (N := N) vs (fun _ => (none : Option Unit))
    (fun i st => ∃ (O1 : List Obj) (tk1 : List Str), st = ⟨[(3, t3), (4, t4), (9, .ptr c 0), (10, .fn 68 [] [.ptr c 0]), (14, t14), (75, t75), (76, t76), (77, t77), (86, .slc .shared (vs.map vrv)), (87, .int .i64 vs.length), (88, .int .i64 (i : Nat))], ⟨O1, R⟩, []⟩ ∧ Fro tq O O1 ∧ O1[tq]? = some (.map (tkE tk1)) ∧ tk1.length ≤ tk.length + i)
    (fun r e s' => e = .exit 5 ∧ ∃ (O1 : List Obj) (tk1 : List Str) (ts : Slots), s' = ⟨ts, ⟨O1, R⟩, []⟩ ∧ look 3 ts = t3 ∧ look 4 ts = t4 ∧ look 9 ts = .ptr c 0 ∧ look 10 ts = .fn 68 [] [.ptr c 0] ∧ look 14 ts = t14 ∧ look 75 ts = t75 ∧ look 76 ts = t76 ∧ look 77 ts = t77 ∧ Fro tq O O1 ∧ O1[tq]? = some (.map (tkE tk1)) ∧ tk1.length ≤ tk.length + vs.length) hN ⟨O, tk, rfl, .refl _ _, hT.tq, by omega⟩ ?_ ?_)
  · rintro i v st hx hi ⟨O1, tk1, rfl, hF, hQ, hl⟩
    have hx' := (List.getElem?_eq_some_iff.1 hx).2
    have w1 := wrap_succ (i := i) (by omega)
    obtain ⟨O2, tk2, k1, k2, k3, k4⟩ := h68_fro h68 v.nm R (((hT.fro hF hQ)).app [.cells (vrc v)])
    have fin : Fro tq O O2 := (hF.trans (.app _ _ _)).trans k2
    unfold vrc at k1
    simp -implicitDefEqProofs [c24b1, hi, hx', w1, k1]
    exact ⟨fin, tk2, k3, by omega⟩
  · rintro st ⟨O1, tk1, rfl, hF, hQ, hl⟩
    simp -implicitDefEqProofs [c24b1]
    refine ⟨O1, tk1, _, ⟨rfl, rfl⟩, ?_⟩
    simp
    exact ⟨hF, hQ, hl⟩
def nmw : List Mc → Nat
  | [] => 0
  | d :: w => 1 + d.ps.length + nmc d.bd + nmw w
theorem nmw_take : ∀ (w : List Mc) (i : Nat) (d : Mc), w[i]? = some d → nmw (w.take (i + 1)) = nmw (w.take i) + (1 + d.ps.length + nmc d.bd)
  | [], i, d, h => by simp at h
  | e :: w, 0, d, h => by simp at h; subst h; simp [nmw]
  | e :: w, i + 1, d, h => by
    simp at h
    have := nmw_take w i d h
    simp [nmw, this]; omega
theorem loop24d (w : List Mc) (sp : Sp) {t3 t4 : AV} {c p id tq : Nat} {tk : List Str} {O : List Obj} {R : List Arr} (hT : TkAt O c p id tq tk) (hb : w.length < big) (hN : w.length < N) (hps : ∀ d ∈ w, d.ps.length < big ∧ d.ps.length < N) (h68 : H68 cl c p id tq)
    (h69 : ∀ d ∈ w, ∀ O R tk, TkAt O c p id tq tk → Puts cl 69 [av d.bd, .fn 68 [] [.ptr c 0]] tq (nmc d.bd) tk O R) (k : Nat) :
    ∃ e s', iter false (evalC G false cl yl N c24b2) ⟨[3, 4, 9, 10, 75, 76, 77], [(77, none)], true⟩ k R.length N ⟨[(3, t3), (4, t4), (9, .ptr c 0), (10, .fn 68 [] [.ptr c 0]), (75, .slc sp (w.map mcv)), (76, .int .i64 w.length), (77, .int .i64 0)], ⟨O, R⟩, []⟩ = some (e, s') ∧ e ≠ .normal ∧
      (e = .exit 3 ∧ ∃ (O1 : List Obj) (tk1 : List Str) (ts : Slots), s' = ⟨ts, ⟨O1, R⟩, []⟩ ∧ look 3 ts = t3 ∧ look 4 ts = t4 ∧ look 9 ts = .ptr c 0 ∧ look 10 ts = .fn 68 [] [.ptr c 0] ∧ Fro tq O O1 ∧ O1[tq]? = some (.map (tkE tk1)) ∧ tk1.length ≤ tk.length + nmw w) := by
  unfold big at hb
  refine (iter_inv (mu := false) (step := evalC G false cl yl N c24b2) (an := ⟨[3, 4, 9, 10, 75, 76, 77], [(77, none)], true⟩) (k := k) (m := R.length) (N := N) w (fun _ => (none : Option Unit))
    (fun i st => ∃ (O1 : List Obj) (tk1 : List Str), st = ⟨[(3, t3), (4, t4), (9, .ptr c 0), (10, .fn 68 [] [.ptr c 0]), (75, .slc sp (w.map mcv)), (76, .int .i64 w.length), (77, .int .i64 (i : Nat))], ⟨O1, R⟩, []⟩ ∧ Fro tq O O1 ∧ O1[tq]? = some (.map (tkE tk1)) ∧ tk1.length ≤ tk.length + nmw (w.take i))
    (fun r e s' => e = .exit 3 ∧ ∃ (O1 : List Obj) (tk1 : List Str) (ts : Slots), s' = ⟨ts, ⟨O1, R⟩, []⟩ ∧ look 3 ts = t3 ∧ look 4 ts = t4 ∧ look 9 ts = .ptr c 0 ∧ look 10 ts = .fn 68 [] [.ptr c 0] ∧ Fro tq O O1 ∧ O1[tq]? = some (.map (tkE tk1)) ∧ tk1.length ≤ tk.length + nmw w) hN ⟨O, tk, rfl, .refl _ _, hT.tq, by simp [nmw]⟩ ?_ ?_)
  · rintro i d st hx hi ⟨O1, tk1, rfl, hF, hQ, hl⟩
    have hx' := (List.getElem?_eq_some_iff.1 hx).2
    have hd := mem_of_get hx
    have w1 := wrap_succ (i := i) (by omega)
    have hT1 := (hT.fro hF hQ).app [.cells (mcc d)]
    obtain ⟨O2, tk2, k1, k2, k3, k4⟩ := h68_fro h68 d.nm R hT1
    have hT2 := hT1.fro k2 k3
    have hO14 : O2[O1.length]? = some (.cells (mcc d)) := k2.old (by simp) (by have := (List.getElem?_eq_some_iff.1 hQ).1; omega)
    obtain ⟨e, s', a1, -, rfl, O3, tk3, ts3, rfl, p3, p4, p9, p10, p14, p75, p76, p77, b1, b2, b3⟩ := loop24i (G := G) (cl := cl) (yl := yl) (N := N) d.ps (t3 := t3) (t4 := t4) (t14 := .ptr O1.length 0) (t75 := .slc sp (w.map mcv)) (t76 := .int .i64 w.length) (t77 := .int .i64 (i : Nat)) (R := R) hT2 (hps d hd).1 (hps d hd).2 h68 O2.length
    have hT3 := hT2.fro b1 b2
    have hO14' : O3[O1.length]? = some (.cells (mcc d)) := b1.old hO14 (by have := (List.getElem?_eq_some_iff.1 hQ).1; omega)
    obtain ⟨O4, tk4, c1, c2, c3, c4⟩ := h69 d hd O3 R tk3 hT3
    have fin : Fro tq O O4 := (((hF.trans (.app _ _ _)).trans k2).trans b1).trans c2
    have ht := nmw_take w i d hx
    rw [mcc_eq] at k1 hO14 hO14'
    simp -implicitDefEqProofs [c24b2, hi, hx', w1, mcc_eq, k1, hO14, a1, p3, p4, p9, p10, p14, p75, p76, p77, hO14', c1]
    exact ⟨fin, tk4, c3, by omega⟩
  · rintro st ⟨O1, tk1, rfl, hF, hQ, hl⟩
    rw [List.take_length] at hl
    simp -implicitDefEqProofs [c24b2]
    refine ⟨O1, tk1, _, ⟨rfl, rfl⟩, ?_⟩
    simp
    exact ⟨hF, hQ, hl⟩
end
section
variable {G : Nat → Option AV} {cl : Caller} {yl : Nat → List AV → Mem → Option (AV × Mem)} {N : Nat}
theorem ne_of_len {O : List Obj} {i j : Nat} {a b : List AV} (h : O[i]? = some (.cells a)) (k : O[j]? = some (.cells b)) (hl : a.length ≠ b.length) : i ≠ j := by
  rintro rfl
  rw [h] at k
  simp at k
  exact hl (by rw [k])
theorem ne_of_map {O : List Obj} {i j : Nat} {a : List AV} {b : List (AV × AV)} (h : O[i]? = some (.cells a)) (k : O[j]? = some (.map b)) : i ≠ j := by
  rintro rfl
  rw [h] at k
  cases k
theorem evT8 (fr : List Vr) (sp : Sp) (n : Nd) (w : List Mc) (RQ : Nd → Prop) {q3 q4 c p id tq : Nat} {z : List AV} {O : List Obj} {R : List Arr} {ts : Slots} (hfb : fr.length < big) (hfN : fr.length < N) (hb : w.length < big) (hN : w.length < N) (hps : ∀ d ∈ w, d.ps.length < big ∧ d.ps.length < N)
    (h3 : O[q3]? = some (.cells (.slc sp (fr.map vrv) :: ndc n))) (h4 : O[q4]? = some (.cells z)) (hz : z.length = 7) (hT : TkAt O c p id tq []) (hs : SetR O id w) (h34 : q3 ≠ q4) (h68 : H68 cl c p id tq)
    (h69 : ∀ m, (m = n ∨ ∃ d ∈ w, m = d.bd) → ∀ O R tk, TkAt O c p id tq tk → Puts cl 69 [av m, .fn 68 [] [.ptr c 0]] tq (nmc m) tk O R)
    (h70 : ∀ O R, ∃ sp' Y, cl 70 [.slc sp (fr.map vrv)] ⟨O, R⟩ = some (.slc sp' (fr.map vrv), ⟨O, R ++ Y⟩))
    (h71 : ∀ O R tk, Mk O p id tq 0 tk → SetR O id w → tk.length ≤ fr.length + nmc n + nmw w → ∃ r O' R', cl 71 [.ptr p 0, av n, .nilm] ⟨O, R⟩ = some (av r, ⟨O', R'⟩) ∧ Fro p O O' ∧ RQ r)
    (l0 : look 0 ts = .ptr id 0) (l3 : look 3 ts = .ptr q3 0) (l4 : look 4 ts = .ptr q4 0) (l9 : look 9 ts = .ptr c 0) (l10 : look 10 ts = .fn 68 [] [.ptr c 0]) :
    ∃ (ts' : Slots) (O' : List Obj) (R' : List Arr) (sp' : Sp) (r : Nd), evalC G false cl yl N c24t8 ⟨ts, ⟨O, R⟩, []⟩ = some (.ret, ⟨ts', ⟨O', R'⟩, []⟩) ∧ look 4 ts' = .ptr q4 0 ∧ look 5 ts' = .int .i64 0 ∧ O'[q4]? = some (.cells (.slc sp' (fr.map vrv) :: ndc r)) ∧ RQ r ∧ O.length ≤ O'.length ∧ ∀ i, i < O.length → i ≠ tq → i ≠ p → i ≠ q4 → O'[i]? = O[i]? := by
  have n3t := ne_of_map h3 hT.tq
  have n4t := ne_of_map h4 hT.tq
  have nct := ne_of_map hT.c hT.tq
  have n3p : q3 ≠ p := ne_of_len h3 hT.p (by simp)
  have n4p : q4 ≠ p := ne_of_len h4 hT.p (by simp [hz])
  have ncp : c ≠ p := ne_of_len hT.c hT.p (by simp)
  obtain ⟨spw, hsw⟩ := hs
  have nit := ne_of_map hsw hT.tq
  have nip : id ≠ p := ne_of_len hsw hT.p (by simp)
  -- the query's variables
  obtain ⟨e, s', a1, -, rfl, O1, tk1, ts1, rfl, b0, b3, b4, b9, b10, F1, T1, L1⟩ := loop24a (G := G) (cl := cl) (yl := yl) (N := N) fr sp (t0 := .ptr id 0) (t3 := .ptr q3 0) (t4 := .ptr q4 0) (R := R) hT hfb hfN h68 O.length
  have hT1 := hT.fro F1 T1
  -- the query's body
  obtain ⟨O2, tk2, k69, F2, T2, L2⟩ := h69 n (.inl rfl) O1 R tk1 hT1
  have hT2 := hT1.fro F2 T2
  have F12 := F1.trans F2
  -- the macros
  obtain ⟨e, s', d1, -, rfl, O3, tk3, ts3, rfl, e3, e4, e9, e10, F3, T3, L3⟩ := loop24d (G := G) (cl := cl) (yl := yl) (N := N) w spw (t3 := .ptr q3 0) (t4 := .ptr q4 0) (R := R) hT2 hb hN hps h68 (fun d hd => h69 d.bd (.inr ⟨d, hd, rfl⟩)) O2.length
  have hT3 := hT2.fro F3 T3
  have F13 := F12.trans F3
  simp only [List.length_nil, Nat.zero_add] at L1
  obtain ⟨sp', Y, k70⟩ := h70 O3 R
  have g3 := F13.old h3 n3t
  have g4 := F13.old h4 n4t
  have gs := F13.old hsw nit
  obtain ⟨r, O4, R4, k71, F4, hRQ⟩ := h71 O3 (R ++ Y) tk3 ⟨hT3.p, hT3.tq⟩ ⟨spw, gs⟩ (by omega)
  have g4' := F4.old g4 n4p
  have hlt := (List.getElem?_eq_some_iff.1 g4').1
  have g1_3 := F1.old h3 n3t
  have g2_s := F12.old hsw nit
  have hd : z.drop 7 = [] := List.drop_eq_nil_of_le (by omega)
  have hO2l : O.length ≤ O4.length := Nat.le_trans F13.len F4.len
  have fin : ∀ i, i < O.length → i ≠ tq → i ≠ p → i ≠ q4 → (O4.set q4 (.cells (.slc sp' (fr.map vrv) :: ndc r)))[i]? = O[i]? := fun i hi h1 h2 h3 => by
    rw [List.getElem?_set_ne (by omega), F4.get i (Nat.lt_of_lt_of_le hi F13.len) h2, F13.get i hi h1]
  have hav : cells (av r) = some (ndc r) := by rw [av_ndc]; rfl
  have hset : ∀ a, List.take 1 ([.slc .full [], .int .i64 0, .slc .full [], .int .i64 0, .int .i64 0, .int .i64 0, .slc .full []] : List AV) = a → a = [.slc .full []] := fun a h => h.symm
  suffices h : ∃ ts', evalC G false cl yl N c24t8 ⟨ts, ⟨O, R⟩, []⟩ = some (.ret, ⟨ts', ⟨O4.set q4 (.cells (.slc sp' (fr.map vrv) :: ndc r)), R4⟩, []⟩) ∧ look 4 ts' = .ptr q4 0 ∧ look 5 ts' = .int .i64 0 by
    obtain ⟨ts', h1, h2, h3⟩ := h
    exact ⟨ts', _, R4, sp', r, h1, h2, h3, List.getElem?_set_self hlt, hRQ, by simpa using hO2l, fin⟩
  apply Exists.intro
  apply And.intro
  · simp -implicitDefEqProofs [c24t8, c24i8, c24i9, c24i10, c24i11, c24i12, l0, l3, l4, l9, l10, h3, a1, b0, b3, b4, b9, b10, g1_3, k69, g2_s, d1, e3, e4, e9, e10, g3, k70, hT3.c, k71, g4', hd, hz, hav]
    rfl
  · refine ⟨?_, ?_⟩ <;> first | rfl | simp [e4]
end
abbrev zn7 : List AV := [.slc .full [], .int .i64 0, .slc .full [], .int .i64 0, .int .i64 0, .int .i64 0, .slc .full []]
def qcs (sp : Sp) (fr : List Vr) (n : Nd) : List AV := .slc sp (fr.map vrv) :: ndc n
theorem qcs_len (sp : Sp) (fr : List Vr) (n : Nd) : (qcs sp fr n).length = 7 := by simp [qcs]
structure Cs24 (cl : Caller) (fr : List Vr) (sp : Sp) (n : Nd) (w : List Mc) (id : Nat) (cq wl : Int) (es ed : Nat) (RQ : Nd → Prop) : Prop where
  h66 : ∀ M, cl 66 [.agg (qcs sp fr n)] M = some (.int .i64 cq, M)
  h40 : ∀ O R, ∃ cv X, cl 40 [.slc sp (fr.map vrv)] ⟨O, R⟩ = some (cv, ⟨O ++ X, R⟩) ∧ Sc (O ++ X) cv fr
  h39 : cq = 0 → ∀ O R cv, SetR O id w → Sc O cv fr → Gr (cl 39 [.ptr id 0, av n, cv, .bool false] ⟨O, R⟩) (.int .i64 wl) O R
  h67 : cq = 0 → wl = 0 → ∀ O R, SetR O id w → ∃ a b m X, cl 67 [.ptr id 0] ⟨O, R⟩ = some (.fn 123 [] [.ptr a 0, .ptr b 0], ⟨O ++ X, R⟩) ∧ MsAt (O ++ X) a b m (knw w)
  h123 : cq = 0 → wl = 0 → ∀ O R a b m, MsAt O a b m (knw w) → Gr (cl 123 [av n, .ptr a 0, .ptr b 0] ⟨O, R⟩) (.tup [.int .i64 (msz es), .int .i64 (msz ed)]) O R
  h68 : ∀ c p tq, H68 cl c p id tq
  h69 : cq = 0 → ∀ c p tq m, (m = n ∨ ∃ d ∈ w, m = d.bd) → ∀ O R tk, TkAt O c p id tq tk → Puts cl 69 [av m, .fn 68 [] [.ptr c 0]] tq (nmc m) tk O R
  h70 : ∀ O R, ∃ sp' Y, cl 70 [.slc sp (fr.map vrv)] ⟨O, R⟩ = some (.slc sp' (fr.map vrv), ⟨O, R ++ Y⟩)
  h71 : cq = 0 → wl = 0 → es ≤ 4096 → ed ≤ 256 → ∀ p tq O R tk, Mk O p id tq 0 tk → SetR O id w → tk.length ≤ fr.length + nmc n + nmw w → ∃ r O' R', cl 71 [.ptr p 0, av n, .nilm] ⟨O, R⟩ = some (av r, ⟨O', R'⟩) ∧ Fro p O O' ∧ RQ r
section
variable {G : Nat → Option AV} {cl : Caller} {yl : Nat → List AV → Mem → Option (AV × Mem)} {N : Nat}
theorem evT6 {q3 q4 : Nat} {id : Nat} {O : List Obj} {R : List Arr} {ts : Slots} (l0 : look 0 ts = .ptr id 0) (l3 : look 3 ts = .ptr q3 0) (l4 : look 4 ts = .ptr q4 0) :
    ∃ ts' : Slots, evalC G false cl yl N c24t6 ⟨ts, ⟨O, R⟩, []⟩ = evalC G false cl yl N c24t8 ⟨ts', ⟨O ++ [.map [], .cells [.ptr id 0, .map O.length, .int .i64 0], .cells [.ptr (O.length + 1) 0]], R⟩, []⟩ ∧
      look 0 ts' = .ptr id 0 ∧ look 3 ts' = .ptr q3 0 ∧ look 4 ts' = .ptr q4 0 ∧ look 9 ts' = .ptr (O.length + 2) 0 ∧ look 10 ts' = .fn 68 [] [.ptr (O.length + 2) 0] := by
  apply Exists.intro
  apply And.intro
  · simp -implicitDefEqProofs [c24t6, c24i6, c24i7, l0]
    rfl
  · refine ⟨?_, ?_, ?_, ?_, ?_⟩ <;> first | rfl | simpa using by assumption
theorem evA24 (fr : List Vr) (sp : Sp) (n : Nd) (w : List Mc) {id : Nat} {cq wl : Int} {es ed : Nat} {RQ : Nd → Prop} (h : Cs24 cl fr sp n w id cq wl es ed RQ) {O : List Obj} {R : List Arr} (hs : SetR O id w) :
    (∃ (ts : Slots) (e : Int) (X : List Obj), e ≠ 0 ∧ ¬ (cq = 0 ∧ wl = 0 ∧ es ≤ 4096 ∧ ed ≤ 256) ∧ evalC G false cl yl N c24.body ⟨frame 0 [.ptr id 0, .agg (qcs sp fr n)], ⟨O, R⟩, []⟩ = some (.ret, ⟨ts, ⟨O ++ (.cells (qcs sp fr n) :: .cells zn7 :: X), R⟩, []⟩) ∧ look 4 ts = .ptr (O.length + 1) 0 ∧ look 5 ts = .int .i64 e) ∨
    (cq = 0 ∧ wl = 0 ∧ es ≤ 4096 ∧ ed ≤ 256 ∧ ∃ (ts : Slots) (X : List Obj), evalC G false cl yl N c24.body ⟨frame 0 [.ptr id 0, .agg (qcs sp fr n)], ⟨O, R⟩, []⟩ = evalC G false cl yl N c24t6 ⟨ts, ⟨O ++ (.cells (qcs sp fr n) :: .cells zn7 :: X), R⟩, []⟩ ∧ look 0 ts = .ptr id 0 ∧ look 3 ts = .ptr O.length 0 ∧ look 4 ts = .ptr (O.length + 1) 0) := by
  obtain ⟨h66, h40, h39, h67, h123, -, -, -, -⟩ := h
  have hql := qcs_len sp fr n
  have hq0 : (qcs sp fr n)[0]? = some (.slc sp (fr.map vrv)) := rfl
  have hqt : List.take 7 (qcs sp fr n) = qcs sp fr n := List.take_of_length_le (by omega)
  have hq6 : AV.agg (List.take 6 (List.drop 1 (qcs sp fr n))) = av n := by
    have : List.drop 1 (qcs sp fr n) = ndc n := rfl
    rw [this, take_ndc, agg_ndc]
  have hq6' : AV.agg (List.take 6 (qcs sp fr n).tail) = av n := hq6
  by_cases c1 : cq = 0
  · obtain ⟨cv, X1, k40, hSc⟩ := h40 (O ++ [.cells (qcs sp fr n), .cells zn7]) R
    obtain ⟨X2, k39⟩ := h39 c1 _ R cv ((hs.grow _).grow X1) hSc
    subst c1
    have hq0' : ∀ h, (qcs sp fr n)[0]'h = .slc sp (fr.map vrv) := fun _ => rfl
    simp -implicitDefEqProofs at k40 k39
    by_cases c2 : wl = 0
    · obtain ⟨a, b, m, X3, k67, hM⟩ := h67 rfl c2 (O ++ (.cells (qcs sp fr n) :: .cells zn7 :: (X1 ++ X2))) R (hs.grow _)
      obtain ⟨X4, k123⟩ := h123 rfl c2 _ R a b m hM
      subst c2
      simp -implicitDefEqProofs at k67 k123
      by_cases c3 : msz es > 4096
      · left
        have hne : ¬ es ≤ 4096 := by unfold msz at c3; omega
        refine (fun (H : ∃ (X : List Obj) (ts : Slots), evalC G false cl yl N c24.body ⟨frame 0 [.ptr id 0, .agg (qcs sp fr n)], ⟨O, R⟩, []⟩ = some (.ret, ⟨ts, ⟨O ++ (.cells (qcs sp fr n) :: .cells zn7 :: X), R⟩, []⟩) ∧ look 4 ts = .ptr (O.length + 1) 0 ∧ look 5 ts = .int .i64 8) => ?_) ?_
        · obtain ⟨X, ts, H1, H2, H3⟩ := H
          exact ⟨ts, 8, X, by decide, fun hh => hne hh.2.2.1, H1, H2, H3⟩
        refine ⟨X1 ++ (X2 ++ (X3 ++ X4)), ?_⟩
        have c3' : (4096 : Int) < msz es := c3
        apply Exists.intro
        apply And.intro
        · rw [c24_b]
          simp -implicitDefEqProofs [c24i0, c24i1, c24i2, c24i3, c24i4, c24i5, hql, hqt, hq0, hq0', hq6, hq6', h66, k40, k39, k67, k123, c3']
          rfl
        · refine ⟨?_, ?_⟩ <;> first | rfl | simp
      · by_cases c4 : msz ed > 256
        · left
          have hne : ¬ ed ≤ 256 := by unfold msz at c4; omega
          refine (fun (H : ∃ (X : List Obj) (ts : Slots), evalC G false cl yl N c24.body ⟨frame 0 [.ptr id 0, .agg (qcs sp fr n)], ⟨O, R⟩, []⟩ = some (.ret, ⟨ts, ⟨O ++ (.cells (qcs sp fr n) :: .cells zn7 :: X), R⟩, []⟩) ∧ look 4 ts = .ptr (O.length + 1) 0 ∧ look 5 ts = .int .i64 16) => ?_) ?_
          · obtain ⟨X, ts, H1, H2, H3⟩ := H
            exact ⟨ts, 16, X, by decide, fun hh => hne hh.2.2.2, H1, H2, H3⟩
          refine ⟨X1 ++ (X2 ++ (X3 ++ X4)), ?_⟩
          have c3' : ¬ (4096 : Int) < msz es := c3
          have c4' : (256 : Int) < msz ed := c4
          apply Exists.intro
          apply And.intro
          · rw [c24_b]
            simp -implicitDefEqProofs [c24i0, c24i1, c24i2, c24i3, c24i4, c24i5, hql, hqt, hq0, hq0', hq6, hq6', h66, k40, k39, k67, k123, c3', c4']
            rfl
          · refine ⟨?_, ?_⟩ <;> first | rfl | simp
        · right
          have c3' : ¬ (4096 : Int) < msz es := c3
          have c4' : ¬ (256 : Int) < msz ed := c4
          have e1 : es ≤ 4096 := by unfold msz at c3'; omega
          have e2 : ed ≤ 256 := by unfold msz at c4'; omega
          refine ⟨rfl, rfl, e1, e2, ?_⟩
          refine (fun (H : ∃ (X : List Obj) (ts : Slots), evalC G false cl yl N c24.body ⟨frame 0 [.ptr id 0, .agg (qcs sp fr n)], ⟨O, R⟩, []⟩ = evalC G false cl yl N c24t6 ⟨ts, ⟨O ++ (.cells (qcs sp fr n) :: .cells zn7 :: X), R⟩, []⟩ ∧ look 0 ts = .ptr id 0 ∧ look 3 ts = .ptr O.length 0 ∧ look 4 ts = .ptr (O.length + 1) 0) => ?_) ?_
          · obtain ⟨X, ts, H1⟩ := H
            exact ⟨ts, X, H1⟩
          refine ⟨X1 ++ (X2 ++ (X3 ++ X4)), ?_⟩
          apply Exists.intro
          apply And.intro
          · rw [c24_b]
            simp -implicitDefEqProofs [c24i0, c24i1, c24i2, c24i3, c24i4, c24i5, hql, hqt, hq0, hq0', hq6, hq6', h66, k40, k39, k67, k123, c3', c4']
            rfl
          · refine ⟨?_, ?_, ?_⟩ <;> first | rfl | simp
    · left
      refine (fun (H : ∃ (X : List Obj) (ts : Slots), evalC G false cl yl N c24.body ⟨frame 0 [.ptr id 0, .agg (qcs sp fr n)], ⟨O, R⟩, []⟩ = some (.ret, ⟨ts, ⟨O ++ (.cells (qcs sp fr n) :: .cells zn7 :: X), R⟩, []⟩) ∧ look 4 ts = .ptr (O.length + 1) 0 ∧ look 5 ts = .int .i64 wl) => ?_) ?_
      · obtain ⟨X, ts, H1, H2, H3⟩ := H
        exact ⟨ts, wl, X, c2, fun hh => c2 hh.2.1, H1, H2, H3⟩
      refine ⟨X1 ++ X2, ?_⟩
      have c2' : (wl != 0) = true := by simp [c2]
      apply Exists.intro
      apply And.intro
      · rw [c24_b]
        simp -implicitDefEqProofs [c24i0, c24i1, c24i2, c24i3, c24i4, hql, hqt, hq0, hq0', hq6, hq6', h66, k40, k39, c2, c2']
        rfl
      · refine ⟨?_, ?_⟩ <;> first | rfl | simp
  · left
    refine (fun (H : ∃ (X : List Obj) (ts : Slots), evalC G false cl yl N c24.body ⟨frame 0 [.ptr id 0, .agg (qcs sp fr n)], ⟨O, R⟩, []⟩ = some (.ret, ⟨ts, ⟨O ++ (.cells (qcs sp fr n) :: .cells zn7 :: X), R⟩, []⟩) ∧ look 4 ts = .ptr (O.length + 1) 0 ∧ look 5 ts = .int .i64 cq) => ?_) ?_
    · obtain ⟨X, ts, H1, H2, H3⟩ := H
      exact ⟨ts, cq, X, c1, fun hh => c1 hh.1, H1, H2, H3⟩
    refine ⟨[], ?_⟩
    have c1' : (cq != 0) = true := by simp [c1]
    have c1'' : (cq == 0) = false := by simp [c1]
    apply Exists.intro
    apply And.intro
    · rw [c24_b]
      simp -implicitDefEqProofs [c24i0, c24i1, c24i2, c24i3, c24i4, hql, hqt, hq0, hq6, hq6', h66, c1, c1', c1'']
      rfl
    · refine ⟨?_, ?_⟩ <;> first | rfl | simp
end
section
variable {G : Nat → Option AV} {cl : Caller} {yl : Nat → List AV → Mem → Option (AV × Mem)} {N : Nat}
theorem callA24 {args : List AV} {M : Mem} {ts : Slots} {O : List Obj} {R : List Arr} {q4 : Nat} {cs : List AV} {e : Int} (h : evalC G false cl yl N c24.body ⟨frame 0 args, M, []⟩ = some (.ret, ⟨ts, ⟨O, R⟩, []⟩)) (l4 : look 4 ts = .ptr q4 0) (l5 : look 5 ts = .int .i64 e) (h4 : O[q4]? = some (.cells cs)) (hl : cs.length = 7) : callA G false cl yl N c24 args M = some (.tup [.agg cs, .int .i64 e], ⟨O, R⟩) := by
  unfold callA
  rw [h]
  have : cs.take 7 = cs := List.take_of_length_le (by omega)
  simp -implicitDefEqProofs [leave, takeMarks, l4, l5, c24, h4, hl, this]
structure X24 (O : List Obj) (fr : List Vr) (cq wl : Int) (es ed : Nat) (RQ : Nd → Prop) (cs : List AV) (e : Int) (O' : List Obj) : Prop where
  len : cs.length = 7
  old : Old O O'
  zero : e = 0 → cq = 0 ∧ ∃ sp r, cs = qcs sp fr r ∧ RQ r
  ok : cq = 0 → wl = 0 → es ≤ 4096 → ed ≤ 256 → e = 0
theorem ev24 (fr : List Vr) (sp : Sp) (n : Nd) (w : List Mc) {id : Nat} {cq wl : Int} {es ed : Nat} {RQ : Nd → Prop} (h : Cs24 cl fr sp n w id cq wl es ed RQ) {O : List Obj} {R : List Arr} (hs : SetR O id w) (hfb : fr.length < big) (hfN : fr.length < N) (hb : w.length < big) (hN : w.length < N) (hps : ∀ d ∈ w, d.ps.length < big ∧ d.ps.length < N) :
    ∃ cs e O' R', callA G false cl yl N c24 [.ptr id 0, .agg (qcs sp fr n)] ⟨O, R⟩ = some (.tup [.agg cs, .int .i64 e], ⟨O', R'⟩) ∧ X24 O fr cq wl es ed RQ cs e O' := by
  rcases evA24 (G := G) (yl := yl) (N := N) fr sp n w h (R := R) hs with ⟨ts, e, X, he, hno, e1, l4, l5⟩ | ⟨c1, c2, c3, c4, ts, X, e1, l0, l3, l4⟩
  · refine ⟨zn7, e, _, R, callA24 e1 l4 l5 (by simp) rfl, rfl, .app _ _, fun h0 => absurd h0 he, fun a b c d => absurd ⟨a, b, c, d⟩ hno⟩
  · obtain ⟨ts2, e2, m0, m3, m4, m9, m10⟩ := evT6 (G := G) (cl := cl) (yl := yl) (N := N) (id := id) (q3 := O.length) (q4 := O.length + 1) (O := O ++ (.cells (qcs sp fr n) :: .cells zn7 :: X)) (R := R) l0 l3 l4
    obtain ⟨O2, hO2⟩ : ∃ O2, O ++ (.cells (qcs sp fr n) :: .cells zn7 :: X) = O2 := ⟨_, rfl⟩
    rw [hO2] at e1 e2 m9 m10
    have g3 : O2[O.length]? = some (.cells (qcs sp fr n)) := by rw [← hO2]; simp
    have g4 : O2[O.length + 1]? = some (.cells zn7) := by rw [← hO2]; simp
    have hl2 : O.length + 2 ≤ O2.length := by rw [← hO2]; simp
    have hs2 : SetR O2 id w := by rw [← hO2]; exact hs.grow _
    have hT : TkAt (O2 ++ [.map [], .cells [.ptr id 0, .map O2.length, .int .i64 0], .cells [.ptr (O2.length + 1) 0]]) (O2.length + 2) (O2.length + 1) id O2.length [] := ⟨by simp, by simp, by simp [tkE]⟩
    obtain ⟨ts3, O', R', sp', r, e3, k4, k5, k6, k7, k8, k9⟩ := evT8 (G := G) (cl := cl) (yl := yl) (N := N) fr sp n w RQ (R := R) hfb hfN hb hN hps (get_old g3 _) (get_old g4 _) rfl hT (hs2.grow _) (by omega) (h.h68 _ _ _) (h.h69 c1 _ _ _) h.h70 (h.h71 c1 c2 c3 c4 _ _) m0 m3 m4 m9 m10
    refine ⟨qcs sp' fr r, 0, O', R', callA24 (e1.trans (e2.trans e3)) k4 k5 k6 (qcs_len _ _ _), qcs_len _ _ _, ?_, fun _ => ⟨c1, sp', r, rfl, k7⟩, fun _ _ _ _ => rfl⟩
    intro i x hi
    have hil := (List.getElem?_eq_some_iff.1 hi).1
    rw [k9 i (by simp; omega) (by omega) (by omega) (by omega), List.getElem?_append_left (by omega), ← hO2, List.getElem?_append_left hil]
    exact hi
end
theorem l_le {n : Nd} (h : ndE n = 0) : n.l.length ≤ 2 := by
  cases vk_of h with
  | cst op h => simp [nd, Nd.l]
  | two op x y h hx hy => simp [Nd.l]
  | lab x k hx h => simp [Nd.l]
  | smd x k m hx h => simp [Nd.l]
  | sng x hx => simp [Nd.l]
  | cal x xs h hx => simp [Nd.l]
  | not a ha => simp [nd, Nd.l]
  | bin op a b h ha hb => simp [nd, Nd.l]
  | qnt op x so a h hx hs ha => simp [qn, Nd.l]
theorem bkS_ids : ∀ {l : List Str}, (∀ x ∈ l, isId x = true) → bkS l ≤ 17 * l.length
  | [], _ => by simp [bkS]
  | x :: l, h => by
    have h1 := isId_len (h x (by simp))
    have h2 := bkS_ids (l := l) fun y hy => h y (by simp [hy])
    simp [bkS]; omega
mutual
theorem bk_vd : ∀ (n : Nd), ndE n = 0 → bk n ≤ 290 * sz n
  | .mk op ns so nn mm l, h => by
    have h1 := bkS_ids (ns_ids h)
    have h2 := ns_le h
    have h3 := bkL_vd l (fun x hx => ndE_kid h hx)
    simp only [Nd.ns] at h1 h2
    simp only [bk, sz]
    omega
theorem bkL_vd : ∀ (l : List Nd), (∀ x ∈ l, ndE x = 0) → bkL l ≤ 290 * szL l
  | [], _ => by simp [bkL]
  | x :: xs, h => by
    have h1 := bk_vd x (h x (by simp))
    have h2 := bkL_vd xs (fun y hy => h y (by simp [hy]))
    simp only [bkL, szL]
    omega
end
theorem cqE_ok {q : Qn} (h : cqE q = 0) : q.fr.length ≤ 8 ∧ parL [] q.fr = 0 ∧ chk q.bd = 0 := by
  unfold cqE at h
  split at h
  · cases h
  · split at h
    · exact ⟨by omega, by assumption, h⟩
    · contradiction
section
variable {t : Nat} {N : Nat}
theorem p40e {k : Nat} (sp : Sp) (ps : List Vr) (hb : ps.length < big) (hN : ps.length < N) (O : List Obj) (R : List Arr) :
    ∃ c X, BC t N (k + 2) 40 [.slc sp (ps.map vrv)] ⟨O, R⟩ = some (c, ⟨O ++ X, R⟩) ∧ Sc (O ++ X) c ps := by
  rw [BC, bw_in (cf := c40) (by unfold orcW; split <;> rfl) rfl rfl rfl]
  exact ev40s sp ps hb hN fun c v X hc => p97e v hc
theorem p68e {k : Nat} (c p id tq : Nat) : H68 (BC t N (k + 1)) c p id tq := by
  intro s O R tk h
  rw [BC, bw_in (cf := c68) (by unfold orcW; split <;> rfl) rfl rfl rfl]
  exact ev68 h s
theorem p69e (hN : 20 < N) (c p id tq : Nat) : ∀ (k : Nat) (n : Nd), ndE n = 0 → dp n < k → ∀ O R tk, TkAt O c p id tq tk → Puts (BC t N k) 69 [av n, .fn 68 [] [.ptr c 0]] tq (nmc n) tk O R := by
  intro k
  induction k with
  | zero => intro n _ h; omega
  | succ k ih =>
    intro n hv hd O R tk hT
    have h1 := ns_le hv
    have h2 := l_le hv
    have hpos : 1 ≤ dp n := by have := dp_eq n; omega
    obtain ⟨j, rfl⟩ : ∃ j, k = j + 1 := ⟨k - 1, by omega⟩
    have ha : argL [av n, .fn 68 [] [.ptr c 0]] = none := by cases n; rfl
    have e : orcW (orcOf K8) 69 [av n, .fn 68 [] [.ptr c 0]] = none := by unfold orcW; rw [ha]
    obtain ⟨O', tk', q1, q2, q3, q4⟩ := ev69 (G := GG t) (cl := BC t N (j + 1)) (yl := YC t N (j + 1)) (N := N) n (R := R) hT (by unfold big; omega) (by omega) (by unfold big; omega) (by omega) (p68e c p id tq) (fun x hx => ih x (ndE_kid hv hx) (by have := dp_child hx; omega))
    refine ⟨O', tk', ?_, q2, q3, q4⟩
    rw [BC, bw_in (cf := c69) e rfl rfl (by rw [ha]; rfl)]
    exact q1
theorem p123e (hN : 20 < N) (kn : Kn) : ∀ (k : Nat) (n : Nd), ndE n = 0 → dp n < k → ∀ O R a b m, MsAt O a b m kn → Gr (BC t N k 123 [av n, .ptr a 0, .ptr b 0] ⟨O, R⟩) (.tup [.int .i64 (msz (esz kn n)), .int .i64 (msz (edp kn n))]) O R := by
  intro k
  induction k with
  | zero => intro n _ h; omega
  | succ k ih =>
    intro n hv hd O R a b m hM
    have h2 := l_le hv
    rw [BC, bw_in (cf := c123) (by unfold orcW; split <;> rfl) rfl rfl rfl]
    exact ev123 n kn hM (fun h => vd_ns hv (.inl h)) (by unfold big; omega) (by omega) (fun x hx X => ih x (ndE_kid hv hx) (by have := dp_child hx; omega) _ R a b m (hM.app X))
theorem md_of {w : List Mc} (hw : Wf w) {d : Mc} (hd : d ∈ w) : ∃ u, Md u d := by
  obtain ⟨u, v, rfl⟩ := List.append_of_mem hd
  exact ⟨u, may_md (hw u d v rfl)⟩
theorem p67e {k : Nat} (hN : 20 < N) {w : List Mc} (hw : Wf w) (hb : w.length < big) (hwN : w.length < N) {O : List Obj} {R : List Arr} {id : Nat} (hs : SetR O id w) (hk : 256 < k) :
    ∃ a b m X, BC t N (k + 1) 67 [.ptr id 0] ⟨O, R⟩ = some (.fn 123 [] [.ptr a 0, .ptr b 0], ⟨O ++ X, R⟩) ∧ MsAt (O ++ X) a b m (knw w) := by
  obtain ⟨X, h1, h2⟩ := ev67 (G := GG t) (cl := BC t N k) (yl := YC t N k) (N := N) w hw (R := R) hs hb hwN (fun d hd kn O' hM => by
    obtain ⟨u, md⟩ := md_of hw hd
    exact p123e hN kn k d.bd md.vd (by have := (chk_lim md.bd).2; omega) O' R _ _ _ hM)
  refine ⟨_, _, _, X, ?_, h2⟩
  rw [BC, bw_in (cf := c67) (by unfold orcW; split <;> rfl) rfl rfl rfl]
  exact h1
theorem p70e {k : Nat} (sp : Sp) (vs : List Vr) (hb : vs.length ≤ 10) (O : List Obj) (R : List Arr) : ∃ sp' Y, BC t N (k + 1) 70 [.slc sp (vs.map vrv)] ⟨O, R⟩ = some (.slc sp' (vs.map vrv), ⟨O, R ++ Y⟩) := by
  have h70 : Has K8 70 (cloneA 74 2) := (by repeat first | exact .here | refine .there ?_ rfl)
  obtain ⟨sp1, ha⟩ : ∃ sp1, argL [.slc sp (vs.map vrv)] = some [.slc sp1 (vs.map vrv)] := by cases sp <;> exact ⟨_, rfl⟩
  cases vs with
  | nil =>
    refine ⟨.full, [], ?_⟩
    rw [List.append_nil]
    refine bw_sp ?_
    unfold spC
    simp only [ha, h70.eq]
    rfl
  | cons v vs =>
    have b1 : (vs.length + 1) * 4096 ≤ 140737488355328 := by simp at hb; omega
    refine ⟨.own R.length, [.app (vs.length + 1) 74 2], ?_⟩
    refine bw_sp ?_
    unfold spC
    simp only [ha, h70.eq]
    simp [cloneA, b1]
theorem p66e {k : Nat} (sp : Sp) (fr : List Vr) (n : Nd) (hq : OkQ ⟨fr, n⟩) (M : Mem) : BC t N (k + 1) 66 [.agg (qcs sp fr n)] M = some (.int .i64 (cqE ⟨fr, n⟩), M) := by
  refine bw_sp (spC_v eQ_inj ⟨fr, n⟩ (by repeat first | exact .here | refine .there ?_ rfl) (by exact hq) ?_ (by rfl) M)
  have : argL [.agg (qcs sp fr n)] = some [qsv ⟨fr, n⟩] := by
    cases n with
    | mk op ns so nn mm l => cases sp <;> rfl
  exact this
theorem cat_len {w : List Mc} (hw : Wf w) (hl : w.length ≤ 5) : nmw w ≤ 348195 := by
  have : ∀ v : List Mc, (∀ d ∈ v, d ∈ w) → nmw v ≤ v.length * 69639 := by
    intro v
    induction v with
    | nil => intro _; simp [nmw]
    | cons d v ih =>
      intro h
      obtain ⟨u, md⟩ := md_of hw (h d (by simp))
      have h1 := parE_len md.ps
      have h2 := nmc_sz d.bd md.vd
      have h3 := (chk_lim md.bd).1
      have h4 := ih fun x hx => h x (by simp [hx])
      simp only [nmw, List.length_cons]
      omega
  have h1 := this w fun d h => h
  omega
structure RQ24 (w : List Mc) (n r : Nd) : Prop where
  vd : ndE r = 0
  nc : ncl r = true
  sz : sz r ≤ 4096
  dp : dp r ≤ 256
  same : ncl n = true → r = n
theorem cs24 {k : Nat} (hN : 500000 < N) {w : List Mc} (hw : Wf w) (hl : w.length ≤ 5) (hm : ∀ d ∈ w, OkM d) (sp : Sp) (q : Qn) (hq : OkQ q) (hf : q.fr.length ≤ 10) (hqN : bk q.bd < N) (id : Nat) :
    Cs24 (BC t N (k + 2000)) q.fr sp q.bd w id (cqE q) (wlk w false q.bd q.fr) (esz (knw w) q.bd) (edp (knw w) q.bd) (RQ24 w q.bd) where
  h66 := fun M => p66e (k := k + 1999) sp q.fr q.bd hq M
  h40 := fun O R => p40e (k := k + 1998) sp q.fr hq.fr (by omega) O R
  h39 := fun h0 O R cv hs hc => by
    obtain ⟨h1, h2, h3⟩ := cqE_ok h0
    have := (chk_lim h3).2
    refine p39e (by unfold big; omega) (by omega) hm false _ q.bd (Nat.le_refl _) (chk_vd h3) hq.bd hqN q.fr (fun v hv => ?_) _ O R id cv hs hc (by omega)
    exact (parL_ok h2 v hv).2.1
  h67 := fun _ _ O R hs => p67e (k := k + 1999) (by omega) hw (by unfold big; omega) (by omega) hs (by omega)
  h123 := fun h0 _ O R a b m hM => by
    obtain ⟨h1, h2, h3⟩ := cqE_ok h0
    have := (chk_lim h3).2
    exact p123e (by omega) (knw w) _ q.bd (chk_vd h3) (by omega) O R a b m hM
  h68 := fun c p tq => p68e (k := k + 1999) c p id tq
  h69 := fun h0 c p tq m hm' => by
    obtain ⟨h1, h2, h3⟩ := cqE_ok h0
    rcases hm' with rfl | ⟨d, hd, rfl⟩
    · exact p69e (by omega) c p id tq _ _ (chk_vd h3) (by have := (chk_lim h3).2; omega)
    · obtain ⟨u, md⟩ := md_of hw hd
      exact p69e (by omega) c p id tq _ _ md.vd (by have := (chk_lim md.bd).2; omega)
  h70 := fun O R => p70e (k := k + 1999) sp q.fr hf O R
  h71 := fun h0 hwl h4 h5 p tq O R tk hM hs ht => by
    obtain ⟨h1, h2, h3⟩ := cqE_ok h0
    have hv := chk_vd h3
    have h6 := cat_len hw hl
    have h7 := nmc_sz q.bd hv
    have h8 := (chk_lim h3).1
    have hT : tk.length + 1 ≤ 418000 := by omega
    have hbud : 0 + esz (knw w) q.bd * (tk.length + 1) < big := by
      have := Nat.mul_le_mul h4 hT
      unfold big
      omega
    obtain ⟨r, v', O', R', e1, hq'⟩ := x71 (t := t) (N := N) hw (by unfold big; omega) (by omega) (by omega) hm p id tq tk (by omega) (k + 2000) w [] q.bd none (by simp) (wlk_cok q.bd q.fr hv hwl) hv (fun m h => by cases h) (by omega) O R 0 .nilm hM hs .nil hbud
    have hd : dp r ≤ 256 := by rw [hq'.dp]; exact h5
    refine ⟨r, O', R'.map deadA, ?_, hq'.fro, hq'.vd, hq'.nc, by rw [hq'.sz]; exact h4, hd, hq'.same rfl⟩
    rw [show k + 2000 = (k + 1999) + 1 from rfl, bx_in (cf := c71) (by unfold orcW; split <;> rfl) rfl (by rfl)] at e1
    rw [show k + 2000 = (k + 1999) + 1 from rfl, bc_seal, e1]
    simp only [sealed]
    rw [deep_ld hq'.ld hq'.vd hd]
    rfl
end
section
variable {G : Nat → Option AV} {cl : Caller} {yl : Nat → List AV → Mem → Option (AV × Mem)} {N : Nat}
theorem loop73 (l : List Nd) {O : List Obj} {R : List Arr} {a b : Nat} (hB : O[b]? = some (.cells [.fn 73 [] [.ptr a 0, .ptr b 0]])) (hb : l.length < big) (hN : l.length < N)
    (hc : ∀ x ∈ l, ∀ X, Gr (cl 73 [av x, .ptr a 0, .ptr b 0] ⟨O ++ X, R⟩) (.tup []) (O ++ X) R) :
    ∃ e s', iter false (evalC G false cl yl N c73b0) ⟨[2, 23, 24, 25], [(25, none)], true⟩ O.length R.length N ⟨[(2, .ptr b 0), (23, .slc .shared (avL l)), (24, .int .i64 l.length), (25, .int .i64 0)], ⟨O, R⟩, []⟩ = some (e, s') ∧ e ≠ .normal ∧
      (e = .exit 0 ∧ s'.mks = [] ∧ ∃ X, s'.m = ⟨O ++ X, R⟩) := by
  unfold big at hb
  refine (iter_inv (mu := false) (step := evalC G false cl yl N c73b0) (an := ⟨[2, 23, 24, 25], [(25, none)], true⟩) (k := O.length) (m := R.length) (N := N) l (fun _ => (none : Option Unit))
    (fun i st => ∃ X, st = ⟨[(2, .ptr b 0), (23, .slc .shared (avL l)), (24, .int .i64 l.length), (25, .int .i64 (i : Nat))], ⟨O ++ X, R⟩, []⟩)
    (fun r e s' => e = .exit 0 ∧ s'.mks = [] ∧ ∃ X, s'.m = ⟨O ++ X, R⟩) hN ⟨[], by simp⟩ ?_ ?_)
  · rintro i x st hx hi ⟨X, rfl⟩
    have hx' := (List.getElem?_eq_some_iff.1 hx).2
    obtain ⟨Y, k⟩ := hc x (mem_of_get hx) (X ++ [.cells (ndc x)])
    have hB' := fun r => get_old hB r
    have w1 := wrap_succ (i := i) (by omega)
    simp -implicitDefEqProofs at k
    simp -implicitDefEqProofs [c73b0, hi, hx', hB', k, w1]
  · rintro st ⟨X, rfl⟩
    simp -implicitDefEqProofs [c73b0]
theorem ev73 (n : Nd) (h10 : n.op ≠ 10) {O : List Obj} {R : List Arr} {a b : Nat} (hB : O[b]? = some (.cells [.fn 73 [] [.ptr a 0, .ptr b 0]])) (hb : n.l.length < big) (hN : n.l.length < N)
    (hc : ∀ x ∈ n.l, ∀ X, Gr (cl 73 [av x, .ptr a 0, .ptr b 0] ⟨O ++ X, R⟩) (.tup []) (O ++ X) R) :
    Gr (callA G false cl yl N c73 [av n, .ptr a 0, .ptr b 0] ⟨O, R⟩) (.tup []) O R := by
  have h10' : (n.op == 10) = false := by simp [h10]
  obtain ⟨e, ⟨ts, M, mks⟩, k1, -, rfl, rfl, X, rfl⟩ := loop73 (G := G) (cl := cl) (yl := yl) (N := N) n.l (O := O ++ [.cells (ndc n)]) (R := R) (get_old hB _) hb hN (fun x hx Y => by rw [List.append_assoc]; exact hc x hx _)
  simp at k1
  unfold Gr
  apply Exists.intro
  simp -implicitDefEqProofs [c73, h10', k1, resV]
  rfl
theorem ev26 (fr : List Vr) (sp : Sp) (n : Nd) {O : List Obj} {R : List Arr} {id : Nat}
    (h73 : ∀ O', O'[O.length + 2]? = some (.cells [.fn 73 [] [.ptr (O.length + 1) 0, .ptr (O.length + 2) 0]]) → Gr (cl 73 [av n, .ptr (O.length + 1) 0, .ptr (O.length + 2) 0] ⟨O', R⟩) (.tup []) O' R)
    (h74 : ∀ M, cl 74 [.slc .full []] M = some (.tup [], M)) (h75 : ∀ M, cl 75 [.slc .full []] M = some (.slc .full [], M)) :
    Gr (callA G false cl yl N c26 [.ptr id 0, .agg (qcs sp fr n)] ⟨O, R⟩) (.slc .full []) O R := by
  have hql := qcs_len sp fr n
  have hq6 : AV.agg (List.take 6 (qcs sp fr n).tail) = av n := by
    have : (qcs sp fr n).tail = ndc n := rfl
    rw [this, take_ndc, agg_ndc]
  obtain ⟨X, k⟩ := h73 (O ++ [.cells (qcs sp fr n), .cells [.slc .full []], .cells [.fn 73 [] [.ptr (O.length + 1) 0, .ptr (O.length + 2) 0]]]) (by simp)
  simp -implicitDefEqProofs at k
  unfold Gr
  apply Exists.intro
  simp -implicitDefEqProofs [c26, hql, hq6, k, h74, h75]
  rfl
end
section
variable {t : Nat} {N : Nat}
theorem p73e (hN : 20 < N) : ∀ (k : Nat) (n : Nd), ndE n = 0 → ncl n = true → dp n < k → ∀ O R a b, O[b]? = some (.cells [.fn 73 [] [.ptr a 0, .ptr b 0]]) → Gr (BC t N k 73 [av n, .ptr a 0, .ptr b 0] ⟨O, R⟩) (.tup []) O R := by
  intro k
  induction k with
  | zero => intro n _ _ h; omega
  | succ k ih =>
    intro n hv hc hd O R a b hB
    have h2 := l_le hv
    have h10 : n.op ≠ 10 := by
      cases n with
      | mk op ns so nn mm l =>
        simp only [ncl, Bool.and_eq_true, Bool.not_eq_true', beq_eq_false_iff_ne, ne_eq] at hc
        exact hc.1
    have hkid : ∀ x ∈ n.l, ncl x = true := by
      cases n with
      | mk op ns so nn mm l =>
        simp only [ncl, Bool.and_eq_true] at hc
        have : ∀ l : List Nd, nclL l = true → ∀ x ∈ l, ncl x = true := by
          intro l
          induction l with
          | nil => intro _ x hx; simp at hx
          | cons y ys ih2 =>
            intro h x hx
            simp only [nclL, Bool.and_eq_true] at h
            rcases List.mem_cons.1 hx with rfl | hx
            · exact h.1
            · exact ih2 h.2 x hx
        exact this l hc.2
    rw [BC, bw_in (cf := c73) (by unfold orcW; split <;> rfl) rfl rfl rfl]
    exact ev73 n h10 hB (by unfold big; omega) (by omega) (fun x hx X => ih x (ndE_kid hv hx) (hkid x hx) (by have := dp_child hx; omega) _ R a b (get_old hB X))
theorem p26e {k : Nat} (hN : 20 < N) (fr : List Vr) (sp : Sp) (n : Nd) (hv : ndE n = 0) (hc : ncl n = true) (hd : dp n < k + 1) (O : List Obj) (R : List Arr) (id : Nat) : Gr (BC t N (k + 2) 26 [.ptr id 0, .agg (qcs sp fr n)] ⟨O, R⟩) (.slc .full []) O R := by
  rw [BC, bw_in (cf := c26) (by unfold orcW; split <;> rfl) rfl rfl rfl]
  refine ev26 fr sp n (fun O' h => p73e hN (k + 1) n hv hc hd O' R _ _ h) (fun M => ?_) fun M => ?_
  · exact bw_sp (k := k) (spC_v nilE_inj () (by repeat first | exact .here | refine .there ?_ rfl) (by exact trivial) (by rfl) (by rfl) M)
  · exact bw_sp (k := k) (spC_v nilE_inj () (by repeat first | exact .here | refine .there ?_ rfl) (by exact trivial) (by rfl) (by rfl) M)
theorem p27e {k : Nat} (sp sp' : Sp) (fr : List Vr) (n : Nd) (hq : OkQ ⟨fr, n⟩) (M : Mem) : BC t N (k + 1) 27 [.agg (qcs sp fr n), .agg (qcs sp' fr n)] M = some (.bool true, M) := by
  refine bw_sp (spC_v eQ2_inj ⟨fr, n⟩ (by repeat first | exact .here | refine .there ?_ rfl) (by exact hq) ?_ (by rfl) M)
  have : argL [.agg (qcs sp fr n), .agg (qcs sp' fr n)] = some [qsv ⟨fr, n⟩, qsv ⟨fr, n⟩] := by
    cases n with
    | mk op ns so nn mm l => cases sp <;> cases sp' <;> rfl
  exact this
end
def c6i0 : CCode := (.reg [⟨some 5, (.box (.tmp 2)), none⟩, ⟨some 6, (.mov (.const (.bool false))), none⟩])
def c6i1 : CCode := (.seq (.reg [⟨some 17, (.mov (.tmp 0)), none⟩, ⟨some 18, (.call (.fn 8) [(.tmp 17)]), none⟩, ⟨some 19, (.un .not (.tmp 18)), none⟩, ⟨some 20, (.mov (.tmp 19)), none⟩, ⟨some 21, (.mov (.tmp 1)), some (20, false)⟩, ⟨some 22, (.call (.fn 8) [(.tmp 21)]), some (20, false)⟩, ⟨some 23, (.un .not (.tmp 22)), some (20, false)⟩, ⟨some 24, (.pick (.tmp 20) (.const (.bool true)) (.tmp 23)), none⟩, ⟨some 25, (.mov (.tmp 24)), none⟩, ⟨some 26, (.faddr 1 (.ag 6) (.tmp 5)), some (25, false)⟩, ⟨some 27, (.load (.ag 6) (.tmp 26)), some (25, false)⟩, ⟨some 28, (.call (.fn 23) [(.tmp 27)]), some (25, false)⟩, ⟨some 29, (.un .not (.tmp 28)), some (25, false)⟩, ⟨some 30, (.pick (.tmp 25) (.const (.bool true)) (.tmp 29)), none⟩, ⟨some 31, (.mov (.tmp 30)), none⟩, ⟨some 32, (.faddr 0 .sc (.tmp 5)), some (31, false)⟩, ⟨some 33, (.load .sc (.tmp 32)), some (31, false)⟩, ⟨some 34, (.len 1 (.tmp 33)), some (31, false)⟩, ⟨some 35, (.bin .gtr (.tmp 34) (.const (.int .i64 10))), some (31, false)⟩, ⟨some 36, (.pick (.tmp 31) (.const (.bool true)) (.tmp 35)), none⟩]) (.cond (.tmp 36) (.seq (.reg [⟨some 37, (.call (.fn 9) []), none⟩, ⟨some 6, (.mov (.tmp 37)), none⟩]) .ret) .skip))
def c6i2 : CCode := (.reg [⟨some 39, (.mov (.tmp 0)), none⟩, ⟨some 40, (.call (.fn 17) [(.tmp 39)]), none⟩, ⟨some 38, (.mov (.tmp 40)), none⟩, ⟨some 41, (.extr (.tmp 38) 0), none⟩, ⟨some 42, (.extr (.tmp 38) 1), none⟩, ⟨some 7, (.mov (.tmp 41)), none⟩, ⟨some 8, (.mov (.tmp 42)), none⟩])
def c6i3 : CCode := (.reg [⟨some 44, (.mov (.tmp 1)), none⟩, ⟨some 45, (.call (.fn 17) [(.tmp 44)]), none⟩, ⟨some 43, (.mov (.tmp 45)), none⟩, ⟨some 46, (.extr (.tmp 43) 0), none⟩, ⟨some 47, (.extr (.tmp 43) 1), none⟩, ⟨some 9, (.mov (.tmp 46)), none⟩, ⟨some 10, (.mov (.tmp 47)), none⟩])
def c6i4 : CCode := (.reg [⟨some 49, (.mov (.tmp 7)), none⟩, ⟨some 50, (.load (.ag 7) (.tmp 5)), none⟩, ⟨some 51, (.call (.fn 25) [(.tmp 50)]), none⟩, ⟨some 52, (.call (.fn 24) [(.tmp 49), (.tmp 51)]), none⟩, ⟨some 48, (.mov (.tmp 52)), none⟩, ⟨some 53, (.extr (.tmp 48) 0), none⟩, ⟨some 54, (.extr (.tmp 48) 1), none⟩, ⟨some 11, (.alloc [(.slc .full []), (.int .i64 0), (.slc .full []), (.int .i64 0), (.int .i64 0), (.int .i64 0), (.slc .full [])]), none⟩, ⟨none, (.store 7 (.tmp 11) (.tmp 53)), none⟩, ⟨some 12, (.mov (.tmp 54)), none⟩])
def c6i5 : CCode := (.seq (.reg [⟨some 55, (.mov (.tmp 12)), none⟩, ⟨some 56, (.bin .neq (.tmp 55) (.const (.int .i64 0))), none⟩]) (.cond (.tmp 56) (.seq (.reg [⟨some 57, (.call (.fn 9) []), none⟩, ⟨some 6, (.mov (.tmp 57)), none⟩]) .ret) .skip))
def c6i6 : CCode := (.reg [⟨some 59, (.mov (.tmp 9)), none⟩, ⟨some 60, (.load (.ag 7) (.tmp 11)), none⟩, ⟨some 61, (.call (.fn 24) [(.tmp 59), (.tmp 60)]), none⟩, ⟨some 58, (.mov (.tmp 61)), none⟩, ⟨some 62, (.extr (.tmp 58) 0), none⟩, ⟨some 63, (.extr (.tmp 58) 1), none⟩, ⟨some 13, (.alloc [(.slc .full []), (.int .i64 0), (.slc .full []), (.int .i64 0), (.int .i64 0), (.int .i64 0), (.slc .full [])]), none⟩, ⟨none, (.store 7 (.tmp 13) (.tmp 62)), none⟩, ⟨some 14, (.mov (.tmp 63)), none⟩])
def c6i7 : CCode := (.reg [⟨some 65, (.mov (.tmp 7)), none⟩, ⟨some 66, (.load (.ag 7) (.tmp 11)), none⟩, ⟨some 67, (.call (.fn 24) [(.tmp 65), (.tmp 66)]), none⟩, ⟨some 64, (.mov (.tmp 67)), none⟩, ⟨some 68, (.extr (.tmp 64) 0), none⟩, ⟨some 69, (.extr (.tmp 64) 1), none⟩, ⟨some 15, (.alloc [(.slc .full []), (.int .i64 0), (.slc .full []), (.int .i64 0), (.int .i64 0), (.int .i64 0), (.slc .full [])]), none⟩, ⟨none, (.store 7 (.tmp 15) (.tmp 68)), none⟩, ⟨some 16, (.mov (.tmp 69)), none⟩])
def c6i8 : CCode := (.reg [⟨some 70, (.mov (.tmp 7)), none⟩, ⟨some 71, (.load (.ag 7) (.tmp 11)), none⟩, ⟨some 72, (.call (.fn 26) [(.tmp 70), (.tmp 71)]), none⟩, ⟨some 73, (.len 1 (.tmp 72)), none⟩, ⟨some 74, (.bin .eql (.tmp 73) (.const (.int .i64 0))), none⟩, ⟨some 75, (.mov (.tmp 74)), none⟩, ⟨some 76, (.mov (.tmp 14)), some (75, true)⟩, ⟨some 77, (.bin .eql (.tmp 76) (.const (.int .i64 0))), some (75, true)⟩, ⟨some 78, (.pick (.tmp 75) (.tmp 77) (.const (.bool false))), none⟩, ⟨some 79, (.mov (.tmp 78)), none⟩, ⟨some 80, (.mov (.tmp 16)), some (79, true)⟩, ⟨some 81, (.bin .eql (.tmp 80) (.const (.int .i64 0))), some (79, true)⟩, ⟨some 82, (.pick (.tmp 79) (.tmp 81) (.const (.bool false))), none⟩, ⟨some 83, (.mov (.tmp 82)), none⟩, ⟨some 84, (.load (.ag 7) (.tmp 11)), some (83, true)⟩, ⟨some 85, (.load (.ag 7) (.tmp 13)), some (83, true)⟩, ⟨some 86, (.call (.fn 27) [(.tmp 84), (.tmp 85)]), some (83, true)⟩, ⟨some 87, (.pick (.tmp 83) (.tmp 86) (.const (.bool false))), none⟩, ⟨some 88, (.mov (.tmp 87)), none⟩, ⟨some 89, (.load (.ag 7) (.tmp 11)), some (88, true)⟩, ⟨some 90, (.load (.ag 7) (.tmp 15)), some (88, true)⟩, ⟨some 91, (.call (.fn 27) [(.tmp 89), (.tmp 90)]), some (88, true)⟩, ⟨some 92, (.pick (.tmp 88) (.tmp 91) (.const (.bool false))), none⟩, ⟨some 93, (.mov (.tmp 92)), none⟩, ⟨some 94, (.faddr 0 .sc (.tmp 11)), some (93, true)⟩, ⟨some 95, (.load .sc (.tmp 94)), some (93, true)⟩, ⟨some 96, (.len 1 (.tmp 95)), some (93, true)⟩, ⟨some 97, (.faddr 0 .sc (.tmp 5)), some (93, true)⟩, ⟨some 98, (.load .sc (.tmp 97)), some (93, true)⟩, ⟨some 99, (.len 1 (.tmp 98)), some (93, true)⟩, ⟨some 100, (.bin .eql (.tmp 96) (.tmp 99)), some (93, true)⟩, ⟨some 101, (.pick (.tmp 93) (.tmp 100) (.const (.bool false))), none⟩, ⟨some 102, (.mov (.tmp 101)), none⟩, ⟨some 103, (.call (.fn 9) []), some (102, true)⟩, ⟨some 104, (.pick (.tmp 102) (.tmp 103) (.const (.bool false))), none⟩, ⟨some 6, (.mov (.tmp 104)), none⟩])
def c6i9 : CCode := .ret
def c6t8 : CCode := .seq c6i8 c6i9
def c6t6 : CCode := .seq c6i6 (.seq c6i7 (c6t8))
def c6t4 : CCode := .seq c6i4 (.seq c6i5 (c6t6))
def c6t2 : CCode := .seq c6i2 (.seq c6i3 (c6t4))
theorem c6_b : c6.body = .seq c6i0 (.seq c6i1 c6t2) := rfl
structure Cs6 (cl : Caller) (l o : List Mc) (q : Qn) : Prop where
  h8 : ∀ M, cl 8 [.slc .shared (l.map mcv)] M = some (.bool (sme l), M)
  h8' : ∀ M, cl 8 [.slc .shared (o.map mcv)] M = some (.bool (sme o), M)
  h23 : ∃ b, ∀ M, cl 23 [av q.bd] M = some (.bool b, M)
  h9 : ∀ M, cl 9 [] M = some (.bool true, M)
  h25 : ∀ M, cl 25 [qsv q] M = some (qsv q, M)
  h17 : l.length ≤ 5 → ∀ O R, ∃ X Y w, cl 17 [.slc .shared (l.map mcv)] ⟨O, R⟩ = some (.tup [.ptr O.length 0, .slc (.own R.length) (w.map mcv)], ⟨O ++ X, R ++ Y⟩) ∧ SetR (O ++ X) O.length w ∧ Gd w ∧ Wf w ∧ w.length ≤ 5
  h17' : o.length ≤ 5 → ∀ O R, ∃ X Y w, cl 17 [.slc .shared (o.map mcv)] ⟨O, R⟩ = some (.tup [.ptr O.length 0, .slc (.own R.length) (w.map mcv)], ⟨O ++ X, R ++ Y⟩) ∧ SetR (O ++ X) O.length w ∧ Gd w ∧ Wf w ∧ w.length ≤ 5
  h24 : ∀ w sp (q' : Qn) id O R, SetR O id w → Gd w → Wf w → w.length ≤ 5 → OkQ q' → q'.fr.length ≤ 10 → (q' = q ∨ sz q'.bd ≤ 4096 ∧ ndE q'.bd = 0) → ∃ cs e O' R', cl 24 [.ptr id 0, .agg (qcs sp q'.fr q'.bd)] ⟨O, R⟩ = some (.tup [.agg cs, .int .i64 e], ⟨O', R'⟩) ∧
    X24 O q'.fr (cqE q') (wlk w false q'.bd q'.fr) (esz (knw w) q'.bd) (edp (knw w) q'.bd) (RQ24 w q'.bd) cs e O'
  h26 : ∀ fr sp n id O R, ndE n = 0 → ncl n = true → dp n ≤ 256 → Gr (cl 26 [.ptr id 0, .agg (qcs sp fr n)] ⟨O, R⟩) (.slc .full []) O R
  h27 : ∀ sp sp' fr n M, OkQ ⟨fr, n⟩ → cl 27 [.agg (qcs sp fr n), .agg (qcs sp' fr n)] M = some (.bool true, M)
theorem qcs_zero (sp : Sp) (fr : List Vr) (n : Nd) : (qcs sp fr n)[0]? = some (.slc sp (fr.map vrv)) := rfl
theorem qcs_take (sp : Sp) (fr : List Vr) (n : Nd) : List.take 7 (qcs sp fr n) = qcs sp fr n := List.take_of_length_le (by rw [qcs_len]; exact Nat.le_refl _)
theorem qsv_qcs (q : Qn) : qsv q = .agg (qcs .shared q.fr q.bd) := (agg_qnd q.fr q.bd).symm
theorem qcs_cells (sp : Sp) (fr : List Vr) (n : Nd) : (qcs sp fr n) = .slc sp (fr.map vrv) :: ndc n := rfl
structure Cl6 (fr : List Vr) (r : Nd) : Prop where
  cq : cqE ⟨fr, r⟩ = 0
  nc : ncl r = true
  ok : OkQ ⟨fr, r⟩
theorem Cl6.again {cl : Caller} {l o : List Mc} {q : Qn} (h : Cs6 cl l o q) {fr : List Vr} {r : Nd} (hc : Cl6 fr r) {w : List Mc} {id : Nat} {O : List Obj} {R : List Arr} (sp : Sp) (hs : SetR O id w) (hg : Gd w) (hw : Wf w) (hl : w.length ≤ 5) :
    ∃ sp' O' R', cl 24 [.ptr id 0, .agg (qcs sp fr r)] ⟨O, R⟩ = some (.tup [.agg (qcs sp' fr r), .int .i64 0], ⟨O', R'⟩) ∧ Old O O' := by
  obtain ⟨h1, h2, h3⟩ := cqE_ok hc.cq
  have hlim := chk_lim h3
  simp only at h1 h2 h3 hlim
  obtain ⟨cs, e, O', R', k1, k2⟩ := h.h24 w sp ⟨fr, r⟩ id O R hs hg hw hl hc.ok (by show fr.length ≤ 10; omega) (.inr ⟨hlim.1, chk_vd h3⟩)
  obtain ⟨z1, z2⟩ := esz_ncl (kn := knw w) r hc.nc
  have he : e = 0 := k2.ok hc.cq (ncl_wlk r fr hc.nc) (by rw [z1]; exact hlim.1) (by rw [z2]; exact hlim.2)
  subst he
  obtain ⟨-, sp', r', rfl, hr⟩ := k2.zero rfl
  rw [hr.same hc.nc] at k1
  exact ⟨sp', O', R', k1, k2.old⟩
section
variable {G : Nat → Option AV} {cl : Caller} {yl : Nat → List AV → Mem → Option (AV × Mem)} {N : Nat}
theorem evD6 {l o : List Mc} {q : Qn} (h : Cs6 cl l o q) {fr : List Vr} {r : Nd} (hc : Cl6 fr r) (hfr : q.fr.length = fr.length) {b i1 i2 i3 : Nat} {sp1 sp2 sp3 : Sp} {O : List Obj} {R : List Arr} {ts : Slots}
    (g0 : O[0]? = some (.cells (qcs .shared q.fr q.bd))) (g1 : O[i1]? = some (.cells (qcs sp1 fr r))) (g2 : O[i2]? = some (.cells (qcs sp2 fr r))) (g3 : O[i3]? = some (.cells (qcs sp3 fr r)))
    (l5 : look 5 ts = .ptr 0 0) (l7 : look 7 ts = .ptr b 0) (l11 : look 11 ts = .ptr i1 0) (l13 : look 13 ts = .ptr i2 0) (l14 : look 14 ts = .int .i64 0) (l15 : look 15 ts = .ptr i3 0) (l16 : look 16 ts = .int .i64 0) :
    ∃ (M' : Mem) (ts' : Slots), evalC G false cl yl N c6t8 ⟨ts, ⟨O, R⟩, []⟩ = some (.ret, ⟨ts', M', []⟩) ∧ look 6 ts' = .bool true := by
  obtain ⟨h1, h2, h3⟩ := cqE_ok hc.cq
  have hlim := chk_lim h3
  simp only at h1 h2 h3 hlim
  obtain ⟨X, k26⟩ := h.h26 fr sp1 r b O R (chk_vd h3) hc.nc hlim.2
  have h9 := h.h9
  have k27 := fun sp sp' M => h.h27 sp sp' fr r M hc.ok
  have e0 := get_old g0 X
  have e1 := get_old g1 X
  have e2 := get_old g2 X
  have e3 := get_old g3 X
  have q1 := qcs_len sp1 fr r
  have q2 := qcs_len sp2 fr r
  have q3 := qcs_len sp3 fr r
  have t1 := qcs_take sp1 fr r
  have t2 := qcs_take sp2 fr r
  have t3 := qcs_take sp3 fr r
  have z1 := qcs_zero sp1 fr r
  have z1' : ∀ hh, (qcs sp1 fr r)[0]'hh = .slc sp1 (fr.map vrv) := fun _ => rfl
  have z0' : ∀ hh, (qcs .shared q.fr q.bd)[0]'hh = .slc .shared (q.fr.map vrv) := fun _ => rfl
  have z0 := qcs_zero .shared q.fr q.bd
  refine ⟨⟨O ++ X, R⟩, ?_⟩
  apply Exists.intro
  apply And.intro
  · simp -implicitDefEqProofs [c6t8, c6i8, c6i9, l5, l7, l11, l13, l14, l15, l16, g1, q1, q2, q3, t1, t2, t3, k26, e0, e1, e2, e3, k27, z1, z0, z1', z0', h9, hfr]
    rfl
  · first | rfl | simp
end
section
variable {G : Nat → Option AV} {cl : Caller} {yl : Nat → List AV → Mem → Option (AV × Mem)} {N : Nat}
theorem SetR.old {O O' : List Obj} {id : Nat} {w : List Mc} (h : SetR O id w) (k : Old O O') : SetR O' id w := by
  obtain ⟨sp, h⟩ := h
  exact ⟨sp, k _ _ h⟩
structure Us (O : List Obj) (id : Nat) (w : List Mc) : Prop where
  s : SetR O id w
  g : Gd w
  f : Wf w
  l : w.length ≤ 5
theorem Us.old {O O' : List Obj} {id : Nat} {w : List Mc} (h : Us O id w) (k : Old O O') : Us O' id w := ⟨h.s.old k, h.g, h.f, h.l⟩
theorem evC6 {l o : List Mc} {q : Qn} (h : Cs6 cl l o q) {fr : List Vr} {r : Nd} (hc : Cl6 fr r) (hfr : q.fr.length = fr.length) {b c i1 : Nat} {wb wo : List Mc} {sp1 : Sp} {O : List Obj} {R : List Arr} {ts : Slots}
    (g0 : O[0]? = some (.cells (qcs .shared q.fr q.bd))) (g1 : O[i1]? = some (.cells (qcs sp1 fr r))) (hb : Us O b wb) (ho : Us O c wo)
    (l5 : look 5 ts = .ptr 0 0) (l7 : look 7 ts = .ptr b 0) (l9 : look 9 ts = .ptr c 0) (l11 : look 11 ts = .ptr i1 0) :
    ∃ (M' : Mem) (ts' : Slots), evalC G false cl yl N c6t6 ⟨ts, ⟨O, R⟩, []⟩ = some (.ret, ⟨ts', M', []⟩) ∧ look 6 ts' = .bool true := by
  obtain ⟨sp2, O1, R1, k1, F1⟩ := hc.again h (R := R) sp1 ho.s ho.g ho.f ho.l
  have G1 : Old O (O1 ++ [.cells (qcs sp2 fr r)]) := F1.trans (.app _ _)
  obtain ⟨sp3, O2, R2, k2, F2⟩ := hc.again h (R := R1) (O := O1 ++ [.cells (qcs sp2 fr r)]) sp1 (hb.old G1).s hb.g hb.f hb.l
  have G2 := G1.trans F2
  have g1' := G1 _ _ g1
  have e2 : O2[O1.length]? = some (.cells (qcs sp2 fr r)) := F2 _ _ (by simp)
  have q1 := qcs_len sp1 fr r
  have q2 := qcs_len sp2 fr r
  have q3 := qcs_len sp3 fr r
  have t1 := qcs_take sp1 fr r
  have mid : ∃ ts2 : Slots, evalC G false cl yl N c6t6 ⟨ts, ⟨O, R⟩, []⟩ = evalC G false cl yl N c6t8 ⟨ts2, ⟨O2 ++ [.cells (qcs sp3 fr r)], R2⟩, []⟩ ∧ look 5 ts2 = .ptr 0 0 ∧ look 7 ts2 = .ptr b 0 ∧ look 11 ts2 = .ptr i1 0 ∧ look 13 ts2 = .ptr O1.length 0 ∧ look 14 ts2 = .int .i64 0 ∧ look 15 ts2 = .ptr O2.length 0 ∧ look 16 ts2 = .int .i64 0 := by
    apply Exists.intro
    apply And.intro
    · simp -implicitDefEqProofs [c6t6, c6i6, c6i7, l7, l9, l11, g1, g1', q1, q2, q3, t1, k1, k2]
      rfl
    · refine ⟨?_, ?_, ?_, ?_, ?_, ?_, ?_⟩ <;> first | rfl | simpa using by assumption
  obtain ⟨ts2, m1, m5, m7, m11, m13, m14, m15, m16⟩ := mid
  rw [m1]
  exact evD6 (sp3 := sp3) h hc hfr (get_old (G2 _ _ g0) _) (get_old (G2 _ _ g1) _) (get_old e2 _) (by simp) m5 m7 m11 m13 m14 m15 m16
theorem evB6 {l o : List Mc} {q : Qn} (h : Cs6 cl l o q) (hq : OkQ q) (hf : q.fr.length ≤ 10) {b c : Nat} {wb wo : List Mc} {O : List Obj} {R : List Arr} {ts : Slots}
    (g0 : O[0]? = some (.cells (qcs .shared q.fr q.bd))) (hb : Us O b wb) (ho : Us O c wo)
    (l5 : look 5 ts = .ptr 0 0) (l7 : look 7 ts = .ptr b 0) (l9 : look 9 ts = .ptr c 0) :
    ∃ (M' : Mem) (ts' : Slots), evalC G false cl yl N c6t4 ⟨ts, ⟨O, R⟩, []⟩ = some (.ret, ⟨ts', M', []⟩) ∧ look 6 ts' = .bool true := by
  obtain ⟨cs, e, O1, R1, k1, kx⟩ := h.h24 wb .shared q b O R hb.s hb.g hb.f hb.l hq hf (.inl rfl)
  have h25 := h.h25
  rw [qsv_qcs] at h25
  have q0 := qcs_len .shared q.fr q.bd
  have t0 := qcs_take .shared q.fr q.bd
  have hl := kx.len
  have ht : List.take 7 cs = cs := List.take_of_length_le (by omega)
  have h9 := h.h9
  by_cases he : e = 0
  · subst he
    obtain ⟨hcq, sp, r, rfl, hr⟩ := kx.zero rfl
    obtain ⟨c1, c2, c3⟩ := cqE_ok hcq
    have hchk : chk r = 0 := by
      unfold chk grt
      have h1 := hr.sz
      have h2 := hr.dp
      rw [if_pos hr.vd, if_neg (by omega), if_neg (by omega)]
    have hc : Cl6 q.fr r := by
      refine ⟨?_, hr.nc, hq.fr, hq.vs, ?_⟩
      · unfold cqE
        simp only
        rw [if_neg (by omega), c2, if_pos rfl]
        exact hchk
      · have h1 := bk_vd r hr.vd
        have h2 := hr.sz
        show bk r ≤ big
        unfold big
        omega
    have F : Old O (O1 ++ [.cells (qcs sp q.fr r)]) := kx.old.trans (.app _ _)
    have mid : ∃ ts2 : Slots, evalC G false cl yl N c6t4 ⟨ts, ⟨O, R⟩, []⟩ = evalC G false cl yl N c6t6 ⟨ts2, ⟨O1 ++ [.cells (qcs sp q.fr r)], R1⟩, []⟩ ∧ look 5 ts2 = .ptr 0 0 ∧ look 7 ts2 = .ptr b 0 ∧ look 9 ts2 = .ptr c 0 ∧ look 11 ts2 = .ptr O1.length 0 := by
      apply Exists.intro
      apply And.intro
      · simp -implicitDefEqProofs [c6t4, c6i4, c6i5, l5, l7, g0, q0, t0, h25, k1, hl]
        rfl
      · refine ⟨?_, ?_, ?_, ?_⟩ <;> first | rfl | simpa using by assumption
    obtain ⟨ts2, m1, m5, m7, m9, m11⟩ := mid
    rw [m1]
    exact evC6 (sp1 := sp) h hc rfl (F _ _ g0) (by simp) (hb.old F) (ho.old F) m5 m7 m9 m11
  · have he' : (e != 0) = true := by simp [he]
    refine ⟨⟨O1 ++ [.cells cs], R1⟩, ?_⟩
    apply Exists.intro
    apply And.intro
    · simp -implicitDefEqProofs [c6t4, c6i4, c6i5, l5, l7, g0, q0, t0, h25, k1, hl, he, he', h9]
      rfl
    · first | rfl | simp
theorem evA6 {l o : List Mc} {q : Qn} (h : Cs6 cl l o q) (hq : OkQ q) (hf : q.fr.length ≤ 10) (hl : l.length ≤ 5) (hlo : o.length ≤ 5) {ts : Slots}
    (l0 : look 0 ts = .slc .shared (l.map mcv)) (l1 : look 1 ts = .slc .shared (o.map mcv)) (l5 : look 5 ts = .ptr 0 0) :
    ∃ (M' : Mem) (ts' : Slots), evalC G false cl yl N c6t2 ⟨ts, ⟨[.cells (qcs .shared q.fr q.bd)], []⟩, []⟩ = some (.ret, ⟨ts', M', []⟩) ∧ look 6 ts' = .bool true := by
  obtain ⟨X, Y, wb, k1, s1, g1, f1, n1⟩ := h.h17 hl [.cells (qcs .shared q.fr q.bd)] []
  obtain ⟨X2, Y2, wo, k2, s2, g2, f2, n2⟩ := h.h17' hlo (.cells (qcs .shared q.fr q.bd) :: X) Y
  simp -implicitDefEqProofs at k1 k2
  have mid : ∃ ts2 : Slots, evalC G false cl yl N c6t2 ⟨ts, ⟨[.cells (qcs .shared q.fr q.bd)], []⟩, []⟩ = evalC G false cl yl N c6t4 ⟨ts2, ⟨(.cells (qcs .shared q.fr q.bd) :: X) ++ X2, Y ++ Y2⟩, []⟩ ∧ look 5 ts2 = .ptr 0 0 ∧ look 7 ts2 = .ptr 1 0 ∧ look 9 ts2 = .ptr (X.length + 1) 0 := by
    apply Exists.intro
    apply And.intro
    · simp -implicitDefEqProofs [c6t2, c6i2, c6i3, l0, l1, k1, k2]
      rfl
    · refine ⟨?_, ?_, ?_⟩ <;> first | rfl | simpa using by assumption
  obtain ⟨ts2, m1, m5, m7, m9⟩ := mid
  rw [m1]
  exact evB6 h hq hf (by simp) ⟨s1.grow X2, g1, f1, n1⟩ ⟨s2, g2, f2, n2⟩ m5 m7 m9
theorem ev6 (l o : List Mc) (q : Qn) (hq : OkQ q) (h : Cs6 cl l o q) : pureA G false cl yl N c6 [.slc .shared (l.map mcv), .slc .shared (o.map mcv), qsv q] = some (.bool true, none) := by
  have h8 := h.h8
  have h8' := h.h8'
  obtain ⟨b23, h23⟩ := h.h23
  have h9 := h.h9
  have hn6 : (qcs .shared q.fr q.bd).length = 7 := qcs_len _ _ _
  have hq6 : AV.agg (List.take 6 (qcs .shared q.fr q.bd).tail) = av q.bd := by
    have : (qcs .shared q.fr q.bd).tail = ndc q.bd := rfl
    rw [this, take_ndc, agg_ndc]
  have z0' : ∀ hh, (qcs .shared q.fr q.bd)[0]'hh = .slc .shared (q.fr.map vrv) := fun _ => rfl
  have z0 := qcs_zero .shared q.fr q.bd
  have harg : argL [.slc .shared (l.map mcv), .slc .shared (o.map mcv), qsv q] = some [.slc .shared (l.map mcv), .slc .shared (o.map mcv), .agg (qcs .shared q.fr q.bd)] := by
    rw [← qsv_qcs]; rfl
  have cut : callA G false cl yl N c6 [.slc .shared (l.map mcv), .slc .shared (o.map mcv), .agg (qcs .shared q.fr q.bd)] ⟨[], []⟩ = none ∨ True := .inr trivial
  suffices hx : ∃ M, callA G false cl yl N c6 [.slc .shared (l.map mcv), .slc .shared (o.map mcv), .agg (qcs .shared q.fr q.bd)] ⟨[], []⟩ = some (.bool true, M) by
    obtain ⟨M, hM⟩ := hx
    unfold pureA
    rw [harg]
    simp only [hM]
    rfl
  have early : ∀ {ts : Slots} {O : List Obj}, evalC G false cl yl N c6.body ⟨frame 0 [.slc .shared (l.map mcv), .slc .shared (o.map mcv), .agg (qcs .shared q.fr q.bd)], ⟨[], []⟩, []⟩ = some (.ret, ⟨ts, ⟨O, []⟩, []⟩) → look 6 ts = .bool true → ∃ M, callA G false cl yl N c6 [.slc .shared (l.map mcv), .slc .shared (o.map mcv), .agg (qcs .shared q.fr q.bd)] ⟨[], []⟩ = some (.bool true, M) := by
    intro ts O h1 h2
    refine ⟨⟨O, []⟩, ?_⟩
    unfold callA
    rw [h1]
    simp -implicitDefEqProofs [leave, takeMarks, h2, c6]
  cases c1 : sme l with
  | false =>
    rw [c1] at h8
    refine early (ts := ?_) (O := [.cells (qcs .shared q.fr q.bd)]) ?_ ?_
    rotate_left
    · rw [c6_b]
      simp -implicitDefEqProofs [c6i0, c6i1, h8, h9]
      rfl
    · first | rfl | simp
  | true =>
    rw [c1] at h8
    cases c2 : sme o with
    | false =>
      rw [c2] at h8'
      refine early (ts := ?_) (O := [.cells (qcs .shared q.fr q.bd)]) ?_ ?_
      rotate_left
      · rw [c6_b]
        simp -implicitDefEqProofs [c6i0, c6i1, h8, h8', h9]
        rfl
      · first | rfl | simp
    | true =>
      rw [c2] at h8'
      cases b23 with
      | false =>
        refine early (ts := ?_) (O := [.cells (qcs .shared q.fr q.bd)]) ?_ ?_
        rotate_left
        · rw [c6_b]
          simp -implicitDefEqProofs [c6i0, c6i1, h8, h8', h23, hn6, hq6, h9]
          rfl
        · first | rfl | simp
      | true =>
        by_cases c3 : q.fr.length ≤ 10
        · have c3' : ¬ (10 : Int) < (q.fr.length : Int) := by omega
          have hl : l.length ≤ 5 := by unfold sme at c1; simp at c1; exact c1.1
          have hlo : o.length ≤ 5 := by unfold sme at c2; simp at c2; exact c2.1
          have mid : ∃ ts2 : Slots, evalC G false cl yl N c6.body ⟨frame 0 [.slc .shared (l.map mcv), .slc .shared (o.map mcv), .agg (qcs .shared q.fr q.bd)], ⟨[], []⟩, []⟩ = evalC G false cl yl N c6t2 ⟨ts2, ⟨[.cells (qcs .shared q.fr q.bd)], []⟩, []⟩ ∧ look 0 ts2 = .slc .shared (l.map mcv) ∧ look 1 ts2 = .slc .shared (o.map mcv) ∧ look 5 ts2 = .ptr 0 0 := by
            apply Exists.intro
            apply And.intro
            · rw [c6_b]
              simp -implicitDefEqProofs [c6i0, c6i1, h8, h8', h23, hn6, hq6, z0, z0', c3', h9]
              rfl
            · refine ⟨?_, ?_, ?_⟩ <;> first | rfl | simp
          obtain ⟨ts2, m1, m2, m3, m4⟩ := mid
          obtain ⟨M', ts', e1, e2⟩ := evA6 (G := G) (yl := yl) (N := N) h hq c3 hl hlo m2 m3 m4
          refine ⟨M', ?_⟩
          unfold callA
          rw [m1, e1]
          simp -implicitDefEqProofs [leave, takeMarks, e2, c6]
        · have c3' : (10 : Int) < (q.fr.length : Int) := by omega
          refine early (ts := ?_) (O := [.cells (qcs .shared q.fr q.bd)]) ?_ ?_
          rotate_left
          · rw [c6_b]
            simp -implicitDefEqProofs [c6i0, c6i1, h8, h8', h23, hn6, hq6, z0, z0', c3', h9]
            rfl
          · first | rfl | simp
end
def s17 (f : Nat) : Bool := Nat.beq f 17
section
variable {t : Nat} {N : Nat}
noncomputable def K6 (t N : Nat) : Caller := twoC s17 (BP t N 1001) (BC t N 3001)
theorem bc_ok (k : Nat) : CallerOK Tryz.prog (GG t) (BC t N k) ∧ YielderOK Tryz.prog (GG t) (YC t N k) :=
  both_ok (T := TW (orcOf K8)) hmix kis tabOK (orcW_ok kk8) k false
theorem k6_ok : CallerOK Tryz.prog (GG t) (K6 t N) := twoC_ok (bp_ok 1001).1 (bc_ok 3001).1
theorem k6_c {f : Nat} {ags : List AV} {M : Mem} (h : s17 f = false) : K6 t N f ags M = BC t N 3001 f ags M := by
  unfold K6
  rw [twoC_f h]
theorem k6_17 {ags : List AV} {M : Mem} : K6 t N 17 ags M = BP t N 1001 17 ags M := by
  unfold K6
  rw [twoC_t rfl]
theorem k17 (l : List Mc) (hl : ∀ d ∈ l, OkM d) (hN : 65 < N) (hbN : ∀ d ∈ l, bk d.bd < N ∧ d.ps.length < N) (h5 : l.length ≤ 5) (O : List Obj) (R : List Arr) :
    ∃ X Y w, K6 t N 17 [.slc .shared (l.map mcv)] ⟨O, R⟩ = some (.tup [.ptr O.length 0, .slc (.own R.length) (w.map mcv)], ⟨O ++ X, R ++ Y⟩) ∧ SetR (O ++ X) O.length w ∧ Gd w ∧ Wf w ∧ w.length ≤ 5 := by
  obtain ⟨X, Y, a, w, h1, h2, h3, h4, h6, h7⟩ := ev17w (G := GG t) (cl := BP t N 1000) (yl := YP t N 1000) (N := N) l h5 hl (by omega) (cs3 l hl hN hbN) O R
  refine ⟨X, Y, w, ?_, h2.r, h4, h6, by omega⟩
  rw [k6_17, BP, bw_in (cf := c17) (by unfold orcW; split <;> rfl) rfl rfl rfl]
  exact h1
theorem cs6 (l o : List Mc) (q : Qn) (hl : ∀ d ∈ l, OkM d) (ho : ∀ d ∈ o, OkM d) (hq : OkQ q) (hN : big < N) : Cs6 (K6 t N) l o q where
  h8 := fun M => (k6_c rfl).trans (bw_sp (k := 3000) (spC_v eW1_inj l (by repeat first | exact .here | refine .there ?_ rfl) (by exact hl) (by rfl) (by rfl) M))
  h8' := fun M => (k6_c rfl).trans (bw_sp (k := 3000) (spC_v eW1_inj o (by repeat first | exact .here | refine .there ?_ rfl) (by exact ho) (by rfl) (by rfl) M))
  h23 := ⟨few q.bd, fun M => (k6_c rfl).trans (bw_sp (k := 3000) (spC_v av1_inj q.bd (by repeat first | exact .here | refine .there ?_ rfl) (by exact hq.bd) (by exact a1 _) (by rfl) M))⟩
  h9 := fun M => (k6_c rfl).trans (bw_sp (k := 3000) (spC_v unit_inj () (by repeat first | exact .here | refine .there ?_ rfl) (by exact trivial) (by rfl) (by rfl) M))
  h25 := fun M => (k6_c rfl).trans (bw_sp (k := 3000) (spC_v eQ_inj q (by repeat first | exact .here | refine .there ?_ rfl) (by exact hq) (by exact aQ _) (by rfl) M))
  h17 := fun h5 O R => k17 l hl (by unfold big at hN; omega) (fun d hd => ⟨by have := (hl d hd).bd; omega, by have := (hl d hd).ps; omega⟩) h5 O R
  h17' := fun h5 O R => k17 o ho (by unfold big at hN; omega) (fun d hd => ⟨by have := (ho d hd).bd; omega, by have := (ho d hd).ps; omega⟩) h5 O R
  h24 := fun w sp q' id O R hs hg hw h5 hq' hf _ => by
    have hN' : 4294967296 < N := hN
    have hbd := hq'.bd
    obtain ⟨cs, e, O', R', k1, k2⟩ := ev24 (G := GG t) (cl := BC t N (1000 + 2000)) (yl := YC t N 3000) (N := N) q'.fr sp q'.bd w (cs24 (t := t) (k := 1000) (by omega) hw h5 hg.ok sp q' hq' hf (by omega) id) (R := R) hs (by unfold big; omega) (by omega) (by unfold big; omega) (by omega) (fun d hd => ⟨(hg.ok d hd).ps, by have := (hg.ok d hd).ps; omega⟩)
    refine ⟨cs, e, O', R', ?_, k2⟩
    rw [k6_c rfl, BC, bw_in (cf := c24) (by unfold orcW; split <;> rfl) rfl rfl rfl]
    exact k1
  h26 := fun fr sp n id O R hv hc hd => by
    have hN' : 4294967296 < N := hN
    rw [k6_c rfl]
    exact p26e (k := 2999) (by omega) fr sp n hv hc (by omega) O R id
  h27 := fun sp sp' fr n M hq' => by
    rw [k6_c rfl]
    exact p27e (k := 3000) sp sp' fr n hq' M
theorem orc6 (l o : List Mc) (q : Qn) (hl : ∀ d ∈ l, OkM d) (ho : ∀ d ∈ o, OkM d) (hq : OkQ q) : OrcAt Tryz.prog (GG t) 6 [.slc .shared (l.map mcv), .slc .shared (o.map mcv), qsv q] (.bool true, none) := by
  have hr := ev6 (G := GG t) (cl := K6 t (big + 100)) (yl := YC t (big + 100) 3001) (N := big + 100) l o q hq (cs6 l o q hl ho hq (by omega))
  intro U bs es w args hG hV hfr
  exact good_pgood (codes_ok hmix kis k6_ok (bc_ok 3001).2).1 ok6 hr hG hV hfr
end
end Go.Proofs.Ae
