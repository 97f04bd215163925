/- Further functions: what they answer, and what that means. -/
import Derived.Test.YtlaomcfiadmamaaGreatDoorL
set_option linter.unusedSimpArgs false
set_option linter.unusedVariables false
set_option linter.unusedSectionVars false
namespace Go.Proofs.Ae
open Go Go.RowKit
def rngF (n : Nd) : Bool :=
  if n.op = 7 then decide (0 ≤ n.nn) && decide (n.nn ≤ 7)
  else if n.op = 8 then decide (1 ≤ n.mm) && decide (n.mm ≤ 64) && decide (0 ≤ n.nn) && decide (n.nn < n.mm)
  else decide (0 ≤ n.so) && decide (n.so < 4)
def ownE (n : Nd) : Int := if n.op < 0 ∨ n.op ≥ 18 then 11 else if hasF n = false then 3 else if rngF n = false then 2 else 0
mutual
def ndE : Nd → Int
  | .mk o ns s n m l => if ownE (.mk o ns s n m l) = 0 then ndEL l else ownE (.mk o ns s n m l)
def ndEL : List Nd → Int
  | [] => 0
  | x :: xs => if ndE x = 0 then ndEL xs else ndE x
end
theorem ndE_eq (n : Nd) : ndE n = if ownE n = 0 then ndEL n.l else ownE n := by cases n; rfl
theorem ndEL_zero : ∀ {l : List Nd}, ndEL l = 0 ↔ ∀ x ∈ l, ndE x = 0
  | [] => by simp [ndEL]
  | x :: xs => by
    simp only [ndEL, List.mem_cons, forall_eq_or_imp]
    by_cases h : ndE x = 0
    · simp [h, ndEL_zero (l := xs)]
    · simp [h]
def grt (n : Nd) : Int := if sz n > 4096 then 8 else if dp n > 256 then 16 else 0
def chk (n : Nd) : Int := if ndE n = 0 then grt n else ndE n
structure Vd (n : Nd) : Prop where
  op0 : 0 ≤ n.op
  op1 : n.op < 18
  has : hasF n = true
  rng : rngF n = true
  kids : ∀ x ∈ n.l, ndE x = 0
theorem vd_iff {n : Nd} : ndE n = 0 ↔ Vd n := by
  rw [ndE_eq]
  unfold ownE
  constructor
  · intro h
    by_cases h1 : n.op < 0 ∨ n.op ≥ 18
    · rw [if_pos h1] at h; simp at h
    · rw [if_neg h1] at h
      cases h2 : hasF n with
      | false => simp [h2] at h
      | true =>
        cases h3 : rngF n with
        | false => simp [h2, h3] at h
        | true =>
          simp [h2, h3] at h
          exact ⟨by omega, by omega, h2, h3, ndEL_zero.1 h⟩
  · intro h
    have h1 : ¬ (n.op < 0 ∨ n.op ≥ 18) := by have := h.op0; have := h.op1; omega
    simp [h1, h.has, h.rng, ndEL_zero.2 h.kids]
theorem ndE_kid {n x : Nd} (h : ndE n = 0) (hx : x ∈ n.l) : ndE x = 0 := (vd_iff.1 h).kids x hx
def nd (op : Int) (l : List Nd) : Nd := .mk op [] 0 0 0 l
def qn (op : Int) (x : Str) (so : Int) (a : Nd) : Nd := .mk op [x] so 0 0 [a]
def tru (b : Bool) : Nd := nd (if b then 0 else 1) []
theorem has_parts {n : Nd} (h : hasF n = true) : ¬ ((n.ns.length : Int) < fA n.op) ∧ ¬ ((n.ns.length : Int) > fB n.op) ∧ (n.l.length : Int) = fC n.op ∧ n.ns.all isId = true ∧ (fD n.op = true ∨ n.so = 0) ∧ (n.op = 7 ∨ n.op = 8 ∨ n.nn = 0) ∧ (n.op = 8 ∨ n.mm = 0) := by
  unfold hasF at h
  simp only [Bool.and_eq_true, Bool.not_eq_true', decide_eq_false_iff_not, decide_eq_true_eq, Bool.or_eq_true, beq_iff_eq] at h
  obtain ⟨⟨⟨⟨⟨⟨h1, h2⟩, h3⟩, h4⟩, h5⟩, h6⟩, h7⟩ := h
  exact ⟨h1, h2, h3, h4, h5, by rcases h6 with (h6 | h6) | h6 <;> simp [h6], h7⟩
theorem one_of_len {α : Type} {l : List α} (h : (l.length : Int) = 1) : ∃ a, l = [a] := by
  match l, h with
  | [a], _ => exact ⟨a, rfl⟩
  | [], h => simp at h
  | _ :: _ :: _, h => simp at h; omega
theorem two_of_len {α : Type} {l : List α} (h : (l.length : Int) = 2) : ∃ a b, l = [a, b] := by
  match l, h with
  | [a, b], _ => exact ⟨a, b, rfl⟩
  | [], h => simp at h
  | [_], h => simp at h
  | _ :: _ :: _ :: _, h => simp at h; omega
inductive Vk : Nd → Prop
  | cst (op : Int) (h : op = 0 ∨ op = 1) : Vk (nd op [])
  | two (op : Int) (x y : Str) (h : 2 ≤ op ∧ op ≤ 6) (hx : isId x = true) (hy : isId y = true) : Vk (.mk op [x, y] 0 0 0 [])
  | lab (x : Str) (k : Int) (hx : isId x = true) (h : 0 ≤ k ∧ k ≤ 7) : Vk (.mk 7 [x] 0 k 0 [])
  | smd (x : Str) (k m : Int) (hx : isId x = true) (h : 1 ≤ m ∧ m ≤ 64 ∧ 0 ≤ k ∧ k < m) : Vk (.mk 8 [x] 0 k m [])
  | sng (x : Str) (hx : isId x = true) : Vk (.mk 9 [x] 0 0 0 [])
  | cal (x : Str) (xs : List Str) (h : (x :: xs).length ≤ 17) (hx : (x :: xs).all isId = true) : Vk (.mk 10 (x :: xs) 0 0 0 [])
  | not (a : Nd) (ha : ndE a = 0) : Vk (nd 11 [a])
  | bin (op : Int) (a b : Nd) (h : 12 ≤ op ∧ op ≤ 15) (ha : ndE a = 0) (hb : ndE b = 0) : Vk (nd op [a, b])
  | qnt (op : Int) (x : Str) (so : Int) (a : Nd) (h : op = 16 ∨ op = 17) (hx : isId x = true) (hs : 0 ≤ so ∧ so < 4) (ha : ndE a = 0) : Vk (qn op x so a)
theorem op_cases {op : Int} (h0 : 0 ≤ op) (h1 : op < 18) : op = 0 ∨ op = 1 ∨ op = 2 ∨ op = 3 ∨ op = 4 ∨ op = 5 ∨ op = 6 ∨ op = 7 ∨ op = 8 ∨ op = 9 ∨ op = 10 ∨ op = 11 ∨ op = 12 ∨ op = 13 ∨ op = 14 ∨ op = 15 ∨ op = 16 ∨ op = 17 := by omega
theorem vk_of {n : Nd} (h : ndE n = 0) : Vk n := by
  obtain ⟨h0, h1, hh, hr, hk⟩ := vd_iff.1 h
  obtain ⟨p1, p2, p3, p4, p5, p6, p7⟩ := has_parts hh
  obtain ⟨op, ns, so, nn, mm, l⟩ := n
  simp only [Nd.op, Nd.ns, Nd.so, Nd.nn, Nd.mm, Nd.l] at *
  unfold rngF at hr
  simp only [Nd.op, Nd.ns, Nd.so, Nd.nn, Nd.mm, Nd.l] at hr
  rcases op_cases h0 h1 with rfl | rfl | rfl | rfl | rfl | rfl | rfl | rfl | rfl | rfl | rfl | rfl | rfl | rfl | rfl | rfl | rfl | rfl
  all_goals simp [fA, fB, fC, fD] at p1 p2 p3 p5 p6 p7
  case inl => obtain rfl := p5; obtain rfl := p6; obtain rfl := p7; subst p3; subst p2; exact .cst 0 (.inl rfl)
  case inr.inl => obtain rfl := p5; obtain rfl := p6; obtain rfl := p7; subst p3; subst p2; exact .cst 1 (.inr rfl)
  case inr.inr.inr.inr.inr.inr.inr.inl =>
    obtain ⟨x, rfl⟩ := one_of_len (l := ns) (by omega)
    subst p3 p5 p7
    simp at hr p4
    exact .lab x nn p4 ⟨of_decide_eq_true hr.1, of_decide_eq_true hr.2⟩
  case inr.inr.inr.inr.inr.inr.inr.inr.inl =>
    obtain ⟨x, rfl⟩ := one_of_len (l := ns) (by omega)
    subst p3 p5
    simp at hr p4
    exact .smd x nn mm p4 ⟨of_decide_eq_true hr.1.1.1, of_decide_eq_true hr.1.1.2, of_decide_eq_true hr.1.2, of_decide_eq_true hr.2⟩
  case inr.inr.inr.inr.inr.inr.inr.inr.inr.inl =>
    obtain ⟨x, rfl⟩ := one_of_len (l := ns) (by omega)
    subst p3 p5 p6 p7
    simp at p4
    exact .sng x p4
  case inr.inr.inr.inr.inr.inr.inr.inr.inr.inr.inl =>
    subst p3 p5 p6 p7
    cases ns with
    | nil => simp at p1
    | cons x xs => exact .cal x xs (by simp at p2 ⊢; omega) p4
  case inr.inr.inr.inr.inr.inr.inr.inr.inr.inr.inr.inl =>
    obtain ⟨a, rfl⟩ := one_of_len (l := l) (by omega)
    subst p2 p5 p6 p7
    exact .not a (hk a (by simp))
  case inr.inr.inr.inr.inr.inr.inr.inr.inr.inr.inr.inr.inr.inr.inr.inr.inl =>
    obtain ⟨a, rfl⟩ := one_of_len (l := l) (by omega)
    obtain ⟨x, rfl⟩ := one_of_len (l := ns) (by omega)
    subst p6 p7
    simp at hr p4
    exact .qnt 16 x so a (.inl rfl) p4 ⟨of_decide_eq_true hr.1, of_decide_eq_true hr.2⟩ (hk a (by simp))
  case inr.inr.inr.inr.inr.inr.inr.inr.inr.inr.inr.inr.inr.inr.inr.inr.inr =>
    obtain ⟨a, rfl⟩ := one_of_len (l := l) (by omega)
    obtain ⟨x, rfl⟩ := one_of_len (l := ns) (by omega)
    subst p6 p7
    simp at hr p4
    exact .qnt 17 x so a (.inr rfl) p4 ⟨of_decide_eq_true hr.1, of_decide_eq_true hr.2⟩ (hk a (by simp))
  all_goals first
    | (obtain ⟨x, y, rfl⟩ := two_of_len (l := ns) (by omega)
       subst p3 p5 p6 p7
       simp at p4
       exact .two _ x y (by omega) p4.1 p4.2)
    | (obtain ⟨a, b, rfl⟩ := two_of_len (l := l) (by omega)
       subst p2 p5 p6 p7
       exact .bin _ a b (by omega) (hk a (by simp)) (hk b (by simp)))
theorem vk_inv {n : Nd} (h : Vk n) : ndE n = 0 := by
  rw [vd_iff]
  cases h with
  | cst op h => rcases h with rfl | rfl <;> exact ⟨by decide, by decide, rfl, rfl, by simp [nd, Nd.l]⟩
  | two op x y h hx hy =>
    have hc : op = 2 ∨ op = 3 ∨ op = 4 ∨ op = 5 ∨ op = 6 := by omega
    refine ⟨by simp only [Nd.op]; omega, by simp only [Nd.op]; omega, ?_, ?_, by simp [Nd.l]⟩ <;> rcases hc with rfl | rfl | rfl | rfl | rfl <;> simp [hasF, rngF, Nd.op, Nd.ns, Nd.so, Nd.nn, Nd.mm, Nd.l, fA, fB, fC, fD, hx, hy]
  | lab x k hx h => exact ⟨by simp [Nd.op], by simp [Nd.op], by simp [hasF, Nd.op, Nd.ns, Nd.so, Nd.nn, Nd.mm, Nd.l, fA, fB, fC, fD, hx], by simp [rngF, Nd.op, Nd.nn, h], by simp [Nd.l]⟩
  | smd x k m hx h => exact ⟨by simp [Nd.op], by simp [Nd.op], by simp [hasF, Nd.op, Nd.ns, Nd.so, Nd.nn, Nd.mm, Nd.l, fA, fB, fC, fD, hx], by simp [rngF, Nd.op, Nd.nn, Nd.mm, h], by simp [Nd.l]⟩
  | sng x hx => exact ⟨by simp [Nd.op], by simp [Nd.op], by simp [hasF, Nd.op, Nd.ns, Nd.so, Nd.nn, Nd.mm, Nd.l, fA, fB, fC, fD, hx], by simp [rngF, Nd.op, Nd.so], by simp [Nd.l]⟩
  | cal x xs h hx =>
    refine ⟨by simp [Nd.op], by simp [Nd.op], ?_, by simp [rngF, Nd.op, Nd.so], by simp [Nd.l]⟩
    unfold hasF
    simp only [Nd.op, Nd.ns, Nd.so, Nd.nn, Nd.mm, Nd.l, fA, fB, fC, fD, hx]
    simp at h ⊢
    omega
  | not a ha => exact ⟨by simp [nd, Nd.op], by simp [nd, Nd.op], by simp [hasF, nd, Nd.op, Nd.ns, Nd.so, Nd.nn, Nd.mm, Nd.l, fA, fB, fC, fD], by simp [rngF, nd, Nd.op, Nd.so], by simpa [nd, Nd.l] using ha⟩
  | bin op a b h ha hb =>
    have hc : op = 12 ∨ op = 13 ∨ op = 14 ∨ op = 15 := by omega
    refine ⟨by simp only [nd, Nd.op]; omega, by simp only [nd, Nd.op]; omega, ?_, ?_, by simp [nd, Nd.l, ha, hb]⟩ <;> rcases hc with rfl | rfl | rfl | rfl <;> simp [hasF, rngF, nd, Nd.op, Nd.ns, Nd.so, Nd.nn, Nd.mm, Nd.l, fA, fB, fC, fD]
  | qnt op x so a h hx hs ha =>
    refine ⟨by simp only [qn, Nd.op]; omega, by simp only [qn, Nd.op]; omega, ?_, ?_, by simpa [qn, Nd.l] using ha⟩ <;> rcases h with rfl | rfl <;> simp [hasF, rngF, qn, Nd.op, Nd.ns, Nd.so, Nd.nn, Nd.mm, Nd.l, fA, fB, fC, fD, hx, hs]
theorem isId_len {s : Str} (h : isId s = true) : s.length ≤ 16 := by
  unfold isId at h
  simp only [Bool.and_eq_true, decide_eq_true_eq] at h
  exact (runF_one h.2).2.1
def triv (n : Nd) : Bool := match n.op with
  | 2 | 4 => match n.ns with
    | x :: y :: _ => x == y
    | _ => false
  | 8 => n.mm == 1
  | _ => false
def snot (a : Nd) : Nd := if a.op = 0 ∨ a.op = 1 then tru (a.op = 1) else if a.op = 11 then a.l.headD a else nd 11 [a]
def isNt (a b : Nd) : Bool := (a.op == 11 && sameN (a.l.headD a) b) || (b.op == 11 && sameN (b.l.headD b) a)
def jn (op : Int) (a b : Nd) : Nd :=
  let yes : Int := if op = 13 then 1 else 0
  let no : Int := if op = 13 then 0 else 1
  if a.op = yes then b else if b.op = yes then a else if a.op = no ∨ b.op = no then nd no [] else if sameN a b then a else if isNt a b then nd no [] else nd op [a, b]
def imp (a b : Nd) : Nd := if a.op = 0 then b else if a.op = 1 ∨ b.op = 0 ∨ sameN a b then tru true else if b.op = 1 then snot a else nd 14 [a, b]
def alk (a b : Nd) : Nd := if sameN a b then tru true else if a.op = 0 then b else if b.op = 0 then a else if a.op = 1 then snot b else if b.op = 1 then snot a else nd 15 [a, b]
def uses (n : Nd) : List Str := if n.op = 10 then n.ns.drop 1 else if 2 ≤ n.op ∧ n.op < 10 then n.ns else []
def bndr (n : Nd) : Option Str := if n.op = 16 ∨ n.op = 17 then n.ns.head? else none
mutual
def fr (s : Str) : Nd → Bool
  | .mk o ns so a b l => (uses (.mk o ns so a b l)).contains s || (frL s l && !(bndr (.mk o ns so a b l) == some s))
def frL (s : Str) : List Nd → Bool
  | [] => false
  | x :: xs => fr s x || frL s xs
end
theorem fr_eq (s : Str) (n : Nd) : fr s n = ((uses n).contains s || (frL s n.l && !(bndr n == some s))) := by cases n; rfl
def bdq (q a : Nd) : Nd := match q.ns with
  | [] => q
  | x :: _ => if 1 < q.so ∧ fr x a = false then a else if q.so < 2 ∧ a.op = 17 - q.op then a else qn q.op x q.so a
def cmb (q : Nd) (l : List Nd) : Nd := match l with
  | [a] => if q.op = 11 then snot a else bdq q a
  | [a, b] => if q.op = 14 then imp a b else if q.op = 15 then alk a b else jn q.op a b
  | _ => q
mutual
def smp : Nd → Nd
  | .mk o ns s n m l => if o < 11 then (if triv (.mk o ns s n m l) then tru true else .mk o ns s n m l) else cmb (.mk o ns s n m l) (smpL l)
def smpL : List Nd → List Nd
  | [] => []
  | x :: xs => smp x :: smpL xs
end
@[simp] theorem nd_op (op : Int) (l : List Nd) : (nd op l).op = op := rfl
@[simp] theorem nd_l (op : Int) (l : List Nd) : (nd op l).l = l := rfl
@[simp] theorem qn_op (op : Int) (x so a) : (qn op x so a).op = op := rfl
@[simp] theorem qn_l (op : Int) (x so a) : (qn op x so a).l = [a] := rfl
@[simp] theorem qn_ns (op : Int) (x so a) : (qn op x so a).ns = [x] := rfl
@[simp] theorem qn_so (op : Int) (x so a) : (qn op x so a).so = so := rfl
@[simp] theorem nd_ns (op : Int) (l : List Nd) : (nd op l).ns = [] := rfl
theorem vt (b : Bool) : ndE (tru b) = 0 := by cases b <;> exact vk_inv (.cst _ (by decide))
theorem vc (op : Int) (h : op = 0 ∨ op = 1) : ndE (nd op []) = 0 := vk_inv (.cst _ h)
theorem sz_nd1 (op : Int) (a : Nd) : sz (nd op [a]) = sz a + 1 := by simp [nd, sz, szL]
theorem sz_nd2 (op : Int) (a b : Nd) : sz (nd op [a, b]) = sz a + sz b + 1 := by simp [nd, sz, szL]
theorem sz_qn (op : Int) (x so) (a : Nd) : sz (qn op x so a) = sz a + 1 := by simp [qn, sz, szL]
theorem sz_pos (n : Nd) : 1 ≤ sz n := by rw [sz_eq]; omega
mutual
def Sm : Nd → Prop
  | .mk o ns s n m l => (o < 11 ∧ triv (.mk o ns s n m l) = false) ∨ (11 ≤ o ∧ cmb (.mk o ns s n m l) l = .mk o ns s n m l ∧ SmL l)
def SmL : List Nd → Prop
  | [] => True
  | x :: xs => Sm x ∧ SmL xs
end
structure Kp (r : Nd) (z d : Nat) (f : Str → Bool) : Prop where
  v : ndE r = 0
  i : Sm r
  z : sz r ≤ z
  d : dp r ≤ d
  f : ∀ s, fr s r = true → f s = true
section
variable {a b : Nd} {z1 z2 d1 d2 : Nat} {f1 f2 : Str → Bool}
end
section
variable {G : Nat → Option AV} {cl : Caller} {yl : Nat → List AV → Mem → Option (AV × Mem)} {N : Nat}
theorem ev96 (n : Nd) : pureA G false cl yl N c96 [av n] = some (.bool (rngF n), none) := by
  unfold rngF
  by_cases h7 : n.op = 7
  · by_cases c1 : 0 ≤ n.nn
    · simp -implicitDefEqProofs [c96, h7, c1]
    · simp -implicitDefEqProofs [c96, h7, c1]
  · have h7' : (n.op == 7) = false := by simp [h7]
    by_cases h8 : n.op = 8
    · by_cases c1 : 1 ≤ n.mm
      · by_cases c2 : n.mm ≤ 64
        · by_cases c3 : 0 ≤ n.nn
          · simp -implicitDefEqProofs [c96, h8, c1, c2, c3]
          · simp -implicitDefEqProofs [c96, h8, c1, c2, c3]
        · simp -implicitDefEqProofs [c96, h8, c1, c2]
      · simp -implicitDefEqProofs [c96, h8, c1]
    · have h8' : (n.op == 8) = false := by simp [h8]
      by_cases c1 : 0 ≤ n.so
      · simp -implicitDefEqProofs [c96, h7, h8, h7', h8', c1]
      · simp -implicitDefEqProofs [c96, h7, h8, h7', h8', c1]
def ndG (x : Nd) : Option Int := if ndE x = 0 then none else some (ndE x)
theorem ndEL_find : ∀ l : List Nd, ndEL l = (l.findSome? ndG).getD 0
  | [] => rfl
  | x :: xs => by
    simp only [ndEL, List.findSome?_cons, ndG]
    by_cases h : ndE x = 0
    · simp only [h, if_true]; exact ndEL_find xs
    · simp [h]
theorem ev61 (n : Nd) (hb : bk n ≤ big) (hN : n.l.length < N) (h95 : 0 ≤ n.op → n.op < 18 → ∀ M, cl 95 [av n] M = some (.bool (hasF n), M)) (h96 : ∀ M, cl 96 [av n] M = some (.bool (rngF n), M))
    (hc : ∀ x ∈ n.l, ∀ M, cl 61 [av x] M = some (.int .i64 (ndE x), M)) : pureA G false cl yl N c61 [av n] = some (.int .i64 (ndE n), none) := by
  have hlen := len_bk n
  unfold big at hb
  rw [ndE_eq]
  unfold ownE
  by_cases h0 : n.op < 0
  · simp -implicitDefEqProofs [c61, h0]
  by_cases h1 : 18 ≤ n.op
  · simp -implicitDefEqProofs [c61, h0, h1]
  have h95' := h95 (by omega) (by omega)
  have hor : ¬ (n.op < 0 ∨ 18 ≤ n.op) := by omega
  cases h2 : hasF n with
  | false =>
    rw [h2] at h95'
    simp -implicitDefEqProofs [c61, h0, h1, h95']
  | true =>
    rw [h2] at h95'
    cases h3 : rngF n with
    | false =>
      rw [h3] at h96
      simp -implicitDefEqProofs [c61, h0, h1, h95', h96]
    | true =>
      rw [h3] at h96
      have l1 := iter_find (mu := false) (step := evalC G false cl yl N c61b0) (an := ⟨[24, 25, 26], [(26, none)]⟩) (k := 1) (m := 0) (N := N) n.l ndG
        (fun i => ⟨[(24, .slc .shared (avL n.l)), (25, .int .i64 n.l.length), (26, .int .i64 (i : Int))], ⟨[.cells (ndc n)], []⟩, []⟩) (fun r e s' => e = .ret ∧ look 2 s'.ts = .int .i64 r ∧ s'.mks = []) (.exit 1)
        ⟨[(27, .bool false), (24, .slc .shared (avL n.l)), (25, .int .i64 n.l.length), (26, .int .i64 n.l.length)], ⟨[.cells (ndc n)], []⟩, []⟩ hN (by simp) ?_ ?_
      · rw [ndEL_find]
        cases hf : n.l.findSome? ndG with
        | none =>
          rw [hf] at l1
          simp at l1
          simp -implicitDefEqProofs [c61, h0, h1, h95', h96, l1]
        | some r =>
          rw [hf] at l1
          obtain ⟨e, s', q1, -, rfl, q2, q3⟩ := l1
          simp at q1
          simp -implicitDefEqProofs [c61, h0, h1, h95', h96, q1, q2, q3]
      · intro i x hx hi
        have w1 := wrap_succ (i := i) (by omega)
        have hc' := hc x (mem_of_get hx)
        have hx' := (List.getElem?_eq_some_iff.1 hx).2
        by_cases hn : ndE x = 0
        · simp -implicitDefEqProofs [c61b0, ndG, hi, hx', hc', w1, hn]
        · have hn' : (ndE x != 0) = true := by simp [hn]
          simp -implicitDefEqProofs [c61b0, ndG, hi, hx', hc', w1, hn, hn']
      · simp -implicitDefEqProofs [c61b0]
theorem ev62 (n : Nd) (h32 : ∀ M, cl 32 [av n] M = some (.int .i64 (sz n), M)) (h33 : ∀ M, cl 33 [av n] M = some (.int .i64 (dp n), M)) : pureA G false cl yl N c62 [av n] = some (.int .i64 (grt n), none) := by
  unfold grt
  by_cases c1 : sz n > 4096
  · have c1' : (4096 : Int) < (sz n : Int) := by omega
    simp -implicitDefEqProofs [c62, h32, c1, c1']
  · have c1' : ¬ (4096 : Int) < (sz n : Int) := by omega
    by_cases c2 : dp n > 256
    · have c2' : (256 : Int) < (dp n : Int) := by omega
      simp -implicitDefEqProofs [c62, h32, h33, c1, c1', c2, c2']
    · have c2' : ¬ (256 : Int) < (dp n : Int) := by omega
      simp -implicitDefEqProofs [c62, h32, h33, c1, c1', c2, c2']
theorem ev28 (n : Nd) (h61 : ∀ M, cl 61 [av n] M = some (.int .i64 (ndE n), M)) (h62 : ∀ M, cl 62 [av n] M = some (.int .i64 (grt n), M)) : pureA G false cl yl N c28 [av n] = some (.int .i64 (chk n), none) := by
  unfold chk
  by_cases c1 : ndE n = 0
  · simp -implicitDefEqProofs [c28, h61, h62, c1]
  · have c1' : (ndE n != 0) = true := by simp [c1]
    simp -implicitDefEqProofs [c28, h61, h62, c1, c1']
def nd0 : Nd := nd 0 []
def ckd (n : Nd) : Nd × Int := if chk n = 0 then (n, 0) else (nd0, chk n)
theorem av_nd0 : av nd0 = .agg [.int .i64 0, .slc .shared [], .int .i64 0, .int .i64 0, .int .i64 0, .slc .shared []] := rfl
theorem ev40 (n : Nd) (h28 : ∀ M, cl 28 [av n] M = some (.int .i64 (chk n), M)) : pureA G false cl yl N c40 [av n] = some (.tup [av (ckd n).1, .int .i64 (ckd n).2], none) := by
  unfold ckd
  by_cases c1 : chk n = 0
  · simp -implicitDefEqProofs [c40, h28, c1]
  · have c1' : (chk n != 0) = true := by simp [c1]
    simp -implicitDefEqProofs [c40, h28, c1, c1', av_nd0]
end
section
variable {G : Nat → Option AV} {cl : Caller} {yl : Nat → List AV → Mem → Option (AV × Mem)} {N : Nat}
theorem pureA_av {mu : Bool} {cf : CFn} {ags : List AV} {n : Nd} (ha : argL ags = some ags) (h : ∃ M, callA G mu cl yl N cf ags ⟨[], []⟩ = some (av n, M)) : pureA G mu cl yl N cf ags = some (av n, none) := by
  obtain ⟨M, h⟩ := h
  unfold pureA
  rw [ha]
  simp only [h]
  have : backV M (av n) = some (av n) := by
    unfold backV
    have := deep_av' M 3992 n
    cases n
    exact this
  rw [this]
  cases n
  rfl
theorem ev58 (n : Nd) : pureA G false cl yl N c58 [av n] = some (.bool (decide (n.op < 11)), none) := by
  simp -implicitDefEqProofs [c58]
theorem ev73 (k : Int) : pureA G false cl yl N c73 [.int .i64 k] = some (.bool (k == 0 || k == 1), none) := by
  cases h : (k == 0) <;> simp -implicitDefEqProofs [c73, h]
theorem ev75 (op : Int) (l : List Nd) : pureA G false cl yl N c75 [.int .i64 op, .slc .full (avL l)] = some (av (nd op l), none) := by
  simp -implicitDefEqProofs [c75, nd, av]
def C75 (cl : Caller) : Prop := ∀ op l M, cl 75 [.int .i64 op, .slc .full (avL l)] M = some (av (nd op l), M)
theorem c75_0 {cl : Caller} (h : C75 cl) (op : Int) (M : Mem) : cl 75 [.int .i64 op, .slc .full []] M = some (av (nd op []), M) := h op [] M
theorem c75_1 {cl : Caller} (h : C75 cl) (op : Int) (a : Nd) (M : Mem) : cl 75 [.int .i64 op, .slc .full [av a]] M = some (av (nd op [a]), M) := h op [a] M
theorem c75_2 {cl : Caller} (h : C75 cl) (op : Int) (a b : Nd) (M : Mem) : cl 75 [.int .i64 op, .slc .full [av a, av b]] M = some (av (nd op [a, b]), M) := h op [a, b] M
theorem ev91 (b : Bool) (h : C75 cl) : pureA G false cl yl N c91 [.bool b] = some (av (tru b), none) := by
  have k := c75_0 h
  refine pureA_av (by simp) ?_
  cases b <;> simp -implicitDefEqProofs [c91, k, tru]
theorem ev92 (n : Nd) (h : C75 cl) : pureA G false cl yl N c92 [av n] = some (av (nd 11 [n]), none) := by
  have k := c75_1 h
  refine pureA_av (by simp) ?_
  simp -implicitDefEqProofs [c92, k]
structure CsJ (cl : Caller) (a b : Nd) : Prop where
  h75 : C75 cl
  h91 : ∀ b M, cl 91 [.bool b] M = some (av (tru b), M)
  h135 : ∀ (n : Nd) k M, cl 135 [av n, .int .i64 k] M = some (.bool (n.op == k), M)
  h26 : ∀ M, cl 26 [av a, av b] M = some (.bool (sameN a b), M)
  h136 : ∀ M, cl 136 [av a, av b] M = some (.bool (isNt a b), M)
  h98a : ∀ M, cl 98 [av a] M = some (av (snot a), M)
  h98b : ∀ M, cl 98 [av b] M = some (av (snot b), M)
end
section
variable {G : Nat → Option AV} {cl : Caller} {yl : Nat → List AV → Mem → Option (AV × Mem)} {N : Nat}
def nfl (b : Bool) : Sp := if b then .full else .shared
theorem ev138 (sp : Bool) (l : List Str) (s : Str) (hl : l.length < big) (hN : l.length < N) :
    pureA G false cl yl N c138 [.slc (nfl sp) (l.map .str), .str s] = some (.int .i64 (firstN (fun x => !(s == x)) l), none) := by
  unfold big at hl
  have hle := twa_le (fun x => !(s == x)) l
  have hsc : scr 0 0 (.slc (nfl sp) (l.map .str)) = .slc (nfl sp) (l.map .str) := by cases sp <;> rfl
  have hav : argV (.slc (nfl sp) (l.map .str)) = some (.slc (nfl sp) (l.map .str)) := by cases sp <;> rfl
  obtain ⟨e, ⟨ts, M, mks⟩, h1, h2, rfl, rfl, h5⟩ := iter_while (mu := false) (step := evalC G false cl yl N c138b0) (an := ⟨[0, 1, 7, 8], [(8, none)]⟩) (kk := 0) (m := 0)
    (fun k st => ∃ i, i ≤ (l.takeWhile (fun x => !(s == x))).length ∧ k = (l.takeWhile (fun x => !(s == x))).length - i ∧ st = ⟨[(0, .slc (nfl sp) (l.map .str)), (1, .str s), (7, .int .i64 l.length), (8, .int .i64 (i : Nat))], ⟨[], []⟩, []⟩)
    (fun e s' => s'.m = ⟨[], []⟩ ∧ s'.mks = [] ∧ ((e = .exit 0 ∧ (l.takeWhile (fun x => !(s == x))).length = l.length) ∨ (e = .ret ∧ ¬ (l.takeWhile (fun x => !(s == x))).length = l.length ∧ look 4 s'.ts = .int .i64 (l.takeWhile (fun x => !(s == x))).length)))
    (by
      rintro k _ ⟨i, hi, rfl, rfl⟩
      by_cases hlt : i < (l.takeWhile (fun x => !(s == x))).length
      · obtain ⟨hx, hg⟩ := twa_get (List.getElem?_eq_getElem hlt)
        generalize (l.takeWhile (fun x => !(s == x)))[i] = x at hx hg
        obtain ⟨hil, hx'⟩ := List.getElem?_eq_some_iff.1 hx
        have w1 : wrapF .i64 ((i : Int) + 1) = ((i + 1 : Nat) : Int) := wrap_succ (by omega)
        have hp : (0 : Int) ≤ (i : Int) := by omega
        have hg' : (s == x) = false := by simpa using hg
        simp -implicitDefEqProofs [c138b0, hil, hx', strA, hg', w1, hp, hsc]
        exact ⟨_, by omega, i + 1, by omega, rfl, by simp⟩
      · have hi' : i = (l.takeWhile (fun x => !(s == x))).length := by omega
        rcases twa_end (g := fun x => !(s == x)) l with k | ⟨y, k1, k2⟩
        · have hil : ¬ i < l.length := by omega
          simp -implicitDefEqProofs [c138b0, hil, hi', k]
        · obtain ⟨hil, hx'⟩ := List.getElem?_eq_some_iff.1 k1
          have hp : (0 : Int) ≤ ((l.takeWhile (fun x => !(s == x))).length : Int) := by omega
          have hne : ¬ (l.takeWhile (fun x => !(s == x))).length = l.length := by omega
          have k2' : (s == y) = true := by simpa using k2
          subst hi'
          generalize (l.takeWhile (fun x => !(s == x))).length = i at *
          simp -implicitDefEqProofs [c138b0, hil, hx', hp, strA, k2', hne])
    N _ _ ⟨0, by omega, rfl, rfl⟩ (by omega)
  rw [show ((0 : Nat) : Int) = 0 from rfl] at h1
  rcases h5 with ⟨rfl, h5⟩ | ⟨rfl, h5, h6⟩
  · have : firstN (fun x => !(s == x)) l = -1 := by unfold firstN; rw [if_pos h5]
    rw [this]
    simp -implicitDefEqProofs [c138, hsc, hav, h1]
  · have : firstN (fun x => !(s == x)) l = (l.takeWhile (fun x => !(s == x))).length := by unfold firstN; rw [if_neg h5]
    rw [this]
    simp only [] at h6
    simp -implicitDefEqProofs [c138, hsc, hav, h1, h6]
theorem any_contains (s : Str) : ∀ l : List Str, l.contains s = !(l.all fun x => !(s == x))
  | [] => rfl
  | x :: l => by simp only [List.contains_cons, List.all_cons, any_contains s l]; cases s == x <;> simp
theorem ev107 (sp : Bool) (l : List Str) (s : Str) (h : ∀ M, cl 138 [.slc (nfl sp) (l.map .str), .str s] M = some (.int .i64 (firstN (fun x => !(s == x)) l), M)) :
    pureA G false cl yl N c107 [.slc (nfl sp) (l.map .str), .str s] = some (.bool (l.contains s), none) := by
  have hav : argV (.slc (nfl sp) (l.map .str)) = some (.slc (nfl sp) (l.map .str)) := by cases sp <;> rfl
  rw [any_contains]
  by_cases hall : l.all (fun x => !(s == x)) = true
  · have : firstN (fun x => !(s == x)) l = -1 := by unfold firstN; rw [if_pos ((twa_all l).2 hall)]
    rw [this] at h
    rw [hall]
    simp -implicitDefEqProofs [c107, hav, h]
  · have hne : ¬ (l.takeWhile (fun x => !(s == x))).length = l.length := fun hh => hall ((twa_all l).1 hh)
    have : firstN (fun x => !(s == x)) l = (l.takeWhile (fun x => !(s == x))).length := by unfold firstN; rw [if_neg hne]
    rw [this] at h
    have hall' : l.all (fun x => !(s == x)) = false := by simpa using hall
    have hp : (0 : Int) ≤ ((l.takeWhile (fun x => !(s == x))).length : Int) := by omega
    rw [hall']
    simp -implicitDefEqProofs [c107, hav, h, hp]
theorem ev108 (n : Nd) : pureA G false cl yl N c108 [av n] = some (.bool (bndr n).isSome, none) := by
  unfold bndr
  by_cases h1 : n.op = 16
  · cases hn : n.ns <;> simp -implicitDefEqProofs [c108, h1, hn]
  · have h1' : (n.op == 16) = false := by simp [h1]
    by_cases h2 : n.op = 17
    · cases hn : n.ns <;> simp -implicitDefEqProofs [c108, h2, hn]
    · have h2' : (n.op == 17) = false := by simp [h2]
      simp -implicitDefEqProofs [c108, h1, h1', h2, h2']
end
def addU (bound : List Str) : List Str → List Str → List Str
  | [], out => out
  | s :: us, out => addU bound us (if !bound.contains s && !out.contains s then out ++ [s] else out)
def wthB (n : Nd) (bound : List Str) : List Str := match bndr n with
  | some x => bound ++ [x]
  | none => bound
mutual
def freeF : Nd → List Str → List Str → List Str
  | .mk o ns so a b l, bound, out => freeL l (wthB (.mk o ns so a b l) bound) (addU bound (uses (.mk o ns so a b l)) out)
def freeL : List Nd → List Str → List Str → List Str
  | [], _, out => out
  | x :: xs, bound, out => freeL xs bound (freeF x bound out)
end
theorem freeF_eq (n : Nd) (bound out : List Str) : freeF n bound out = freeL n.l (wthB n bound) (addU bound (uses n) out) := by cases n; rfl
theorem addU_mem (bound : List Str) (s : Str) : ∀ (us out : List Str), s ∈ addU bound us out ↔ s ∈ out ∨ (s ∉ bound ∧ s ∈ us)
  | [], out => by simp [addU]
  | u :: us, out => by
    simp only [addU, addU_mem bound s us, List.mem_cons]
    by_cases h1 : u ∈ bound
    · simp [h1]
      constructor
      · rintro (h | ⟨h, h'⟩)
        · exact .inl h
        · exact .inr ⟨h, .inr h'⟩
      · rintro (h | ⟨h, rfl | h'⟩)
        · exact .inl h
        · exact absurd h1 h
        · exact .inr ⟨h, h'⟩
    · by_cases h2 : u ∈ out
      · simp [h1, h2]
        constructor
        · rintro (h | ⟨h, h'⟩)
          · exact .inl h
          · exact .inr ⟨h, .inr h'⟩
        · rintro (h | ⟨h, rfl | h'⟩)
          · exact .inl h
          · exact .inl h2
          · exact .inr ⟨h, h'⟩
      · simp [h1, h2]
        constructor
        · rintro ((h | rfl) | ⟨h, h'⟩)
          · exact .inl h
          · exact .inr ⟨h1, .inl rfl⟩
          · exact .inr ⟨h, .inr h'⟩
        · rintro (h | ⟨h, rfl | h'⟩)
          · exact .inl (.inl h)
          · exact .inl (.inr rfl)
          · exact .inr ⟨h, h'⟩
mutual
theorem freeF_mem (s : Str) : ∀ (n : Nd) (bound out : List Str), s ∈ freeF n bound out ↔ s ∈ out ∨ (s ∉ bound ∧ fr s n = true)
  | .mk o ns so a b l, bound, out => by
    rw [freeF_eq, fr_eq, freeL_mem s _ _ _, addU_mem]
    simp only [Bool.or_eq_true, Bool.and_eq_true, List.contains_iff_mem, Bool.not_eq_true', beq_eq_false_iff_ne, ne_eq]
    unfold wthB
    cases hb : bndr (.mk o ns so a b l) with
    | none =>
      simp
      constructor
      · rintro ((h | h) | h)
        · exact .inl h
        · exact .inr ⟨h.1, .inl h.2⟩
        · exact .inr ⟨h.1, .inr h.2⟩
      · rintro (h | ⟨h, h' | h'⟩)
        · exact .inl (.inl h)
        · exact .inl (.inr ⟨h, h'⟩)
        · exact .inr ⟨h, h'⟩
    | some x =>
      simp
      constructor
      · rintro ((h | h) | ⟨⟨h1, h2⟩, h⟩)
        · exact .inl h
        · exact .inr ⟨h.1, .inl h.2⟩
        · exact .inr ⟨h1, .inr ⟨h, fun e => h2 e.symm⟩⟩
      · rintro (h | ⟨h, h' | ⟨h', h2⟩⟩)
        · exact .inl (.inl h)
        · exact .inl (.inr ⟨h, h'⟩)
        · exact .inr ⟨⟨h, fun e => h2 e.symm⟩, h'⟩
theorem freeL_mem (s : Str) : ∀ (l : List Nd) (bound out : List Str), s ∈ freeL l bound out ↔ s ∈ out ∨ (s ∉ bound ∧ frL s l = true)
  | [], bound, out => by simp [freeL, frL]
  | x :: xs, bound, out => by
    simp only [freeL, frL]
    rw [freeL_mem s xs, freeF_mem s x]
    simp only [Bool.or_eq_true]
    constructor
    · rintro ((h | h) | h)
      · exact .inl h
      · exact .inr ⟨h.1, .inl h.2⟩
      · exact .inr ⟨h.1, .inr h.2⟩
    · rintro (h | ⟨h, h' | h'⟩)
      · exact .inl (.inl h)
      · exact .inl (.inr ⟨h, h'⟩)
      · exact .inr ⟨h, h'⟩
end
theorem addU_len (bound : List Str) : ∀ (us out : List Str), out.length ≤ (addU bound us out).length ∧ (addU bound us out).length ≤ out.length + us.length
  | [], out => by simp [addU]
  | u :: us, out => by
    simp only [addU]
    have h := addU_len bound us (if !bound.contains u && !out.contains u then out ++ [u] else out)
    have h2 : (if !bound.contains u && !out.contains u then out ++ [u] else out).length ≤ out.length + 1 := by split <;> simp
    have h3 : out.length ≤ (if !bound.contains u && !out.contains u then out ++ [u] else out).length := by split <;> simp
    simp only [List.length_cons]
    omega
theorem uses_len (n : Nd) : (uses n).length ≤ n.ns.length := by
  unfold uses
  split
  · simp
  · split <;> simp
mutual
theorem freeF_len : ∀ (n : Nd) (bound out : List Str), out.length ≤ (freeF n bound out).length ∧ (freeF n bound out).length ≤ out.length + bk n
  | .mk o ns so a b l, bound, out => by
    have h1 := addU_len bound (uses (.mk o ns so a b l)) out
    have h2 := freeL_len l (wthB (.mk o ns so a b l) bound) (addU bound (uses (.mk o ns so a b l)) out)
    have h3 := uses_len (.mk o ns so a b l)
    have h4 := len_bkS ns
    simp only [Nd.ns] at h3
    rw [freeF_eq]
    simp only [bk, Nd.l]
    omega
theorem freeL_len : ∀ (l : List Nd) (bound out : List Str), out.length ≤ (freeL l bound out).length ∧ (freeL l bound out).length ≤ out.length + bkL l
  | [], bound, out => by simp [freeL, bkL]
  | x :: xs, bound, out => by
    have h1 := freeF_len x bound out
    have h2 := freeL_len xs bound (freeF x bound out)
    simp only [freeL, bkL]
    omega
end
theorem addU_snoc (bound : List Str) (u : Str) : ∀ (us out : List Str), addU bound (us ++ [u]) out = (if !bound.contains u && !(addU bound us out).contains u then addU bound us out ++ [u] else addU bound us out)
  | [], out => by simp [addU]
  | v :: us, out => addU_snoc bound u us _
theorem freeL_snoc (x : Nd) : ∀ (l : List Nd) (bound out : List Str), freeL (l ++ [x]) bound out = freeF x bound (freeL l bound out)
  | [], bound, out => by simp [freeL]
  | y :: l, bound, out => by simp only [List.cons_append, freeL]; rw [freeL_snoc x l]
theorem take_succ_of {α : Type} {l : List α} {i : Nat} {x : α} (h : l[i]? = some x) : l.take (i + 1) = l.take i ++ [x] := by
  rw [List.take_add_one, h]; rfl
def ClM (M : Mem) : Prop := ∀ k m, M.objs.length ≤ k → M.arrs.length ≤ m → M.objs.map (scrO k m) = M.objs ∧ M.arrs.map (scrA k m) = M.arrs
def okSp (M : Mem) : Sp → Prop
  | .own b => b < M.arrs.length
  | _ => True
theorem okSp_scr {M : Mem} {sp : Sp} (h : okSp M sp) {k m : Nat} (hm : M.arrs.length ≤ m) (es : List AV) : scr k m (.slc sp es) = .slc sp es := by
  cases sp with
  | own b => simp only [okSp] at h; have : b < m := by omega
             simp [scr, this]
  | shared => rfl
  | full => rfl
def Fr65 (cl : Caller) (x : Nd) (bound out : List Str) : Prop := ∀ (sp : Sp) (a : Nat) (M : Mem), ClM M → okSp M sp → M.arrs[a]? = some (rowA out.length 9 1) →
  ∃ X Y, cl 65 [av x, .slc sp (bound.map .str), .slc (.own a) (out.map .str)] M = some (.slc (.own a) ((freeF x bound out).map .str), ⟨M.objs ++ X, M.arrs.set a (rowA (freeF x bound out).length 9 1) ++ Y⟩)
section
variable {G : Nat → Option AV} {cl : Caller} {yl : Nat → List AV → Mem → Option (AV × Mem)} {N : Nat}
def rowB (n : Nat) : Arr := rowA n 9 1
theorem loop65a (us : List Str) (us' : Sp) (hus : ∀ k m, scr k m (.slc us' (us.map .str)) = .slc us' (us.map .str)) (bound out : List Str) (sp : Sp) (a : Nat) (os : List Obj) (ar : List Arr) (c : List AV) (hb : bound.length + us.length + out.length < big) (hN : us.length < N)
    (hsp : scr (os.length + 1) ar.length (.slc sp (bound.map .str)) = .slc sp (bound.map .str)) (ha : a < ar.length) (hc : scrL (os.length + 1) ar.length c = c)
    (ho : os.map (scrO (os.length + 1) ar.length) = os) (hr : ar.map (scrA (os.length + 1) ar.length) = ar)
    (h107 : ∀ (sp : Sp) (l : List Str) (s : Str) (M : Mem), l.length < big → cl 107 [.slc sp (l.map .str), .str s] M = some (.bool (l.contains s), M)) :
    iter false (evalC G false cl yl N c65b0) ⟨[1, 2, 3, 12, 13, 14], [(2, none), (14, none)]⟩ (os.length + 1) ar.length N
      ⟨[(1, .slc sp (bound.map .str)), (2, .slc (.own a) ((addU bound (us.take 0) out).map .str)), (3, .ptr os.length 0), (12, .slc us' (us.map .str)), (13, .int .i64 us.length), (14, .int .i64 ((0 : Nat) : Int))], ⟨os ++ [.cells c], ar.set a (rowB (addU bound (us.take 0) out).length)⟩, []⟩ =
      some (.exit 0, ⟨[(15, .bool false), (1, .slc sp (bound.map .str)), (2, .slc (.own a) ((addU bound us out).map .str)), (3, .ptr os.length 0), (12, .slc us' (us.map .str)), (13, .int .i64 us.length), (14, .int .i64 us.length)], ⟨os ++ [.cells c], ar.set a (rowB (addU bound us out).length)⟩, []⟩) := by
  unfold big at hb h107
  have hset : ∀ r n, (ar.set a (rowB n)).map (scrA r ar.length) = (ar.map (scrA r ar.length)).set a (rowB n) := by
    intro r n
    rw [List.map_set]
    rfl
  refine iter_all us (fun i => ⟨[(1, .slc sp (bound.map .str)), (2, .slc (.own a) ((addU bound (us.take i) out).map .str)), (3, .ptr os.length 0), (12, .slc us' (us.map .str)), (13, .int .i64 us.length), (14, .int .i64 (i : Int))], ⟨os ++ [.cells c], ar.set a (rowB (addU bound (us.take i) out).length)⟩, []⟩) (.exit 0) _ hN (by simp) ?_ ?_
  · intro i x hx hi
    have w1 := wrap_succ (i := i) (by omega)
    have hx' := (List.getElem?_eq_some_iff.1 hx).2
    have hl := addU_len bound (us.take i) out
    have hl2 : (us.take i).length ≤ us.length := by simp; omega
    have k1 := fun M => h107 sp bound x M (by omega)
    have k2 := fun M => h107 (.own a) (addU bound (us.take i) out) x M (by omega)
    rw [take_succ_of hx, addU_snoc]
    generalize addU bound (us.take i) out = o at *
    have b1 : (o.length + 1) * 16 ≤ 140737488355328 := by omega
    have b2 : o.length + 1 ≤ 140737488355328 := by omega
    have hr0 : o = [] ∨ ¬ o = [] := by cases o <;> simp
    have hus' := hus (os.length + 1) ar.length
    have ht1 : ∀ x : Obj, List.take (os.length + 1) (os ++ [x]) = os ++ [x] := fun x => List.take_of_length_le (by simp)
    have ht2 : ∀ r : Arr, List.take ar.length (ar.set a r) = ar.set a r := fun r => List.take_of_length_le (by simp)
    cases h1 : bound.contains x with
    | true =>
      rw [h1] at k1
      simp -implicitDefEqProofs [c65b0, hi, hx', w1, k1, hsp, hus', ha, hc, ho, hset, hr, ht1, ht2]
    | false =>
      rw [h1] at k1
      cases h2 : o.contains x with
      | true =>
        rw [h2] at k2
        simp -implicitDefEqProofs [c65b0, hi, hx', w1, k1, k2, hsp, hus', ha, hc, ho, hset, hr, ht1, ht2]
      | false =>
        rw [h2] at k2
        simp -implicitDefEqProofs [c65b0, hi, hx', w1, k1, k2, hsp, hus', ha, hc, ho, hset, hr, ht1, ht2, rowB, rowA, b1, b2, hr0]
  · simp -implicitDefEqProofs [c65b0]
theorem clM_snoc {os : List Obj} {ar : List Arr} {a n : Nat} {c : List AV} (h : ClM ⟨os, ar⟩) (hc : ∀ k m, scrL k m c = c) : ClM ⟨os ++ [.cells c], ar.set a (rowB n)⟩ := by
  intro k m hk hm
  simp at hk hm
  obtain ⟨h1, h2⟩ := h k m (by simp; omega) (by simp; omega)
  simp only at h1 h2
  refine ⟨by simp [h1, hc, scrO], ?_⟩
  simp only [List.map_set, h2]
  rfl
theorem clM_row {os : List Obj} {ar : List Arr} (h : ClM ⟨os, ar⟩) (n t z : Nat) : ClM ⟨os, ar ++ [.app n t z]⟩ := by
  intro k m hk hm
  simp at hk hm
  obtain ⟨h1, h2⟩ := h k m (by simp; omega) (by simp; omega)
  simp only at h1 h2
  exact ⟨h1, by simp [h2, scrA]⟩
theorem loop65b (n : Nd) (bound out : List Str) (sp : Sp) (a : Nat) (os : List Obj) (ar : List Arr) (hb : bk n < big) (hN : n.l.length < N) (hM : ClM ⟨os, ar⟩) (hsp : okSp ⟨os, ar⟩ sp) (ha : a < ar.length)
    (hc : ∀ i x, n.l[i]? = some x → Fr65 cl x bound (freeL (n.l.take i) bound out)) :
    iter false (evalC G false cl yl N c65b1) ⟨[1, 2, 44, 45, 46], [(2, none), (46, none)]⟩ os.length ar.length N
      ⟨[(1, .slc sp (bound.map .str)), (2, .slc (.own a) ((freeL (n.l.take 0) bound out).map .str)), (44, .slc .shared (avL n.l)), (45, .int .i64 n.l.length), (46, .int .i64 ((0 : Nat) : Int))], ⟨os, ar.set a (rowB (freeL (n.l.take 0) bound out).length)⟩, []⟩ =
      some (.exit 2, ⟨[(47, .bool false), (1, .slc sp (bound.map .str)), (2, .slc (.own a) ((freeL n.l bound out).map .str)), (44, .slc .shared (avL n.l)), (45, .int .i64 n.l.length), (46, .int .i64 n.l.length)], ⟨os, ar.set a (rowB (freeL n.l bound out).length)⟩, []⟩) := by
  have hlen := len_bk n
  have hsc := okSp_scr hsp (k := os.length) (Nat.le_refl _) (bound.map .str)
  obtain ⟨ho, hr⟩ := hM os.length ar.length (Nat.le_refl _) (Nat.le_refl _)
  simp only at hsc ho hr
  unfold big at hb
  have e1 : ∀ l, (freeL (n.l.take n.l.length) bound out) = l → (freeL n.l bound out) = l := fun l h => by rw [List.take_length] at h; exact h
  refine iter_all n.l (fun i => ⟨[(1, .slc sp (bound.map .str)), (2, .slc (.own a) ((freeL (n.l.take i) bound out).map .str)), (44, .slc .shared (avL n.l)), (45, .int .i64 n.l.length), (46, .int .i64 (i : Int))], ⟨os, ar.set a (rowB (freeL (n.l.take i) bound out).length)⟩, []⟩) (.exit 2) _ hN (by simp) ?_ ?_
  · intro i x hx hi
    have w1 := wrap_succ (i := i) (by omega)
    have hx' := (List.getElem?_eq_some_iff.1 hx).2
    have hcx := hc i x hx
    rw [take_succ_of hx, freeL_snoc]
    generalize freeL (n.l.take i) bound out = o at *
    obtain ⟨X, Y, hcall⟩ := hcx sp a ⟨os ++ [.cells (ndc x)], ar.set a (rowB o.length)⟩ (clM_snoc hM (fun k m => scrL_ndc k m x)) (by
        cases sp with
        | own b => simpa [okSp] using hsp
        | shared => trivial
        | full => trivial) (by simp [ha, rowB])
    have ht2 : ∀ (r : Arr) (Y : List Arr), List.take ar.length (ar.set a r ++ Y) = ar.set a r := fun r Y => by
      rw [List.take_append_of_le_length (by simp)]
      exact List.take_of_length_le (by simp)
    have ht1 : ∀ X : List Obj, List.take os.length (os ++ X) = os := fun X => by rw [List.take_append_of_le_length (Nat.le_refl _)]; exact List.take_length
    simp [rowA, rowB] at hcall
    simp -implicitDefEqProofs [c65b1, hi, hx', w1, rowB, rowA, hcall, hsc, ha, ho, hr, ht1, ht2]
  · simp -implicitDefEqProofs [c65b1]
end
theorem bkL_take_succ {l : List Nd} {i : Nat} {x : Nd} (h : l[i]? = some x) : bkL (l.take i) + bk x ≤ bkL l := by
  induction l generalizing i with
  | nil => simp at h
  | cons y l ih =>
    cases i with
    | zero => simp at h; subst h; simp [bkL]
    | succ i => simp at h; have := ih h; simp [bkL]; omega
section
variable {G : Nat → Option AV} {cl : Caller} {yl : Nat → List AV → Mem → Option (AV × Mem)} {N : Nat}
structure Cs65 (cl : Caller) (n : Nd) : Prop where
  h106 : ∃ b, ∀ M, cl 106 [av n] M = some (.slc (nfl b) ((uses n).map .str), M)
  h107 : ∀ (sp : Sp) (l : List Str) (s : Str) (M : Mem), l.length < big → cl 107 [.slc sp (l.map .str), .str s] M = some (.bool (l.contains s), M)
  h108 : ∀ M, cl 108 [av n] M = some (.bool (bndr n).isSome, M)
  h74 : ∀ (sp : Sp) (l : List Str) (M : Mem), l.length < big → cl 74 [.slc sp (l.map .str)] M = cl74 l M
  kids : ∀ x ∈ n.l, ∀ out bound, bound.length + out.length + bk x < big → Fr65 cl x bound out
theorem bndr_some {n : Nd} {x : Str} (h : bndr n = some x) : ∃ xs, n.ns = x :: xs := by
  unfold bndr at h
  split at h
  · cases hn : n.ns with
    | nil => rw [hn] at h; cases h
    | cons y ys => rw [hn] at h; cases h; exact ⟨ys, rfl⟩
  · cases h
theorem nfl_scr (b : Bool) (k m : Nat) (l : List AV) : scr k m (.slc (nfl b) l) = .slc (nfl b) l := by cases b <;> rfl
theorem ev65 (n : Nd) (bound out : List Str) (sp : Sp) (a : Nat) (os : List Obj) (ar : List Arr) (h : Cs65 cl n) (hb : bound.length + out.length + bk n < big) (hN : bk n < N) (hM : ClM ⟨os, ar⟩) (hsp : okSp ⟨os, ar⟩ sp) (ha : ar[a]? = some (rowB out.length)) :
    ∃ Y, callA G false cl yl N c65 [av n, .slc sp (bound.map .str), .slc (.own a) (out.map .str)] ⟨os, ar⟩ = some (.slc (.own a) ((freeF n bound out).map .str), ⟨os ++ [.cells (ndc n)], ar.set a (rowB (freeF n bound out).length) ++ Y⟩) := by
  obtain ⟨⟨us', h106⟩, h107, h108, h74, kids⟩ := h
  have hlt : a < ar.length := (List.getElem?_eq_some_iff.1 ha).1
  have hself : ar.set a (rowB out.length) = ar := by
    obtain ⟨h1, h2⟩ := List.getElem?_eq_some_iff.1 ha
    rw [← h2]; exact List.set_getElem_self h1
  have hul := uses_len n
  have hnb := names_bk n
  have hM1 : ClM ⟨os ++ [.cells (ndc n)], ar⟩ := by
    have := clM_snoc (a := a) (n := out.length) hM (fun k m => scrL_ndc k m n)
    rwa [hself] at this
  obtain ⟨ho, hr⟩ := hM (os.length + 1) ar.length (by simp) (Nat.le_refl _)
  simp only at ho hr
  have hs0 := okSp_scr hsp (k := os.length + 1) (Nat.le_refl _) (bound.map .str)
  have l1 := loop65a (G := G) (cl := cl) (yl := yl) (N := N) (uses n) (nfl us') (fun k m => nfl_scr _ _ _ _) bound out sp a os ar (ndc n) (by omega) (by omega) hs0 hlt (scrL_ndc _ _ _) ho hr h107
  simp only [List.take_zero, addU, hself] at l1
  rw [show ((0 : Nat) : Int) = 0 from rfl] at l1
  have hal := addU_len bound (uses n) out
  have hkb := bk_eq n
  have hns := len_bkS n.ns
  have hub : (uses n).length ≤ bkS n.ns := by omega
  rw [freeF_eq]
  unfold wthB
  generalize addU bound (uses n) out = o1 at *
  have ht1 : ∀ x : Obj, List.take (os.length + 1) (os ++ [x]) = os ++ [x] := fun x => List.take_of_length_le (by simp)
  have ht2 : ∀ r : Arr, List.take ar.length (ar.set a r) = ar.set a r := fun r => List.take_of_length_le (by simp)
  have kid : ∀ (bd : List Str), bd.length ≤ bound.length + 1 → ∀ i x, n.l[i]? = some x → Fr65 cl x bd (freeL (n.l.take i) bd o1) := fun bd hbd i x hx => by
    refine kids x (mem_of_get hx) _ _ ?_
    have k1 := (freeL_len (n.l.take i) bd o1).2
    have k2 := bkL_take_succ hx
    omega
  cases hbd : bndr n with
  | none =>
    rw [hbd] at h108
    have l2 := loop65b (G := G) (cl := cl) (yl := yl) (N := N) n bound o1 sp a (os ++ [.cells (ndc n)]) ar (by omega) (by have := len_bk n; omega) hM1 (by
      cases sp with
      | own b => exact hsp
      | shared => trivial
      | full => trivial) hlt (kid bound (by omega))
    simp only [List.take_zero, freeL] at l2
    rw [show ((0 : Nat) : Int) = 0 from rfl] at l2
    simp only [List.length_append, List.length_cons, List.length_nil, Nat.zero_add] at l2
    refine ⟨[], ?_⟩
    simp only [] at hs0
    simp only [rowB, rowA, List.length_eq_zero_iff] at l1 l2 ⊢
    simp -implicitDefEqProofs [c65, h106, nfl_scr, l1, l2, hs0, h108, ho, hr, ht1, ht2, hlt]
  | some x =>
    rw [hbd] at h108
    obtain ⟨xs, hx⟩ := bndr_some hbd
    have l2 := loop65b (G := G) (cl := cl) (yl := yl) (N := N) n (bound ++ [x]) o1 (.own ar.length) a (os ++ [.cells (ndc n)]) (ar ++ [Arr.app (bound.length + 1) 9 1]) (by omega) (by have := len_bk n; omega) (clM_row hM1 _ _ _) (by simp [okSp]) (by simp; omega) (kid (bound ++ [x]) (by simp))
    simp only [List.take_zero, freeL] at l2
    rw [show ((0 : Nat) : Int) = 0 from rfl] at l2
    have hsa : ∀ r, (ar ++ [Arr.app (bound.length + 1) 9 1]).set a r = ar.set a r ++ [Arr.app (bound.length + 1) 9 1] := fun r => List.set_append_left _ _ hlt
    simp only [List.length_append, List.length_cons, List.length_nil, Nat.zero_add, hsa, List.map_append, List.map_cons, List.map_nil] at l2
    refine ⟨[Arr.app (bound.length + 1) 9 1], ?_⟩
    simp only [] at hs0
    have hbl : bound.length < big := by omega
    have hlt' : a < ar.length + 1 := by omega
    obtain ⟨ho', hr'⟩ := hM (os.length + 1) (ar.length + 1) (by simp) (by simp)
    simp only at ho' hr'
    have ht3 : ∀ r z : Arr, List.take (ar.length + 1) (ar.set a r ++ [z]) = ar.set a r ++ [z] := fun r z => List.take_of_length_le (by simp)
    have k74 := fun sp M => h74 sp bound M hbl
    have b1 : (bound.length + 1) * 16 ≤ 140737488355328 := by unfold big at hbl; omega
    have b2 : bound.length + 1 ≤ 140737488355328 := by unfold big at hbl; omega
    cases bound with
    | nil =>
      simp only [cl74, List.map_nil] at k74
      simp only [rowB, rowA, List.length_eq_zero_iff] at l1 l2 ⊢
      simp -implicitDefEqProofs at l1 l2 hs0
      simp -implicitDefEqProofs [c65, h106, nfl_scr, l1, l2, hs0, h108, ho, hr, ht1, ht2, hlt, k74, hx, hlt', ho', hr', ht3]
    | cons y ys =>
      simp only [cl74, List.map_cons] at k74
      simp only [rowB, rowA, List.length_eq_zero_iff] at l1 l2 ⊢
      simp -implicitDefEqProofs at l1 l2 hs0 b1 b2
      simp -implicitDefEqProofs [c65, h106, nfl_scr, l1, l2, hs0, h108, ho, hr, ht1, ht2, hlt, k74, hx, hlt', ho', hr', ht3, b1, b2]
theorem ev65f (n : Nd) (h : Cs65 cl n) (hb : bk n < big) (hN : bk n < N) :
    ∃ Y, callA G false cl yl N c65 [av n, .slc .full [], .slc .full []] ⟨[.cells (ndc n)], []⟩ = some (.slc (.own 0) ((freeF n [] []).map .str), ⟨[.cells (ndc n), .cells (ndc n)], rowB (freeF n [] []).length :: Y⟩) := by
  obtain ⟨⟨us', h106⟩, h107, h108, h74, kids⟩ := h
  have hul := uses_len n
  have hnb := names_bk n
  have hM : ClM ⟨[.cells (ndc n)], [Arr.app 0 0 0]⟩ := fun k m _ _ => ⟨by simp [scrO], rfl⟩
  have hM1 : ClM ⟨[.cells (ndc n), .cells (ndc n)], [Arr.app 0 0 0]⟩ := fun k m _ _ => ⟨by simp [scrO], rfl⟩
  have l1 := loop65a (G := G) (cl := cl) (yl := yl) (N := N) (uses n) (nfl us') (fun k m => nfl_scr _ _ _ _) [] [] .full 0 [.cells (ndc n)] [Arr.app 0 0 0] (ndc n) (by simp; omega) (by omega) rfl (by simp) (scrL_ndc _ _ _) (by simp [scrO]) rfl h107
  simp only [List.take_zero, addU] at l1
  rw [show ((0 : Nat) : Int) = 0 from rfl] at l1
  have hal := addU_len [] (uses n) []
  have hkb := bk_eq n
  have hns := len_bkS n.ns
  have hub : (uses n).length ≤ bkS n.ns := by omega
  rw [freeF_eq]
  unfold wthB
  generalize addU [] (uses n) [] = o1 at *
  have kid : ∀ (bd : List Str), bd.length ≤ 1 → ∀ i x, n.l[i]? = some x → Fr65 cl x bd (freeL (n.l.take i) bd o1) := fun bd hbd i x hx => by
    refine kids x (mem_of_get hx) _ _ ?_
    have k1 := (freeL_len (n.l.take i) bd o1).2
    have k2 := bkL_take_succ hx
    simp only [List.length_nil] at hal
    omega
  cases hbd : bndr n with
  | none =>
    rw [hbd] at h108
    have l2 := loop65b (G := G) (cl := cl) (yl := yl) (N := N) n [] o1 .full 0 [.cells (ndc n), .cells (ndc n)] [Arr.app 0 0 0] (by omega) (by have := len_bk n; omega) hM1 trivial (by simp) (kid [] (by simp))
    simp only [List.take_zero, freeL] at l2
    rw [show ((0 : Nat) : Int) = 0 from rfl] at l2
    refine ⟨[], ?_⟩
    simp only [rowB, rowA, List.length_eq_zero_iff] at l1 l2 ⊢
    simp -implicitDefEqProofs at l1 l2
    simp -implicitDefEqProofs [c65, h106, nfl_scr, l1, l2, h108]
  | some x =>
    rw [hbd] at h108
    obtain ⟨xs, hx⟩ := bndr_some hbd
    have l2 := loop65b (G := G) (cl := cl) (yl := yl) (N := N) n [x] o1 (.own 1) 0 [.cells (ndc n), .cells (ndc n)] [Arr.app 0 0 0, Arr.app 1 9 1] (by omega) (by have := len_bk n; omega) (fun k m _ _ => ⟨by simp [scrO], rfl⟩) (by simp [okSp]) (by simp) (kid [x] (by simp))
    simp only [List.take_zero, freeL] at l2
    rw [show ((0 : Nat) : Int) = 0 from rfl] at l2
    refine ⟨[Arr.app 1 9 1], ?_⟩
    have k74 := fun sp M => h74 sp [] M (by simp [big])
    simp only [cl74, List.map_nil] at k74
    simp only [rowB, rowA, List.length_eq_zero_iff] at l1 l2 ⊢
    simp -implicitDefEqProofs at l1 l2
    simp -implicitDefEqProofs [c65, h106, nfl_scr, l1, l2, h108, k74, hx]
def freR (n : Nd) : AV × Option Arr := (.slc .shared ((freeF n [] []).map .str), some (rowB (freeF n [] []).length))
theorem ev34 (n : Nd) (h : ∃ Y, cl 65 [av n, .slc .full [], .slc .full []] ⟨[.cells (ndc n)], []⟩ = some (.slc (.own 0) ((freeF n [] []).map .str), ⟨[.cells (ndc n), .cells (ndc n)], rowB (freeF n [] []).length :: Y⟩)) :
    pureA G false cl yl N c34 [av n] = some (freR n) := by
  obtain ⟨Y, h⟩ := h
  unfold freR
  generalize freeF n [] [] = l at *
  simp only [rowB, rowA, List.length_eq_zero_iff] at h ⊢
  simp -implicitDefEqProofs [c34, h]
end
section
variable {G : Nat → Option AV} {cl : Caller} {yl : Nat → List AV → Mem → Option (AV × Mem)} {N : Nat}
structure Cs63 (cl : Caller) (n : Nd) : Prop where
  h58 : ∀ M, cl 58 [av n] M = some (.bool (decide (n.op < 11)), M)
  h97 : ∀ M, cl 97 [av n] M = some (.bool (triv n), M)
  h91 : ∀ b M, cl 91 [.bool b] M = some (av (tru b), M)
  h51 : ∀ M, cl 51 [av n] M = some (av n, M)
  kids : ∀ x ∈ n.l, ∀ M, cl 63 [av x] M = some (av (smp x), M)
  h98 : ∀ a, n.op = 11 → n.l = [a] → ∀ M, cl 98 [av (smp a)] M = some (av (snot (smp a)), M)
  h99 : ∀ a b, n.op = 12 ∨ n.op = 13 → n.l = [a, b] → ∀ M, cl 99 [.int .i64 n.op, av (smp a), av (smp b)] M = some (av (jn n.op (smp a) (smp b)), M)
  h100 : ∀ a b, n.op = 14 → n.l = [a, b] → ∀ M, cl 100 [av (smp a), av (smp b)] M = some (av (imp (smp a) (smp b)), M)
  h101 : ∀ a b, n.op = 15 → n.l = [a, b] → ∀ M, cl 101 [av (smp a), av (smp b)] M = some (av (alk (smp a) (smp b)), M)
  h102 : ∀ a, n.op = 16 ∨ n.op = 17 → n.l = [a] → ∀ M, cl 102 [av n, av (smp a)] M = some (av (bdq n (smp a)), M)
def smpE (n : Nd) : Nd × Int := if chk n = 0 then (smp n, 0) else (nd0, chk n)
theorem pureA_avI {mu : Bool} {cf : CFn} {ags : List AV} {n : Nd} {e : Int} (ha : argL ags = some ags) (h : ∃ M, callA G mu cl yl N cf ags ⟨[], []⟩ = some (.tup [av n, .int .i64 e], M)) : pureA G mu cl yl N cf ags = some (.tup [av n, .int .i64 e], none) := by
  obtain ⟨M, h⟩ := h
  unfold pureA
  rw [ha]
  simp only [h]
  have : backV M (.tup [av n, .int .i64 e]) = some (.tup [av n, .int .i64 e]) := by simp
  rw [this]
theorem chk_vd {n : Nd} (h : chk n = 0) : ndE n = 0 := by
  unfold chk at h
  split at h
  · assumption
  · assumption
end
theorem takeV_none (v : AV) (M : Mem) : takeV false (v, none) M = some (v, M) := by cases v <;> rfl
inductive Has : List (Nat × (List AV → Ores)) → Nat → (List AV → Ores) → Prop
  | here {f : Nat} {s : List AV → Ores} {l : List (Nat × (List AV → Ores))} : Has ((f, s) :: l) f s
  | there {f g : Nat} {s s' : List AV → Ores} {l : List (Nat × (List AV → Ores))} (h : Has l f s) (hn : Nat.beq f g = false) : Has ((g, s') :: l) f s
theorem Has.eq {l : List (Nat × (List AV → Ores))} {f : Nat} {s : List AV → Ores} (h : Has l f s) (ags : List AV) : orcOf l f ags = s ags := by
  induction h with
  | here => exact orcOf_self _ _ _ _
  | there h hn ih => simp only [orcOf, hn, ih]
theorem spC_at {l : List (Nat × (List AV → Ores))} {f : Nat} {X : Type} {enc : X → List AV} {F : X → AV × Option Arr} {ok : X → Prop} (inj : ∀ x y, enc x = enc y → x = y) (x : X)
    (ho : Has l f (spR enc F ok)) (hx : ok x) {ags : List AV} (ha : argL ags = some (enc x)) (M : Mem) : spC (orcOf l) f ags M = takeV false (F x) M := by
  unfold spC
  rw [ha]
  simp only [ho.eq, spR_at inj hx]
theorem spC_v {l : List (Nat × (List AV → Ores))} {f : Nat} {X : Type} {enc : X → List AV} {F : X → AV × Option Arr} {ok : X → Prop} (inj : ∀ x y, enc x = enc y → x = y) (x : X)
    (ho : Has l f (spR enc F ok)) (hx : ok x) {ags : List AV} (ha : argL ags = some (enc x)) {v : AV} (hv : F x = (v, none)) (M : Mem) : spC (orcOf l) f ags M = some (v, M) := by
  rw [spC_at inj x ho hx ha, hv, takeV_none]
def orcW (orc : Nat → List AV → Ores) (f : Nat) (ags : List AV) : Ores := match argL ags with
  | some a => orc f a
  | none => none
theorem orcW_ok {P : Program} {G : Nat → Option AV} {orc : Nat → List AV → Ores} (h : OrcOK P G orc) : OrcOK P G (orcW orc) := by
  intro f ags r hr U bs es w args hG hV hfr
  unfold orcW at hr
  split at hr
  · rename_i a ha
    exact h f a r hr U [] [] w args hG (argL_rep hV ha) hfr
  · cases hr
def TW (orc : Nat → List AV → Ores) : Table := ⟨fns, orcW orc, mutv⟩
abbrev BW (G : Nat → Option AV) (orc : Nat → List AV → Ores) (N k : Nat) : Caller := (both G (TW orc) N false k).1
abbrev YW (G : Nat → Option AV) (orc : Nat → List AV → Ores) (N k : Nat) : Nat → List AV → Mem → Option (AV × Mem) := (both G (TW orc) N false k).2
section
variable {G : Nat → Option AV} {orc : Nat → List AV → Ores} {N k f : Nat} {ags : List AV}
theorem bw_sp {r : AV × Mem} {M : Mem} (h : spC orc f ags M = some r) : BW G orc N (k + 1) f ags M = some r := by
  unfold spC at h
  have e : (TW orc).orc f ags = orcW orc f ags := rfl
  unfold BW
  rw [both]
  simp only [e]
  unfold orcW
  split at h
  · rename_i a ha
    split at h
    · rename_i r' hr'
      simp only [ha, hr', h]
    · cases h
  · cases h
theorem bw_fn {cf : CFn} (h1 : orcW orc f ags = none) (hf : fns f = some cf) (hm : mutv f = false) (M : Mem) :
    BW G orc N (k + 1) f ags M = if cf.pure && (argL ags).isSome then (match pureA G false (BW G orc N k) (YW G orc N k) N cf ags with
      | some r => takeP false r M
      | none => none) else callA G false (BW G orc N k) (YW G orc N k) N cf ags M := by
  have e1 : (TW orc).orc f ags = none := h1
  have e2 : (TW orc).fns f = some cf := hf
  have e3 : (TW orc).mutf f = false := hm
  unfold BW YW
  rw [both]
  simp only [e1, e2, e3, Bool.false_and, Bool.not_false, Bool.and_true]
  rfl
theorem bw_pure {cf : CFn} {v : AV} (h1 : orcW orc f ags = none) (hf : fns f = some cf) (hm : mutv f = false) (hp : cf.pure = true) (ha : (argL ags).isSome = true) (h : pureA G false (BW G orc N k) (YW G orc N k) N cf ags = some (v, none)) (M : Mem) :
    BW G orc N (k + 1) f ags M = some (v, M) := by
  rw [bw_fn h1 hf hm, hp, ha]
  simp only [Bool.and_self, if_true, h]
  cases v <;> rfl
theorem bw_call {cf : CFn} (h1 : orcW orc f ags = none) (hf : fns f = some cf) (hm : mutv f = false) (hp : cf.pure = false) (M : Mem) :
    BW G orc N (k + 1) f ags M = callA G false (BW G orc N k) (YW G orc N k) N cf ags M := by
  rw [bw_fn h1 hf hm, hp]
  simp
end
section
variable {G : Nat → Option AV} {l : List (Nat × (List AV → Ores))}
theorem orc_bw {X : Type} {f : Nat} {cf : CFn} (enc : X → List AV) (F : X → AV × Option Arr) (ok : X → Prop) (hf : FnOK Tryz.prog f cf)
    (h : ∀ x, ok x → ∃ N k, pureA G false (BW G (orcOf l) N k) (YW G (orcOf l) N k) N cf (enc x) = some (F x)) (hl : OrcOK Tryz.prog G (orcOf l)) : OrcOK Tryz.prog G (orcOf ((f, spR enc F ok) :: l)) :=
  orc_cons hl fun ags r hr => by
    obtain ⟨x, rfl, hx, rfl⟩ := spR_inv hr
    obtain ⟨N, k, h⟩ := h x hx
    exact orc_both (T := TW (orcOf l)) hmix kis tabOK hf (orcW_ok hl) ⟨N, k, false, h⟩
end
theorem spC_self {orc : Nat → List AV → Ores} {f : Nat} {ags : List AV} {v : AV} (h : orc f ags = some (v, none)) (ha : argL ags = some ags) (M : Mem) : spC orc f ags M = some (v, M) := by
  unfold spC
  rw [ha]
  simp only [h, takeV_none]
theorem spC_ext {orc orc' : Nat → List AV → Ores} {f : Nat} (h : ∀ ags, orc f ags = orc' f ags) (ags : List AV) (M : Mem) : spC orc f ags M = spC orc' f ags M := by
  unfold spC
  split <;> simp only [h]
theorem int_inj (a b : Int) (h : [AV.int .i64 a] = [AV.int .i64 b]) : a = b := by simpa using h
theorem bool_inj (a b : Bool) (h : [AV.bool a] = [AV.bool b]) : a = b := by simpa using h
theorem strs_inj : ∀ {a b : List Str}, a.map AV.str = b.map AV.str → a = b
  | [], [], _ => rfl
  | [], _ :: _, h => by simp at h
  | _ :: _, [], h => by simp at h
  | x :: a, y :: b, h => by simp at h; rw [h.1, strs_inj h.2]
theorem avL_inj {a b : List Nd} (h : avL a = avL b) : a = b := by
  have := deNs_av a
  rw [h, deNs_av] at this
  exact (Option.some.inj this).symm
section
variable {t : Nat}
abbrev e1 (n : Nd) : List AV := [av n]
noncomputable abbrev sNd (F : Nd → AV) (ok : Nd → Prop) : List AV → Ores := spR e1 (fun n => (F n, none)) ok
noncomputable abbrev M1 : List (Nat × (List AV → Ores)) := (33, ndS fun n => .int .i64 (dp n)) :: (32, ndS fun n => .int .i64 (sz n)) :: L10
theorem m1 : OrcOK Tryz.prog (GG t) (orcOf M1) :=
  self_node _ (fun n M => rfl) ok33 (fun n cl hb hc => ev33 n hb (Nat.lt_succ_self _) hc)
    (self_node _ (fun n M => rfl) ok32 (fun n cl hb hc => ev32 n hb (Nat.lt_succ_self _) hc) (o10 (orc_up orc9)))
noncomputable abbrev M2 : List (Nat × (List AV → Ores)) := (134, spR (fun s : Str => [.str s]) (fun s => (.bool (!isId s), none)) (fun _ => True)) :: (118, spR (fun s : Str => [.str s]) (fun s => (.bool (isId s), none)) (fun _ => True)) :: M1
theorem m2 : OrcOK Tryz.prog (GG t) (orcOf M2) := by
  refine orc_con _ _ _ ok134 (fun s _ => ⟨1, ev134 s fun M => spC_v str1_inj s (by repeat first | exact .here | refine .there ?_ rfl) (by exact trivial) (by exact rfl) (by rfl) M⟩) ?_
  refine orc_cons m1 fun ags r hr => ?_
  obtain ⟨s, rfl, -, rfl⟩ := spR_inv hr
  exact orc118 s
def nsE (l : List Str) : List AV := [.slc .shared (l.map .str), .fn 134 [] []]
theorem nsE_inj (a b : List Str) (h : nsE a = nsE b) : a = b := by
  simp only [nsE, List.cons.injEq, AV.slc.injEq, true_and, and_true] at h
  exact strs_inj h
noncomputable abbrev M3 : List (Nat × (List AV → Ores)) := (96, sNd (fun n => .bool (rngF n)) fun _ => True) :: (95, sNd (fun n => .bool (hasF n)) fun n => 0 ≤ n.op ∧ n.op < 18 ∧ bk n ≤ big) :: (133, spR nsE (fun l => (.bool (!l.all isId), none)) (fun l => l.length < big)) :: (155, spR nsE (fun l => (.int .i64 (firstN isId l), none)) (fun l => l.length < big)) :: M2
theorem m3 : OrcOK Tryz.prog (GG t) (orcOf M3) := by
  refine orc_con _ _ _ ok96 (fun n _ => ⟨1, ev96 n⟩) ?_
  refine orc_con _ _ _ ok95 (fun n h => ⟨1, ev95 n h.1 h.2.1 fun M => spC_v nsE_inj n.ns (by repeat first | exact .here | refine .there ?_ rfl) (by have := names_bk n; have := h.2.2; show n.ns.length < big; omega) (by exact rfl) (by rfl) M⟩) ?_
  refine orc_con _ _ _ ok133 (fun l h => ⟨1, ev133 l fun M => spC_v nsE_inj l (by repeat first | exact .here | refine .there ?_ rfl) (by exact h) (by exact rfl) (by rfl) M⟩) ?_
  exact orc_con _ _ _ ok155 (fun l h => ⟨l.length + 1, ev155 l h (Nat.lt_succ_self _) fun s M => spC_v str1_inj s (by repeat first | exact .here | refine .there ?_ rfl) (by exact trivial) (by exact rfl) (by rfl) M⟩) m2
noncomputable abbrev M4 : List (Nat × (List AV → Ores)) := (61, sNd (fun n => .int .i64 (ndE n)) fun n => bk n ≤ big) :: M3
theorem m4 : OrcOK Tryz.prog (GG t) (orcOf M4) := by
  refine orc_self _ _ _ sz av1_inj ok61 ?_ m3
  intro n hb orc hself hother
  refine ⟨n.l.length + 1, ev61 n hb (Nat.lt_succ_self _) (fun h0 h1 M => ?_) (fun M => ?_) (fun x hx M => ?_)⟩
  · rw [spC_ext (hother 95 (by decide))]
    exact spC_v av1_inj n (by repeat first | exact .here | refine .there ?_ rfl) (by exact ⟨h0, h1, hb⟩) (by simp [e1]) (by rfl) M
  · rw [spC_ext (hother 96 (by decide))]
    exact spC_v av1_inj n (by repeat first | exact .here | refine .there ?_ rfl) (by exact trivial) (by simp [e1]) (by rfl) M
  · exact spC_self (hself x (by have := bk_child hx; show bk x ≤ big; omega) (sz_child hx)) (by simp [e1]) M
theorem a1 (n : Nd) : argL [av n] = some (e1 n) := by simp [e1]
noncomputable abbrev M5 : List (Nat × (List AV → Ores)) := (40, spR e1 (fun n => (.tup [av (ckd n).1, .int .i64 (ckd n).2], none)) (fun n => bk n ≤ big)) :: (28, sNd (fun n => .int .i64 (chk n)) fun n => bk n ≤ big) :: (62, sNd (fun n => .int .i64 (grt n)) fun n => bk n ≤ big) :: M4
theorem m5 : OrcOK Tryz.prog (GG t) (orcOf M5) := by
  refine orc_con _ _ _ ok40 (fun n hb => ⟨1, ev40 n fun M => spC_v av1_inj n (by repeat first | exact .here | refine .there ?_ rfl) (by exact hb) (by exact (a1 n)) (by rfl) M⟩) ?_
  refine orc_con _ _ _ ok28 (fun n hb => ⟨1, ev28 n (fun M => spC_v av1_inj n (by repeat first | exact .here | refine .there ?_ rfl) (by exact hb) (by exact (a1 n)) (by rfl) M) (fun M => spC_v av1_inj n (by repeat first | exact .here | refine .there ?_ rfl) (by exact hb) (by exact (a1 n)) (by rfl) M)⟩) ?_
  exact orc_con _ _ _ ok62 (fun n hb => ⟨1, ev62 n (fun M => spC_v av1_inj n (by repeat first | exact .here | refine .there ?_ rfl) (by exact hb) (by exact (a1 n)) (by rfl) M) (fun M => spC_v av1_inj n (by repeat first | exact .here | refine .there ?_ rfl) (by exact hb) (by exact (a1 n)) (by rfl) M)⟩) m4
abbrev e2 (p : Nd × Nd) : List AV := [av p.1, av p.2]
theorem a2 (a b : Nd) : argL [av a, av b] = some (e2 (a, b)) := by simp [e2]
noncomputable abbrev M6 : List (Nat × (List AV → Ores)) := M5
theorem m6 : OrcOK Tryz.prog (GG t) (orcOf M6) := m5
def nlE (p : Int × List Nd) : List AV := [.int .i64 p.1, .slc .full (avL p.2)]
theorem nlE_inj (a b : Int × List Nd) (h : nlE a = nlE b) : a = b := by
  simp only [nlE, List.cons.injEq, AV.slc.injEq, AV.int.injEq, true_and, and_true] at h
  exact Prod.ext h.1 (avL_inj h.2)
noncomputable abbrev M7 : List (Nat × (List AV → Ores)) :=
  (92, sNd (fun n => av (nd 11 [n])) fun _ => True) :: (91, spR (fun b : Bool => [.bool b]) (fun b => (av (tru b), none)) (fun _ => True)) ::
  (75, spR nlE (fun p => (av (nd p.1 p.2), none)) (fun _ => True)) :: (73, spR (fun k : Int => [.int .i64 k]) (fun k => (.bool (k == 0 || k == 1), none)) (fun _ => True)) ::
  (58, sNd (fun n => .bool (decide (n.op < 11))) fun _ => True) :: M6
theorem m7_75 {l : List (Nat × (List AV → Ores))} (h : Has l 75 (spR nlE (fun p => (av (nd p.1 p.2), none)) (fun _ => True))) : C75 (spC (orcOf l)) :=
  fun op ll M => spC_v nlE_inj (op, ll) h (by exact trivial) (by exact rfl) (by rfl) M
theorem m7 : OrcOK Tryz.prog (GG t) (orcOf M7) := by
  refine orc_con _ _ _ ok92 (fun n _ => ⟨1, ev92 n (m7_75 (by repeat first | exact .here | refine .there ?_ rfl))⟩) ?_
  refine orc_con _ _ _ ok91 (fun b _ => ⟨1, ev91 b (m7_75 (by repeat first | exact .here | refine .there ?_ rfl))⟩) ?_
  refine orc_con _ _ _ ok75 (fun p _ => ⟨1, ev75 p.1 p.2⟩) ?_
  refine orc_con _ _ _ ok73 (fun k _ => ⟨1, ev73 k⟩) ?_
  exact orc_con _ _ _ ok58 (fun n _ => ⟨1, ev58 n⟩) m6
noncomputable abbrev M8 : List (Nat × (List AV → Ores)) := M7
theorem m8 : OrcOK Tryz.prog (GG t) (orcOf M8) := m7
end
section
variable {G : Nat → Option AV} {cl : Caller} {yl : Nat → List AV → Mem → Option (AV × Mem)} {N : Nat}
def usB (n : Nd) : Bool := !(decide (n.op = 10) || (decide (2 ≤ n.op) && decide (n.op < 10)))
theorem ev106b (n : Nd) : pureA G false cl yl N c106 [av n] = some (.slc (nfl (usB n)) ((uses n).map .str), none) := by
  unfold uses usB
  by_cases h1 : n.op = 10
  · cases hn : n.ns with
    | nil => simp -implicitDefEqProofs [c106, h1, hn, nfl, optV]
    | cons s ns =>
      have hm : (if (1 : Int) < (ns.length : Int) + 1 then (1 : Int) else (ns.length : Int) + 1) = 1 := by split <;> omega
      simp -implicitDefEqProofs [c106, h1, hn, nfl, optV, hm]
      exact List.take_of_length_le (by simp)
  · have h1' : (n.op == 10) = false := by simp [h1]
    by_cases h3 : 2 ≤ n.op
    · by_cases h4 : n.op < 10
      · simp -implicitDefEqProofs [c106, h1, h1', h3, h4, nfl]
      · simp -implicitDefEqProofs [c106, h1, h1', h3, h4, nfl]
    · simp -implicitDefEqProofs [c106, h1, h1', h3, nfl]
end
section
variable {t : Nat}
def e3 (p : Int × Nd × Nd) : List AV := [.int .i64 p.1, av p.2.1, av p.2.2]
theorem e3_inj (a b : Int × Nd × Nd) (h : e3 a = e3 b) : a = b := by
  simp only [e3, List.cons.injEq, and_true, AV.int.injEq, true_and] at h
  exact Prod.ext h.1 (Prod.ext (av_inj h.2.1) (av_inj h.2.2))
theorem a3 (o : Int) (a b : Nd) : argL [.int .i64 o, av a, av b] = some (e3 (o, a, b)) := by simp [e3]
noncomputable abbrev M9 : List (Nat × (List AV → Ores)) := M8
theorem m9 : OrcOK Tryz.prog (GG t) (orcOf M9) := m8
def bsE (p : Bool × List Str × Str) : List AV := [.slc (nfl p.1) (p.2.1.map .str), .str p.2.2]
theorem nfl_inj {a b : Bool} (h : nfl a = nfl b) : a = b := by cases a <;> cases b <;> simp_all [nfl]
theorem bsE_inj (a b : Bool × List Str × Str) (h : bsE a = bsE b) : a = b := by
  simp only [bsE, List.cons.injEq, and_true, AV.slc.injEq, AV.str.injEq] at h
  exact Prod.ext (nfl_inj h.1.1) (Prod.ext (strs_inj h.1.2) h.2)
def spF : Sp → Bool
  | .full => true
  | _ => false
theorem aBs (sp : Sp) (l : List Str) (s : Str) : argL [.slc sp (l.map .str), .str s] = some (bsE (spF sp, l, s)) := by cases sp <;> rfl
abbrev okC (p : Bool × List Str × Str) : Prop := p.2.1.length < big
noncomputable abbrev s107 : List AV → Ores := spR bsE (fun p => (.bool (p.2.1.contains p.2.2), none)) okC
noncomputable abbrev s108 : List AV → Ores := sNd (fun n => .bool (bndr n).isSome) fun _ => True
noncomputable abbrev s106 : List AV → Ores := sNd (fun n => .slc (nfl (usB n)) ((uses n).map .str)) fun _ => True
noncomputable abbrev M10 : List (Nat × (List AV → Ores)) := (106, s106) :: (108, s108) :: (107, s107) :: (138, spR bsE (fun p => (.int .i64 (firstN (fun x => !(p.2.2 == x)) p.2.1), none)) okC) :: M9
theorem m10_ : OrcOK Tryz.prog (GG t) (orcOf M10) := by
  refine orc_con _ _ _ ok106 (fun n _ => ⟨1, ev106b n⟩) ?_
  refine orc_con _ _ _ ok108 (fun n _ => ⟨1, ev108 n⟩) ?_
  refine orc_con _ _ _ ok107 (fun p h => ⟨1, ev107 p.1 p.2.1 p.2.2 fun M => spC_v bsE_inj p (by repeat first | exact .here | refine .there ?_ rfl) (by exact h) (by obtain ⟨b, l, s⟩ := p; cases b <;> rfl) (by rfl) M⟩) ?_
  exact orc_con _ _ _ ok138 (fun p h => ⟨p.2.1.length + 1, ev138 p.1 p.2.1 p.2.2 h (Nat.lt_succ_self _)⟩) m9
theorem c107_ {l : List (Nat × (List AV → Ores))} (h : Has l 107 s107) (sp : Sp) (ls : List Str) (s : Str) (M : Mem) (hl : ls.length < big) : spC (orcOf l) 107 [.slc sp (ls.map .str), .str s] M = some (.bool (ls.contains s), M) :=
  spC_v bsE_inj (spF sp, ls, s) h (by exact hl) (by exact aBs sp ls s) (by rfl) M
theorem c74_ {l : List (Nat × (List AV → Ores))} (h : Has l 74 (cloneA 9 1)) (sp : Sp) (ls : List Str) (M : Mem) (hl : ls.length < big) : spC (orcOf l) 74 [.slc sp (ls.map .str)] M = cl74 ls M := by
  unfold big at hl
  have ha : ∃ s', argL [.slc sp (ls.map .str)] = some [.slc s' (ls.map .str)] := by cases sp <;> exact ⟨_, rfl⟩
  obtain ⟨s', ha⟩ := ha
  unfold spC
  rw [ha]
  simp only [h.eq]
  cases ls with
  | nil => simp [cloneA, cl74]
  | cons s ss =>
    simp at hl
    have b1 : (ss.length + 1) * 4096 ≤ 140737488355328 := by omega
    simp [cloneA, cl74, b1]
structure HFree (l : List (Nat × (List AV → Ores))) : Prop where
  h106 : Has l 106 s106
  h107 : Has l 107 s107
  h108 : Has l 108 s108
  h74 : Has l 74 (cloneA 9 1)
  h65 : ∀ ags, orcOf l 65 ags = none
theorem HFree.no {l : List (Nat × (List AV → Ores))} (h : HFree l) (ags : List AV) : orcW (orcOf l) 65 ags = none := by
  unfold orcW
  split
  · exact h.h65 _
  · rfl
theorem cs65 {G : Nat → Option AV} {l : List (Nat × (List AV → Ores))} (h : HFree l) {N k : Nat} {n : Nd} (kids : ∀ x ∈ n.l, ∀ out bound, bound.length + out.length + bk x < big → Fr65 (BW G (orcOf l) N (k + 1)) x bound out) : Cs65 (BW G (orcOf l) N (k + 1)) n where
  h106 := ⟨usB n, fun M => bw_sp (spC_v av1_inj n h.h106 (by exact trivial) (by exact a1 n) (by rfl) M)⟩
  h107 := fun sp ls s M hl => bw_sp (c107_ h.h107 sp ls s M hl)
  h108 := fun M => bw_sp (spC_v av1_inj n h.h108 (by exact trivial) (by exact a1 n) (by rfl) M)
  h74 := fun sp ls M hl => by
    have := c74_ h.h74 sp ls M hl
    cases ls with
    | nil => rw [bw_sp this]; rfl
    | cons s ss => rw [bw_sp this]; rfl
  kids := kids
theorem fr65 {G : Nat → Option AV} {l : List (Nat × (List AV → Ores))} (h : HFree l) (N : Nat) : ∀ (k : Nat) (n : Nd) (bound out : List Str), sz n ≤ k → bk n < N → bound.length + out.length + bk n < big → Fr65 (BW G (orcOf l) N (k + 1)) n bound out
  | 0, n, _, _, hk, _, _ => by have := sz_pos n; omega
  | k + 1, n, bound, out, hk, hN, hb => by
    intro sp a M hM hsp ha
    obtain ⟨os, ar⟩ := M
    rw [bw_call (h.no _) (cf := c65) rfl rfl rfl]
    obtain ⟨Y, hY⟩ := ev65 (G := G) (yl := YW G (orcOf l) N (k + 1)) (N := N) n bound out sp a os ar (cs65 (G := G) h (N := N) (k := k) fun x hx out bound hb => fr65 h N k x bound out (by have := sz_child hx; omega) (by have := bk_child hx; omega) hb) hb hN hM hsp ha
    exact ⟨_, Y, hY⟩
theorem free_at {G : Nat → Option AV} {l : List (Nat × (List AV → Ores))} (h : HFree l) (n : Nd) (hb : bk n < big) : pureA G false (BW G (orcOf l) (bk n + 1) (bk n + 3)) (YW G (orcOf l) (bk n + 1) (bk n + 3)) (bk n + 1) c34 [av n] = some (freR n) := by
  refine ev34 n ?_
  rw [bw_call (h.no _) (cf := c65) rfl rfl rfl]
  exact ev65f (G := G) (yl := YW G (orcOf l) (bk n + 1) (bk n + 2)) n (cs65 (G := G) h (k := bk n + 1) fun x hx out bound hb => fr65 h (bk n + 1) (bk n + 1) x bound out (by have := sz_child hx; have := sz_bk n; omega) (by have := bk_child hx; omega) hb) hb (Nat.lt_succ_self _)
noncomputable abbrev s34 : List AV → Ores := spR e1 freR (fun n => bk n < big)
noncomputable abbrev M11 : List (Nat × (List AV → Ores)) := (34, s34) :: M10
theorem m11 : OrcOK Tryz.prog (GG t) (orcOf M11) :=
  orc_bw _ _ _ ok34 (fun n hb => ⟨_, _, free_at ⟨(by repeat first | exact .here | refine .there ?_ rfl), (by repeat first | exact .here | refine .there ?_ rfl), (by repeat first | exact .here | refine .there ?_ rfl), (by repeat first | exact .here | refine .there ?_ rfl), fun _ => rfl⟩ n hb⟩) m10_
end
theorem bkS_id : ∀ l : List Str, l.all isId = true → bkS l ≤ 17 * l.length
  | [], _ => by simp [bkS]
  | s :: l, h => by
    simp only [List.all_cons, Bool.and_eq_true] at h
    have h1 := isId_len h.1
    have h2 := bkS_id l h.2
    simp only [bkS, List.length_cons]
    omega
theorem bk_nd1 (op : Int) (a : Nd) : bk (nd op [a]) = bk a + 1 := by simp [nd, bk, bkS, bkL]
theorem bk_nd2 (op : Int) (a b : Nd) : bk (nd op [a, b]) = bk a + bk b + 1 := by simp [nd, bk, bkS, bkL]
theorem bk_nd0 (op : Int) : bk (nd op []) = 1 := by simp [nd, bk, bkS, bkL]
theorem bk_qn (op : Int) (x : Str) (so : Int) (a : Nd) : bk (qn op x so a) = x.length + 1 + bk a + 1 := by simp [qn, bk, bkS, bkL]
theorem bk_vd : ∀ (k : Nat) (n : Nd), sz n ≤ k → ndE n = 0 → bk n ≤ 290 * sz n
  | 0, n, hk, _ => by have := sz_pos n; omega
  | k + 1, n, hk, hv => by
    have hp := sz_pos n
    cases vk_of hv with
    | cst op h => rw [bk_nd0]; omega
    | two op x y h hx hy =>
      have h1 := isId_len hx
      have h2 := isId_len hy
      simp [bk, bkS, bkL, sz, szL]; omega
    | lab x k hx h => have h1 := isId_len hx; simp [bk, bkS, bkL, sz, szL]; omega
    | smd x k m hx h => have h1 := isId_len hx; simp [bk, bkS, bkL, sz, szL]; omega
    | sng x hx => have h1 := isId_len hx; simp [bk, bkS, bkL, sz, szL]; omega
    | cal x xs h hx =>
      have h1 := bkS_id _ hx
      simp only [bk, bkL, sz, szL]
      omega
    | not a ha =>
      rw [sz_nd1] at *
      have := bk_vd k a (by omega) ha
      rw [bk_nd1]; omega
    | bin op a b h ha hb =>
      rw [sz_nd2] at *
      have := bk_vd k a (by omega) ha
      have := bk_vd k b (by omega) hb
      rw [bk_nd2]; omega
    | qnt op x so a h hx hs ha =>
      rw [sz_qn] at *
      have := bk_vd k a (by omega) ha
      have := isId_len hx
      rw [bk_qn]; omega
def okV (n : Nd) : Prop := ndE n = 0 ∧ sz n ≤ 4096
theorem okV_bk {n : Nd} (h : okV n) : bk n < 1200000 := by have := bk_vd _ n (Nat.le_refl _) h.1; have := h.2; omega
theorem okV_big {n : Nd} (h : okV n) : bk n ≤ big := by have := okV_bk h; unfold big; omega
theorem okV_kid {n x : Nd} (h : okV n) (hx : x ∈ n.l) : okV x := ⟨ndE_kid h.1 hx, by have := sz_child hx; have := h.2; omega⟩
theorem okV_chk {n : Nd} (h : chk n = 0) : okV n := by
  have hv := chk_vd h
  refine ⟨hv, ?_⟩
  unfold chk grt at h
  rw [if_pos hv] at h
  by_cases hz : sz n > 4096
  · rw [if_pos hz] at h; simp at h
  · omega
section
variable {t : Nat}
noncomputable abbrev M12 : List (Nat × (List AV → Ores)) := M11
theorem m12 : OrcOK Tryz.prog (GG t) (orcOf M12) := m11
noncomputable abbrev M13 : List (Nat × (List AV → Ores)) := M12
theorem m13 : OrcOK Tryz.prog (GG t) (orcOf M13) := m12
noncomputable abbrev M14 : List (Nat × (List AV → Ores)) := M13
theorem m14 : OrcOK Tryz.prog (GG t) (orcOf M14) := m13
end
end Go.Proofs.Ae
namespace Go.Proofs.Ae
open Go Go.RowKit
open Go.Proofs.YtlaomcfiadmamaaGreatDoor
theorem sh_iface {H : Type} {enc : TypeId × Value → H} {P : Program} {w : World} {sp : Nat → Bool} {held : Bool} {fuel t : Nat} {l : Array (String × TypeId)} {cs : List Value} {nm : String} {d : DataW H} {ps : List MemPlace} (hu : P.underlying t = some (.interface l)) (h : DataW.trod enc P w 0 sp held fuel t cs = some (.iface nm d, ps)) : ∃ u v, cs = [.iface u v] := by
  cases fuel with
  | zero => simp [DataW.trod] at h
  | succ fuel =>
    unfold DataW.trod at h
    rw [hu] at h
    split at h
    all_goals first | (rename_i u v e; exact ⟨u, v, rfl⟩) | (cases h; done) | skip
    all_goals (have e := ‹some (TypeDesc.interface _) = _›; cases e)
theorem grelG {w : World} (h : laidMetH Tryz.prog LL w) : ∃ t, GRel (U0 w) w (GG t) := by
  have hl : laidMet Tryz.prog LL w := by
    have := h
    rwa [Go.MakeChecks.laidMetH_plain _ _ _ ll_plain] at this
  have h0 := grel h
  obtain ⟨ps, hlv, -, -⟩ := hl
  obtain ⟨g, tt, cs, fuel, p, k1, k2, k3, k4⟩ := laid_mem hlv (nm := "strconv.ErrRange") (d := Rows.laid_strconv_ErrRange) (by simp [LL, Rows.normalFormPrefixUptoRow])
  obtain rfl : g = 7 := Option.some.inj (k1.symm.trans (show Tryz.prog.globalNamed "strconv.ErrRange" = some 7 by kernel_rfl))
  obtain rfl : tt = 197 := Option.some.inj (k2.symm.trans (show (Tryz.prog.globals[7]?).map (·.type) = some 197 by kernel_rfl))
  obtain ⟨u, v, hcs⟩ := sh_iface Tryz.underlying197 k4
  refine ⟨u, ?_⟩
  intro g v' hg
  unfold GG at hg
  split at hg
  · rename_i hb
    have := Nat.eq_of_beq_eq_true hb
    subst this
    cases hg
    refine ⟨[.iface u .undef], cs.toList, rfl, ?_, ?_, fun _ => by rw [var_csz k1 k3]; simp⟩
    · rw [hcs]
      exact .cons (.iface .undef) rfl .nil
    · intro i x hx
      have hc := World.var?_cell k1 k3 i
      have e : (⟨7, 0, Option.none⟩ : Addr).add i = ⟨7, i, Option.none⟩ := by unfold Addr.add; split <;> simp_all
      have hx' : cs[i]? = some x := by simpa using hx
      rw [e, hc]
      refine ⟨hx', ?_⟩
      have := u0_cell (w := w) (a := ⟨7, i, Option.none⟩) (v := x) (by rw [hc]; exact hx')
      simpa using this
  · split at hg
    · rename_i hb
      have := Nat.eq_of_beq_eq_true hb
      subst this
      cases hg
      exact grel5 h
    · exact h0 g v' hg
theorem orc_lawG {G : Nat → Option AV} {f : Nat} {ags : List AV} {W : World} {args : List Value} (h : OrcAt Tryz.prog G f ags (.bool true, none)) (hG : GRel (U0 W) W G) (hV : RepV (U0 W) W [] [] ags args) :
    Calls Tryz.prog f args.toArray W fun e W' => e = .returned (.bool true) ∧ Below W.heap.size W W' := by
  refine Calls.mono (h (U0 W) [] [] W args hG hV u0_fr).2 ?_
  rintro e w' ⟨x, U', rfl, hp⟩
  have := hp.rep
  cases this
  exact ⟨rfl, hp.below⟩
end Go.Proofs.Ae
