/- Further functions: what they answer, and what that means. -/
import Derived.Test.YtlaomcfiadmamaaGreatDoorM
set_option linter.unusedSimpArgs false
set_option linter.unusedVariables false
set_option linter.unusedSectionVars false
namespace Go.Proofs.Ae
open Go Go.RowKit
def dua (op : Int) : Int := if op = 12 then 13 else if op = 13 then 12 else if op = 16 then 17 else if op = 17 then 16 else 0
def pshC (n : Nd) (l : List (Nd × Nd)) : Nd × Nd :=
  if n.op = 0 ∨ n.op = 1 then (n, tru (n.op = 1)) else if n.op < 11 then (n, nd 11 [n]) else match l with
  | [p] => if n.op = 11 then (p.2, p.1) else (.mk n.op n.ns n.so 0 0 [p.1], .mk (dua n.op) n.ns n.so 0 0 [p.2])
  | [p, q] => if n.op = 14 then (nd 13 [p.2, q.1], nd 12 [p.1, q.2]) else if n.op = 15 then (nd 12 [nd 13 [p.2, q.1], nd 13 [q.2, p.1]], nd 13 [nd 12 [p.1, q.2], nd 12 [q.1, p.2]]) else (nd n.op [p.1, q.1], nd (dua n.op) [p.2, q.2])
  | _ => (n, n)
mutual
def psh : Nd → Nd × Nd
  | .mk o ns s n m l => pshC (.mk o ns s n m l) (pshL l)
def pshL : List Nd → List (Nd × Nd)
  | [] => []
  | x :: xs => psh x :: pshL xs
end
theorem psh_eq (n : Nd) : psh n = pshC n (pshL n.l) := by cases n; rfl
def asF (n : Nd) : Nd := match n.l with
  | [a, b] => if n.op = 14 then nd 13 [nd 11 [a], b] else if n.op = 15 then nd 12 [nd 13 [nd 11 [a], b], nd 13 [nd 11 [b], a]] else n
  | _ => n
mutual
def wt : Nd → Nat
  | .mk o _ _ _ _ l => wtL l + (if o = 15 then 10 else 1)
def wtL : List Nd → Nat
  | [] => 0
  | x :: xs => wt x + wtL xs
end
theorem wt_eq (n : Nd) : wt n = wtL n.l + (if n.op = 15 then 10 else 1) := by cases n; rfl
theorem wt_mem {x : Nd} : ∀ {l : List Nd}, x ∈ l → wt x ≤ wtL l
  | [], h => by simp at h
  | y :: ys, h => by
    rcases List.mem_cons.1 h with rfl | h
    · simp [wtL]
    · have := wt_mem h; simp [wtL]; omega
theorem wt_pos (n : Nd) : 1 ≤ wt n := by rw [wt_eq]; split <;> omega
theorem wt_as {n x : Nd} (hx : x ∈ (asF n).l) : wt x < wt n := by
  obtain ⟨o, ns, s, a, b, l⟩ := n
  have low : x ∈ l → wt x < wt (.mk o ns s a b l) := fun h => by
    have := wt_mem h
    simp only [wt]; split <;> omega
  match l, hx, low with
  | [c, d], hx, low =>
    have h1 := wt_pos c
    have h2 := wt_pos d
    by_cases h14 : o = 14
    · subst h14
      have e : asF (.mk 14 ns s a b [c, d]) = nd 13 [nd 11 [c], d] := rfl
      rw [e] at hx
      simp only [nd, Nd.l, List.mem_cons, List.not_mem_nil, or_false] at hx
      rcases hx with rfl | rfl
      · simp [wt, wtL]; omega
      · simp [wt, wtL]; omega
    · by_cases h15 : o = 15
      · subst h15
        have e : asF (.mk 15 ns s a b [c, d]) = nd 12 [nd 13 [nd 11 [c], d], nd 13 [nd 11 [d], c]] := rfl
        rw [e] at hx
        simp only [nd, Nd.l, List.mem_cons, List.not_mem_nil, or_false] at hx
        rcases hx with rfl | rfl
        · simp [wt, wtL]; omega
        · simp [wt, wtL]; omega
      · have e : asF (.mk o ns s a b [c, d]) = .mk o ns s a b [c, d] := by
          show (if o = 14 then _ else if o = 15 then _ else _) = _
          rw [if_neg h14, if_neg h15]
        rw [e] at hx
        exact low hx
  | [], hx, low => exact low hx
  | [_], hx, low => exact low hx
  | _ :: _ :: _ :: _, hx, low => exact low hx
theorem as_valid {n : Nd} (h : ndE n = 0) : ndE (asF n) = 0 := by
  have hv := vk_of h
  cases hv with
  | bin op a b ho ha hb =>
    unfold asF
    simp only [nd_l]
    have k1 := vk_inv (.bin 13 (nd 11 [a]) b (by omega) (vk_inv (.not a ha)) hb)
    have k2 := vk_inv (.bin 13 (nd 11 [b]) a (by omega) (vk_inv (.not b hb)) ha)
    split
    · exact k1
    · split
      · exact vk_inv (.bin 12 _ _ (by omega) k1 k2)
      · exact h
  | cst op ho => exact h
  | two op x y ho => exact h
  | lab => exact h
  | smd => exact h
  | sng => exact h
  | cal => exact h
  | not => exact h
  | qnt op x so a ho => exact h
theorem psh_not (a : Nd) : psh (nd 11 [a]) = ((psh a).2, (psh a).1) := rfl
theorem psh_14 (a b : Nd) : psh (nd 14 [a, b]) = (nd 13 [(psh a).2, (psh b).1], nd 12 [(psh a).1, (psh b).2]) := rfl
theorem psh_15 (a b : Nd) : psh (nd 15 [a, b]) = (nd 12 [nd 13 [(psh a).2, (psh b).1], nd 13 [(psh b).2, (psh a).1]], nd 13 [nd 12 [(psh a).1, (psh b).2], nd 12 [(psh b).1, (psh a).2]]) := rfl
theorem psh_12 (a b : Nd) : psh (nd 12 [a, b]) = (nd 12 [(psh a).1, (psh b).1], nd 13 [(psh a).2, (psh b).2]) := rfl
theorem psh_13 (a b : Nd) : psh (nd 13 [a, b]) = (nd 13 [(psh a).1, (psh b).1], nd 12 [(psh a).2, (psh b).2]) := rfl
theorem psh_16 (x so) (a : Nd) : psh (qn 16 x so a) = (qn 16 x so (psh a).1, qn 17 x so (psh a).2) := rfl
theorem psh_17 (x so) (a : Nd) : psh (qn 17 x so a) = (qn 17 x so (psh a).1, qn 16 x so (psh a).2) := rfl
theorem psh_as (n : Nd) (h : ndE n = 0) : psh (asF n) = psh n := by
  cases vk_of h with
  | bin op a b ho ha hb =>
    have hc : op = 12 ∨ op = 13 ∨ op = 14 ∨ op = 15 := by omega
    rcases hc with rfl | rfl | rfl | rfl <;> rfl
  | cst op ho => rfl
  | two op x y ho => rfl
  | lab => rfl
  | smd => rfl
  | sng => rfl
  | cal => rfl
  | not => rfl
  | qnt op x so a ho => rfl
theorem psh_valid : ∀ (k : Nat) (n : Nd), sz n ≤ k → ndE n = 0 → ndE (psh n).1 = 0 ∧ ndE (psh n).2 = 0
  | 0, n, hk, _ => by have := sz_pos n; omega
  | k + 1, n, hk, hv => by
    have at11 : 2 ≤ n.op → n.op < 11 → ndE (psh n).1 = 0 ∧ ndE (psh n).2 = 0 := by
      intro h2 h11
      have h0 : ¬ (n.op = 0 ∨ n.op = 1) := by omega
      rw [psh_eq]
      unfold pshC
      rw [if_neg h0, if_pos h11]
      exact ⟨hv, vk_inv (.not n hv)⟩
    cases vk_of hv with
    | cst op ho => rcases ho with rfl | rfl <;> exact ⟨hv, vt _⟩
    | two op x y h => exact at11 (by simp only [Nd.op]; omega) (by simp only [Nd.op]; omega)
    | lab => exact at11 (by simp [Nd.op]) (by simp [Nd.op])
    | smd => exact at11 (by simp [Nd.op]) (by simp [Nd.op])
    | sng => exact at11 (by simp [Nd.op]) (by simp [Nd.op])
    | cal => exact at11 (by simp [Nd.op]) (by simp [Nd.op])
    | not a ha =>
      rw [sz_nd1] at hk
      have h := psh_valid k a (by omega) ha
      rw [psh_not]
      exact ⟨h.2, h.1⟩
    | bin op a b h ha hb =>
      rw [sz_nd2] at hk
      obtain ⟨p1, p2⟩ := psh_valid k a (by omega) ha
      obtain ⟨q1, q2⟩ := psh_valid k b (by omega) hb
      have hc : op = 12 ∨ op = 13 ∨ op = 14 ∨ op = 15 := by omega
      rcases hc with rfl | rfl | rfl | rfl
      · exact ⟨vk_inv (.bin 12 _ _ (by omega) p1 q1), vk_inv (.bin 13 _ _ (by omega) p2 q2)⟩
      · exact ⟨vk_inv (.bin 13 _ _ (by omega) p1 q1), vk_inv (.bin 12 _ _ (by omega) p2 q2)⟩
      · exact ⟨vk_inv (.bin 13 _ _ (by omega) p2 q1), vk_inv (.bin 12 _ _ (by omega) p1 q2)⟩
      · exact ⟨vk_inv (.bin 12 _ _ (by omega) (vk_inv (.bin 13 _ _ (by omega) p2 q1)) (vk_inv (.bin 13 _ _ (by omega) q2 p1))), vk_inv (.bin 13 _ _ (by omega) (vk_inv (.bin 12 _ _ (by omega) p1 q2)) (vk_inv (.bin 12 _ _ (by omega) q1 p2)))⟩
    | qnt op x so a h hx hs ha =>
      rw [sz_qn] at hk
      obtain ⟨p1, p2⟩ := psh_valid k a (by omega) ha
      rcases h with rfl | rfl
      · exact ⟨vk_inv (.qnt 16 x so _ (.inl rfl) hx hs p1), vk_inv (.qnt 17 x so _ (.inr rfl) hx hs p2)⟩
      · exact ⟨vk_inv (.qnt 17 x so _ (.inr rfl) hx hs p1), vk_inv (.qnt 16 x so _ (.inl rfl) hx hs p2)⟩
def clp (n : Int) : Int := if 4097 < n then 4097 else n
def szC (op : Int) (p q : Int × Int) : Int × Int :=
  if op = 0 ∨ op = 1 then (1, 1) else if op < 11 then (1, 2) else if op = 11 then (p.2, p.1)
  else if op = 14 then (clp (1 + p.2 + q.1), clp (1 + p.1 + q.2))
  else if op = 15 then (clp (3 + p.1 + p.2 + q.1 + q.2), clp (3 + p.1 + p.2 + q.1 + q.2))
  else (clp (1 + p.1 + q.1), clp (1 + p.2 + q.2))
mutual
def szP : Nd → Int × Int
  | .mk o _ _ _ _ l => szC o ((szPL l).headD (0, 0)) (((szPL l).drop 1).headD (0, 0))
def szPL : List Nd → List (Int × Int)
  | [] => []
  | x :: xs => szP x :: szPL xs
end
theorem szP_nd0 {op : Int} (h : op = 0 ∨ op = 1) : szP (nd op []) = (1, 1) := by rcases h with rfl | rfl <;> rfl
theorem szP_psh : ∀ (k : Nat) (n : Nd), sz n ≤ k → ndE n = 0 → (szP n).1 = clp (sz (psh n).1) ∧ (szP n).2 = clp (sz (psh n).2)
  | 0, n, hk, _ => by have := sz_pos n; omega
  | k + 1, n, hk, hv => by
    have at11 : 2 ≤ n.op → n.op < 11 → n.l = [] → (szP n).1 = clp (sz (psh n).1) ∧ (szP n).2 = clp (sz (psh n).2) := by
      intro h2 h11 hl
      have h0 : ¬ (n.op = 0 ∨ n.op = 1) := by omega
      have e : szP n = (1, 2) := by
        obtain ⟨o, ns, s, a, b, l⟩ := n
        have : l = [] := hl
        subst this
        show szC o _ _ = _
        have h0' : ¬ (o = 0 ∨ o = 1) := h0
        have h11' : o < 11 := h11
        simp [szC, h0', h11']
      have hs : sz n = 1 := by rw [sz_eq, hl]; rfl
      rw [e, psh_eq]
      unfold pshC
      rw [if_neg h0, if_pos h11]
      simp only [sz_nd1, hs]
      exact ⟨rfl, rfl⟩
    cases vk_of hv with
    | cst op ho => rcases ho with rfl | rfl <;> exact ⟨rfl, rfl⟩
    | two op x y h => exact at11 (by simp only [Nd.op]; omega) (by simp only [Nd.op]; omega) rfl
    | lab => exact at11 (by simp [Nd.op]) (by simp [Nd.op]) rfl
    | smd => exact at11 (by simp [Nd.op]) (by simp [Nd.op]) rfl
    | sng => exact at11 (by simp [Nd.op]) (by simp [Nd.op]) rfl
    | cal => exact at11 (by simp [Nd.op]) (by simp [Nd.op]) rfl
    | not a ha =>
      rw [sz_nd1] at hk
      have h := szP_psh k a (by omega) ha
      rw [psh_not]
      exact ⟨h.2, h.1⟩
    | bin op a b h ha hb =>
      rw [sz_nd2] at hk
      obtain ⟨p1, p2⟩ := szP_psh k a (by omega) ha
      obtain ⟨q1, q2⟩ := szP_psh k b (by omega) hb
      have hc : op = 12 ∨ op = 13 ∨ op = 14 ∨ op = 15 := by omega
      have e : szP (nd op [a, b]) = szC op (szP a) (szP b) := rfl
      rw [e]
      rcases hc with rfl | rfl | rfl | rfl
      · rw [psh_12]; simp only [sz_nd2, szC, p1, p2, q1, q2]; constructor <;> simp [clp] <;> (repeat' split) <;> omega
      · rw [psh_13]; simp only [sz_nd2, szC, p1, p2, q1, q2]; constructor <;> simp [clp] <;> (repeat' split) <;> omega
      · rw [psh_14]; simp only [sz_nd2, szC, p1, p2, q1, q2]; constructor <;> simp [clp] <;> (repeat' split) <;> omega
      · rw [psh_15]; simp only [sz_nd2, szC, p1, p2, q1, q2]; constructor <;> simp [clp] <;> (repeat' split) <;> omega
    | qnt op x so a h hx hs ha =>
      rw [sz_qn] at hk
      obtain ⟨p1, p2⟩ := szP_psh k a (by omega) ha
      have e : szP (qn op x so a) = szC op (szP a) (0, 0) := rfl
      rw [e]
      rcases h with rfl | rfl
      · rw [psh_16]; simp only [sz_qn, szC, p1, p2]; constructor <;> simp [clp] <;> (repeat' split) <;> omega
      · rw [psh_17]; simp only [sz_qn, szC, p1, p2]; constructor <;> simp [clp] <;> (repeat' split) <;> omega
theorem szP_bd {n : Nd} (h : ndE n = 0) : 1 ≤ (szP n).1 ∧ (szP n).1 ≤ 4097 ∧ 1 ≤ (szP n).2 ∧ (szP n).2 ≤ 4097 := by
  obtain ⟨h1, h2⟩ := szP_psh _ n (Nat.le_refl _) h
  rw [h1, h2]
  have := sz_pos (psh n).1
  have := sz_pos (psh n).2
  unfold clp
  split <;> split <;> omega
def nnfE (n : Nd) : Nd × Int := if chk n = 0 then (if (szP n).1 > 4096 then (nd0, 8) else ckd (psh n).1) else (nd0, chk n)
theorem okV_psh {n : Nd} (h : chk n = 0) (hs : ¬ (szP n).1 > 4096) : okV (psh n).1 := by
  have hv := chk_vd h
  refine ⟨(psh_valid _ n (Nat.le_refl _) hv).1, ?_⟩
  rw [(szP_psh _ n (Nat.le_refl _) hv).1] at hs
  unfold clp at hs
  split at hs <;> omega
end Go.Proofs.Ae
namespace Go.Proofs.Ae
open Go Go.RowKit
set_option maxRecDepth 20000
section
variable {G : Nat → Option AV} {cl : Caller} {yl : Nat → List AV → Mem → Option (AV × Mem)} {N : Nat}
def prI (p : Int × Int) : AV := .tup [.int .i64 p.1, .int .i64 p.2]
theorem ev54 (n : Nd) (hv : ndE n = 0) (h58 : ∀ M, cl 58 [av n] M = some (.bool (decide (n.op < 11)), M)) (hc : ∀ x ∈ n.l, ∀ M, cl 54 [av x] M = some (prI (szP x), M)) :
    pureA G false cl yl N c54 [av n] = some (prI (szP n), none) := by
  have at11 : 2 ≤ n.op → n.op < 11 → n.l = [] → pureA G false cl yl N c54 [av n] = some (prI (szP n), none) := by
    intro h2 h11 hl
    have h0 : ¬ (n.op = 0 ∨ n.op = 1) := by omega
    have e : szP n = (1, 2) := by
      obtain ⟨o, ns, s, a, b, l⟩ := n
      have : l = [] := hl
      subst this
      show szC o _ _ = _
      have h0' : ¬ (o = 0 ∨ o = 1) := h0
      have h11' : o < 11 := h11
      simp [szC, h0', h11']
    rw [e]
    have k0 : (n.op == 0) = false := by simp; omega
    have k1 : (n.op == 1) = false := by simp; omega
    have w1 : wrapF .i64 1 = 1 := rfl
    simp -implicitDefEqProofs [c54, hl, avL, h58, k0, k1, h11, prI, w1]
  cases vk_of hv with
  | cst op ho =>
    have w1 : wrapF .i64 1 = 1 := rfl
    rcases ho with rfl | rfl
    · rw [szP_nd0 (.inl rfl)]; simp -implicitDefEqProofs [c54, prI, w1, avL]
    · rw [szP_nd0 (.inr rfl)]; simp -implicitDefEqProofs [c54, prI, w1, avL]
  | two op x y h => exact at11 (by simp only [Nd.op]; omega) (by simp only [Nd.op]; omega) rfl
  | lab => exact at11 (by simp [Nd.op]) (by simp [Nd.op]) rfl
  | smd => exact at11 (by simp [Nd.op]) (by simp [Nd.op]) rfl
  | sng => exact at11 (by simp [Nd.op]) (by simp [Nd.op]) rfl
  | cal => exact at11 (by simp [Nd.op]) (by simp [Nd.op]) rfl
  | not a ha =>
    have k := hc a (by simp)
    have b := szP_bd ha
    have e : szP (nd 11 [a]) = ((szP a).2, (szP a).1) := rfl
    rw [e]
    unfold prI at k ⊢
    generalize szP a = p at *
    obtain ⟨p1, p2⟩ := p
    simp only at k b
    have w1 : wrapF .i64 (1 + p1) = 1 + p1 := wrap_id (by omega) (by omega)
    have w2 : wrapF .i64 (1 + p2) = 1 + p2 := wrap_id (by omega) (by omega)
    simp [] at h58
    simp -implicitDefEqProofs [c54, h58, k, w1, w2, avL]
  | bin op a b h ha hb =>
    have ka := hc a (by simp)
    have kb := hc b (by simp)
    have ba := szP_bd ha
    have bb := szP_bd hb
    have hop : op = 12 ∨ op = 13 ∨ op = 14 ∨ op = 15 := by omega
    have e : szP (nd op [a, b]) = szC op (szP a) (szP b) := rfl
    rw [e]
    unfold prI at ka kb ⊢
    generalize szP a = p at *
    generalize szP b = q at *
    obtain ⟨p1, p2⟩ := p
    obtain ⟨q1, q2⟩ := q
    simp only at ka kb ba bb
    have w1 : wrapF .i64 (1 + p1) = 1 + p1 := wrap_id (by omega) (by omega)
    have w2 : wrapF .i64 (1 + p2) = 1 + p2 := wrap_id (by omega) (by omega)
    have w3 : wrapF .i64 (1 + p1 + q1) = 1 + p1 + q1 := wrap_id (by omega) (by omega)
    have w4 : wrapF .i64 (1 + p2 + q2) = 1 + p2 + q2 := wrap_id (by omega) (by omega)
    have w5 : wrapF .i64 (1 + p2 + q1) = 1 + p2 + q1 := wrap_id (by omega) (by omega)
    have w6 : wrapF .i64 (1 + p1 + q2) = 1 + p1 + q2 := wrap_id (by omega) (by omega)
    have w7 : wrapF .i64 (3 + p1) = 3 + p1 := wrap_id (by omega) (by omega)
    have w8 : wrapF .i64 (3 + p1 + p2) = 3 + p1 + p2 := wrap_id (by omega) (by omega)
    have w9 : wrapF .i64 (3 + p1 + p2 + q1) = 3 + p1 + p2 + q1 := wrap_id (by omega) (by omega)
    have w0 : wrapF .i64 (3 + p1 + p2 + q1 + q2) = 3 + p1 + p2 + q1 + q2 := wrap_id (by omega) (by omega)
    rcases hop with rfl | rfl | rfl | rfl <;> (simp [] at h58; simp -implicitDefEqProofs [c54, h58, ka, kb, w1, w2, w3, w4, w5, w6, w7, w8, w9, w0, avL, szC, clp])
  | qnt op x so a h hx hs ha =>
    have k := hc a (by simp)
    have b := szP_bd ha
    have e : szP (qn op x so a) = szC op (szP a) (0, 0) := rfl
    rw [e]
    unfold prI at k ⊢
    generalize szP a = p at *
    obtain ⟨p1, p2⟩ := p
    simp only at k b
    have w1 : wrapF .i64 (1 + p1) = 1 + p1 := wrap_id (by omega) (by omega)
    have w2 : wrapF .i64 (1 + p2) = 1 + p2 := wrap_id (by omega) (by omega)
    rcases h with rfl | rfl <;> (simp [] at h58; simp -implicitDefEqProofs [c54, h58, k, w1, w2, avL, szC, clp])
theorem ev93 (op : Int) (h : op = 12 ∨ op = 13 ∨ op = 16 ∨ op = 17) : pureA G false cl yl N c93 [.int .i64 op] = some (.int .i64 (dua op), none) := by
  rcases h with rfl | rfl | rfl | rfl <;> simp -implicitDefEqProofs [c93, keyK, insA, lkpA, put, find, eqK, dua]
theorem ev131 (a b : Nd) (h75 : C75 cl) (h92 : ∀ n M, cl 92 [av n] M = some (av (nd 11 [n]), M)) : pureA G false cl yl N c131 [av a, av b] = some (av (nd 13 [nd 11 [a], b]), none) := by
  have k2 := c75_2 h75
  refine pureA_av (by simp) ?_
  simp -implicitDefEqProofs [c131, h92, k2]
end
end Go.Proofs.Ae
namespace Go.Proofs.Ae
open Go Go.RowKit
section
variable {G : Nat → Option AV} {cl : Caller} {yl : Nat → List AV → Mem → Option (AV × Mem)} {N : Nat}
theorem ev132p (a b : Nd) (os : List Obj) (p : Nat) (h1 : os[p]? = some (.cells [.fn 131 [] []])) (h75 : C75 cl) (h131 : ∀ a b M, cl 131 [av a, av b] M = some (av (nd 13 [nd 11 [a], b]), M)) :
    ∃ X, callA G false cl yl N c132 [av a, av b, .ptr p 0] ⟨os, []⟩ = some (av (nd 12 [nd 13 [nd 11 [a], b], nd 13 [nd 11 [b], a]]), ⟨os ++ X, []⟩) := by
  have k2 := c75_2 h75
  have hlt : p < os.length := (List.getElem?_eq_some_iff.1 h1).1
  have h1' : os[p] = .cells [.fn 131 [] []] := (List.getElem?_eq_some_iff.1 h1).2
  have hne : ¬ p = os.length := by omega
  simp -implicitDefEqProofs [c132, h131, k2, h1, h1', hlt, List.getElem?_append, List.getElem_append]
def C132 (cl : Caller) : Prop := ∀ (a b : Nd) (os : List Obj) (p : Nat), os[p]? = some (.cells [.fn 131 [] []]) → ∃ X, cl 132 [av a, av b, .ptr p 0] ⟨os, []⟩ = some (av (nd 12 [nd 13 [nd 11 [a], b], nd 13 [nd 11 [b], a]]), ⟨os ++ X, []⟩)
theorem ev90 (n : Nd) (hv : ndE n = 0) (h131 : ∀ a b M, cl 131 [av a, av b] M = some (av (nd 13 [nd 11 [a], b]), M)) (h132 : C132 cl) : pureA G false cl yl N c90 [av n] = some (av (asF n), none) := by
  have other : ¬ n.op = 14 → ¬ n.op = 15 → pureA G false cl yl N c90 [av n] = some (av n, none) := by
    intro h14 h15
    have k14 : (n.op == 14) = false := by simp [h14]
    have k15 : (n.op == 15) = false := by simp [h15]
    refine pureA_av (by simp) ?_
    simp -implicitDefEqProofs [c90, keyK, insA, lkpA, put, find, eqK, k14, k15, h14, h15]
  cases vk_of hv with
  | cst op ho => exact other (by simp; omega) (by simp; omega)
  | two op x y h => exact other (by simp only [Nd.op]; omega) (by simp only [Nd.op]; omega)
  | lab => exact other (by simp [Nd.op]) (by simp [Nd.op])
  | smd => exact other (by simp [Nd.op]) (by simp [Nd.op])
  | sng => exact other (by simp [Nd.op]) (by simp [Nd.op])
  | cal => exact other (by simp [Nd.op]) (by simp [Nd.op])
  | not a ha => exact other (by simp) (by simp)
  | qnt op x so a h hx hs ha => exact other (by simp; omega) (by simp; omega)
  | bin op a b h ha hb =>
    have hc : op = 12 ∨ op = 13 ∨ op = 14 ∨ op = 15 := by omega
    rcases hc with rfl | rfl | rfl | rfl
    · exact other (by simp) (by simp)
    · exact other (by simp) (by simp)
    · have e : asF (nd 14 [a, b]) = nd 13 [nd 11 [a], b] := rfl
      rw [e]
      refine pureA_av (by simp) ?_
      simp -implicitDefEqProofs [c90, keyK, insA, lkpA, put, find, eqK, avL, h131]
    · have e : asF (nd 15 [a, b]) = nd 12 [nd 13 [nd 11 [a], b], nd 13 [nd 11 [b], a]] := rfl
      rw [e]
      refine pureA_av (by simp) ?_
      have hk := fun (o0 o1 o3 o4 : Obj) => h132 a b [o0, o1, .cells [.fn 131 [] []], o3, o4] 2 rfl
      obtain ⟨X, hX⟩ := hk (.cells (ndc (nd 15 [a, b]))) (.cells z6) (.map [(.int .i64 14, .agg [.fn 131 [] []]), (.int .i64 15, .agg [.fn 132 [] [.ptr 2 0]])]) (.cells [.fn 132 [] [.ptr 2 0]])
      simp [z6] at hX
      simp -implicitDefEqProofs [c90, keyK, insA, lkpA, put, find, eqK, avL, hX]
end
section
variable {G : Nat → Option AV} {cl : Caller} {yl : Nat → List AV → Mem → Option (AV × Mem)} {N : Nat}
def pk (b : Bool) (p : Nd × Nd) : Nd := if b then p.2 else p.1
def oP (o : Int) (m : Nd) (l : List Nd) : List AV := [.int .i64 o, nmv m.ns, .int .i64 m.so, .int .i64 0, .int .i64 0, .slc (.own (nmr m.ns).length) (avL l)]
theorem loop55 (m : Nd) (neg : Bool) (o : Int) (hb : m.l.length < big) (hN : m.l.length < N) (hc : ∀ x ∈ m.l, ∀ M, cl 55 [av x, .bool neg] M = some (av (pk neg (psh x)), M)) :
    iter false (evalC G false cl yl N c55b0) ⟨[1, 4, 5, 63, 64, 65], [(5, some 5), (65, none)]⟩ 3 ((nmr m.ns).length + 1) N
      ⟨[(1, .bool neg), (4, .ptr 1 0), (5, .ptr 2 0), (63, .slc .shared (avL m.l)), (64, .int .i64 m.l.length), (65, .int .i64 ((0 : Nat) : Int))], ⟨[.cells (ndc m), .cells z6, .cells (oP o m ((m.l.take 0).map fun x => pk neg (psh x)))], nmr m.ns ++ [rowA 0 30 6]⟩, []⟩ =
      some (.exit 1, ⟨[(66, .bool false), (1, .bool neg), (4, .ptr 1 0), (5, .ptr 2 0), (63, .slc .shared (avL m.l)), (64, .int .i64 m.l.length), (65, .int .i64 m.l.length)], ⟨[.cells (ndc m), .cells z6, .cells (oP o m (m.l.map fun x => pk neg (psh x)))], nmr m.ns ++ [rowA m.l.length 30 6]⟩, []⟩) := by
  unfold big at hb
  refine iter_all m.l (fun i => ⟨[(1, .bool neg), (4, .ptr 1 0), (5, .ptr 2 0), (63, .slc .shared (avL m.l)), (64, .int .i64 m.l.length), (65, .int .i64 (i : Int))], ⟨[.cells (ndc m), .cells z6, .cells (oP o m ((m.l.take i).map fun x => pk neg (psh x)))], nmr m.ns ++ [rowA i 30 6]⟩, []⟩) (.exit 1) _ hN (by simp) ?_ ?_
  · intro i x hx hi
    have w1 := wrap_succ (i := i) (by omega)
    have hc' := hc x (mem_of_get hx)
    have hx' := (List.getElem?_eq_some_iff.1 hx).2
    have hm : min i m.l.length = i := by omega
    have hq : (i + 1) * 80 ≤ 140737488355328 := by omega
    have hq2 : i + 1 ≤ 140737488355328 := by omega
    have hr : i = 0 ∨ ¬ i = 0 := Decidable.em _
    rw [take_succ_of hx]
    cases hns : m.ns <;> simp -implicitDefEqProofs [c55b0, nmr, nmv, z6, rowA, oP, hns, hi, hx', hc', w1, hm, hq, hq2, hr, avL_append, avL]
  · cases hns : m.ns <;> simp -implicitDefEqProofs [c55b0, nmr, nmv, z6, oP, hns]
structure Cs55 (cl : Caller) (n m : Nd) (neg : Bool) : Prop where
  h90 : ∀ M, cl 90 [av n] M = some (av m, M)
  h58 : ∀ M, cl 58 [av m] M = some (.bool (decide (m.op < 11)), M)
  h51 : m.op < 11 → ∀ M, cl 51 [av m] M = some (av m, M)
  h91 : ∀ b M, cl 91 [.bool b] M = some (av (tru b), M)
  h92 : ∀ n M, cl 92 [av n] M = some (av (nd 11 [n]), M)
  h74 : ∀ M, cl 74 [.slc .shared (m.ns.map .str)] M = cl74 m.ns M
  h93 : ∀ op M, op = 12 ∨ op = 13 ∨ op = 16 ∨ op = 17 → cl 93 [.int .i64 op] M = some (.int .i64 (dua op), M)
  kids : ∀ x ∈ m.l, ∀ b M, cl 55 [av x, .bool b] M = some (av (pk b (psh x)), M)
@[simp] theorem nd_so (op : Int) (l : List Nd) : (nd op l).so = 0 := rfl
theorem ev55_bin (op : Int) (a b : Nd) (n : Nd) (neg : Bool) (hop : op = 12 ∨ op = 13) (h : Cs55 cl n (nd op [a, b]) neg) (hN : 2 < N) : pureA G false cl yl N c55 [av n, .bool neg] = some (av (nd (if neg then dua op else op) [pk neg (psh a), pk neg (psh b)]), none) := by
  obtain ⟨h90, h58, h51, h91, h92, h74, h93, kids⟩ := h
  have l1 := loop55 (G := G) (cl := cl) (yl := yl) (N := N) (nd op [a, b]) neg (if neg then dua op else op) (by simp [big]) (by simpa using hN) (fun x hx M => kids x hx neg M)
  simp only [nd_ns, List.map_nil] at h74
  simp -implicitDefEqProofs [cl74] at h74
  have k93 := fun M => h93 op M (by omega)
  rcases hop with rfl | rfl <;> cases neg <;>
    (simp [nmr, nmv, oP, z6, rowA, avL, dua] at l1 h58 k93
     simp -implicitDefEqProofs [c55, h90, h58, h74, k93, l1, avL, dua]
     rfl)
theorem ev55_qnt (op : Int) (x : Str) (so : Int) (a : Nd) (n : Nd) (neg : Bool) (hop : op = 16 ∨ op = 17) (h : Cs55 cl n (qn op x so a) neg) (hN : 2 < N) : pureA G false cl yl N c55 [av n, .bool neg] = some (av (qn (if neg then dua op else op) x so (pk neg (psh a))), none) := by
  obtain ⟨h90, h58, h51, h91, h92, h74, h93, kids⟩ := h
  have l1 := loop55 (G := G) (cl := cl) (yl := yl) (N := N) (qn op x so a) neg (if neg then dua op else op) (by simp [big]) (by simp; omega) (fun x hx M => kids x hx neg M)
  simp only [qn_ns, List.map_cons, List.map_nil] at h74
  simp -implicitDefEqProofs [cl74] at h74
  have k93 := fun M => h93 op M (by omega)
  rcases hop with rfl | rfl <;> cases neg <;>
    (simp [nmr, nmv, oP, z6, rowA, avL, dua] at l1 h58 k93
     simp -implicitDefEqProofs [c55, h90, h58, h74, k93, l1, avL, dua]
     rfl)
theorem ev55 (n m : Nd) (neg : Bool) (hm : ndE m = 0) (h14 : ¬ m.op = 14) (h15 : ¬ m.op = 15) (h : Cs55 cl n m neg) (hN : 2 < N) : pureA G false cl yl N c55 [av n, .bool neg] = some (av (pk neg (psh m)), none) := by
  have at11 : 2 ≤ m.op → m.op < 11 → pureA G false cl yl N c55 [av n, .bool neg] = some (av (pk neg (psh m)), none) := by
    intro h2 h11
    obtain ⟨h90, h58, h51, h91, h92, h74, h93, kids⟩ := h
    have h0 : ¬ (m.op = 0 ∨ m.op = 1) := by omega
    have k0 : (m.op == 0) = false := by simp; omega
    have k1 : (m.op == 1) = false := by simp; omega
    have k11 : (m.op == 11) = false := by simp; omega
    replace h51 := h51 h11
    refine pureA_av (by simp) ?_
    rw [psh_eq]
    unfold pshC
    rw [if_neg h0, if_pos h11]
    cases neg <;> simp -implicitDefEqProofs [c55, h90, h58, h51, h92, h11, k0, k1, k11, pk]
  cases vk_of hm with
  | cst op ho =>
    obtain ⟨h90, h58, h51, h91, h92, h74, h93, kids⟩ := h
    refine pureA_av (by simp) ?_
    rcases ho with rfl | rfl
    · replace h51 := h51 (by simp)
      simp at h58
      cases neg <;> simp -implicitDefEqProofs [c55, h90, h58, h51, h91, pk] <;> rfl
    · replace h51 := h51 (by simp)
      simp at h58
      cases neg <;> simp -implicitDefEqProofs [c55, h90, h58, h51, h91, pk] <;> rfl
  | two op x y h => exact at11 (by simp only [Nd.op]; omega) (by simp only [Nd.op]; omega)
  | lab => exact at11 (by simp [Nd.op]) (by simp [Nd.op])
  | smd => exact at11 (by simp [Nd.op]) (by simp [Nd.op])
  | sng => exact at11 (by simp [Nd.op]) (by simp [Nd.op])
  | cal => exact at11 (by simp [Nd.op]) (by simp [Nd.op])
  | not a ha =>
    obtain ⟨h90, h58, h51, h91, h92, h74, h93, kids⟩ := h
    have k := kids a (by simp)
    refine pureA_av (by simp) ?_
    rw [psh_not]
    cases neg <;> simp -implicitDefEqProofs [c55, h90, avL, k, pk]
  | bin op a b ho ha hb =>
    have hop : op = 12 ∨ op = 13 := by simp at h14 h15; omega
    rw [ev55_bin op a b n neg hop h hN]
    rcases hop with rfl | rfl <;> cases neg <;> rfl
  | qnt op x so a ho hx hs ha =>
    rw [ev55_qnt op x so a n neg ho h hN]
    rcases ho with rfl | rfl <;> cases neg <;> rfl
theorem ev25 (n : Nd) (h28 : ∀ M, cl 28 [av n] M = some (.int .i64 (chk n), M)) (h54 : chk n = 0 → ∀ M, cl 54 [av n] M = some (prI (szP n), M))
    (h55 : chk n = 0 → ∀ M, cl 55 [av n, .bool false] M = some (av (psh n).1, M)) (h40 : chk n = 0 → ¬ (szP n).1 > 4096 → ∀ M, cl 40 [av (psh n).1] M = some (.tup [av (ckd (psh n).1).1, .int .i64 (ckd (psh n).1).2], M)) :
    pureA G false cl yl N c25 [av n] = some (.tup [av (nnfE n).1, .int .i64 (nnfE n).2], none) := by
  unfold nnfE
  by_cases h : chk n = 0
  · have k54 := h54 h
    have k55 := h55 h
    by_cases hs : (szP n).1 > 4096
    · have hs' : 4096 < (szP n).1 := hs
      unfold prI at k54
      simp -implicitDefEqProofs [c25, h28, h, k54, hs, hs', av_nd0]
    · refine pureA_avI (by simp) ?_
      have k40 := h40 h hs
      have hs' : ¬ 4096 < (szP n).1 := hs
      unfold prI at k54
      simp -implicitDefEqProofs [c25, h28, h, k54, k55, k40, hs, hs']
  · have h' : (chk n != 0) = true := by simp [h]
    simp -implicitDefEqProofs [c25, h28, h, h', av_nd0]
end
section
variable {t : Nat}
def okD (op : Int) : Prop := op = 12 ∨ op = 13 ∨ op = 16 ∨ op = 17
noncomputable abbrev M15 : List (Nat × (List AV → Ores)) :=
  (131, spR e2 (fun p => (av (nd 13 [nd 11 [p.1], p.2]), none)) (fun _ => True)) :: (93, spR (fun k : Int => [.int .i64 k]) (fun k => (.int .i64 (dua k), none)) okD) :: (54, sNd (fun n => prI (szP n)) fun n => ndE n = 0) :: M14
theorem m15 : OrcOK Tryz.prog (GG t) (orcOf M15) := by
  refine orc_con _ _ _ ok131 (fun p _ => ⟨1, ev131 p.1 p.2 (m7_75 (by repeat first | exact .here | refine .there ?_ rfl)) (fun n M => spC_v av1_inj n (by repeat first | exact .here | refine .there ?_ rfl) (by exact trivial) (by exact a1 n) (by rfl) M)⟩) ?_
  refine orc_con _ _ _ ok93 (fun k h => ⟨1, ev93 k h⟩) ?_
  refine orc_self _ _ _ sz av1_inj ok54 ?_ m14
  intro n hn orc hself hother
  refine ⟨1, ev54 n hn (fun M => ?_) (fun x hx M => ?_)⟩
  · rw [spC_ext (hother 58 (by decide))]
    exact spC_v av1_inj n (by repeat first | exact .here | refine .there ?_ rfl) (by exact trivial) (by exact a1 n) (by rfl) M
  · exact spC_self (hself x (ndE_kid hn hx) (sz_child hx)) (by simp [e1]) M
noncomputable abbrev M16 : List (Nat × (List AV → Ores)) := (90, sNd (fun n => av (asF n)) fun n => ndE n = 0) :: M15
theorem m16 : OrcOK Tryz.prog (GG t) (orcOf M16) := by
  refine orc_bw _ _ _ ok90 (fun n hn => ⟨1, 3, ev90 n hn (fun a b M => bw_sp (spC_v av2_inj (a, b) (by repeat first | exact .here | refine .there ?_ rfl) (by exact trivial) (by exact a2 a b) (by rfl) M)) ?_⟩) m15
  intro a b os p hp
  rw [bw_call (cf := c132) (by unfold orcW; split <;> rfl) rfl rfl rfl]
  refine ev132p a b os p hp ?_ (fun a b M => bw_sp (spC_v av2_inj (a, b) (by repeat first | exact .here | refine .there ?_ rfl) (by exact trivial) (by exact a2 a b) (by rfl) M))
  intro op l M
  exact bw_sp (m7_75 (l := M15) (by repeat first | exact .here | refine .there ?_ rfl) op l M)
def nbE (p : Nd × Bool) : List AV := [av p.1, .bool p.2]
theorem nbE_inj (a b : Nd × Bool) (h : nbE a = nbE b) : a = b := by
  simp only [nbE, List.cons.injEq, and_true, AV.bool.injEq] at h
  exact Prod.ext (av_inj h.1) h.2
theorem aNb (n : Nd) (b : Bool) : argL [av n, .bool b] = some (nbE (n, b)) := by simp [nbE]
theorem asF_op {n : Nd} (h : ndE n = 0) : ¬ (asF n).op = 14 ∧ ¬ (asF n).op = 15 := by
  have no : ∀ k : Int, ¬ k = 14 → ¬ k = 15 → asF n = n → n.op = k → ¬ (asF n).op = 14 ∧ ¬ (asF n).op = 15 := by
    intro k h1 h2 h3 h4
    rw [h3, h4]
    exact ⟨h1, h2⟩
  cases vk_of h with
  | bin op a b ho ha hb =>
    have hc : op = 12 ∨ op = 13 ∨ op = 14 ∨ op = 15 := by omega
    rcases hc with rfl | rfl | rfl | rfl
    · exact no 12 (by decide) (by decide) rfl rfl
    · exact no 13 (by decide) (by decide) rfl rfl
    · have e : asF (nd 14 [a, b]) = nd 13 [nd 11 [a], b] := rfl
      rw [e]; simp
    · have e : asF (nd 15 [a, b]) = nd 12 [nd 13 [nd 11 [a], b], nd 13 [nd 11 [b], a]] := rfl
      rw [e]; simp
  | cst op ho => exact no op (by omega) (by omega) rfl rfl
  | two op x y ho => exact no op (by omega) (by omega) rfl rfl
  | lab => exact no 7 (by decide) (by decide) rfl rfl
  | smd => exact no 8 (by decide) (by decide) rfl rfl
  | sng => exact no 9 (by decide) (by decide) rfl rfl
  | cal => exact no 10 (by decide) (by decide) rfl rfl
  | not => exact no 11 (by decide) (by decide) rfl rfl
  | qnt op x so a ho => exact no op (by omega) (by omega) rfl rfl
theorem bk_at {n : Nd} (h : ndE n = 0) (ho : n.op < 11) : bk n ≤ 290 ∧ n.ns.length ≤ 17 := by
  have hz : sz n = 1 := by
    have hl : n.l = [] := by
      cases vk_of h with
      | cst => rfl
      | two => rfl
      | lab => rfl
      | smd => rfl
      | sng => rfl
      | cal => rfl
      | not => simp at ho
      | bin op a b h => simp at ho; omega
      | qnt op x so a h => simp at ho; omega
    rw [sz_eq, hl]; rfl
  have := bk_vd _ n (Nat.le_refl _) h
  refine ⟨by omega, ?_⟩
  obtain ⟨-, h2, -⟩ := has_parts (vd_iff.1 h).has
  have : fB n.op ≤ 17 := by
    have h0 := (vd_iff.1 h).op0
    have h1 := (vd_iff.1 h).op1
    rcases op_cases h0 h1 with e | e | e | e | e | e | e | e | e | e | e | e | e | e | e | e | e | e <;> rw [e] <;> decide
  omega
theorem ns_len {n : Nd} (h : ndE n = 0) : n.ns.length ≤ 17 := by
  obtain ⟨-, h2, -⟩ := has_parts (vd_iff.1 h).has
  have : fB n.op ≤ 17 := by
    have h0 := (vd_iff.1 h).op0
    have h1 := (vd_iff.1 h).op1
    rcases op_cases h0 h1 with e | e | e | e | e | e | e | e | e | e | e | e | e | e | e | e | e | e <;> rw [e] <;> decide
  omega
noncomputable abbrev M17 : List (Nat × (List AV → Ores)) := (55, spR nbE (fun p => (av (pk p.2 (psh p.1)), none)) (fun p => ndE p.1 = 0)) :: M16
theorem m17 : OrcOK Tryz.prog (GG t) (orcOf M17) := by
  refine orc_self _ _ _ (fun p => wt p.1) nbE_inj ok55 ?_ m16
  intro p hn orc hself hother
  obtain ⟨n, b⟩ := p
  simp only at hn
  have hm := as_valid hn
  obtain ⟨o14, o15⟩ := asF_op hn
  have e : pk b (psh n) = pk b (psh (asF n)) := by rw [psh_as n hn]
  simp only [e]
  refine ⟨3, ev55 n (asF n) b hm o14 o15 ⟨fun M => ?_, fun M => ?_, fun ho M => ?_, fun b M => ?_, fun n M => ?_, fun M => ?_, fun op M hop => ?_, fun x hx b M => ?_⟩ (by omega)⟩
  · rw [spC_ext (hother 90 (by decide))]
    exact spC_v av1_inj n (by repeat first | exact .here | refine .there ?_ rfl) (by exact hn) (by exact a1 n) (by rfl) M
  · rw [spC_ext (hother 58 (by decide))]
    exact spC_v av1_inj (asF n) (by repeat first | exact .here | refine .there ?_ rfl) (by exact trivial) (by exact a1 _) (by rfl) M
  · rw [spC_ext (hother 51 (by decide))]
    exact spC_v av1_inj (asF n) (by repeat first | exact .here | refine .there ?_ rfl) (by show bk (asF n) ≤ big; have := (bk_at hm ho).1; unfold big; omega) (by exact a1 _) (by rfl) M
  · rw [spC_ext (hother 91 (by decide))]
    exact spC_v bool_inj b (by repeat first | exact .here | refine .there ?_ rfl) (by exact trivial) (by rfl) (by rfl) M
  · rw [spC_ext (hother 92 (by decide))]
    exact spC_v av1_inj n (by repeat first | exact .here | refine .there ?_ rfl) (by exact trivial) (by exact a1 n) (by rfl) M
  · rw [spC_ext (hother 74 (by decide))]
    exact c74_ (by repeat first | exact .here | refine .there ?_ rfl) .shared _ M (by have := ns_len hm; unfold big; omega)
  · rw [spC_ext (hother 93 (by decide))]
    exact spC_v int_inj op (by repeat first | exact .here | refine .there ?_ rfl) (by exact hop) (by rfl) (by rfl) M
  · exact spC_self (hself (x, b) (ndE_kid hm hx) (wt_as hx)) (aNb x b) M
noncomputable abbrev s25 : List AV → Ores := spR e1 (fun n => (.tup [av (nnfE n).1, .int .i64 (nnfE n).2], none)) (fun n => bk n ≤ big)
noncomputable abbrev M18 : List (Nat × (List AV → Ores)) := (25, s25) :: M17
theorem m18 : OrcOK Tryz.prog (GG t) (orcOf M18) :=
  orc_con _ _ _ ok25 (fun n hb => ⟨1, ev25 n (fun M => spC_v av1_inj n (by repeat first | exact .here | refine .there ?_ rfl) (by exact hb) (by exact a1 n) (by rfl) M)
    (fun hc M => spC_v av1_inj n (by repeat first | exact .here | refine .there ?_ rfl) (by exact chk_vd hc) (by exact a1 n) (by rfl) M)
    (fun hc M => spC_v nbE_inj (n, false) (by repeat first | exact .here | refine .there ?_ rfl) (by exact chk_vd hc) (by exact aNb n false) (by rfl) M)
    (fun hc hs M => spC_v av1_inj (psh n).1 (by repeat first | exact .here | refine .there ?_ rfl) (by exact okV_big (okV_psh hc hs)) (by exact a1 _) (by rfl) M)⟩) m17
end
end Go.Proofs.Ae
