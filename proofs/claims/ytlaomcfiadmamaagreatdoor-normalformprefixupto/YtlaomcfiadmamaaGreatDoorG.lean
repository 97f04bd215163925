/- The contracts of the functions that the law calls, joined. -/
import Derived.Test.YtlaomcfiadmamaaGreatDoorF
/- The contracts for the law NormalFormPrefix, all of them; the law's run. -/
namespace Go.Proofs.Ae
open Go Go.RowKit
set_option linter.unusedSimpArgs false
set_option linter.unusedVariables false

noncomputable abbrev L9 : List (Nat × (List AV → Ores)) := (22, sp22) :: (18, sp17) :: (19, sp19) :: L8
theorem o9 {G : Nat → Option AV} : OrcOK Tryz.prog G (orcOf L9) := by
  refine orc_con _ _ _ ok22 (fun p hb => ⟨p.1.length + 1, ev22 p.1 p.2 hb (Nat.lt_succ_self _)⟩) ?_
  refine orc_con _ _ _ ok18 (fun n hb => ⟨sz n + 1, ev18 n (Nat.lt_succ_self _) (by have := sz_bk n; omega)⟩) ?_
  refine orc_self _ _ _ (fun p => sz p.1) av2_inj ok19 ?_ o8
  intro p hb orc hself hother
  refine ⟨bk p.1 + 1, ev19 p.1 p.2 hb.1 hb.2 (Nat.lt_succ_self _) fun x hx y hy M => ?_⟩
  have := hself (x, y) ⟨by have := bk_child hx; show bk x ≤ big; omega, by have := bk_child hy; show bk y ≤ big; omega⟩ (sz_child hx)
  simp only at this
  simp [spC, this]

/-- known's contract: it is true. -/
def sp9 : List AV → Ores := fun ags => match ags with
  | [] => some (.bool true, none)
  | _ => none
noncomputable abbrev L10 : List (Nat × (List AV → Ores)) := (9, sp9) :: L9
theorem o10 {G : Nat → Option AV} (h9 : OrcAt Tryz.prog G 9 [] (.bool true, none)) : OrcOK Tryz.prog G (orcOf L10) :=
  orc_cons o9 fun ags r hr => by
    unfold sp9 at hr
    split at hr
    · cases hr; exact h9
    · cases hr
end Go.Proofs.Ae
/- The law's hypotheses out of the list. -/
namespace Go.Proofs.Ae
open Go Go.RowKit
set_option linter.unusedSimpArgs false
set_option linter.unusedVariables false

def bkQ : List Qf → Nat
  | [] => 0
  | q :: l => q.nm.length + 2 + bkQ l
theorem bk_wth : ∀ (l : List Qf) (n : Nd), bk (wth l n) = bkQ l + bk n
  | [], n => by simp [wth, bkQ]
  | q :: l, n => by
    have := bk_wth l n
    unfold wth at this ⊢
    simp only [List.foldr_cons, bk, bkS, bkL, this, bkQ]
    omega
theorem flt_bk : ∀ (k : Nat) (op : Int) (n x : Nd), x ∈ flt k op n → bk x ≤ bk n
  | 0, op, n, x, h => by simp [flt] at h; subst h; exact Nat.le_refl _
  | k + 1, op, n, x, h => by
    cases hf : isF op n with
    | false => simp [flt, hf] at h; subst h; exact Nat.le_refl _
    | true =>
      obtain ⟨a, b, hl, -⟩ := isF_two hf
      simp only [flt, hf, hl, List.mem_append] at h
      have ha : bk a < bk n := bk_child (by rw [hl]; simp)
      have hb : bk b < bk n := bk_child (by rw [hl]; simp)
      rcases h with h | h
      · have := flt_bk k op a x h; omega
      · have := flt_bk k op b x h; omega

theorem lq_inj (a b : List Qf × Nd) (h : [AV.slc .shared (a.1.map qv), av a.2] = [AV.slc .shared (b.1.map qv), av b.2]) : a = b := by
  simp only [List.cons.injEq, and_true, AV.slc.injEq, true_and] at h
  exact Prod.ext (qvs_inj h.1) (av_inj h.2)
theorem node_at {f : Nat} {F : Nd → AV} {n : Nd} (h : orcOf L10 f [av n] = ndS F [av n]) (hb : bk n ≤ big) (hF : ∀ M, takeV false (F n, none) M = some (F n, M)) (M : Mem) : spC (orcOf L10) f [av n] M = some (F n, M) := by
  rw [ndS_at hb] at h
  simp only [spC, argL, argV_av, argV_int, argV_shared, h, hF]

theorem cs4 (n : Nd) (l : List Qf) (op : Int) (hb : bk n + bkQ l < big) (hl : l.length < big) : Cs4 (spC (orcOf L10)) n l op := by
  have hbn : bk n < big := by omega
  have hr := spl_bk (sz n) n
  have hw : bk (wth l n) ≤ big := by rw [bk_wth]; omega
  have k20 : ∀ m, orcOf L10 20 [av m] = ndS av [av m] := fun m => by simp [orcOf]
  have k12 : ∀ m, orcOf L10 12 [av m] = ndS av [av m] := fun m => by simp [orcOf]
  have k10 : ∀ m, orcOf L10 10 [av m] = ndS (fun n => .bool (small n)) [av m] := fun m => by simp [orcOf]
  have k19 : ∀ m, bk m ≤ big → ∀ M, spC (orcOf L10) 19 [av m, av m] M = some (.bool true, M) := by
    intro m hm M
    have h : orcOf L10 19 [av m, av m] = sp19 [av m, av m] := by simp [orcOf]
    have e := spR_at (enc := fun p : Nd × Nd => [av p.1, av p.2]) (F := fun p => (.bool (sameN p.1 p.2), none)) (ok := fun p => bk p.1 ≤ big ∧ bk p.2 ≤ big) av2_inj (x := (m, m)) ⟨hm, hm⟩
    have h2 := h.trans e
    simp only [(sameN_iff m m).2 rfl] at h2
    simp [spC, h2]
  have k17 : ∀ f, orcOf L10 f [av n] = sp17 [av n] → ∀ M, spC (orcOf L10) f [av n] M = some (.tup [.slc .shared ((spl (sz n) n).1.map qv), av (spl (sz n) n).2], M) := by
    intro f h M
    have e := spR_at (enc := fun n : Nd => [av n]) (F := fun n => (.tup [.slc .shared ((spl (sz n) n).1.map qv), av (spl (sz n) n).2], none)) (ok := fun n => bk n < big) av1_inj (x := n) hbn
    have h2 := h.trans e
    simp [spC, h2]
  exact {
    h9 := fun M => by have : orcOf L10 9 [] = some (.bool true, none) := by simp [orcOf, sp9]
                      simp [spC, this]
    h10 := node_at (k10 n) (by omega) (fun _ => rfl)
    h12 := node_at (k12 n) (by omega) (takeV_av n)
    h17 := k17 17 (by simp [orcOf])
    h18 := k17 18 (by simp [orcOf])
    h20 := node_at (k20 _) (by omega) (takeV_av _)
    h19 := k19 _ (by omega)
    h21 := fun M => by
      have h : orcOf L10 21 [.slc .shared (l.map qv), av n] = sp21 [.slc .shared (l.map qv), av n] := by simp [orcOf]
      have e := spR_at (enc := fun p : List Qf × Nd => [.slc .shared (p.1.map qv), av p.2]) (F := fun p => (av (wth p.1 p.2), none)) (ok := fun p => p.1.length < big ∧ bk p.2 ≤ big) lq_inj (x := (l, n)) ⟨hl, by show bk n ≤ big; omega⟩
      have h2 := h.trans e
      simp only at h2
      simp only [spC, argL, argV_av, argV_int, argV_shared, h2, takeV_av]
    h20b := node_at (k20 _) hw (takeV_av _)
    h22 := fun sp M hsp => by
      have h : orcOf L10 22 [.slc .shared (l.map qv), av n] = sp22 [.slc .shared (l.map qv), av n] := by simp [orcOf]
      have e := spR_at (enc := fun p : List Qf × Nd => [.slc .shared (p.1.map qv), av p.2]) (F := fun p => (av (wth p.1 p.2), none)) (ok := fun p => p.1.length < big) lq_inj (x := (l, n)) hl
      have h2 := h.trans e
      simp only at h2
      cases sp with
      | full => exact absurd rfl hsp
      | shared => simp [spC, h2]
      | own a => simp [spC, h2]
    h19b := k19 _ hw
    h23 := fun M => by
      have h : orcOf L10 23 [.int .i64 op, av n] = sp23 23 30 [.int .i64 op, av n] := by simp [orcOf]
      have e := spR_at (enc := fun p : Int × Nd => [.int .i64 p.1, av p.2]) (F := fun p => flR 30 p.1 p.2) (ok := fun p => bk p.2 ≤ big) iv_inj (x := (op, n)) (by show bk n ≤ big; omega)
      have h2 := h.trans e
      simp only at h2
      simp only [spC, argL, argV_av, argV_int, argV_shared, h2]
    h24 := fun M => by
      have h : orcOf L10 24 [.int .i64 op, av n] = sp23 24 25 [.int .i64 op, av n] := by simp [orcOf]
      have e := spR_at (enc := fun p : Int × Nd => [.int .i64 p.1, av p.2]) (F := fun p => flR 25 p.1 p.2) (ok := fun p => bk p.2 ≤ big) iv_inj (x := (op, n)) (by show bk n ≤ big; omega)
      have h2 := h.trans e
      simp only at h2
      simp only [spC, argL, argV_av, argV_int, argV_shared, h2]
    h20c := fun x hx => node_at (k20 x) (by have := flt_bk _ _ _ _ hx; omega) (takeV_av _)
    h19c := fun x hx => k19 x (by have := flt_bk _ _ _ _ hx; omega) }
end Go.Proofs.Ae
/- The law NormalFormPrefix: what a call of it comes to. -/
namespace Go.Proofs.Ae
open Go Go.RowKit
set_option linter.unusedSimpArgs false
set_option linter.unusedVariables false

theorem orc4 {G : Nat → Option AV} (h9 : OrcAt Tryz.prog G 9 [] (.bool true, none)) (n : Nd) (l : List Qf) (op : Int) (hb : bk n + bkQ l < big) (hl : l.length < big) : OrcAt Tryz.prog G 4 [av n, .slc .shared (l.map qv), .int .i64 op] (.bool true, none) := by
  have hc := cs4 n l op hb hl
  have hs := sz_bk n
  refine orc_step hmix kis ok4 (o10 h9) ⟨sz n + l.length + 1, ?_⟩
  cases hsm : small n with
  | false => exact ev4_no n l op hc hsm
  | true =>
    by_cases hlen : l.length ≤ 20
    · exact ev4_yes n l op hc hsm hlen (by omega) (by omega) (by omega)
    · exact ev4_long n l op hc hsm (by simp; omega)
end Go.Proofs.Ae
/- The closed runs: the keywords, two identifiers, known. -/
namespace Go.Proofs.Ae
open Go Go.RowKit
set_option linter.unusedSimpArgs false
set_option linter.unusedVariables false

def bstr (s : List Nat) : AV := .str (s.map UInt8.ofNat)
/-- What the package variables hold. -/
def Gv (g : Nat) : Option AV := match g with
  | 0 => some (.agg ([(0,0,0,false),(0,0,0,false),(2,2,0,false),(2,2,0,false),(2,2,0,false),(2,2,0,false),(2,2,0,false),(1,1,0,false),(1,1,0,false),(1,1,0,false),(1,17,0,false),(0,0,1,false),(0,0,2,false),(0,0,2,false),(0,0,2,false),(0,0,2,false),(1,1,1,true),(1,1,1,true)].flatMap fun (x : Int × Int × Int × Bool) => [.int .i64 x.1, .int .i64 x.2.1, .int .i64 x.2.2.1, .bool x.2.2.2]))
  | 1 => some (.agg [bstr [118, 101, 114, 116, 101, 120], bstr [101, 100, 103, 101], bstr [115, 101, 116], bstr [101, 100, 103, 101, 115]])
  | 2 => some (.agg ((List.range 256).map fun i => .int .u8 (if i == 9 || i == 10 || i == 11 || i == 12 || i == 13 || i == 32 then 1 else 0)))
  | _ => none
def kws : AV := .slc .shared [bstr [102, 105, 110, 100], bstr [115, 111, 109, 101], bstr [101, 118, 101, 114, 121], bstr [118, 101, 114, 116, 101, 120], bstr [101, 100, 103, 101], bstr [115, 101, 116], bstr [101, 100, 103, 101, 115], bstr [116, 114, 117, 101], bstr [102, 97, 108, 115, 101], bstr [110, 111, 116], bstr [97, 110, 100], bstr [111, 114], bstr [105, 109, 112, 108, 105, 101, 115], bstr [105, 102, 102], bstr [105, 110], bstr [115, 117, 98], bstr [97, 100, 106], bstr [111, 110], bstr [105, 115], bstr [111, 110, 101], bstr [115, 105, 122, 101], bstr [109, 111, 100], bstr [108, 101, 97, 115, 116], bstr [103, 114, 101, 97, 116, 101, 115, 116], bstr [97, 115, 107], bstr [108, 101, 116]]
def mutv (f : Nat) : Bool := match f with
  | 45 => true
  | 51 => true
  | 83 => true
  | _ => false
theorem clone72_nil (w : World) : Calls Tryz.prog 72 #[.slice none 0 0] w fun e w' => e = .returned (.slice none 0 0) ∧ w = w' := by
  have k1 := fun (w : World) (a : Option Addr) (n c n' c' : Nat) => Lib.run_eql_slice_nil (P := Tryz.prog) w 96 99 a n c n' c' Tryz.underlying96
  go_enter Tryz.func72, Tryz.ntmps72
  go_wp2
  go_ret
  exact ⟨rfl, rfl⟩
theorem clone72_empty (w : World) (p : Addr) (c : Nat) : Calls Tryz.prog 72 #[.slice (some p) 0 c] w fun e w' => e = .returned (.slice (some ⟨w.heap.size, 0, none⟩) 0 0) ∧ w.alloc (.cells #[] 99) = w' := by
  have k1 := fun (w : World) (a : Option Addr) (n c n' c' : Nat) => Lib.run_eql_slice_nil (P := Tryz.prog) w 96 99 a n c n' c' Tryz.underlying96
  go_enter Tryz.func72, Tryz.ntmps72
  go_wp2
  go_ret
  exact ⟨rfl, rfl⟩
theorem clone72_ev (G : Nat → Option AV) (e : AV) (es : List AV) (sp : Sp) (h1 : szOk 2 (e :: es) = true) (h2 : (es.length + 1) * 4096 ≤ 140737488355328) :
    pureA G false noCl noYl 1 c72 [.slc sp (e :: es)] = some (.slc .shared (e :: es), some (.app (e :: es).length 99 2)) := by
  have h3 : (es.length + 1) * 24 ≤ 140737488355328 := by omega
  have h4 : es.length + 1 ≤ 140737488355328 := by omega
  cases sp <;> simp -implicitDefEqProofs [c72, kdOk, h1, h3, h4]
theorem orc72 {G : Nat → Option AV} {ags : List AV} {r : AV × Option Arr} (h : cloneA 99 2 ags = some r) : OrcAt Tryz.prog G 72 ags r :=
  clone_orc hmix kis ok72 clone72_nil (fun w p c => (clone72_empty w p c).mono fun e w' ⟨he, hw⟩ => ⟨⟨_, he⟩, hw ▸ (Below.refl _ _).alloc (Nat.le_refl _) _⟩) (fun e es sp h1 h2 => clone72_ev G e es sp h1 h2) h
theorem clone82_nil (w : World) : Calls Tryz.prog 82 #[.slice none 0 0] w fun e w' => e = .returned (.slice none 0 0) ∧ w = w' := by
  have k1 := fun (w : World) (a : Option Addr) (n c n' c' : Nat) => Lib.run_eql_slice_nil (P := Tryz.prog) w 68 112 a n c n' c' Tryz.underlying68
  go_enter Tryz.func82, Tryz.ntmps82
  go_wp2
  go_ret
  exact ⟨rfl, rfl⟩
theorem clone82_empty (w : World) (p : Addr) (c : Nat) : Calls Tryz.prog 82 #[.slice (some p) 0 c] w fun e w' => e = .returned (.slice (some ⟨w.heap.size, 0, none⟩) 0 0) ∧ w.alloc (.cells #[] 112) = w' := by
  have k1 := fun (w : World) (a : Option Addr) (n c n' c' : Nat) => Lib.run_eql_slice_nil (P := Tryz.prog) w 68 112 a n c n' c' Tryz.underlying68
  go_enter Tryz.func82, Tryz.ntmps82
  go_wp2
  go_ret
  exact ⟨rfl, rfl⟩
theorem clone82_ev (G : Nat → Option AV) (e : AV) (es : List AV) (sp : Sp) (h1 : szOk 2 (e :: es) = true) (h2 : (es.length + 1) * 4096 ≤ 140737488355328) :
    pureA G false noCl noYl 1 c82 [.slc sp (e :: es)] = some (.slc .shared (e :: es), some (.app (e :: es).length 112 2)) := by
  have h3 : (es.length + 1) * 24 ≤ 140737488355328 := by omega
  have h4 : es.length + 1 ≤ 140737488355328 := by omega
  cases sp <;> simp -implicitDefEqProofs [c82, kdOk, h1, h3, h4]
theorem orc82 {G : Nat → Option AV} {ags : List AV} {r : AV × Option Arr} (h : cloneA 112 2 ags = some r) : OrcAt Tryz.prog G 82 ags r :=
  clone_orc hmix kis ok82 clone82_nil (fun w p c => (clone82_empty w p c).mono fun e w' ⟨he, hw⟩ => ⟨⟨_, he⟩, hw ▸ (Below.refl _ _).alloc (Nat.le_refl _) _⟩) (fun e es sp h1 h2 => clone82_ev G e es sp h1 h2) h

/-- The oracles of the closed runs. -/
def orcA (f : Nat) (ags : List AV) : Ores := match f with
  | 72 => cloneA 99 2 ags
  | 74 => cloneA 9 1 ags
  | 82 => cloneA 112 2 ags
  | _ => none
theorem oA {G : Nat → Option AV} : OrcOK Tryz.prog G orcA := by
  intro f ags r h
  unfold orcA at h
  split at h
  · exact orc72 h
  · exact orc74 h
  · exact orc82 h
  · cases h
end Go.Proofs.Ae
/- The closed run of the keywords. -/
namespace Go.Proofs.Ae
open Go Go.RowKit
set_option linter.unusedSimpArgs false
set_option linter.unusedVariables false
set_option maxRecDepth 1000000
def TA : Table := ⟨fns, orcA, mutv⟩
theorem kw_run : runTo (both Gv TA 100000 false 200).1 156 [] kws = true := by kernel_rfl
theorem orc156 : OrcAt Tryz.prog Gv 156 [] (kws, none) := fun U bs es w args hG hV hfr => pgood_run (both_ok (T := TA) (N := 100000) hmix kis tabOK oA 200 false).1 (runTo_inv kw_run) rfl hG hV hfr
end Go.Proofs.Ae
