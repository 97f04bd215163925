/- Further functions: what they answer, and what that means. -/
import Derived.Test.YtlaomcfiadmamaaGreatDoorQ
import Derived.Shelf.LaysM
import Derived.Shelf.Strconv.Itoa3
import Derived.Test.YtlaomcfiadmamaaGreatDoorProg
import Derived.Below
set_option linter.unusedSimpArgs false
set_option linter.unusedVariables false
set_option linter.unusedSectionVars false
namespace Go.Proofs.Ae
open Go Go.RowKit
noncomputable abbrev s118 : List AV → Ores := spR (fun s : Str => [.str s]) (fun s => (.bool (isId s), none)) (fun _ => True)
noncomputable abbrev s152 (D : Nat → Str) : List AV → Ores := spR (fun i : Nat => [.int .i64 (i : Int)]) (fun i => (.str (D i), none)) (fun i => i < big)
def frs (D : Nat → Str) (K : Nat) (x : Str) (tk : List Str) : Str := (frF D x tk K 2 x).getD []
section
variable {G : Nat → Option AV} {L : List (Nat × (List AV → Ores))} {N : Nat} {B : Nat}
theorem nat1_inj (a b : Nat) (h : [AV.int .i64 (a : Int)] = [AV.int .i64 (b : Int)]) : a = b := by
  simp at h; omega
theorem bm_pure {orc : Nat → List AV → Ores} {k f : Nat} {ags : List AV} {cf : CFn} {v : AV} (h1 : orcW orc f ags = none) (hf : fns f = some cf) (hm : mutv f = false) (hp : cf.pure = true) (ha : (argL ags).isSome = true) (h : pureA G false (BW G orc N k) (YW G orc N k) N cf ags = some (v, none)) (M : Mem) :
    BM G orc N (k + 1) f ags M = some (v, M) := by
  have e1 : (TW orc).orc f ags = none := h1
  have e2 : (TW orc).fns f = some cf := hf
  have e3 : (TW orc).mutf f = false := hm
  unfold BM
  rw [both]
  simp only [e1, e2, e3, hp, ha]
  have h' : pureA G false (both G (TW orc) N false k).1 (both G (TW orc) N false k).2 N cf ags = some (v, none) := h
  simp only [Bool.and_false, Bool.not_false, Bool.and_true, Bool.true_and, if_true, h', takeP]
theorem bw_v {L : List (Nat × (List AV → Ores))} {k f : Nat} {ags : List AV} {X : Type} {enc : X → List AV} {F : X → AV × Option Arr} {ok : X → Prop} (inj : ∀ x y, enc x = enc y → x = y) (x : X) (ho : Has L f (spR enc F ok)) (hx : ok x) (ha : argL ags = some (enc x)) {v : AV} (hv : F x = (v, none)) (hf : f ≠ 51) (M : Mem) :
    BW G (orcX (orcOf L)) N (k + 1) f ags M = some (v, M) := by
  have e : (TW (orcX (orcOf L))).orc f ags = some (v, none) := by
    show orcW (orcX (orcOf L)) f ags = _
    unfold orcW
    rw [ha]
    simp only
    rw [orcX_ne hf, ho.eq, spR_at inj hx, hv]
  unfold BW
  rw [both]
  simp only [e]
  cases v <;> rfl
theorem fresh_nil (D : Nat → Str) (x : Str) (hx : isId x = true) (h107 : Has L 107 s107) (h118 : Has L 118 s118) (k : Nat) (hN : 0 < N) : pureA G false (BW G (orcX (orcOf L)) N (k + 1)) (YW G (orcX (orcOf L)) N (k + 1)) N c120 [.str x, .slc .full []] = some (.str x, none) := by
  have k118 : ∀ M, BW G (orcX (orcOf L)) N (k + 1) 118 [.str x] M = some (.bool true, M) := fun M => bw_v str1_inj x h118 trivial rfl (by simp only [hx]) (by decide) _
  have k107 : ∀ M, BW G (orcX (orcOf L)) N (k + 1) 107 [.slc .full [], .str x] M = some (.bool false, M) := fun M => bw_v bsE_inj (true, [], x) h107 (by show 0 < big; unfold big; omega) rfl rfl (by decide) _
  obtain ⟨N, rfl⟩ : ∃ m, N = m + 1 := ⟨N - 1, by omega⟩
  simp -implicitDefEqProofs [c120, c120b0, iter, k118, k107]
theorem fresh_bm (D : Nat → Str) (hD : ∀ i, (D i).length ≤ 15) (K : Nat) (h107 : Has L 107 s107) (h118 : Has L 118 s118) (h152 : Has L 152 (s152 D)) (n120 : ∀ ags, orcOf L 120 ags = none) (hB : B < big) (hBN : B < N) (hK : K + 2 < big) (hKN : K < N) (hid : ∀ x, isId x = true → x.length < big)
    (hok : ∀ x tk, isId x = true → tk.length ≤ B → (frF D x tk K 2 x).isSome = true) :
    ∀ (k : Nat) (x : Str) (tk : List Str) (A : List Arr) (tv : AV), isId x = true → tk.length ≤ B → ((tk = [] ∧ tv = .slc .full []) ∨ (tk ≠ [] ∧ ∃ a g, tv = .osl a g 0 tk.length ∧ A[a]? = some (.wr g 9 .sc (tk.map .str)))) → ∀ O, BM G (orcX (orcOf L)) N (k + 4) 120 [.str x, tv] ⟨O, A⟩ = some (.str (frs D K x tk), ⟨O, A⟩) := by
  intro k x tk A tv hx hl htv O
  have hs := hok x tk hx hl
  obtain ⟨r, hr⟩ := Option.isSome_iff_exists.1 hs
  have e : frs D K x tk = r := by unfold frs; rw [hr]; rfl
  rw [e]
  have hT : tv ≠ .undef := by rcases htv with ⟨_, rfl⟩ | ⟨_, a, g, rfl, _⟩ <;> simp
  have k118 : ∀ s, BM G (orcX (orcOf L)) N (k + 3) 118 [.str s] ⟨O, A⟩ = some (.bool (isId s), ⟨O, A⟩) := fun s => bm_v str1_inj s h118 trivial rfl rfl (by decide) _
  have k152 : ∀ i : Nat, i < big → BM G (orcX (orcOf L)) N (k + 3) 152 [.int .i64 (i : Nat)] ⟨O, A⟩ = some (.str (D i), ⟨O, A⟩) := fun i hi => bm_v nat1_inj i h152 hi rfl rfl (by decide) _
  have k107 : ∀ s, BM G (orcX (orcOf L)) N (k + 3) 107 [tv, .str s] ⟨O, A⟩ = some (.bool (tk.contains s), ⟨O, A⟩) := by
    intro s
    rcases htv with ⟨rfl, rfl⟩ | ⟨hne, a, g, rfl, ha⟩
    · exact bm_v bsE_inj (true, [], s) h107 (by show 0 < big; unfold big; omega) rfl rfl (by decide) _
    · have hn : argL [AV.osl a g 0 tk.length, .str s] = none := rfl
      rw [bm_call (cf := c107) (orcW_none hn) rfl (.inr (.inl hn))]
      refine mv107 O A a g tk s ?_
      rw [bm_call (cf := c138) (orcW_none hn) rfl (.inr (.inl hn))]
      exact mv138 O A a g tk s ha (by omega) (by omega)
  by_cases hnil : tk = []
  · have htv' : tv = .slc .full [] := by
      rcases htv with ⟨_, h⟩ | ⟨h, _⟩
      · exact h
      · exact absurd hnil h
    subst hnil htv'
    have hx0 : r = x := by
      cases K with
      | zero => simp [frF] at hr
      | succ K => simp [frF, frB, hx] at hr; exact hr.symm
    rw [hx0]
    exact bm_pure (cf := c120) (orcX_none n120 (by decide) _) rfl rfl rfl rfl (fresh_nil D x hx h107 h118 (k + 2) (by omega)) _
  · have htn : argL [.str x, tv] = none := by
      rcases htv with ⟨h, _⟩ | ⟨_, a, g, rfl, _⟩
      · exact absurd h hnil
      · rfl
    rw [bm_call (cf := c120) (orcX_none n120 (by decide) _) rfl (.inr (.inl htn))]
    exact mv120 D hD x (hid x hx) hx tk tv ⟨O, A⟩ hT k107 k118 k152 K r hr hK hKN
end
theorem isId_iff (s : Str) : isId s = true ↔ s ≠ [] ∧ s.all isRun = true ∧ s ∉ kwL ∧ isDig (s.headD 0) = false ∧ isLet (s.headD 0) = true ∧ s.length ≤ 16 := by
  unfold isId runF
  generalize s.headD 0 = c
  by_cases h1 : s ∈ kwL
  · simp [h1]
  · by_cases h2 : isDig c = true
    · simp [h1, h2]
    · have h2' : isDig c = false := by simpa using h2
      by_cases h3 : isLet c = false
      · simp [h1, h2', h3]
      · have h3' : isLet c = true := by simpa using h3
        by_cases h4 : s.length > 16
        · have : ¬ s.length ≤ 16 := by omega
          simp [h1, h2', h3', h4, this]
        · have : s.length ≤ 16 := by omega
          simp [h1, h2', h3', h4, this]
theorem isId_big {s : Str} (h : isId s = true) : s.length < big := by
  have := ((isId_iff s).1 h).2.2.2.2.2
  unfold big; omega
structure DOk (D : Nat → Str) : Prop where
  len : ∀ i, (D i).length ≤ 15
  five : ∀ i, 10000 ≤ i → i < 100000 → (D i).length = 5
  dig : ∀ i, (D i).all isDig = true
  inj : ∀ i j, 10000 ≤ i → i < 100000 → 10000 ≤ j → j < 100000 → D i = D j → i = j
theorem kw_last : ∀ w ∈ kwL, isDig (w.getLastD 0) = false := by decide
theorem dig_run (c : UInt8) (h : isDig c = true) : isRun c = true := by unfold isRun; simp [h]
theorem cand_id {D : Nat → Str} (hD : DOk D) {x : Str} (hx : isId x = true) (i : Nat) (h1 : 10000 ≤ i) (h2 : i < 100000) : isId (cand D x i) = true := by
  obtain ⟨a1, a2, a3, a4, a5, a6⟩ := (isId_iff x).1 hx
  have hl := hD.five i h1 h2
  have hd := hD.dig i
  have hc : cand D x i = x.take 11 ++ D i := by unfold cand; rw [hl]
  rw [hc, isId_iff]
  match x, a1 with
  | c :: cs, _ =>
    have hne : D i ≠ [] := by intro h; rw [h] at hl; cases hl
    refine ⟨by simp, ?_, ?_, by simpa using a4, by simpa using a5, by simp; omega⟩
    · rw [List.all_append, Bool.and_eq_true]
      refine ⟨?_, ?_⟩
      · rw [List.all_eq_true] at a2 ⊢
        exact fun y hy => a2 y (List.mem_of_mem_take hy)
      · rw [List.all_eq_true] at hd ⊢
        exact fun y hy => dig_run y (hd y hy)
    · intro hk
      have := kw_last _ hk
      have hlast : (List.take 11 (c :: cs) ++ D i).getLastD 0 = (D i).getLast hne := by
        rw [List.getLastD_eq_getLast?, List.getLast?_append, List.getLast?_eq_some_getLast hne]
        rfl
      rw [hlast] at this
      rw [List.all_eq_true] at hd
      rw [hd _ (List.getLast_mem hne)] at this
      cases this
theorem cand_inj {D : Nat → Str} (hD : DOk D) {x : Str} (i j : Nat) (h1 : 10000 ≤ i) (h2 : i < 100000) (h3 : 10000 ≤ j) (h4 : j < 100000) (h : cand D x i = cand D x j) : i = j := by
  unfold cand at h
  rw [hD.five i h1 h2, hD.five j h3 h4] at h
  exact hD.inj i j h1 h2 h3 h4 (List.append_cancel_left h)
theorem nodup_len : ∀ (l m : List Str), l.Nodup → (∀ x ∈ l, x ∈ m) → l.length ≤ m.length
  | [], m, _, _ => by simp
  | x :: xs, m, hn, h => by
    rw [List.nodup_cons] at hn
    have hx : x ∈ m := h x (by simp)
    have ih := nodup_len xs (m.erase x) hn.2 (fun y hy => by
      have hne : y ≠ x := fun e => hn.1 (by rw [← e]; exact hy)
      rw [List.mem_erase_of_ne hne]
      exact h y (by simp [hy]))
    have hl := List.length_erase_of_mem hx
    have hp : 0 < m.length := List.length_pos_of_mem hx
    simp only [List.length_cons]
    omega
theorem nodup_map {D : Nat → Str} (hD : DOk D) (x : Str) : ∀ (n s : Nat), 10000 ≤ s → s + n ≤ 100000 → ((List.range' s n).map (cand D x)).Nodup
  | 0, s, _, _ => by simp
  | n + 1, s, h1, h2 => by
    rw [List.range'_succ, List.map_cons, List.nodup_cons]
    refine ⟨?_, nodup_map hD x n (s + 1) (by omega) (by omega)⟩
    intro hm
    obtain ⟨j, hj, e⟩ := List.mem_map.1 hm
    rw [List.mem_range'_1] at hj
    have := cand_inj hD j s (by omega) (by omega) h1 (by omega) e
    omega
theorem free_ex {D : Nat → Str} (hD : DOk D) {x : Str} (hx : isId x = true) (tk : List Str) (hl : tk.length < 90000) : ∃ i, 10000 ≤ i ∧ i < 100000 ∧ frB tk (cand D x i) = false := by
  apply Classical.byContradiction
  intro hno
  have hall : ∀ i, 10000 ≤ i → i < 100000 → cand D x i ∈ tk := by
    intro i h1 h2
    apply Classical.byContradiction
    intro hn
    refine hno ⟨i, h1, h2, ?_⟩
    unfold frB
    rw [cand_id hD hx i h1 h2]
    simpa using hn
  have := nodup_len _ tk (nodup_map hD x 90000 10000 (by omega) (by omega)) (fun y hy => by
    obtain ⟨j, hj, rfl⟩ := List.mem_map.1 hy
    rw [List.mem_range'_1] at hj
    exact hall j (by omega) (by omega))
  rw [List.length_map, List.length_range'] at this
  omega
theorem frF_of {D : Nat → Str} {x : Str} {tk : List Str} {i0 : Nat} (h0 : frB tk (cand D x i0) = false) : ∀ (K i : Nat) (s : Str), i ≤ i0 → i0 + 2 ≤ K + i → (frF D x tk K i s).isSome = true
  | 0, i, s, h1, h2 => by omega
  | K + 1, i, s, h1, h2 => by
    simp only [frF]
    cases hb : frB tk s with
    | false => simp
    | true =>
      simp only [if_true]
      by_cases he : i = i0
      · subst he
        cases K with
        | zero => omega
        | succ K => simp [frF, h0]
      · exact frF_of h0 K (i + 1) _ (by omega) (by omega)
theorem frF_some {D : Nat → Str} (hD : DOk D) (x : Str) (tk : List Str) (hx : isId x = true) (hl : tk.length < 90000) : (frF D x tk 100002 2 x).isSome = true := by
  obtain ⟨i, h1, h2, h3⟩ := free_ex hD hx tk hl
  exact frF_of h3 100002 2 x (by omega) (by omega)
theorem frF_ok {D : Nat → Str} {x : Str} {tk : List Str} : ∀ (K i : Nat) (s r : Str), frF D x tk K i s = some r → frB tk r = false
  | 0, i, s, r, h => by simp [frF] at h
  | K + 1, i, s, r, h => by
    simp only [frF] at h
    cases hb : frB tk s with
    | false => rw [hb] at h; simp at h; subst h; exact hb
    | true => rw [hb] at h; exact frF_ok K (i + 1) _ r (by simpa using h)
theorem frs_ok {D : Nat → Str} (hD : DOk D) (x : Str) (tk : List Str) (hx : isId x = true) (hl : tk.length < 90000) : frs D 100002 x tk ∉ tk ∧ isId (frs D 100002 x tk) = true := by
  obtain ⟨r, hr⟩ := Option.isSome_iff_exists.1 (frF_some hD x tk hx hl)
  have e : frs D 100002 x tk = r := by unfold frs; rw [hr]; rfl
  have := frF_ok _ _ _ _ hr
  rw [e]
  unfold frB at this
  simp at this
  exact this
theorem deepL_nc6 {M : Mem} {f : Nat} {op so nn mm : Int} {nv kv nv' kv' : AV} {rest r : List AV} (h1 : deep M (f + 5) nv = some nv') (h2 : deep M (f + 1) kv = some kv') (hr : deepL M (f + 1) rest = some r) :
    deepL M (f + 7) (.int .i64 op :: nv :: .int .i64 so :: .int .i64 nn :: .int .i64 mm :: kv :: rest) = some (.int .i64 op :: nv' :: .int .i64 so :: .int .i64 nn :: .int .i64 mm :: kv' :: r) := by
  simp only [deepL, deep_int, h1, h2, hr]
theorem deepL_strs {M : Mem} : ∀ (l : List Str) (f : Nat), l.length < f → deepL M f (l.map .str) = some (l.map .str)
  | [], f, h => by
    obtain ⟨f, rfl⟩ : ∃ g, f = g + 1 := ⟨f - 1, by simp at h; omega⟩
    simp only [List.map_nil, deepL]
  | x :: xs, f, h => by
    simp only [List.length_cons] at h
    obtain ⟨f, rfl⟩ : ∃ g, f = g + 2 := ⟨f - 2, by omega⟩
    have ih := deepL_strs (M := M) xs (f + 1) (by omega)
    simp only [List.map_cons, deepL, deep_str, ih]
theorem chunk_strs : ∀ (l : List Str), chunk 1 .sc l.length (l.map .str) = some (l.map .str)
  | [] => rfl
  | x :: xs => by
    have ih := chunk_strs xs
    simp [chunk, unit, ih]
theorem deep_nm {M : Mem} {A : List Arr} {ns : List Str} {lo m : Nat} {nv : AV} (hA : M.arrs = A) (h : NmAt A ns lo m nv) (hl : ns.length ≤ 17) (f : Nat) : deep M (f + 20) nv = some (.slc .shared (ns.map .str)) := by
  rcases h with ⟨rfl, rfl, _⟩ | ⟨h1, h2, rfl, h4⟩
  · rfl
  · have hr : rowOf M lo 0 = some (9, .sc, ns.map .str) := rowOf_eq (by rw [hA]; exact h4)
    have e1 := deepL_strs (M := M) ns (f + 19) (by omega)
    have e2 := chunk_strs ns
    simp only [deep, hr, Lay.sz, Nat.zero_add, Nat.mul_one, List.length_map, Nat.le_refl, if_true, Nat.zero_mul, List.drop_zero]
    rw [List.take_of_length_le (by simp), e1]
    simp only [e2]
theorem chunk_1 (a : Nd) : chunk 6 (.ag 6) 1 (ndc a) = some [av a] := by cases a; rfl
theorem chunk_2 (a b : Nd) : chunk 6 (.ag 6) 2 (ndc a ++ ndc b) = some [av a, av b] := by cases a; cases b; rfl
def Dp (M : Mem) (A : List Arr) (n : Nd) : Prop := ∀ (lo hi : Nat) (v : AV) (f : Nat) (rest r : List AV), Ld A n lo hi v → 13 * dp n + 3 ≤ f → deepL M (f + 1) rest = some r → deepL M (f + 7) (celL v ++ rest) = some (ndc n ++ r)
theorem deep_leaf {M : Mem} {A : List Arr} (hA : M.arrs = A) (op so nn mm : Int) (ns : List Str) (hl : ns.length ≤ 17) : Dp M A (.mk op ns so nn mm []) := by
  intro lo hi v f rest r h hf hr
  simp only [Ld] at h
  obtain ⟨nv, kv, md, b, vs, rfl, hnm, hmh, hkv, hL⟩ := h
  have hk := hkv.nil
  subst hk
  have hd : dp (.mk op ns so nn mm []) = 1 := rfl
  rw [hd] at hf
  obtain ⟨g, rfl⟩ : ∃ g, f = g + 15 := ⟨f - 15, by omega⟩
  exact deepL_nc6 (f := g + 15) (deep_nm hA hnm hl g) rfl hr
theorem deep_one {M : Mem} {A : List Arr} (hA : M.arrs = A) (op so nn mm : Int) (ns : List Str) (a : Nd) (hl : ns.length ≤ 17) (ih : Dp M A a) : Dp M A (.mk op ns so nn mm [a]) := by
  intro lo hi v f rest r h hf hr
  simp only [Ld, LdL] at h
  obtain ⟨nv, kv, md, b, vs, rfl, hnm, hmh, hkv, va, vs', l1, h1, rfl, a1, a2, a3, a4, a5, rfl⟩ := h
  rcases hkv with ⟨h0, _⟩ | ⟨k, h0, rfl, h2, h3, h4⟩
  · simp at h0
  · simp at h0
    subst h0
    have hd : dp (.mk op ns so nn mm [a]) = dp a + 1 := by simp [dp, dpL]
    rw [hd] at hf
    obtain ⟨g, rfl⟩ : ∃ g, f = g + 15 := ⟨f - 15, by omega⟩
    have hrow : rowOf M b 0 = some (30, .ag 6, flC [va]) := rowOf_eq (by rw [hA]; exact h2)
    have hfl : flC [va] = celL va := by simp [flC]
    obtain ⟨c0, c1, c2, c3, c4, c5, rfl⟩ := Ld_len A a a5
    have key := ih l1 h1 _ (g + 8) [] [] a5 (by omega) rfl
    rw [List.append_nil, List.append_nil] at key
    have hk : deep M (g + 16) (.osl b 0 0 1) = some (.slc .shared (avL [a])) := by
      simp only [deep, hrow, hfl, Lay.sz]
      simp only [celL] at key ⊢
      simp only [List.length_cons, List.length_nil, Nat.zero_add, Nat.zero_mul, Nat.one_mul, List.drop_zero, Nat.le_refl, if_true, List.take_succ_cons, List.take_zero, List.take_nil]
      rw [key]
      simp only [chunk_1]
      rfl
    exact deepL_nc6 (f := g + 15) (deep_nm hA hnm hl g) hk hr
theorem deep_two {M : Mem} {A : List Arr} (hA : M.arrs = A) (op so nn mm : Int) (ns : List Str) (a c : Nd) (hl : ns.length ≤ 17) (ih : Dp M A a) (ih2 : Dp M A c) : Dp M A (.mk op ns so nn mm [a, c]) := by
  intro lo hi v f rest r h hf hr
  simp only [Ld, LdL] at h
  obtain ⟨nv, kv, md, b, vs, rfl, hnm, hmh, hkv, va, vs', l1, h1, rfl, a1, a2, a3, a4, a5, vb, vs2, l2, h22, rfl, b1, b2, b3, b4, b5, rfl⟩ := h
  rcases hkv with ⟨h0, _⟩ | ⟨k, h0, rfl, h2, h3, h4⟩
  · simp at h0
  · simp at h0
    subst h0
    have hd : dp (.mk op ns so nn mm [a, c]) = max (dp a) (dp c) + 1 := by simp [dp, dpL]
    rw [hd] at hf
    obtain ⟨g, rfl⟩ : ∃ g, f = g + 15 := ⟨f - 15, by omega⟩
    have hrow : rowOf M b 1 = some (30, .ag 6, flC [va, vb]) := rowOf_eq (by rw [hA]; exact h2)
    have hfl : flC [va, vb] = celL va ++ celL vb := by simp [flC]
    obtain ⟨c0, c1, c2, c3, c4, c5, rfl⟩ := Ld_len A a a5
    obtain ⟨d0, d1, d2, d3, d4, d5, rfl⟩ := Ld_len A c b5
    have k2 := ih2 l2 h22 _ (g + 2) [] [] b5 (by omega) rfl
    rw [List.append_nil, List.append_nil] at k2
    have key := ih l1 h1 _ (g + 8) _ _ a5 (by omega) k2
    have hk : deep M (g + 16) (.osl b 1 0 2) = some (.slc .shared (avL [a, c])) := by
      simp only [deep, hrow, hfl, Lay.sz]
      simp only [celL, List.cons_append, List.nil_append] at key ⊢
      simp only [List.length_cons, List.length_nil, Nat.zero_add, Nat.zero_mul, Nat.reduceAdd, Nat.reduceMul, List.drop_zero, Nat.le_refl, if_true, List.take_succ_cons, List.take_zero, List.take_nil]
      rw [key]
      simp only [chunk_2]
      rfl
    exact deepL_nc6 (f := g + 15) (deep_nm hA hnm hl g) hk hr
theorem deep_all {M : Mem} {A : List Arr} (hA : M.arrs = A) : ∀ (s : Nat) (n : Nd), sz n ≤ s → ndE n = 0 → Dp M A n
  | 0, n, hs, _ => by have := sz_pos n; omega
  | s + 1, n, hs, hv => by
    have hn := ns_len hv
    cases vk_of hv with
    | cst op h => exact deep_leaf hA op 0 0 0 [] hn
    | two op x y h hx hy => exact deep_leaf hA op 0 0 0 [x, y] hn
    | lab x q hx h => exact deep_leaf hA 7 0 q 0 [x] hn
    | smd x q m hx h => exact deep_leaf hA 8 0 q m [x] hn
    | sng x hx => exact deep_leaf hA 9 0 0 0 [x] hn
    | cal x xs h hx => exact deep_leaf hA 10 0 0 0 (x :: xs) hn
    | not a ha =>
      have hz : sz (nd 11 [a]) = sz a + 1 := by simp [nd, sz, szL]
      exact deep_one hA 11 0 0 0 [] a hn (deep_all hA s a (by omega) ha)
    | bin op a b h ha hb =>
      have hz : sz (nd op [a, b]) = sz a + sz b + 1 := by simp [nd, sz, szL]
      have p1 := sz_pos a
      have p2 := sz_pos b
      exact deep_two hA op 0 0 0 [] a b hn (deep_all hA s a (by omega) ha) (deep_all hA s b (by omega) hb)
    | qnt op x so a h hx hso ha =>
      have hz : sz (qn op x so a) = sz a + 1 := by simp [qn, sz, szL]
      exact deep_one hA op so 0 0 [x] a hn (deep_all hA s a (by omega) ha)
section
variable {G : Nat → Option AV} {cl : Caller} {yl : Nat → List AV → Mem → Option (AV × Mem)} {N : Nat}
def qyv (n : Nd) : AV := .agg (.slc .shared [] :: ndc n)
theorem argL_qyv (n : Nd) : argL [qyv n] = some [qyv n] := by
  cases n with
  | mk op ns so nn mm l => simp [qyv, ndc, argL, pureV, pureL]
theorem ev81 (n : Nd) (hN : 0 < N) (h28 : ∀ M, cl 28 [av n] M = some (.int .i64 (chk n), M)) : pureA G false cl yl N c81 [qyv n] = some (.int .i64 (chk n), none) := by
  obtain ⟨N, rfl⟩ : ∃ m, N = m + 1 := ⟨N - 1, by omega⟩
  have ha := argL_qyv n
  have e : (AV.slc .shared [] :: ndc n).drop 1 = ndc n := rfl
  unfold qyv at ha ⊢
  unfold pureA
  rw [ha]
  simp -implicitDefEqProofs [c81, c81b0, iter, h28, e]
end
theorem Has.ok {P : Program} {G : Nat → Option AV} {l : List (Nat × (List AV → Ores))} (h : OrcOK P G (orcOf l)) {f : Nat} {s : List AV → Ores} (hh : Has l f s) (ags : List AV) (r : AV × Option Arr) (hr : s ags = some r) : OrcAt P G f ags r :=
  h f ags r (by rw [hh.eq]; exact hr)
theorem free_gen {G : Nat → Option AV} {l : List (Nat × (List AV → Ores))} (h : HFree l) (n : Nd) (hb : bk n < big) (N k : Nat) (hN : bk n < N) (hk : sz n ≤ k) : pureA G false (BW G (orcOf l) N (k + 2)) (YW G (orcOf l) N (k + 2)) N c34 [av n] = some (freR n) := by
  refine ev34 n ?_
  rw [bw_call (h.no _) (cf := c65) rfl rfl rfl]
  exact ev65f (G := G) (yl := YW G (orcOf l) N (k + 1)) n (cs65 (G := G) h (k := k) fun x hx out bound hb => fr65 h N k x bound out (by have := sz_child hx; omega) (by have := bk_child hx; omega) hb) hb hN
noncomputable abbrev s28 : List AV → Ores := sNd (fun n => .int .i64 (chk n)) fun n => bk n ≤ big
noncomputable abbrev LX (D : Nat → Str) : List (Nat × (List AV → Ores)) := [(152, s152 D), (118, s118), (107, s107), (106, s106), (108, s108), (74, cloneA 9 1), (82, cloneA 112 2), (28, s28)]
theorem lx_ok {t : Nat} {D : Nat → Str} (h152 : ∀ ags r, s152 D ags = some r → OrcAt Tryz.prog (GG t) 152 ags r) : OrcOK Tryz.prog (GG t) (orcOf (LX D)) := by
  have hw : OrcOK Tryz.prog (GG t) (orcOf W23) := w23_
  refine orc_cons (orc_cons (orc_cons (orc_cons (orc_cons (orc_cons (orc_cons (orc_cons orc_nil ?_) ?_) ?_) ?_) ?_) ?_) ?_) h152
  · exact fun a r hr => Has.ok hw (s := s28) (by repeat first | exact .here | refine .there ?_ rfl) a r hr
  · exact fun a r hr => orc82 hr
  · exact fun a r hr => orc74 hr
  · exact fun a r hr => Has.ok hw (s := s108) (by repeat first | exact .here | refine .there ?_ rfl) a r hr
  · exact fun a r hr => Has.ok hw (s := s106) (by repeat first | exact .here | refine .there ?_ rfl) a r hr
  · exact fun a r hr => Has.ok hw (s := s107) (by repeat first | exact .here | refine .there ?_ rfl) a r hr
  · exact fun a r hr => Has.ok hw (s := s118) (by repeat first | exact .here | refine .there ?_ rfl) a r hr
theorem lx_free (D : Nat → Str) : HFree (LX D) := ⟨(by repeat first | exact .here | refine .there ?_ rfl), (by repeat first | exact .here | refine .there ?_ rfl), (by repeat first | exact .here | refine .there ?_ rfl), (by repeat first | exact .here | refine .there ?_ rfl), fun _ => rfl⟩
theorem lx_x (D : Nat → Str) : orcX (orcOf (LX D)) = orcOf (LX D) := by
  funext f ags
  unfold orcX
  split <;> rfl
theorem bm_free {G : Nat → Option AV} {D : Nat → Str} (n : Nd) (hb : bk n < big) (N k : Nat) (hN : bk n < N) (hk : sz n ≤ k) (M : Mem) : BM G (orcX (orcOf (LX D))) N (k + 3) 34 [av n] M = some (.slc .shared ((freeF n [] []).map .str), M) := by
  rw [lx_x]
  have h1 : orcW (orcOf (LX D)) 34 [av n] = none := by unfold orcW; split <;> rfl
  have e1 : (TW (orcOf (LX D))).orc 34 [av n] = none := h1
  have e2 : (TW (orcOf (LX D))).fns 34 = some c34 := rfl
  have e3 : (TW (orcOf (LX D))).mutf 34 = false := rfl
  have ha : (argL [av n]).isSome = true := by rw [a1]; rfl
  have hp : c34.pure = true := rfl
  have h' : pureA G false (both G (TW (orcOf (LX D))) N false (k + 2)).1 (both G (TW (orcOf (LX D))) N false (k + 2)).2 N c34 [av n] = some (freR n) := free_gen (lx_free D) n hb N k hN hk
  unfold BM
  rw [both]
  simp only [e1, e2, e3, hp, ha]
  simp only [Bool.and_false, Bool.not_false, Bool.and_true, Bool.true_and, if_true, h', takeP]
  rfl
theorem lx_hap {G : Nat → Option AV} {D : Nat → Str} (hD : DOk D) (N : Nat) (hN : 200000 < N) : HAp G (LX D) N (frs D 100002) 89999 where
  h106 := (by repeat first | exact .here | refine .there ?_ rfl)
  h108 := (by repeat first | exact .here | refine .there ?_ rfl)
  n83 := fun _ => rfl
  n121 := fun _ => rfl
  hB := by unfold big; omega
  fresh := fresh_bm D hD.len 100002 (by repeat first | exact .here | refine .there ?_ rfl) (by repeat first | exact .here | refine .there ?_ rfl) (by repeat first | exact .here | refine .there ?_ rfl) (fun _ => rfl) (by unfold big; omega) (by omega) (by unfold big; omega) (by omega) (fun x h => isId_big h) (fun x tk h1 h2 => frF_some hD x tk h1 (by omega))
section
variable {G : Nat → Option AV} {cl : Caller} {yl : Nat → List AV → Mem → Option (AV × Mem)} {N : Nat}
def os45 (op so nn mm : Int) (ns : List Str) (l : List Nd) (tv : AV) : List Obj := [.cells [.slc .shared [], .int .i64 op, .slc .shared (ns.map .str), .int .i64 so, .int .i64 nn, .int .i64 mm, .slc .shared (avL l)], .cells [.slc .full [], .int .i64 0, .slc .full [], .int .i64 0, .int .i64 0, .int .i64 0, .slc .full []], .cells [.slc .full [], .int .i64 0, .slc .full [], .int .i64 0, .int .i64 0, .int .i64 0, .slc .full []], .cells [tv]]
theorem ev45_run (op so nn mm : Int) (ns : List Str) (l : List Nd) (fs : List Str) (c0 c1 c2 c3 c4 c5 : AV) (J : List Obj) (R : List Arr) (O1 : List Obj) (A1 : List Arr) (tv : AV) (ar : List Arr) (hN : 0 < N)
    (h81 : ∀ M, cl 81 [qyv (.mk op ns so nn mm l)] M = some (.int .i64 0, M)) (h82 : ∀ M, cl 82 [.slc .shared []] M = some (.slc .full [], M)) (h34 : ∀ M, cl 34 [av (.mk op ns so nn mm l)] M = some (.slc .shared (fs.map .str), M))
    (happ : ∀ O, appM 9 .sc 16 (.slc .full []) (.slc .shared (fs.map .str)) ⟨O, []⟩ = some (tv, ⟨O, ar⟩)) (htv : cells tv = some [tv])
    (h51 : cl 51 [av (.mk op ns so nn mm l)] ⟨os45 op so nn mm ns l tv, ar⟩ = some (.agg [c0, c1, c2, c3, c4, c5], ⟨os45 op so nn mm ns l tv ++ J, ar ++ R⟩))
    (h83 : cl 83 [.agg [c0, c1, c2, c3, c4, c5], .map (J.length + 1 + 1 + 1 + 1), .ptr 3 0] ⟨os45 op so nn mm ns l tv ++ (J ++ [.map []]), ar ++ R⟩ = some (.agg [c0, c1, c2, c3, c4, c5], ⟨O1, A1⟩))
    (hO1 : O1[1]? = some (.cells [.slc .full [], .int .i64 0, .slc .full [], .int .i64 0, .int .i64 0, .int .i64 0, .slc .full []])) (hO2 : O1[2]? = some (.cells [.slc .full [], .int .i64 0, .slc .full [], .int .i64 0, .int .i64 0, .int .i64 0, .slc .full []])) :
    Ends (callA G true cl yl N c45 [qyv (.mk op ns so nn mm l)] ⟨[], []⟩) (fun v M => v = .tup [.agg [.slc .full [], c0, c1, c2, c3, c4, c5], .int .i64 0] ∧ M.arrs = A1) := by
  obtain ⟨N, rfl⟩ : ∃ m, N = m + 1 := ⟨N - 1, by omega⟩
  have e1 : qyv (.mk op ns so nn mm l) = .agg [.slc .shared [], .int .i64 op, .slc .shared (ns.map .str), .int .i64 so, .int .i64 nn, .int .i64 mm, .slc .shared (avL l)] := rfl
  have e2 : av (.mk op ns so nn mm l) = .agg [.int .i64 op, .slc .shared (ns.map .str), .int .i64 so, .int .i64 nn, .int .i64 mm, .slc .shared (avL l)] := rfl
  rw [e1] at h81 ⊢
  rw [e2] at h34 h51
  unfold os45 at h51 h83
  simp only [List.cons_append, List.nil_append] at h51 h83
  have hl2 : 2 < O1.length := (List.getElem?_eq_some_iff.1 hO2).1
  have s1 : ∀ X, (O1.set 2 X)[2]? = some X := fun X => by rw [List.getElem?_set_self hl2]
  have s2 : ∀ X, (O1.set 2 X)[1]? = O1[1]? := fun X => List.getElem?_set_ne (by omega)
  have s3 : ∀ X Y, ((O1.set 2 X).set 1 Y)[1]? = some Y := fun X Y => by rw [List.getElem?_set_self (by simp; omega)]
  simp -implicitDefEqProofs [c45, c45b0, iter, h81, h82, h34, happ, htv, h51, h83, hO1, hO2, s1, s2, s3]
end
theorem app_free (fs : List Str) (hl : fs.length < big) : ∃ tv ar, (∀ O, appM 9 .sc 16 (.slc .full []) (.slc .shared (fs.map .str)) ⟨O, []⟩ = some (tv, ⟨O, ar⟩)) ∧ cells tv = some [tv] ∧ (∀ O R, O[3]? = some (.cells [tv]) → TkS O (ar ++ R) 3 fs) ∧ (∀ O i, O[3]? = some (.cells [tv]) → TkRow O 3 i → i < ar.length) := by
  unfold big at hl
  cases fs with
  | nil =>
    refine ⟨.slc .full [], [], fun O => by simp [appM, srcOf, flat], rfl, fun O R h => .inl ⟨rfl, h⟩, fun O i h hr => ?_⟩
    obtain ⟨g, n, hr⟩ := hr
    rw [h] at hr
    simp at hr
  | cons f fs =>
    have hf := flat_str (f :: fs)
    simp only [List.map_cons] at hf
    simp at hl
    have b1 : (fs.length + 1) * 16 ≤ 140737488355328 := by omega
    have b2 : fs.length + 1 ≤ 140737488355328 := by omega
    refine ⟨.osl 0 0 0 (fs.length + 1), [.wr 0 9 .sc (.str f :: fs.map .str)], fun O => by simp [appM, srcOf, hf, b1, b2], rfl, fun O R h => .inr ⟨by simp, 0, 0, h, rfl⟩, fun O i h hr => ?_⟩
    obtain ⟨g, n, hr⟩ := hr
    rw [h] at hr
    simp at hr
    simp
    omega
theorem deep_q {M : Mem} {f : Nat} {cs r : List AV} (h : deepL M (f + 7) cs = some r) : deep M (f + 11) (.tup [.agg (.slc .full [] :: cs), .int .i64 0]) = some (.tup [.agg (.slc .shared [] :: r), .int .i64 0]) := by
  simp only [deep, deepL, pureV, h]
theorem back_tup (M : Mem) (vs : List AV) : backV M (.tup vs) = deep M (3989 + 11) (.tup vs) := by unfold backV; rfl
theorem ev45 {G : Nat → Option AV} {D : Nat → Str} (hD : DOk D) (n : Nd) (hv : ndE n = 0) (N k : Nat) (hN : 200000 < N) (hbN : bk n < N) (hk : sz n + 10 ≤ k) (hb : bk n < big) (hfs : (freeF n [] []).length + sz n ≤ 89999)
    (h81 : ∀ M, BM G (orcX (orcOf (LX D))) N k 81 [qyv n] M = some (.int .i64 0, M)) (hv' : ndE (apF (frs D 100002) [] (freeF n [] []) n).1 = 0) (hd : 13 * dp (apF (frs D 100002) [] (freeF n [] []) n).1 + 20 ≤ 3980) :
    pureA G true (BM G (orcX (orcOf (LX D))) N k) (YM G (orcX (orcOf (LX D))) N k) N c45 [qyv n] = some (.tup [.agg (.slc .shared [] :: ndc (apF (frs D 100002) [] (freeF n [] []) n).1), .int .i64 0], none) := by
  obtain ⟨j, rfl⟩ : ∃ j, k = j + 3 := ⟨k - 3, by omega⟩
  obtain ⟨tv, ar, happ, htv, hTS, hTR⟩ := app_free (freeF n [] []) (by unfold big; omega)
  have H := lx_hap (G := G) hD N hN
  have h82 : ∀ M, BM G (orcX (orcOf (LX D))) N (j + 3) 82 [.slc .shared []] M = some (.slc .full [], M) := fun M => bm_orc (by
    unfold orcW
    rw [show argL [AV.slc .shared []] = some [.slc .shared []] from rfl]
    simp only
    rw [orcX_ne (by decide)]
    rfl) M
  have h34 := bm_free (G := G) (D := D) n hb N j hbN (by omega)
  cases n with
  | mk op ns so nn mm l =>
    have hcp := cpd_all (G := G) (L := LX D) (N := N) (by repeat first | exact .here | refine .there ?_ rfl) (by omega) (sz (.mk op ns so nn mm l)) _ (Nat.le_refl _) hv (j + 3) (by omega) (os45 op so nn mm ns l tv) ar
    obtain ⟨v, ⟨Oc, Ac⟩, hc, J, R, g1, g2, hLd⟩ := hcp.out
    simp only at g1 g2
    subst g1 g2
    obtain ⟨c0, c1, c2, c3, c4, c5, rfl⟩ := Ld_len _ _ hLd
    have hap := apC_all H (by omega) 3 (sz (.mk op ns so nn mm l)) _ (Nat.le_refl _) hv (j + 3) (by omega) [] (freeF (.mk op ns so nn mm l) [] []) (os45 op so nn mm ns l tv ++ (J ++ [.map []])) (ar ++ R) (J.length + 1 + 1 + 1 + 1) ar.length (ar ++ R).length _ hLd (Nat.le_refl _)
      (by simp [os45, asE]) (hTS _ _ rfl) (fun i h => .inl (hTR _ i rfl h)) hfs
    obtain ⟨v2, ⟨O1, A1⟩, h83, hve, hld, hfr, hts⟩ := hap.out
    subst hve
    simp only at hld hfr hts
    have run := ev45_run (G := G) (cl := BM G (orcX (orcOf (LX D))) N (j + 3)) (yl := YM G (orcX (orcOf (LX D))) N (j + 3)) (N := N) op so nn mm ns l _ c0 c1 c2 c3 c4 c5 J R O1 A1 tv ar (by omega) h81 h82 h34 happ htv hc h83
      (by rw [hfr.o 1 (by simp [os45]) (by omega)]; rfl) (by rw [hfr.o 2 (by simp [os45]) (by omega)]; rfl)
    obtain ⟨v3, M3, h3, rfl, hA⟩ := run.out
    have hdp := deep_all hA _ _ (Nat.le_refl _) hv' _ _ _ 3989 [] [] hld (by omega) rfl
    rw [List.append_nil, List.append_nil] at hdp
    simp only [celL] at hdp
    unfold pureA
    rw [argL_qyv]
    simp only [h3]
    have hb2 : backV M3 (.tup [.agg [.slc .full [], c0, c1, c2, c3, c4, c5], .int .i64 0]) = some (.tup [.agg (.slc .shared [] :: ndc (apF (frs D 100002) [] (freeF (.mk op ns so nn mm l) [] []) (.mk op ns so nn mm l)).1), .int .i64 0]) := by
      rw [back_tup]
      exact deep_q hdp
    rw [hb2]
mutual
theorem apF_dp (F : Str → List Str → Str) : ∀ (n : Nd) (m : List (Str × Str)) (tk : List Str), dp (apF F m tk n).1 = dp n
  | .mk op ns so nn mm l, m, tk => by
    simp only [apF]
    split
    · split
      · simp only [dp]; rw [apL_dp F l]
      · simp only [dp]; rw [apL_dp F l]
    · simp only [dp]; rw [apL_dp F l]
theorem apL_dp (F : Str → List Str → Str) : ∀ (l : List Nd) (m : List (Str × Str)) (tk : List Str), dpL (apL F m tk l).1 = dpL l
  | [], m, tk => rfl
  | x :: xs, m, tk => by simp only [apL, dpL]; rw [apF_dp F x, apL_dp F xs]
end
def MOk (m : List (Str × Str)) : Prop := ∀ p ∈ m, isId p.2 = true
theorem lkS_mem : ∀ {m : List (Str × Str)} {x y : Str}, lkS m x = some y → ∃ p ∈ m, p.2 = y
  | [], x, y, h => by simp [lkS] at h
  | p :: ps, x, y, h => by
    simp only [lkS] at h
    split at h
    · exact ⟨p, by simp, by simpa using h⟩
    · obtain ⟨q, hq, e⟩ := lkS_mem h
      exact ⟨q, by simp [hq], e⟩
theorem ren_id {m : List (Str × Str)} (hm : MOk m) {x : Str} (hx : isId x = true) : isId (ren m x) = true := by
  unfold ren
  cases h : lkS m x with
  | none => exact hx
  | some y =>
    obtain ⟨p, hp, rfl⟩ := lkS_mem h
    exact hm p hp
theorem ptS_ok : ∀ {m : List (Str × Str)} {x y : Str}, MOk m → isId y = true → MOk (ptS m x y)
  | [], x, y, _, h, p, hp => by simp [ptS] at hp; subst hp; exact h
  | q :: qs, x, y, hm, h, p, hp => by
    simp only [ptS] at hp
    split at hp
    · rcases List.mem_cons.1 hp with rfl | hp
      · exact h
      · exact hm p (by simp [hp])
    · rcases List.mem_cons.1 hp with rfl | hp
      · exact hm p (by simp)
      · exact ptS_ok (m := qs) (fun z hz => hm z (by simp [hz])) h p hp
theorem apF_valid {F : Str → List Str → Str} {B : Nat} (hF : ∀ x tk, isId x = true → tk.length ≤ B → isId (F x tk) = true) : ∀ (s : Nat) (n : Nd) (m : List (Str × Str)) (tk : List Str), sz n ≤ s → ndE n = 0 → MOk m → tk.length + sz n ≤ B → ndE (apF F m tk n).1 = 0
  | 0, n, m, tk, hs, _, _, _ => by have := sz_pos n; omega
  | s + 1, n, m, tk, hs, hv, hm, hB => by
    cases vk_of hv with
    | cst op h =>
      have e : (apF F m tk (nd op [])).1 = nd op [] := by
        simp only [nd, apF]
        rw [if_neg (by omega)]
        have : uR m op [] = [] := by unfold uR; rw [if_neg (by omega), if_neg (by omega)]
        simp only [this, apL]
      rw [e]; exact hv
    | two op x y h hx hy =>
      have e : (apF F m tk (.mk op [x, y] 0 0 0 [])).1 = .mk op [ren m x, ren m y] 0 0 0 [] := by
        simp only [apF]
        rw [if_neg (by omega)]
        have : uR m op [x, y] = [ren m x, ren m y] := by unfold uR; rw [if_neg (by omega), if_pos (by omega)]; rfl
        simp only [this, apL]
      rw [e]; exact vk_inv (.two op _ _ h (ren_id hm hx) (ren_id hm hy))
    | lab x q hx h => exact vk_inv (.lab (ren m x) q (ren_id hm hx) h)
    | smd x q r hx h => exact vk_inv (.smd (ren m x) q r (ren_id hm hx) h)
    | sng x hx => exact vk_inv (.sng (ren m x) (ren_id hm hx))
    | cal x xs h hx =>
      refine vk_inv (.cal x (xs.map (ren m)) (by simpa using h) ?_)
      simp only [List.all_cons, Bool.and_eq_true, List.all_eq_true] at hx ⊢
      refine ⟨hx.1, fun y hy => ?_⟩
      obtain ⟨z, hz, rfl⟩ := List.mem_map.1 hy
      exact ren_id hm (hx.2 z hz)
    | not a ha =>
      have hz : sz (nd 11 [a]) = sz a + 1 := by simp [nd, sz, szL]
      exact vk_inv (.not _ (apF_valid hF s a m tk (by omega) ha hm (by omega)))
    | bin op a b h ha hb =>
      have hz : sz (nd op [a, b]) = sz a + sz b + 1 := by simp [nd, sz, szL]
      have e : (apF F m tk (nd op [a, b])).1 = nd op [(apF F m tk a).1, (apF F m (apF F m tk a).2 b).1] := by
        simp only [nd, apF]
        rw [if_neg (by omega)]
        have : uR m op [] = [] := by unfold uR; rw [if_neg (by omega), if_neg (by omega)]
        simp only [this, apL]
      have ht := apF_tk F a m tk
      have p1 := sz_pos a
      have p2 := sz_pos b
      rw [e]
      exact vk_inv (.bin op _ _ h (apF_valid hF s a m tk (by omega) ha hm (by omega)) (apF_valid hF s b m _ (by omega) hb hm (by omega)))
    | qnt op x so a h hx hso ha =>
      have hz : sz (qn op x so a) = sz a + 1 := by simp [qn, sz, szL]
      have e : (apF F m tk (qn op x so a)).1 = qn op (F x tk) so (apF F (ptS m x (F x tk)) (tk ++ [F x tk]) a).1 := by
        simp only [qn, apF]
        rw [if_pos h]
        simp only [apL]
      have hy := hF x tk hx (by omega)
      rw [e]
      exact vk_inv (.qnt op _ so _ h hy hso (apF_valid hF s a _ _ (by omega) ha (ptS_ok hm hy) (by simp; omega)))
mutual
def bnd : Nd → List Str
  | .mk op ns _ _ _ l => (if op = 16 ∨ op = 17 then ns.take 1 else []) ++ bndL l
def bndL : List Nd → List Str
  | [] => []
  | x :: xs => bnd x ++ bndL xs
end
mutual
theorem apF_bnd (F : Str → List Str → Str) : ∀ (n : Nd) (m : List (Str × Str)) (tk : List Str), (apF F m tk n).2 = tk ++ bnd (apF F m tk n).1
  | .mk op ns so nn mm l, m, tk => by
    simp only [apF]
    by_cases h : op = 16 ∨ op = 17
    · rw [if_pos h]
      split
      · rename_i x xs
        simp only [bnd]
        rw [if_pos h, apL_bnd F l]
        simp
      · simp only [bnd]
        rw [if_pos h, apL_bnd F l]
        simp
    · rw [if_neg h]
      simp only [bnd]
      rw [if_neg h, apL_bnd F l]
      simp
theorem apL_bnd (F : Str → List Str → Str) : ∀ (l : List Nd) (m : List (Str × Str)) (tk : List Str), (apL F m tk l).2 = tk ++ bndL (apL F m tk l).1
  | [], m, tk => by simp [apL, bndL]
  | x :: xs, m, tk => by
    simp only [apL, bndL]
    rw [apL_bnd F xs, apF_bnd F x]
    simp
end
def NdF (tk : List Str) (l : List Str) : Prop := l.Nodup ∧ ∀ y ∈ l, y ∉ tk
theorem NdF.app {tk a b : List Str} (h1 : NdF tk a) (h2 : NdF (tk ++ a) b) : NdF tk (a ++ b) := by
  refine ⟨List.nodup_append.2 ⟨h1.1, h2.1, fun x hx y hy e => ?_⟩, fun y hy => ?_⟩
  · subst e
    exact h2.2 x hy (by simp [hx])
  · rcases List.mem_append.1 hy with h | h
    · exact h1.2 y h
    · exact fun hc => h2.2 y h (by simp [hc])
theorem apF_new {F : Str → List Str → Str} {B : Nat} (hF : ∀ x tk, isId x = true → tk.length ≤ B → F x tk ∉ tk) : ∀ (s : Nat) (n : Nd) (m : List (Str × Str)) (tk : List Str), sz n ≤ s → ndE n = 0 → tk.length + sz n ≤ B → NdF tk (bnd (apF F m tk n).1)
  | 0, n, m, tk, hs, _, _ => by have := sz_pos n; omega
  | s + 1, n, m, tk, hs, hv, hB => by
    have atom : ∀ op ns so nn mm, ¬ (op = 16 ∨ op = 17) → n = .mk op ns so nn mm [] → NdF tk (bnd (apF F m tk n).1) := by
      rintro op ns so nn mm h rfl
      simp only [apF]
      rw [if_neg h]
      simp only [bnd]
      rw [if_neg h]
      simp [apL, bndL, NdF]
    cases vk_of hv with
    | cst op h => exact atom op [] 0 0 0 (by omega) rfl
    | two op x y h hx hy => exact atom op [x, y] 0 0 0 (by omega) rfl
    | lab x q hx h => exact atom 7 [x] 0 q 0 (by omega) rfl
    | smd x q r hx h => exact atom 8 [x] 0 q r (by omega) rfl
    | sng x hx => exact atom 9 [x] 0 0 0 (by omega) rfl
    | cal x xs h hx => exact atom 10 (x :: xs) 0 0 0 (by omega) rfl
    | not a ha =>
      have hz : sz (nd 11 [a]) = sz a + 1 := by simp [nd, sz, szL]
      have e : bnd (apF F m tk (nd 11 [a])).1 = bnd (apF F m tk a).1 := by simp [nd, apF, apL, bnd, bndL]
      rw [e]
      exact apF_new hF s a m tk (by omega) ha (by omega)
    | bin op a b h ha hb =>
      have hz : sz (nd op [a, b]) = sz a + sz b + 1 := by simp [nd, sz, szL]
      have p1 := sz_pos a
      have p2 := sz_pos b
      have hn : ¬ (op = 16 ∨ op = 17) := by omega
      have e : bnd (apF F m tk (nd op [a, b])).1 = bnd (apF F m tk a).1 ++ bnd (apF F m (apF F m tk a).2 b).1 := by
        simp only [nd, apF]
        rw [if_neg hn]
        simp only [bnd]
        rw [if_neg hn]
        simp [apL, bndL]
      rw [e]
      have ht := apF_tk F a m tk
      refine (apF_new hF s a m tk (by omega) ha (by omega)).app ?_
      rw [← apF_bnd]
      exact apF_new hF s b m _ (by omega) hb (by omega)
    | qnt op x so a h hx hso ha =>
      have hz : sz (qn op x so a) = sz a + 1 := by simp [qn, sz, szL]
      have e : bnd (apF F m tk (qn op x so a)).1 = [F x tk] ++ bnd (apF F (ptS m x (F x tk)) (tk ++ [F x tk]) a).1 := by
        simp only [qn, apF]
        rw [if_pos h]
        simp only [bnd]
        rw [if_pos h]
        simp [apL, bndL]
      rw [e]
      have h1 : NdF tk [F x tk] := ⟨by simp, fun y hy => by simp at hy; subst hy; exact hF x tk hx (by omega)⟩
      exact h1.app (apF_new hF s a _ _ (by omega) ha (by simp; omega))
theorem h81_bm {G : Nat → Option AV} {D : Nat → Str} (n : Nd) (hb : bk n ≤ big) (hc : chk n = 0) (N k : Nat) (hN : 0 < N) (M : Mem) : BM G (orcX (orcOf (LX D))) N (k + 2) 81 [qyv n] M = some (.int .i64 0, M) := by
  refine bm_pure (cf := c81) (orcX_none (L := LX D) (fun _ => rfl) (by decide) _) rfl rfl rfl (by rw [argL_qyv]; rfl) ?_ M
  have := ev81 (G := G) (cl := BW G (orcX (orcOf (LX D))) N (k + 1)) (yl := YW G (orcX (orcOf (LX D))) N (k + 1)) n hN (fun M => bw_v av1_inj n (show Has (LX D) 28 s28 from (by repeat first | exact .here | refine .there ?_ rfl)) hb (a1 n) rfl (by decide) M)
  rw [hc] at this
  exact this
noncomputable def uqF (D : Nat → Str) (n : Nd) : Nd := (apF (frs D 100002) [] (freeF n [] []) n).1
noncomputable abbrev s45 (D : Nat → Str) : List AV → Ores := spR (fun n => [qyv n]) (fun n => (.tup [.agg (.slc .shared [] :: ndc (uqF D n)), .int .i64 0], none)) (fun n => chk n = 0 ∧ (freeF n [] []).length + sz n ≤ 89999 ∧ dp n ≤ 300)
theorem uqF_valid {D : Nat → Str} (hD : DOk D) {n : Nd} (hv : ndE n = 0) (hf : (freeF n [] []).length + sz n ≤ 89999) : ndE (uqF D n) = 0 :=
  apF_valid (B := 89999) (fun x tk h1 h2 => (frs_ok hD x tk h1 (by omega)).2) _ n [] _ (Nat.le_refl _) hv (fun p hp => by cases hp) hf
theorem uqF_new {D : Nat → Str} (hD : DOk D) {n : Nd} (hv : ndE n = 0) (hf : (freeF n [] []).length + sz n ≤ 89999) : (bnd (uqF D n)).Nodup :=
  (apF_new (B := 89999) (fun x tk h1 h2 => (frs_ok hD x tk h1 (by omega)).1) _ n [] _ (Nat.le_refl _) hv hf).1
theorem orc45 {t : Nat} {D : Nat → Str} (hD : DOk D) (h152 : ∀ ags r, s152 D ags = some r → OrcAt Tryz.prog (GG t) 152 ags r) (ags : List AV) (r : AV × Option Arr) (hr : s45 D ags = some r) : OrcAt Tryz.prog (GG t) 45 ags r := by
  obtain ⟨n, rfl, ⟨hc, hf, hd⟩, rfl⟩ := spR_inv hr
  have hv := chk_vd hc
  have hbb := okV_bk (okV_chk hc)
  refine orc_both (T := TW (orcX (orcOf (LX D)))) hmix kis tabOK ok45 (orcW_ok (orcX_ok (lx_ok h152))) ⟨1300000, sz n + 10, true, ?_⟩
  exact ev45 hD n hv 1300000 (sz n + 10) (by omega) (by omega) (Nat.le_refl _) (by unfold big; omega) hf (fun M => h81_bm n (okV_big (okV_chk hc)) hc 1300000 (sz n + 8) (by omega) M) (uqF_valid hD hv hf) (by rw [apF_dp]; omega)
theorem uses_le (n : Nd) : (uses n).length ≤ n.ns.length := by
  unfold uses
  repeat' split
  all_goals simp
theorem freeL_17 {s : Nat} (ih : ∀ n : Nd, sz n ≤ s → ndE n = 0 → ∀ bound out, (freeF n bound out).length ≤ out.length + 17 * sz n) : ∀ (l : List Nd), szL l ≤ s → (∀ x ∈ l, ndE x = 0) → ∀ bound out, (freeL l bound out).length ≤ out.length + 17 * szL l
  | [], _, _, bound, out => by simp [freeL]
  | x :: xs, hs, hv, bound, out => by
    simp only [szL] at hs ⊢
    have h1 := ih x (by omega) (hv x (by simp)) bound out
    have h2 := freeL_17 ih xs (by omega) (fun y hy => hv y (by simp [hy])) bound (freeF x bound out)
    simp only [freeL]
    omega
theorem freeF_17 : ∀ (s : Nat) (n : Nd), sz n ≤ s → ndE n = 0 → ∀ bound out, (freeF n bound out).length ≤ out.length + 17 * sz n
  | 0, n, hs, _ => by have := sz_pos n; omega
  | s + 1, n, hs, hv => by
    intro bound out
    rw [freeF_eq]
    have hz := sz_eq n
    have h1 := (addU_len bound (uses n) out).2
    have h2 := uses_le n
    have h3 := ns_len hv
    have h4 := freeL_17 (freeF_17 s) n.l (by omega) (fun x hx => ndE_kid hv hx) (wthB n bound) (addU bound (uses n) out)
    omega
theorem free_ok {n : Nd} (h : chk n = 0) : (freeF n [] []).length + sz n ≤ 89999 := by
  have h1 := freeF_17 _ n (Nat.le_refl _) (chk_vd h) [] []
  have h2 := (okV_chk h).2
  simp at h1
  omega
theorem chk_dp {n : Nd} (h : chk n = 0) : dp n ≤ 300 := by
  have hv := chk_vd h
  unfold chk grt at h
  rw [if_pos hv] at h
  by_cases hz : sz n > 4096
  · rw [if_pos hz] at h; simp at h
  · rw [if_neg hz] at h
    by_cases hd : dp n > 256
    · rw [if_pos hd] at h; simp at h
    · omega
theorem s45_at {D : Nat → Str} {n : Nd} (h : chk n = 0) : s45 D [qyv n] = some (.tup [.agg (.slc .shared [] :: ndc (uqF D n)), .int .i64 0], none) :=
  spR_at (enc := fun n => [qyv n]) (F := fun n => (.tup [.agg (.slc .shared [] :: ndc (uqF D n)), .int .i64 0], none)) (ok := fun n => chk n = 0 ∧ (freeF n [] []).length + sz n ≤ 89999 ∧ dp n ≤ 300) (fun a b h => by
    have e : ndc a = ndc b := by
      simp only [qyv, List.cons.injEq, AV.agg.injEq, and_true, true_and] at h
      exact h
    exact av_inj (by rw [← agg_ndc, ← agg_ndc, e])) ⟨h, free_ok h, chk_dp h⟩
mutual
def drF : Nd → List Qf × Nd
  | .mk op ns so nn mm l => if op = 16 ∨ op = 17 then (match ns, drL l with
      | x :: _, r :: _ => (⟨op, x, so⟩ :: r.1, r.2)
      | _, _ => ([], .mk op ns so nn mm l))
    else if op = 12 ∨ op = 13 then (match drL l with
      | [r, s] => (r.1 ++ s.1, nd op [r.2, s.2])
      | _ => ([], .mk op ns so nn mm l))
    else ([], .mk op ns so nn mm l)
def drL : List Nd → List (List Qf × Nd)
  | [] => []
  | x :: xs => drF x :: drL xs
end
theorem drF_else {n : Nd} (h1 : ¬ (n.op = 16 ∨ n.op = 17)) (h2 : ¬ (n.op = 12 ∨ n.op = 13)) : drF n = ([], n) := by
  cases n with
  | mk op ns so nn mm l =>
    simp only [Nd.op] at h1 h2
    simp only [drF]
    rw [if_neg h1, if_neg h2]
theorem drF_bin {op : Int} (h : op = 12 ∨ op = 13) (a b : Nd) : drF (nd op [a, b]) = ((drF a).1 ++ (drF b).1, nd op [(drF a).2, (drF b).2]) := by
  simp only [nd, drF]
  rw [if_neg (by omega), if_pos h]
  simp only [drL, nd]
theorem drF_qn {op : Int} (h : op = 16 ∨ op = 17) (x : Str) (so : Int) (a : Nd) : drF (qn op x so a) = (⟨op, x, so⟩ :: (drF a).1, (drF a).2) := by
  simp only [qn, drF]
  rw [if_pos h]
  simp only [drL]
theorem nnfB_mk (op : Int) (ns : List Str) (so nn mm : Int) (l : List Nd) : nnfB (.mk op ns so nn mm l) = if op = 14 ∨ op = 15 then false else if op = 11 then (decide (l.length = 1) && (match l with | x :: _ => decide (x.op < 11) | [] => false) && nnfBL l) else nnfBL l := by cases l <;> rfl
theorem nnfB_not {a : Nd} (h : nnfB (nd 11 [a]) = true) : a.op < 11 ∧ nnfB a = true := by
  have e := nnfB_mk 11 [] 0 0 0 [a]
  rw [show nnfB (.mk 11 [] 0 0 0 [a]) = true from h, if_neg (by omega), if_pos rfl] at e
  simp only [nnfBL, Bool.and_true, List.length_cons, List.length_nil] at e
  have := e.symm
  simp only [Bool.and_eq_true, decide_eq_true_eq] at this
  exact ⟨this.1.2, this.2⟩
structure DrOk (n : Nd) : Prop where
  nm : (drF n).1.map (·.nm) = bnd n
  op : ∀ q ∈ (drF n).1, q.op = 16 ∨ q.op = 17
  id : ∀ q ∈ (drF n).1, isId q.nm = true ∧ 0 ≤ q.so ∧ q.so < 4
  v : ndE (drF n).2 = 0
  q : qtf (drF n).2 = false
  n : nnfB (drF n).2 = true
theorem dr_ok : ∀ (s : Nat) (n : Nd), sz n ≤ s → ndE n = 0 → nnfB n = true → DrOk n
  | 0, n, hs, _, _ => by have := sz_pos n; omega
  | s + 1, n, hs, hv, hn => by
    have atom : ∀ op ns so nn mm, op < 11 → n = .mk op ns so nn mm [] → DrOk n := by
      rintro op ns so nn mm h rfl
      have e := drF_else (n := .mk op ns so nn mm []) (by simp only [Nd.op]; omega) (by simp only [Nd.op]; omega)
      have hb : bnd (.mk op ns so nn mm []) = [] := by simp only [bnd, bndL]; rw [if_neg (by omega)]; rfl
      have hq : qtf (.mk op ns so nn mm []) = false := by
        simp only [qtf, qtfL, Bool.false_or, decide_eq_false_iff_not]; omega
      exact ⟨by rw [e, hb]; rfl, by rw [e]; simp, by rw [e]; simp, by rw [e]; exact hv, by rw [e]; exact hq, by rw [e]; exact hn⟩
    cases vk_of hv with
    | cst op h => exact atom op [] 0 0 0 (by omega) rfl
    | two op x y h hx hy => exact atom op [x, y] 0 0 0 (by omega) rfl
    | lab x q hx h => exact atom 7 [x] 0 q 0 (by omega) rfl
    | smd x q r hx h => exact atom 8 [x] 0 q r (by omega) rfl
    | sng x hx => exact atom 9 [x] 0 0 0 (by omega) rfl
    | cal x xs h hx => exact atom 10 (x :: xs) 0 0 0 (by omega) rfl
    | not a ha =>
      have e := drF_else (n := nd 11 [a]) (by simp [nd, Nd.op]) (by simp [nd, Nd.op])
      obtain ⟨hao, hna⟩ := nnfB_not hn
      have hza : sz (nd 11 [a]) = sz a + 1 := by simp [nd, sz, szL]
      have ia := dr_ok s a (by omega) ha hna
      have ea := drF_else (n := a) (by omega) (by omega)
      have hb : bnd a = [] := by rw [← ia.nm, ea]; rfl
      have hq : qtf a = false := by have := ia.q; rwa [ea] at this
      refine ⟨?_, by rw [e]; simp, by rw [e]; simp, by rw [e]; exact hv, ?_, by rw [e]; exact hn⟩
      · rw [e]; simp [nd, bnd, bndL, hb]
      · rw [e]; simp [nd, qtf, qtfL, hq]
    | bin op a b h ha hb =>
      have hz : sz (nd op [a, b]) = sz a + sz b + 1 := by simp [nd, sz, szL]
      have p1 := sz_pos a
      have p2 := sz_pos b
      have hn : nnfB (.mk op [] 0 0 0 [a, b]) = true := hn
      rw [nnfB_mk] at hn
      by_cases h4 : op = 14 ∨ op = 15
      · rw [if_pos h4] at hn; cases hn
      · rw [if_neg h4, if_neg (by omega)] at hn
        simp only [nnfBL, Bool.and_eq_true, Bool.and_true] at hn
        have i1 := dr_ok s a (by omega) ha hn.1
        have i2 := dr_ok s b (by omega) hb hn.2
        have ho : op = 12 ∨ op = 13 := by omega
        have e := drF_bin ho a b
        refine ⟨?_, ?_, ?_, ?_, ?_, ?_⟩
        · rw [e, List.map_append, i1.nm, i2.nm]
          simp only [nd, bnd, bndL]; rw [if_neg (by omega)]; simp
        · rw [e]; intro q hq
          rcases List.mem_append.1 hq with h | h
          · exact i1.op q h
          · exact i2.op q h
        · rw [e]; intro q hq
          rcases List.mem_append.1 hq with h | h
          · exact i1.id q h
          · exact i2.id q h
        · rw [e]; exact vk_inv (.bin op _ _ h i1.v i2.v)
        · rw [e]; simp [nd, qtf, qtfL, i1.q, i2.q]; omega
        · rw [e]
          show nnfB (.mk op [] 0 0 0 [_, _]) = true
          rw [nnfB_mk, if_neg h4, if_neg (by omega)]
          simp [nnfBL, i1.n, i2.n]
    | qnt op x so a h hx hso ha =>
      have hz : sz (qn op x so a) = sz a + 1 := by simp [qn, sz, szL]
      have hn : nnfB (.mk op [x] so 0 0 [a]) = true := hn
      rw [nnfB_mk, if_neg (by omega), if_neg (by omega)] at hn
      simp only [nnfBL, Bool.and_true] at hn
      have i1 := dr_ok s a (by omega) ha hn
      have e := drF_qn h x so a
      refine ⟨?_, ?_, ?_, by rw [e]; exact i1.v, by rw [e]; exact i1.q, by rw [e]; exact i1.n⟩
      · rw [e, List.map_cons, i1.nm]
        simp only [qn, bnd, bndL]; rw [if_pos h]; simp
      · rw [e]; intro q hq
        rcases List.mem_cons.1 hq with rfl | hq
        · exact h
        · exact i1.op q hq
      · rw [e]; intro q hq
        rcases List.mem_cons.1 hq with rfl | hq
        · exact ⟨hx, hso⟩
        · exact i1.id q hq
theorem nnfB_2 {op : Int} (h : op = 12 ∨ op = 13) (a b : Nd) (ha : nnfB a = true) (hb : nnfB b = true) : nnfB (nd op [a, b]) = true := by
  show nnfB (.mk op [] 0 0 0 [a, b]) = true
  rw [nnfB_mk, if_neg (by omega), if_neg (by omega)]
  simp [nnfBL, ha, hb]
theorem nnfB_q {op : Int} (h : op = 16 ∨ op = 17) (x : Str) (so : Int) (a : Nd) (ha : nnfB a = true) : nnfB (qn op x so a) = true := by
  show nnfB (.mk op [x] so 0 0 [a]) = true
  rw [nnfB_mk, if_neg (by omega), if_neg (by omega)]
  simp [nnfBL, ha]
structure PsOk (n : Nd) : Prop where
  n1 : nnfB (psh n).1 = true
  n2 : nnfB (psh n).2 = true
  i1 : (psh (psh n).1).1 = (psh n).1
  i2 : (psh (psh n).2).1 = (psh n).2
theorem ps_ok : ∀ (s : Nat) (n : Nd), sz n ≤ s → ndE n = 0 → PsOk n
  | 0, n, hs, _ => by have := sz_pos n; omega
  | s + 1, n, hs, hv => by
    have atom : ∀ op ns so nn mm, 2 ≤ op → op < 11 → n = .mk op ns so nn mm [] → PsOk n := by
      rintro op ns so nn mm h1 h2 rfl
      have e : psh (.mk op ns so nn mm []) = (.mk op ns so nn mm [], nd 11 [.mk op ns so nn mm []]) := by
        rw [psh_eq]
        unfold pshC
        rw [if_neg (by simp only [Nd.op]; omega), if_pos (by simp only [Nd.op]; omega)]
      have hb : nnfB (.mk op ns so nn mm []) = true := by rw [nnfB_mk, if_neg (by omega), if_neg (by omega)]; rfl
      have hb2 : nnfB (nd 11 [.mk op ns so nn mm []]) = true := by
        show nnfB (.mk 11 [] 0 0 0 [_]) = true
        rw [nnfB_mk, if_neg (by omega), if_pos rfl]
        simp [nnfBL, hb, Nd.op, h2]
      exact ⟨by rw [e]; exact hb, by rw [e]; exact hb2, by rw [e, e], by rw [e, psh_not, e]⟩
    cases vk_of hv with
    | cst op h =>
      rcases h with rfl | rfl
      · exact ⟨rfl, rfl, rfl, rfl⟩
      · exact ⟨rfl, rfl, rfl, rfl⟩
    | two op x y h hx hy => exact atom op [x, y] 0 0 0 (by omega) (by omega) rfl
    | lab x q hx h => exact atom 7 [x] 0 q 0 (by omega) (by omega) rfl
    | smd x q r hx h => exact atom 8 [x] 0 q r (by omega) (by omega) rfl
    | sng x hx => exact atom 9 [x] 0 0 0 (by omega) (by omega) rfl
    | cal x xs h hx => exact atom 10 (x :: xs) 0 0 0 (by omega) (by omega) rfl
    | not a ha =>
      have hz : sz (nd 11 [a]) = sz a + 1 := by simp [nd, sz, szL]
      have i := ps_ok s a (by omega) ha
      exact ⟨by rw [psh_not]; exact i.n2, by rw [psh_not]; exact i.n1, by rw [psh_not]; exact i.i2, by rw [psh_not]; exact i.i1⟩
    | bin op a b h ha hb =>
      have hz : sz (nd op [a, b]) = sz a + sz b + 1 := by simp [nd, sz, szL]
      have p1 := sz_pos a
      have p2 := sz_pos b
      have i := ps_ok s a (by omega) ha
      have j := ps_ok s b (by omega) hb
      have q12 : (12 : Int) = 12 ∨ (12 : Int) = 13 := .inl rfl
      have q13 : (13 : Int) = 12 ∨ (13 : Int) = 13 := .inr rfl
      have hc : op = 12 ∨ op = 13 ∨ op = 14 ∨ op = 15 := by omega
      rcases hc with rfl | rfl | rfl | rfl
      · exact ⟨by rw [psh_12]; exact nnfB_2 q12 _ _ i.n1 j.n1, by rw [psh_12]; exact nnfB_2 q13 _ _ i.n2 j.n2, by rw [psh_12]; simp only [psh_12, i.i1, j.i1], by rw [psh_12]; simp only [psh_13, i.i2, j.i2]⟩
      · exact ⟨by rw [psh_13]; exact nnfB_2 q13 _ _ i.n1 j.n1, by rw [psh_13]; exact nnfB_2 q12 _ _ i.n2 j.n2, by rw [psh_13]; simp only [psh_13, i.i1, j.i1], by rw [psh_13]; simp only [psh_12, i.i2, j.i2]⟩
      · exact ⟨by rw [psh_14]; exact nnfB_2 q13 _ _ i.n2 j.n1, by rw [psh_14]; exact nnfB_2 q12 _ _ i.n1 j.n2, by rw [psh_14]; simp only [psh_13, i.i2, j.i1], by rw [psh_14]; simp only [psh_12, i.i1, j.i2]⟩
      · exact ⟨by rw [psh_15]; exact nnfB_2 q12 _ _ (nnfB_2 q13 _ _ i.n2 j.n1) (nnfB_2 q13 _ _ j.n2 i.n1), by rw [psh_15]; exact nnfB_2 q13 _ _ (nnfB_2 q12 _ _ i.n1 j.n2) (nnfB_2 q12 _ _ j.n1 i.n2), by rw [psh_15]; simp only [psh_12, psh_13, i.i1, i.i2, j.i1, j.i2], by rw [psh_15]; simp only [psh_12, psh_13, i.i1, i.i2, j.i1, j.i2]⟩
    | qnt op x so a h hx hso ha =>
      have hz : sz (qn op x so a) = sz a + 1 := by simp [qn, sz, szL]
      have i := ps_ok s a (by omega) ha
      rcases h with rfl | rfl
      · exact ⟨by rw [psh_16]; exact nnfB_q (.inl rfl) _ _ _ i.n1, by rw [psh_16]; exact nnfB_q (.inr rfl) _ _ _ i.n2, by rw [psh_16]; simp only [psh_16, i.i1], by rw [psh_16]; simp only [psh_17, i.i2]⟩
      · exact ⟨by rw [psh_17]; exact nnfB_q (.inr rfl) _ _ _ i.n1, by rw [psh_17]; exact nnfB_q (.inl rfl) _ _ _ i.n2, by rw [psh_17]; simp only [psh_17, i.i1], by rw [psh_17]; simp only [psh_16, i.i2]⟩
theorem apF_form (F : Str → List Str → Str) (m : List (Str × Str)) (tk : List Str) (op : Int) (ns : List Str) (so nn mm : Int) (l : List Nd) : ∃ ns' m' tk', (apF F m tk (.mk op ns so nn mm l)).1 = .mk op ns' so nn mm (apL F m' tk' l).1 := by
  simp only [apF]
  split
  · split
    · exact ⟨_, _, _, rfl⟩
    · exact ⟨_, _, _, rfl⟩
  · exact ⟨_, _, _, rfl⟩
theorem apF_op (F : Str → List Str → Str) (n : Nd) (m : List (Str × Str)) (tk : List Str) : (apF F m tk n).1.op = n.op := by
  cases n with
  | mk op ns so nn mm l =>
    obtain ⟨ns', m', tk', e⟩ := apF_form F m tk op ns so nn mm l
    rw [e]; rfl
mutual
theorem apF_nnf (F : Str → List Str → Str) : ∀ (n : Nd) (m : List (Str × Str)) (tk : List Str), nnfB (apF F m tk n).1 = nnfB n
  | .mk op ns so nn mm l, m, tk => by
    obtain ⟨ns', m', tk', e⟩ := apF_form F m tk op ns so nn mm l
    rw [e, nnfB_mk, nnfB_mk, apL_nnf F l, apL_len]
    cases l with
    | nil => rfl
    | cons x xs => simp only [apL, apF_op]
theorem apL_nnf (F : Str → List Str → Str) : ∀ (l : List Nd) (m : List (Str × Str)) (tk : List Str), nnfBL (apL F m tk l).1 = nnfBL l
  | [], m, tk => rfl
  | x :: xs, m, tk => by
    simp only [apL, nnfBL]
    rw [apF_nnf F x, apL_nnf F xs]
end
mutual
def sbB : Nd → Bool
  | .mk op _ so _ _ l => (decide (op < 16) || decide (2 ≤ so)) && sbL l
def sbL : List Nd → Bool
  | [] => true
  | x :: xs => sbB x && sbL xs
end
mutual
theorem apF_sb (F : Str → List Str → Str) : ∀ (n : Nd) (m : List (Str × Str)) (tk : List Str), sbB (apF F m tk n).1 = sbB n
  | .mk op ns so nn mm l, m, tk => by
    obtain ⟨ns', m', tk', e⟩ := apF_form F m tk op ns so nn mm l
    rw [e]
    simp only [sbB]
    rw [apL_sb F l]
theorem apL_sb (F : Str → List Str → Str) : ∀ (l : List Nd) (m : List (Str × Str)) (tk : List Str), sbL (apL F m tk l).1 = sbL l
  | [], m, tk => rfl
  | x :: xs, m, tk => by
    simp only [apL, sbL]
    rw [apF_sb F x, apL_sb F xs]
end
theorem sb_2 (op : Int) (a b : Nd) (h : op < 16) : sbB (nd op [a, b]) = (sbB a && sbB b) := by simp [nd, sbB, sbL, h]
theorem sb_1 (a : Nd) : sbB (nd 11 [a]) = sbB a := by simp [nd, sbB, sbL]
theorem sb_q {op : Int} (h : op = 16 ∨ op = 17) (x : Str) (so : Int) (a : Nd) : sbB (qn op x so a) = (decide (2 ≤ so) && sbB a) := by
  rcases h with rfl | rfl <;> simp [qn, sbB, sbL]
theorem sb_0 {op : Int} (h : op < 16) (ns : List Str) (so nn mm : Int) : sbB (.mk op ns so nn mm []) = true := by simp [sbB, sbL, h]
theorem psh_sb : ∀ (s : Nat) (n : Nd), sz n ≤ s → ndE n = 0 → sbB n = true → sbB (psh n).1 = true ∧ sbB (psh n).2 = true
  | 0, n, hs, _, _ => by have := sz_pos n; omega
  | s + 1, n, hs, hv, hb => by
    have atom : ∀ op ns so nn mm, 2 ≤ op → op < 11 → n = .mk op ns so nn mm [] → sbB (psh n).1 = true ∧ sbB (psh n).2 = true := by
      rintro op ns so nn mm h1 h2 rfl
      have e : psh (.mk op ns so nn mm []) = (.mk op ns so nn mm [], nd 11 [.mk op ns so nn mm []]) := by
        rw [psh_eq]
        unfold pshC
        rw [if_neg (by simp only [Nd.op]; omega), if_pos (by simp only [Nd.op]; omega)]
      rw [e, sb_1]
      exact ⟨hb, hb⟩
    cases vk_of hv with
    | cst op h => rcases h with rfl | rfl <;> exact ⟨rfl, rfl⟩
    | two op x y h hx hy => exact atom op [x, y] 0 0 0 (by omega) (by omega) rfl
    | lab x q hx h => exact atom 7 [x] 0 q 0 (by omega) (by omega) rfl
    | smd x q r hx h => exact atom 8 [x] 0 q r (by omega) (by omega) rfl
    | sng x hx => exact atom 9 [x] 0 0 0 (by omega) (by omega) rfl
    | cal x xs h hx => exact atom 10 (x :: xs) 0 0 0 (by omega) (by omega) rfl
    | not a ha =>
      have hz : sz (nd 11 [a]) = sz a + 1 := by simp [nd, sz, szL]
      rw [sb_1] at hb
      have i := psh_sb s a (by omega) ha hb
      rw [psh_not]
      exact ⟨i.2, i.1⟩
    | bin op a b h ha hb2 =>
      have hz : sz (nd op [a, b]) = sz a + sz b + 1 := by simp [nd, sz, szL]
      have p1 := sz_pos a
      have p2 := sz_pos b
      rw [sb_2 op a b (by omega), Bool.and_eq_true] at hb
      have i := psh_sb s a (by omega) ha hb.1
      have j := psh_sb s b (by omega) hb2 hb.2
      have hc : op = 12 ∨ op = 13 ∨ op = 14 ∨ op = 15 := by omega
      rcases hc with rfl | rfl | rfl | rfl
      · rw [psh_12]; simp [sb_2, i, j]
      · rw [psh_13]; simp [sb_2, i, j]
      · rw [psh_14]; simp [sb_2, i, j]
      · rw [psh_15]; simp [sb_2, i, j]
    | qnt op x so a h hx hso ha =>
      have hz : sz (qn op x so a) = sz a + 1 := by simp [qn, sz, szL]
      rw [sb_q h, Bool.and_eq_true] at hb
      have i := psh_sb s a (by omega) ha hb.2
      rcases h with rfl | rfl
      · rw [psh_16]; simp only [sb_q (.inl rfl), sb_q (.inr rfl), i, hb.1, Bool.and_true]; exact ⟨trivial, trivial⟩
      · rw [psh_17]; simp only [sb_q (.inl rfl), sb_q (.inr rfl), i, hb.1, Bool.and_true]; exact ⟨trivial, trivial⟩
theorem setA_sb (env : List Bd) {n : Nd} (h : ndE n = 0) (ho : n.op < 11) : sbB (setA env n) = true := by
  have same : sbB n = true → setA env n = n → sbB (setA env n) = true := fun h e => by rw [e]; exact h
  cases vk_of h with
  | two op x y hh hx hy =>
    rw [setA_two]
    by_cases c1 : op = 3 ∧ wasE env x = true
    · rw [if_pos c1]; rfl
    · rw [if_neg c1]
      by_cases c2 : op = 2 ∧ wasE env x ≠ wasE env y
      · rw [if_pos c2]
        cases wasE env y with
        | true => rfl
        | false => rfl
      · rw [if_neg c2]; exact sb_0 (by omega) _ _ _ _
  | cal x xs hl hx => exact same (sb_0 (by omega) _ _ _ _) (setA_calls env x xs)
  | cst op h => exact same (sb_0 (by omega) _ _ _ _) (setA_ns env _ (by intro x y; simp [nd, Nd.ns]))
  | lab => exact same (sb_0 (by omega) _ _ _ _) (setA_ns env _ (by intro x y; simp [Nd.ns]))
  | smd => exact same (sb_0 (by omega) _ _ _ _) (setA_ns env _ (by intro x y; simp [Nd.ns]))
  | sng => exact same (sb_0 (by omega) _ _ _ _) (setA_ns env _ (by intro x y; simp [Nd.ns]))
  | not => simp [nd, Nd.op] at ho
  | bin op a b h => simp [nd, Nd.op] at ho; omega
  | qnt op x so a h => simp [qn, Nd.op] at ho; omega
theorem seF_sb : ∀ (s : Nat) (n : Nd) (env : List Bd), sz n ≤ s → ndE n = 0 → sbB (seF env n) = true
  | 0, n, env, hs, _ => by have := sz_pos n; omega
  | s + 1, n, env, hs, hv => by
    have atom : n.op < 11 → sbB (seF env n) = true := by
      intro ho
      have e : seF env n = setA env n := by cases n; simp only [seF]; exact if_pos ho
      rw [e]; exact setA_sb env hv ho
    cases vk_of hv with
    | cst op h => exact atom (by simp [nd, Nd.op]; omega)
    | two op x y h hx hy => exact atom (by simp [Nd.op]; omega)
    | lab => exact atom (by simp [Nd.op])
    | smd => exact atom (by simp [Nd.op])
    | sng => exact atom (by simp [Nd.op])
    | cal => exact atom (by simp [Nd.op])
    | not a ha =>
      have hz : sz (nd 11 [a]) = sz a + 1 := by simp [nd, sz, szL]
      have e : seF env (nd 11 [a]) = nd 11 [seF env a] := by simp [nd, seF, seL]
      rw [e, sb_1]
      exact seF_sb s a env (by omega) ha
    | bin op a b h ha hb =>
      have hz : sz (nd op [a, b]) = sz a + sz b + 1 := by simp [nd, sz, szL]
      have p1 := sz_pos a
      have p2 := sz_pos b
      have e : seF env (nd op [a, b]) = nd op [seF env a, seF env b] := by
        simp only [nd, seF, seL]
        rw [if_neg (by omega)]
      rw [e, sb_2 _ _ _ (by omega), seF_sb s a env (by omega) ha, seF_sb s b env (by omega) hb]
      rfl
    | qnt op x so a h hx hso ha =>
      have hz : sz (qn op x so a) = sz a + 1 := by simp [qn, sz, szL]
      by_cases h2 : so < 2
      · have e : seF env (qn op x so a) = qn op x (if so = 1 then 3 else 2) (nd (if op = 17 then 14 else 12) [sg x, seF (env ++ [Bd.mk x true]) a]) := by
          simp only [qn, seF, seL]
          rw [if_neg (by omega), if_pos h2]
        rw [e, sb_q h, sb_2 _ _ _ (by split <;> omega), seF_sb s a _ (by omega) ha]
        split <;> rfl
      · have e : seF env (qn op x so a) = qn op x so (seF (env ++ [Bd.mk x false]) a) := by
          simp only [qn, seF, seL]
          rw [if_neg (by omega), if_neg h2]
        rw [e, sb_q h, seF_sb s a _ (by omega) ha]
        simp; omega
section
variable {G : Nat → Option AV} {cl : Caller} {N N0 : Nat}
theorem ev46_qn {op : Int} (h : op = 16 ∨ op = 17) (x : Str) (so : Int) (a : Nd) (acc : List Qf) (ha : acc.length < big) :
    Post (fun e s' => e = .normal ∧ tidy false ⟨[1, 3, 4], [(4, none)]⟩ 2 1 s' = S17 (acc ++ [⟨op, x, so⟩]) a) (evalC G false cl noYl N c46b0 (S17 acc (qn op x so a))) := by
  unfold big at ha
  have b1 : (acc.length + 1) * 32 ≤ 140737488355328 := by omega
  have b2 : acc.length + 1 ≤ 140737488355328 := by omega
  have hr : acc = [] ∨ ¬ acc = [] := by cases acc <;> simp
  rcases h with rfl | rfl
  · simp -implicitDefEqProofs [S17, c46b0, z6, rowA, b1, b2, hr, qv, avL]
  · simp -implicitDefEqProofs [S17, c46b0, z6, rowA, b1, b2, hr, qv, avL]
theorem drF_len : ∀ (s : Nat) (n : Nd), sz n ≤ s → ndE n = 0 → (drF n).1.length ≤ sz n
  | 0, n, hs, _ => by have := sz_pos n; omega
  | s + 1, n, hs, hv => by
    have other : ¬ (n.op = 16 ∨ n.op = 17) → ¬ (n.op = 12 ∨ n.op = 13) → (drF n).1.length ≤ sz n := fun h1 h2 => by
      rw [drF_else h1 h2]; simp
    cases vk_of hv with
    | cst op h => exact other (by simp; omega) (by simp; omega)
    | two op x y h => exact other (by simp only [Nd.op]; omega) (by simp only [Nd.op]; omega)
    | lab => exact other (by simp [Nd.op]) (by simp [Nd.op])
    | smd => exact other (by simp [Nd.op]) (by simp [Nd.op])
    | sng => exact other (by simp [Nd.op]) (by simp [Nd.op])
    | cal => exact other (by simp [Nd.op]) (by simp [Nd.op])
    | not a ha => exact other (by simp) (by simp)
    | bin op a b h ha hb =>
      by_cases ho : op = 12 ∨ op = 13
      · have hz : sz (nd op [a, b]) = sz a + sz b + 1 := by simp [nd, sz, szL]
        have i1 := drF_len s a (by omega) ha
        have i2 := drF_len s b (by omega) hb
        rw [drF_bin ho]
        simp only [List.length_append]
        omega
      · exact other (by simp; omega) (by simpa using ho)
    | qnt op x so a h hx hso ha =>
      have hz : sz (qn op x so a) = sz a + 1 := by simp [qn, sz, szL]
      have i1 := drF_len s a (by omega) ha
      rw [drF_qn h]
      simp only [List.length_cons]
      omega
def D46 (L : List Qf) (m : Nd) (s' : St) : Prop :=
  look 1 s'.ts = .ptr 0 0 ∧ look 3 s'.ts = .ptr 1 0 ∧ look 4 s'.ts = .slc (.own 0) (L.map qv) ∧ (∃ os, s'.m.objs = .cells (ndc m) :: .cells z6 :: os) ∧ s'.m.arrs = [rowA L.length 47 3] ∧ s'.mks = []
theorem ev46_else (n : Nd) (acc : List Qf) (h16 : ¬ n.op = 16) (h17 : ¬ n.op = 17) (h12 : ¬ n.op = 12) (h13 : ¬ n.op = 13) :
    Post (fun e s' => e = .exit 0 ∧ D46 acc n s') (evalC G false cl noYl N c46b0 (S17 acc n)) := by
  have k16 : (n.op == 16) = false := by simp [h16]
  have k17 : (n.op == 17) = false := by simp [h17]
  have k12 : (n.op == 12) = false := by simp [h12]
  have k13 : (n.op == 13) = false := by simp [h13]
  simp -implicitDefEqProofs [S17, c46b0, z6, rowA, D46, k16, k17, k12, k13]
theorem b32 {x : Nat} (h : x < 4294967296) : x * 32 ≤ 140737488355328 ∧ x ≤ 140737488355328 := by omega
theorem ev46_ccc {op : Int} (h : op = 12 ∨ op = 13) (a b : Nd) (p q r : Qf) (acc la lb : List Qf) (fa fb : Nd) (ha : acc.length + la.length + lb.length + 3 < big)
    (ka : ∀ M, cl 46 [av a] M = some (.tup [.slc .shared (qv q :: la.map qv), av fa], M)) (kb : ∀ M, cl 46 [av b] M = some (.tup [.slc .shared (qv r :: lb.map qv), av fb], M)) (h75 : C75 cl) :
    Post (fun e s' => e = .exit 0 ∧ D46 (p :: acc ++ q :: la ++ r :: lb) (nd op [fa, fb]) s') (evalC G false cl noYl N c46b0 (S17 (p :: acc) (nd op [a, b]))) := by
  unfold big at ha
  have k2 := c75_2 h75
  have e1 : acc.length + 1 + (la.length + 1) = acc.length + (la.length + 1) + 1 := by omega
  obtain ⟨b5, b6⟩ := b32 (x := acc.length + (la.length + 1) + 1 + (lb.length + 1)) (by omega)
  obtain ⟨b7, b8⟩ := b32 (x := acc.length + (la.length + 1) + 1) (by omega)
  rcases h with rfl | rfl <;> (
    simp -implicitDefEqProofs [S17, c46b0, z6, rowA, b5, b6, b7, b8, e1, avL, ka, kb, k2, D46]
    omega)
theorem ev46_bin {op : Int} (h : op = 12 ∨ op = 13) (a b : Nd) (acc la lb : List Qf) (fa fb : Nd) (ha : acc.length + la.length + lb.length < big)
    (ka : ∀ M, cl 46 [av a] M = some (.tup [.slc .shared (la.map qv), av fa], M)) (kb : ∀ M, cl 46 [av b] M = some (.tup [.slc .shared (lb.map qv), av fb], M)) (h75 : C75 cl) :
    Post (fun e s' => e = .exit 0 ∧ D46 (acc ++ la ++ lb) (nd op [fa, fb]) s') (evalC G false cl noYl N c46b0 (S17 acc (nd op [a, b]))) := by
  unfold big at ha
  have k2 := c75_2 h75
  have b1 : (acc.length + la.length) * 32 ≤ 140737488355328 := by omega
  have b2 : acc.length + la.length ≤ 140737488355328 := by omega
  have b3 : (acc.length + la.length + lb.length) * 32 ≤ 140737488355328 := by omega
  have b4 : acc.length + la.length + lb.length ≤ 140737488355328 := by omega
  have hr : acc = [] ∨ ¬ acc = [] := by cases acc <;> simp
  by_cases hc : ∃ p acc' q la' r lb', acc = p :: acc' ∧ la = q :: la' ∧ lb = r :: lb'
  · obtain ⟨p, acc', q, la', r, lb', rfl, rfl, rfl⟩ := hc
    exact ev46_ccc h a b p q r acc' la' lb' fa fb (by simp at ha; unfold big; omega) ka kb h75
  rcases h with rfl | rfl <;> rcases la with _ | ⟨q, la⟩ <;> rcases lb with _ | ⟨r, lb⟩ <;> simp only [List.length_nil, List.length_cons, Nat.add_zero] at b1 b2 b3 b4 <;>
    rcases acc with _ | ⟨p, acc⟩ <;> simp only [List.length_nil, List.length_cons, Nat.zero_add] at b1 b2 b3 b4 <;>
    first
    | exact absurd ⟨_, _, _, _, _, _, rfl, rfl, rfl⟩ hc
    | (simp -implicitDefEqProofs [S17, c46b0, z6, rowA, b1, b2, b3, b4, avL, ka, kb, k2, D46]
       done)
    | (simp -implicitDefEqProofs [S17, c46b0, z6, rowA, b1, b2, b3, b4, avL, ka, kb, k2, D46]
       clear ha b1 b2 b3 b4 hc
       omega)
theorem D46.app {acc la : List Qf} {m : Nd} {s' : St} (h : D46 (acc ++ la) m s') : D46 (acc ++ la) m s' := h
theorem ev46_loop (s0 : Nat) (h75 : C75 cl) (h46 : ∀ x, ndE x = 0 → sz x < s0 → ∀ M, cl 46 [av x] M = some (.tup [.slc .shared ((drF x).1.map qv), av (drF x).2], M)) :
    ∀ (k : Nat) (n : Nd) (acc : List Qf) (N : Nat), sz n ≤ k → k < N → sz n ≤ s0 → ndE n = 0 → acc.length + sz n < big →
    ∃ s', iter false (evalC G false cl noYl N0 c46b0) ⟨[1, 3, 4], [(4, none)]⟩ 2 1 N (S17 acc n) = some (.exit 0, s') ∧ D46 (acc ++ (drF n).1) (drF n).2 s'
  | 0, n, acc, N, hs, _, _, _, _ => by have := sz_pos n; omega
  | k + 1, n, acc, 0, _, hN, _, _, _ => by omega
  | k + 1, n, acc, N + 1, hs, hN, h0, hv, ha => by
    have stop : ∀ {L : List Qf} {m : Nd}, Post (fun e s' => e = .exit 0 ∧ D46 L m s') (evalC G false cl noYl N0 c46b0 (S17 acc n)) → ∃ s', iter false (evalC G false cl noYl N0 c46b0) ⟨[1, 3, 4], [(4, none)]⟩ 2 1 (N + 1) (S17 acc n) = some (.exit 0, s') ∧ D46 L m s' := by
      intro L m h
      obtain ⟨e, s', h1, rfl, h2⟩ := h.out
      exact ⟨s', by simp only [iter, h1], h2⟩
    have other : ¬ (n.op = 16 ∨ n.op = 17) → ¬ (n.op = 12 ∨ n.op = 13) → ∃ s', iter false (evalC G false cl noYl N0 c46b0) ⟨[1, 3, 4], [(4, none)]⟩ 2 1 (N + 1) (S17 acc n) = some (.exit 0, s') ∧ D46 (acc ++ (drF n).1) (drF n).2 s' := fun h1 h2 => by
      rw [drF_else h1 h2, List.append_nil]
      exact stop (ev46_else n acc (fun h => h1 (.inl h)) (fun h => h1 (.inr h)) (fun h => h2 (.inl h)) (fun h => h2 (.inr h)))
    cases vk_of hv with
    | cst op h => exact other (by simp; omega) (by simp; omega)
    | two op x y h => exact other (by simp only [Nd.op]; omega) (by simp only [Nd.op]; omega)
    | lab => exact other (by simp [Nd.op]) (by simp [Nd.op])
    | smd => exact other (by simp [Nd.op]) (by simp [Nd.op])
    | sng => exact other (by simp [Nd.op]) (by simp [Nd.op])
    | cal => exact other (by simp [Nd.op]) (by simp [Nd.op])
    | not a ha => exact other (by simp) (by simp)
    | bin op a b h va vb =>
      by_cases ho : op = 12 ∨ op = 13
      · have hz : sz (nd op [a, b]) = sz a + sz b + 1 := by simp [nd, sz, szL]
        have z1 := drF_len _ a (Nat.le_refl _) va
        have z2 := drF_len _ b (Nat.le_refl _) vb
        rw [drF_bin ho]
        have := stop (ev46_bin (G := G) (N := N0) ho a b acc _ _ _ _ (by omega) (h46 a va (by omega)) (h46 b vb (by omega)) h75)
        rwa [List.append_assoc] at this
      · exact other (by simp; omega) (by simpa using ho)
    | qnt op x so a h hx hso va =>
      have hz : sz (qn op x so a) = sz a + 1 := by simp [qn, sz, szL]
      obtain ⟨e, s', h1, rfl, h2⟩ := (ev46_qn (G := G) (N := N0) (cl := cl) h x so a acc (by omega)).out
      obtain ⟨s2, h3, h4⟩ := ev46_loop s0 h75 h46 k a (acc ++ [⟨op, x, so⟩]) N (by omega) (by omega) (by omega) va (by simp; omega)
      refine ⟨s2, by simp only [iter, h1, h2, h3], ?_⟩
      rw [drF_qn h]
      simpa using h4
theorem ev46 (n : Nd) (hv : ndE n = 0) (hb : sz n < big) (hN : sz n < N) (h75 : C75 cl) (h46 : ∀ x, ndE x = 0 → sz x < sz n → ∀ M, cl 46 [av x] M = some (.tup [.slc .shared ((drF x).1.map qv), av (drF x).2], M)) :
    pureA G false cl noYl N c46 [av n] = some (.tup [.slc .shared ((drF n).1.map qv), av (drF n).2], none) := by
  obtain ⟨⟨ts, ⟨os, ar⟩, mks⟩, h1, d1, d2, d3, ⟨os', d4⟩, d5, d6⟩ := ev46_loop (G := G) (N0 := N) (sz n) h75 h46 (sz n) n [] N (Nat.le_refl _) hN (Nat.le_refl _) hv (by simpa using hb)
  simp only [] at d1 d2 d3 d4 d5 d6
  subst d4 d5 d6
  simp [S17, z6, rowA] at h1
  simp only [List.nil_append] at d3
  simp -implicitDefEqProofs [c46, z6, h1, d1, d2, d3, rowA]
end
end Go.Proofs.Ae
namespace Go.Proofs
open Go Go.Shelf Go.RowKit Go.Sort Go.Lib
def Tryz.laysM171_ren : Go.Shelf.Ren := ⟨fun | 171 => 152 | 243 => 171 | 246 => 178 | 283 => 199 | 284 => 200 | 285 => 201 | 286 => 202 | 129 => 213 | 317 => 212 | 318 => 214 | 319 => 215 | 320 => 216 | 337 => 221 | 338 => 222 | n => n, fun | 3 => 3 | 9 => 9 | 2 => 2 | 4 => 4 | 171 => 218 | 0 => 0 | 53 => 195 | 37 => 144 | 5 => 5 | 173 => 221 | 212 => 237 | 51 => 226 | 20 => 20 | 213 => 238 | 46 => 231 | 232 => 262 | 233 => 263 | n => n, fun | 17 => 5 | 18 => 8 | 19 => 9 | n => n⟩
theorem Tryz.laysM171 : Go.Proofs.LaysM.n171 Tryz.prog Tryz.laysM171_ren := {
  mixed := by kernel_rfl
  f129 := Tryz.func213.trans (congrArg some (by kernel_rfl))
  f171 := Tryz.func152.trans (congrArg some (by kernel_rfl))
  f243 := Tryz.func171.trans (congrArg some (by kernel_rfl))
  f246 := Tryz.func178.trans (congrArg some (by kernel_rfl))
  f283 := Tryz.func199.trans (congrArg some (by kernel_rfl))
  f284 := Tryz.func200.trans (congrArg some (by kernel_rfl))
  f285 := Tryz.func201.trans (congrArg some (by kernel_rfl))
  f286 := Tryz.func202.trans (congrArg some (by kernel_rfl))
  f317 := Tryz.func212.trans (congrArg some (by kernel_rfl))
  f318 := Tryz.func214.trans (congrArg some (by kernel_rfl))
  f319 := Tryz.func215.trans (congrArg some (by kernel_rfl))
  f320 := Tryz.func216.trans (congrArg some (by kernel_rfl))
  f337 := Tryz.func221.trans (congrArg some (by kernel_rfl))
  f338 := Tryz.func222.trans (congrArg some (by kernel_rfl))
  t0 := Tryz.underlying0
  a0 := Tryz.isAgg0
  z0 := Tryz.sizeOf0
  v0 := Tryz.zeroValue0
  t2 := Tryz.underlying2
  a2 := Tryz.isAgg2
  z2 := Tryz.sizeOf2
  v2 := Tryz.zeroValue2
  t3 := Tryz.underlying3
  a3 := Tryz.isAgg3
  z3 := Tryz.sizeOf3
  v3 := Tryz.zeroValue3
  t4 := Tryz.underlying4
  a4 := Tryz.isAgg4
  z4 := Tryz.sizeOf4
  v4 := Tryz.zeroValue4
  t5 := Tryz.underlying5
  a5 := Tryz.isAgg5
  z5 := Tryz.sizeOf5
  v5 := Tryz.zeroValue5
  t9 := Tryz.underlying9
  a9 := Tryz.isAgg9
  z9 := Tryz.sizeOf9
  v9 := Tryz.zeroValue9
  t20 := Tryz.underlying20
  a20 := Tryz.isAgg20
  z20 := Tryz.sizeOf20
  v20 := Tryz.zeroValue20
  t37 := Tryz.underlying144
  a37 := Tryz.isAgg144
  z37 := Tryz.sizeOf144
  v37 := Tryz.zeroValue144
  t46 := Tryz.underlying231
  a46 := Tryz.isAgg231
  z46 := Tryz.sizeOf231
  v46 := Tryz.zeroValue231
  t51 := Tryz.underlying226
  a51 := Tryz.isAgg226
  z51 := Tryz.sizeOf226
  v51 := Tryz.zeroValue226
  t53 := Tryz.underlying195
  a53 := Tryz.isAgg195
  z53 := Tryz.sizeOf195
  v53 := Tryz.zeroValue195
  t171 := Tryz.underlying218
  a171 := Tryz.isAgg218
  z171 := Tryz.sizeOf218
  v171 := Tryz.zeroValue218
  t173 := Tryz.underlying221
  a173 := Tryz.isAgg221
  z173 := Tryz.sizeOf221
  v173 := Tryz.zeroValue221
  t212 := Tryz.underlying237
  a212 := Tryz.isAgg237
  z212 := Tryz.sizeOf237
  v212 := Tryz.zeroValue237
  t213 := Tryz.underlying238
  a213 := Tryz.isAgg238
  z213 := Tryz.sizeOf238
  t232 := Tryz.underlying262
  a232 := Tryz.isAgg262
  z232 := Tryz.sizeOf262
  v232 := Tryz.zeroValue262
  t233 := Tryz.underlying263
  a233 := Tryz.isAgg263
  z233 := Tryz.sizeOf263
  v233 := Tryz.zeroValue263
  g17 := by kernel_rfl
  g18 := by kernel_rfl
  g19 := by kernel_rfl
  i0 := by kernel_rfl
  i2 := by kernel_rfl
  i3 := by kernel_rfl
  i4 := by kernel_rfl
  i5 := by kernel_rfl
  i9 := by kernel_rfl
  i20 := by kernel_rfl
  i37 := by kernel_rfl
  i46 := by kernel_rfl
  i51 := by kernel_rfl
  i53 := by kernel_rfl
  i171 := by kernel_rfl
  i173 := by kernel_rfl
  i212 := by kernel_rfl
  i232 := by kernel_rfl
  i233 := by kernel_rfl
  m17 := by kernel_rfl
  m18 := by kernel_rfl
  m19 := by kernel_rfl }
theorem itoa_calls (n : Int) (h0 : -9223372036854775808 ≤ n) (h1 : n ≤ 9223372036854775807) (w : World) (htab : Lib.TabIs Tryz.prog w "internal/strconv.uint64pow10" .u64 Lib.pow10Tab) :
    Calls Tryz.prog 152 #[.int .i64 n] w fun e w' => e = .returned (.string ⟨(Lib.itoa n).toArray⟩) ∧ ∃ k os, w' = grow (w.drewN k) os := Any.strconv_Itoa Tryz.laysM171 n h0 h1 w htab
end Go.Proofs
namespace Go.Proofs.Ae
open Go Go.RowKit
theorem repL_ints {U : Nat → Nat} {w : World} {k : IntKind} : ∀ {l : List Int} {vs : List Value}, RepL U w [] [] (l.map (.int k)) vs → vs = l.map (Value.int k)
  | [], _, .nil => rfl
  | x :: l, _, .cons h _ t => by
    cases h
    rw [repL_ints t]
    rfl
theorem pow_cells : cells powAV = some (Lib.pow10Tab.map (AV.int .u64)) := by
  simp only [powAV, cells, Lib.pow10Tab, List.map_map]
  rfl
theorem tab_of {U : Nat → Nat} {w : World} {t : Nat} (hG : GRel U w (GG t)) : Lib.TabIs Tryz.prog w "internal/strconv.uint64pow10" .u64 Lib.pow10Tab := by
  obtain ⟨cs, vs, h1, h2, h3, h4⟩ := hG 5 powAV rfl
  rw [pow_cells] at h1
  cases h1
  have hv := repL_ints h2
  have hl : vs.length = 20 := by rw [hv, List.length_map, Lib.pow10Tab_length]
  have h5 := h4 (by omega)
  have hg : Tryz.prog.globalNamed "internal/strconv.uint64pow10" = some 5 := by kernel_rfl
  unfold Lib.TabIs World.var?
  rw [hg]
  simp only [Option.bind_some]
  unfold csz at h5
  split at h5
  · rename_i c ty z hc
    simp only [Option.some.injEq] at h5
    rw [hc]
    simp only [Option.some.injEq]
    have e : vs = Lib.pow10Tab.map fun z => Value.int .u64 z := hv
    rw [← e]
    apply Array.ext'
    apply List.ext_getElem?
    intro i
    by_cases hi : i < vs.length
    · obtain ⟨k1, -⟩ := h3 i vs[i] (List.getElem?_eq_getElem hi)
      have ea : (⟨5, 0, none⟩ : Addr).add i = ⟨5, i, none⟩ := by unfold Addr.add; split <;> simp_all
      rw [ea] at k1
      simp only [World.cell?, hc] at k1
      rw [List.getElem?_eq_getElem hi]
      simpa using k1
    · rw [List.getElem?_eq_none (by simp; omega), List.getElem?_eq_none (by simp; omega)]
  · cases h5
theorem dd_lt {u : Nat} (h : u < 10) : Lib.decDigits u = [UInt8.ofNat (48 + u)] := by rw [Lib.decDigits, dif_pos h]
theorem dd_ge {u : Nat} (h : ¬ u < 10) : Lib.decDigits u = Lib.decDigits (u / 10) ++ [UInt8.ofNat (48 + u % 10)] := by rw [Lib.decDigits, dif_neg h]
theorem dd_len : ∀ (k u : Nat), u < 10 ^ (k + 1) → (Lib.decDigits u).length ≤ k + 1
  | k, u, h => by
    by_cases hu : u < 10
    · rw [dd_lt hu]; simp
    · cases k with
      | zero => simp at h; omega
      | succ k =>
        rw [dd_ge hu, List.length_append]
        have := dd_len k (u / 10) (by rw [Nat.pow_succ] at h; omega)
        simp; omega
theorem dig_of : ∀ d, d < 10 → isDig (UInt8.ofNat (48 + d)) = true := by decide
theorem dd_dig (u : Nat) : (Lib.decDigits u).all isDig = true := by
  induction u using Nat.strongRecOn with
  | _ u ih =>
    by_cases hu : u < 10
    · rw [dd_lt hu]; simp only [List.all_cons, List.all_nil, Bool.and_true]; exact dig_of u hu
    · rw [dd_ge hu, List.all_append, ih (u / 10) (by omega)]
      simp only [List.all_cons, List.all_nil, Bool.and_true, Bool.true_and]; exact dig_of (u % 10) (by omega)
def ddv (l : List UInt8) : Nat := l.foldl (fun a c => 10 * a + (c.toNat - 48)) 0
theorem sub_of : ∀ d, d < 10 → (UInt8.ofNat (48 + d)).toNat - 48 = d := by decide
theorem dd_val (u : Nat) : ddv (Lib.decDigits u) = u := by
  induction u using Nat.strongRecOn with
  | _ u ih =>
    by_cases hu : u < 10
    · rw [dd_lt hu]
      have := sub_of u hu
      simp only [ddv, List.foldl_cons, List.foldl_nil]
      omega
    · have i1 := ih (u / 10) (by omega)
      have := sub_of (u % 10) (by omega)
      rw [dd_ge hu]
      unfold ddv at i1 ⊢
      rw [List.foldl_append, i1]
      simp only [List.foldl_cons, List.foldl_nil]
      omega
def DD (i : Nat) : Str := if i < big then Lib.decDigits i else []
theorem dd_ok : DOk DD where
  len := fun i => by
    unfold DD
    split
    · rename_i h
      have := dd_len 9 i (by unfold big at h; omega)
      omega
    · simp
  five := fun i h1 h2 => by
    unfold DD
    rw [if_pos (by unfold big; omega)]
    rw [dd_ge (by omega), dd_ge (by omega), dd_ge (by omega), dd_ge (by omega), dd_lt (by omega)]
    rfl
  dig := fun i => by
    unfold DD
    split
    · exact dd_dig i
    · rfl
  inj := fun i j h1 h2 h3 h4 e => by
    unfold DD at e
    rw [if_pos (by unfold big; omega), if_pos (by unfold big; omega)] at e
    have := congrArg ddv e
    rwa [dd_val, dd_val] at this
theorem orc152 {t : Nat} (ags : List AV) (r : AV × Option Arr) (hr : s152 DD ags = some r) : OrcAt Tryz.prog (GG t) 152 ags r := by
  obtain ⟨i, rfl, hi, rfl⟩ := spR_inv hr
  intro U bs es w args hG hV hfr
  cases hV with
  | cons hx t =>
    cases t
    cases hx
    refine ⟨Go.Proofs.enters_of Tryz.func152 (by kernel_rfl) rfl _ _, ?_⟩
    have hb : i < 4294967296 := hi
    refine (itoa_calls (i : Int) (by omega) (by omega) w (tab_of hG)).mono ?_
    rintro e w' ⟨rfl, k, os, rfl⟩
    have e1 : Lib.itoa (i : Int) = DD i := by
      unfold Lib.itoa DD
      rw [if_neg (by omega), if_pos hi]
      rfl
    have bl : Below w.heap.size w (Go.Sort.grow (w.drewN k) os) := by
      refine ⟨rfl, rfl, rfl, by simp, fun j hj => ?_⟩
      rw [Go.Sort.heap_grow_old _ _ (by simpa using hj)]
      rfl
    rw [e1]
    exact ⟨_, U, rfl, bl, fun _ _ => rfl, fun b hb' => hfr b (Nat.le_trans bl.size hb'), .str, fun _ _ _ _ _ _ h => by cases h⟩
theorem orc45' {t : Nat} (ags : List AV) (r : AV × Option Arr) (hr : s45 DD ags = some r) : OrcAt Tryz.prog (GG t) 45 ags r := orc45 dd_ok orc152 ags r hr
mutual
theorem apF_sz (F : Str → List Str → Str) : ∀ (n : Nd) (m : List (Str × Str)) (tk : List Str), sz (apF F m tk n).1 = sz n
  | .mk op ns so nn mm l, m, tk => by
    simp only [apF]
    split
    · split
      · simp only [sz]; rw [apL_sz F l]
      · simp only [sz]; rw [apL_sz F l]
    · simp only [sz]; rw [apL_sz F l]
theorem apL_sz (F : Str → List Str → Str) : ∀ (l : List Nd) (m : List (Str × Str)) (tk : List Str), szL (apL F m tk l).1 = szL l
  | [], m, tk => rfl
  | x :: xs, m, tk => by simp only [apL, szL]; rw [apF_sz F x, apL_sz F xs]
end
theorem drF_sz : ∀ (s : Nat) (n : Nd), sz n ≤ s → ndE n = 0 → (drF n).1.length + sz (drF n).2 ≤ sz n
  | 0, n, hs, _ => by have := sz_pos n; omega
  | s + 1, n, hs, hv => by
    have other : ¬ (n.op = 16 ∨ n.op = 17) → ¬ (n.op = 12 ∨ n.op = 13) → (drF n).1.length + sz (drF n).2 ≤ sz n := fun h1 h2 => by
      rw [drF_else h1 h2]; simp
    cases vk_of hv with
    | cst op h => exact other (by simp; omega) (by simp; omega)
    | two op x y h => exact other (by simp only [Nd.op]; omega) (by simp only [Nd.op]; omega)
    | lab => exact other (by simp [Nd.op]) (by simp [Nd.op])
    | smd => exact other (by simp [Nd.op]) (by simp [Nd.op])
    | sng => exact other (by simp [Nd.op]) (by simp [Nd.op])
    | cal => exact other (by simp [Nd.op]) (by simp [Nd.op])
    | not a ha => exact other (by simp) (by simp)
    | bin op a b h ha hb =>
      by_cases ho : op = 12 ∨ op = 13
      · rw [drF_bin ho]
        have hz := sz_nd2 op a b
        have i1 := drF_sz s a (by omega) ha
        have i2 := drF_sz s b (by omega) hb
        simp only [List.length_append, sz_nd2]
        omega
      · exact other (by simp; omega) (by simpa using ho)
    | qnt op x so a h hx hso ha =>
      have hz : sz (qn op x so a) = sz a + 1 := by simp [qn, sz, szL]
      have i1 := drF_sz s a (by omega) ha
      rw [drF_qn h]
      simp only [List.length_cons]
      omega
theorem sbB_bin (op : Int) (a b : Nd) (h : sbB (nd op [a, b]) = true) : sbB a = true ∧ sbB b = true := by
  simp only [nd, sbB, sbL, Bool.and_true, Bool.and_eq_true] at h
  exact h.2
theorem drF_so : ∀ (s : Nat) (n : Nd), sz n ≤ s → ndE n = 0 → sbB n = true → ∀ q ∈ (drF n).1, 2 ≤ q.so ∧ q.so < 4
  | 0, n, hs, _, _ => by have := sz_pos n; omega
  | s + 1, n, hs, hv, hb => by
    have other : ¬ (n.op = 16 ∨ n.op = 17) → ¬ (n.op = 12 ∨ n.op = 13) → ∀ q ∈ (drF n).1, 2 ≤ q.so ∧ q.so < 4 := fun h1 h2 => by
      rw [drF_else h1 h2]; simp
    cases vk_of hv with
    | cst op h => exact other (by simp; omega) (by simp; omega)
    | two op x y h => exact other (by simp only [Nd.op]; omega) (by simp only [Nd.op]; omega)
    | lab => exact other (by simp [Nd.op]) (by simp [Nd.op])
    | smd => exact other (by simp [Nd.op]) (by simp [Nd.op])
    | sng => exact other (by simp [Nd.op]) (by simp [Nd.op])
    | cal => exact other (by simp [Nd.op]) (by simp [Nd.op])
    | not a ha => exact other (by simp) (by simp)
    | bin op a b h ha hb' =>
      by_cases ho : op = 12 ∨ op = 13
      · rw [drF_bin ho]
        have hz := sz_nd2 op a b
        obtain ⟨b1, b2⟩ := sbB_bin op a b hb
        intro q hq
        rcases List.mem_append.1 hq with h | h
        · exact drF_so s a (by omega) ha b1 q h
        · exact drF_so s b (by omega) hb' b2 q h
      · exact other (by simp; omega) (by simpa using ho)
    | qnt op x so a h hx hso ha =>
      have hz : sz (qn op x so a) = sz a + 1 := by simp [qn, sz, szL]
      simp only [qn, sbB, sbL, Bool.and_true, Bool.and_eq_true, Bool.or_eq_true, decide_eq_true_eq] at hb
      rw [drF_qn h]
      intro q hq
      rcases List.mem_cons.1 hq with rfl | hq
      · exact ⟨by show 2 ≤ so; omega, hso.2⟩
      · exact drF_so s a (by omega) ha hb.2 q hq
theorem wth_cons (q : Qf) (l : List Qf) (m : Nd) : wth (q :: l) m = qn q.op q.nm q.so (wth l m) := rfl
theorem wth_valid : ∀ {l : List Qf} {m : Nd}, (∀ q ∈ l, (q.op = 16 ∨ q.op = 17) ∧ isId q.nm = true ∧ 0 ≤ q.so ∧ q.so < 4) → ndE m = 0 → ndE (wth l m) = 0
  | [], m, _, h => h
  | q :: l, m, hl, h => by
    obtain ⟨h1, h2, h3⟩ := hl q (by simp)
    rw [wth_cons]
    exact vk_inv (.qnt _ _ _ _ h1 h2 h3 (wth_valid (fun p hp => hl p (by simp [hp])) h))
theorem wth_sz : ∀ (l : List Qf) (m : Nd), sz (wth l m) = l.length + sz m
  | [], m => by simp [wth]
  | q :: l, m => by
    rw [wth_cons, List.length_cons]
    have := wth_sz l m
    have e : sz (qn q.op q.nm q.so (wth l m)) = sz (wth l m) + 1 := by simp [qn, sz, szL]
    omega
noncomputable def pnN (p : Nd) : List Qf × Nd := drF (uqF DD p)
noncomputable def pnE (n : Nd) : Nd × Int := if (setE n).2 = 0 then (if (nnfE (setE n).1).2 = 0 then ckd (wth (pnN (nnfE (setE n).1).1).1 (pnN (nnfE (setE n).1).1).2) else (nd0, (nnfE (setE n).1).2)) else (nd0, (setE n).2)
theorem ckd_ok {n : Nd} (h : (ckd n).2 = 0) : (ckd n).1 = n ∧ chk n = 0 := by
  unfold ckd at h ⊢
  by_cases hc : chk n = 0
  · rw [if_pos hc]; exact ⟨rfl, hc⟩
  · rw [if_neg hc] at h; exact absurd h hc
theorem setE_ok {n : Nd} (h : (setE n).2 = 0) : chk n = 0 ∧ (setE n).1 = seF [] n ∧ chk (seF [] n) = 0 := by
  unfold setE at h ⊢
  by_cases hc : chk n = 0
  · rw [if_pos hc] at h ⊢
    obtain ⟨h1, h2⟩ := ckd_ok h
    exact ⟨hc, h1, h2⟩
  · rw [if_neg hc] at h; exact absurd h hc
theorem nnfE_ok {n : Nd} (h : (nnfE n).2 = 0) : chk n = 0 ∧ ¬ (szP n).1 > 4096 ∧ (nnfE n).1 = (psh n).1 ∧ chk (psh n).1 = 0 := by
  unfold nnfE at h ⊢
  by_cases hc : chk n = 0
  · rw [if_pos hc] at h ⊢
    by_cases hs : (szP n).1 > 4096
    · rw [if_pos hs] at h; cases h
    · rw [if_neg hs] at h ⊢
      obtain ⟨h1, h2⟩ := ckd_ok h
      exact ⟨hc, hs, h1, h2⟩
  · rw [if_neg hc] at h; exact absurd h hc
structure PnOk (l : List Qf) (m : Nd) : Prop where
  op : ∀ q ∈ l, q.op = 16 ∨ q.op = 17
  so : ∀ q ∈ l, q.so = 2 ∨ q.so = 3
  nm : (l.map (·.nm)).Nodup
  q : qtf m = false
  n : nnfB m = true
  v : ndE (wth l m) = 0
  z : l.length + sz m ≤ 4096
theorem pn_ok {n : Nd} (hs : (setE n).2 = 0) (hn : (nnfE (setE n).1).2 = 0) : PnOk (pnN (nnfE (setE n).1).1).1 (pnN (nnfE (setE n).1).1).2 := by
  obtain ⟨h1, h2, h3⟩ := setE_ok hs
  rw [h2] at hn ⊢
  obtain ⟨k1, k2, k3, k4⟩ := nnfE_ok hn
  rw [k3]
  have hv := chk_vd h1
  have sv := chk_vd k1
  have ov := okV_psh k1 k2
  have po := (ps_ok _ (seF [] n) (Nat.le_refl _) sv).n1
  have sb := (psh_sb _ (seF [] n) (Nat.le_refl _) sv (seF_sb _ n [] (Nat.le_refl _) hv)).1
  have hf := free_ok k4
  generalize (psh (seF [] n)).1 = p at *
  have uv := uqF_valid dd_ok ov.1 hf
  have un := uqF_new dd_ok ov.1 hf
  have us : sz (uqF DD p) = sz p := apF_sz _ _ _ _
  have ub : sbB (uqF DD p) = true := by unfold uqF; rw [apF_sb]; exact sb
  have ui : nnfB (uqF DD p) = true := by unfold uqF; rw [apF_nnf]; exact po
  unfold pnN
  generalize uqF DD p = u at *
  have d := dr_ok _ u (Nat.le_refl _) uv ui
  have dz := drF_sz _ u (Nat.le_refl _) uv
  have ds := drF_so _ u (Nat.le_refl _) uv ub
  exact { op := d.op, so := fun q hq => by have := ds q hq; omega, nm := by rw [d.nm]; exact un, q := d.q, n := d.n, v := wth_valid (fun q hq => ⟨d.op q hq, d.id q hq⟩) d.v, z := by have := ov.2; omega }
theorem pn_m {s : Nd} (hn : (nnfE s).2 = 0) : ndE (pnN (nnfE s).1).2 = 0 := by
  obtain ⟨k1, k2, k3, k4⟩ := nnfE_ok hn
  rw [k3]
  have sv := chk_vd k1
  have ov := okV_psh k1 k2
  have po := ps_ok _ s (Nat.le_refl _) sv
  have ui : nnfB (uqF DD (psh s).1) = true := by unfold uqF; rw [apF_nnf]; exact po.n1
  exact (dr_ok _ _ (Nat.le_refl _) (uqF_valid dd_ok ov.1 (free_ok k4)) ui).v
section
variable {G : Nat → Option AV} {cl : Caller} {yl : Nat → List AV → Mem → Option (AV × Mem)} {N : Nat}
theorem ev14 (n : Nd) (h11 : ∀ M, cl 11 [av n] M = some (.tup [av (setE n).1, .int .i64 (setE n).2], M))
    (h25 : (setE n).2 = 0 → ∀ M, cl 25 [av (setE n).1] M = some (.tup [av (nnfE (setE n).1).1, .int .i64 (nnfE (setE n).1).2], M))
    (h45 : (setE n).2 = 0 → (nnfE (setE n).1).2 = 0 → ∀ M, cl 45 [.agg (.slc .full [] :: ndc (nnfE (setE n).1).1)] M = some (.tup [.agg (.slc .shared [] :: ndc (uqF DD (nnfE (setE n).1).1)), .int .i64 0], M))
    (h46 : (setE n).2 = 0 → (nnfE (setE n).1).2 = 0 → ∀ M, cl 46 [av (uqF DD (nnfE (setE n).1).1)] M = some (.tup [.slc .shared ((pnN (nnfE (setE n).1).1).1.map qv), av (pnN (nnfE (setE n).1).1).2], M))
    (h21 : (setE n).2 = 0 → (nnfE (setE n).1).2 = 0 → ∀ M, cl 21 [.slc .shared ((pnN (nnfE (setE n).1).1).1.map qv), av (pnN (nnfE (setE n).1).1).2] M = some (av (wth (pnN (nnfE (setE n).1).1).1 (pnN (nnfE (setE n).1).1).2), M))
    (h40 : (setE n).2 = 0 → (nnfE (setE n).1).2 = 0 → ∀ M, cl 40 [av (wth (pnN (nnfE (setE n).1).1).1 (pnN (nnfE (setE n).1).1).2)] M = some (.tup [av (ckd (wth (pnN (nnfE (setE n).1).1).1 (pnN (nnfE (setE n).1).1).2)).1, .int .i64 (ckd (wth (pnN (nnfE (setE n).1).1).1 (pnN (nnfE (setE n).1).1).2)).2], M)) :
    pureA G false cl yl N c14 [av n] = some (.tup [av (pnE n).1, .int .i64 (pnE n).2], none) := by
  unfold pnE
  generalize setE n = s at *
  obtain ⟨s, e⟩ := s
  by_cases he : e = 0
  · subst he
    replace h25 := h25 rfl
    replace h45 := h45 rfl
    replace h46 := h46 rfl
    replace h21 := h21 rfl
    replace h40 := h40 rfl
    generalize nnfE s = p at *
    obtain ⟨p, e⟩ := p
    by_cases he : e = 0
    · subst he
      replace h45 := h45 rfl
      replace h46 := h46 rfl
      replace h21 := h21 rfl
      replace h40 := h40 rfl
      simp only [] at *
      rw [if_pos trivial, if_pos trivial]
      generalize uqF DD p = u at *
      generalize pnN p = q at *
      generalize wth q.1 q.2 = r at *
      generalize ckd r = c at *
      refine pureA_avI (by simp) ?_
      simp -implicitDefEqProofs [c14, h11, h25, h45, h46, h21, h40]
    · have he' : (e != 0) = true := by simp [he]
      simp only [] at *
      rw [if_pos trivial, if_neg he]
      simp -implicitDefEqProofs [c14, h11, h25, he, he', av_nd0]
  · have he' : (e != 0) = true := by simp [he]
    simp only [] at *
    rw [if_neg he]
    simp -implicitDefEqProofs [c14, h11, he, he', av_nd0]
end
section
variable {t : Nat}
noncomputable abbrev V1 : List (Nat × (List AV → Ores)) := (46, spR e1 (fun n => (.tup [.slc .shared ((drF n).1.map qv), av (drF n).2], none)) (fun n => ndE n = 0 ∧ sz n < big)) :: W23
theorem v1_ : OrcOK Tryz.prog (GG t) (orcOf V1) := by
  refine orc_self _ _ _ sz av1_inj ok46 ?_ w23_
  intro n hp orc hself hother
  refine ⟨sz n + 1, ev46 n hp.1 hp.2 (Nat.lt_succ_self _) ?_ ?_⟩
  · intro op l M
    rw [spC_ext (hother 75 (by decide))]
    exact m7_75 (l := W23) (by repeat first | exact .here | refine .there ?_ rfl) op l M
  · intro x hx hlt M
    exact spC_self (hself x ⟨hx, by have := hp.2; omega⟩ hlt) (a1 x) M
noncomputable abbrev V2 : List (Nat × (List AV → Ores)) := (45, s45 DD) :: V1
theorem v2_ : OrcOK Tryz.prog (GG t) (orcOf V2) := orc_cons v1_ fun ags r hr => orc45' ags r hr
theorem has45 : Has V2 45 (s45 DD) := (by repeat first | exact .here | refine .there ?_ rfl)
theorem argL_qyf (n : Nd) : argL [.agg (.slc .full [] :: ndc n)] = some [qyv n] := by
  have h := argL_qyv n
  simp only [argL, argV, pureV, pureL, qyv] at h ⊢
  exact h
theorem v2_45 {n : Nd} (h : chk n = 0) (M : Mem) : spC (orcOf V2) 45 [.agg (.slc .full [] :: ndc n)] M = some (.tup [.agg (.slc .shared [] :: ndc (uqF DD n)), .int .i64 0], M) :=
  spC_selfA (a' := [qyv n]) (by rw [has45.eq]; exact s45_at h) (argL_qyf n) M
noncomputable abbrev V3 : List (Nat × (List AV → Ores)) := (14, spR e1 (fun n => (.tup [av (pnE n).1, .int .i64 (pnE n).2], none)) (fun n => bk n ≤ big)) :: V2
theorem qn_inj21 (a b : List Qf × Nd) (h : [AV.slc .shared (a.1.map qv), av a.2] = [AV.slc .shared (b.1.map qv), av b.2]) : a = b := by
  simp only [List.cons.injEq, AV.slc.injEq, true_and, and_true] at h
  exact Prod.ext (qvs_inj h.1) (av_inj h.2)
theorem v3_ : OrcOK Tryz.prog (GG t) (orcOf V3) :=
  orc_con _ _ _ ok14 (fun n hb => ⟨1, ev14 n (fun M => spC_v av1_inj n (by repeat first | exact .here | refine .there ?_ rfl) (by exact hb) (by exact a1 n) (by rfl) M)
    (fun hs M => spC_v av1_inj (setE n).1 (by repeat first | exact .here | refine .there ?_ rfl) (by rw [(setE_ok hs).2.1]; exact okV_big (okV_chk (setE_ok hs).2.2)) (by exact a1 _) (by rfl) M)
    (fun hs hn M => v2_45 (by obtain ⟨-, -, k3, k4⟩ := nnfE_ok hn; rw [k3]; exact k4) M)
    (fun hs hn M => spC_v av1_inj (uqF DD (nnfE (setE n).1).1) (by repeat first | exact .here | refine .there ?_ rfl) (by
      obtain ⟨k1, k2, k3, k4⟩ := nnfE_ok hn
      have ov := okV_psh k1 k2
      rw [k3]
      exact ⟨uqF_valid dd_ok ov.1 (free_ok k4), by rw [show sz (uqF DD _) = _ from apF_sz _ _ _ _]; have := ov.2; unfold big; omega⟩) (by exact a1 _) (by rfl) M)
    (fun hs hn M => spC_v qn_inj21 (pnN (nnfE (setE n).1).1) (by repeat first | exact .here | refine .there ?_ rfl) (by
      have p := pn_ok hs hn
      have hm : ndE (pnN (nnfE (setE n).1).1).2 = 0 := pn_m hn
      have h1 := bk_vd _ _ (Nat.le_refl _) hm
      have h2 := p.z
      exact ⟨by unfold big; omega, by unfold big; omega⟩) (by simp [argL]) (by rfl) M)
    (fun hs hn M => spC_v av1_inj (wth (pnN (nnfE (setE n).1).1).1 (pnN (nnfE (setE n).1).1).2) (by repeat first | exact .here | refine .there ?_ rfl) (by
      have p := pn_ok hs hn
      have h1 := bk_vd _ _ (Nat.le_refl _) p.v
      rw [wth_sz] at h1
      have h2 := p.z
      show bk _ ≤ big
      unfold big; omega) (by exact a1 _) (by rfl) M)⟩) v2_
end
end Go.Proofs.Ae
