/- The contracts of the functions that the laws call, joined; closed runs. -/
import Derived.Test.YtlaomcfiadmamaaGreatDoorF
set_option linter.unusedSimpArgs false
set_option linter.unusedVariables false
set_option linter.unusedSectionVars false
namespace Go.Proofs.Ae
open Go Go.RowKit
noncomputable abbrev L9 : List (Nat × (List AV → Ores)) := (22, sp22) :: (19, sp19) :: L8
theorem o9 {G : Nat → Option AV} : OrcOK Tryz.prog G (orcOf L9) := by
  refine orc_con _ _ _ ok22 (fun p hb => ⟨p.1.length + 1, ev22 p.1 p.2 hb (Nat.lt_succ_self _)⟩) ?_
  refine orc_self _ _ _ (fun p => sz p.1) av2_inj ok19 ?_ o8
  intro p hb orc hself hother
  refine ⟨bk p.1 + 1, ev19 p.1 p.2 hb.1 hb.2 (Nat.lt_succ_self _) fun x hx y hy M => ?_⟩
  have := hself (x, y) ⟨by have := bk_child hx; show bk x ≤ big; omega, by have := bk_child hy; show bk y ≤ big; omega⟩ (sz_child hx)
  simp only at this
  simp [spC, this]
def sp9 : List AV → Ores := fun ags => match ags with
  | [] => some (.bool true, none)
  | _ => none
noncomputable abbrev L10 : List (Nat × (List AV → Ores)) := (9, sp9) :: L9
theorem o10 {G : Nat → Option AV} (h9 : OrcAt Tryz.prog G 9 [] (.bool true, none)) : OrcOK Tryz.prog G (orcOf L10) :=
  orc_cons o9 fun ags r hr => by
    unfold sp9 at hr
    split at hr
    · cases hr; exact h9
    · cases hr
def bstr (s : List Nat) : AV := .str (s.map UInt8.ofNat)
def Gv (g : Nat) : Option AV := match g with
  | 0 => some (.agg ([(0,0,0,false),(0,0,0,false),(2,2,0,false),(2,2,0,false),(2,2,0,false),(2,2,0,false),(2,2,0,false),(1,1,0,false),(1,1,0,false),(1,1,0,false),(1,17,0,false),(0,0,1,false),(0,0,2,false),(0,0,2,false),(0,0,2,false),(0,0,2,false),(1,1,1,true),(1,1,1,true)].flatMap fun (x : Int × Int × Int × Bool) => [.int .i64 x.1, .int .i64 x.2.1, .int .i64 x.2.2.1, .bool x.2.2.2]))
  | 1 => some (.agg [bstr [118, 101, 114, 116, 101, 120], bstr [101, 100, 103, 101], bstr [115, 101, 116], bstr [101, 100, 103, 101, 115]])
  | 2 => some (.agg ((List.range 256).map fun i => .int .u8 (if i == 9 || i == 10 || i == 11 || i == 12 || i == 13 || i == 32 then 1 else 0)))
  | _ => none
def powAV : AV := .agg ((List.range 20).map fun i => .int .u64 ((10 ^ i : Nat) : Int))
def kws : AV := .slc .shared [bstr [102, 105, 110, 100], bstr [115, 111, 109, 101], bstr [101, 118, 101, 114, 121], bstr [118, 101, 114, 116, 101, 120], bstr [101, 100, 103, 101], bstr [115, 101, 116], bstr [101, 100, 103, 101, 115], bstr [116, 114, 117, 101], bstr [102, 97, 108, 115, 101], bstr [110, 111, 116], bstr [97, 110, 100], bstr [111, 114], bstr [105, 109, 112, 108, 105, 101, 115], bstr [105, 102, 102], bstr [105, 110], bstr [115, 117, 98], bstr [97, 100, 106], bstr [111, 110], bstr [105, 115], bstr [111, 110, 101], bstr [115, 105, 122, 101], bstr [109, 111, 100], bstr [108, 101, 97, 115, 116], bstr [103, 114, 101, 97, 116, 101, 115, 116], bstr [97, 115, 107], bstr [108, 101, 116]]
def mutv (f : Nat) : Bool := match f with
  | 45 => true
  | 51 => true
  | 83 => true
  | _ => false
theorem clone72_nil (w : World) : Calls Tryz.prog 72 #[.slice none 0 0] w fun e w' => e = .returned (.slice none 0 0) ∧ w = w' := by
  have k1 := fun (w : World) (a : Option Addr) (n c n' c' : Nat) => Lib.run_eql_slice_nil (P := Tryz.prog) w 96 99 a n c n' c' Tryz.underlying96
  go_enter Tryz.func72, Tryz.ntmps72
  go_wp2
  go_ret
  exact ⟨rfl, rfl⟩
theorem clone72_empty (w : World) (p : Addr) (c : Nat) : Calls Tryz.prog 72 #[.slice (some p) 0 c] w fun e w' => e = .returned (.slice (some ⟨w.heap.size, 0, none⟩) 0 0) ∧ w.alloc (.cells #[] 99) = w' := by
  have k1 := fun (w : World) (a : Option Addr) (n c n' c' : Nat) => Lib.run_eql_slice_nil (P := Tryz.prog) w 96 99 a n c n' c' Tryz.underlying96
  go_enter Tryz.func72, Tryz.ntmps72
  go_wp2
  go_ret
  exact ⟨rfl, rfl⟩
theorem clone72_ev (G : Nat → Option AV) (e : AV) (es : List AV) (sp : Sp) (h1 : szOk 2 (e :: es) = true) (h2 : (es.length + 1) * 4096 ≤ 140737488355328) :
    pureA G false noCl noYl 1 c72 [.slc sp (e :: es)] = some (.slc .shared (e :: es), some (.app (e :: es).length 99 2)) := by
  have h3 : (es.length + 1) * 24 ≤ 140737488355328 := by omega
  have h4 : es.length + 1 ≤ 140737488355328 := by omega
  cases sp <;> simp -implicitDefEqProofs [c72, kdOk, h1, h3, h4]
theorem orc72 {G : Nat → Option AV} {ags : List AV} {r : AV × Option Arr} (h : cloneA 99 2 ags = some r) : OrcAt Tryz.prog G 72 ags r :=
  clone_orc hmix kis ok72 clone72_nil (fun w p c => (clone72_empty w p c).mono fun e w' ⟨he, hw⟩ => ⟨⟨_, he⟩, hw ▸ (Below.refl _ _).alloc (Nat.le_refl _) _⟩) (fun e es sp h1 h2 => clone72_ev G e es sp h1 h2) h
theorem clone82_nil (w : World) : Calls Tryz.prog 82 #[.slice none 0 0] w fun e w' => e = .returned (.slice none 0 0) ∧ w = w' := by
  have k1 := fun (w : World) (a : Option Addr) (n c n' c' : Nat) => Lib.run_eql_slice_nil (P := Tryz.prog) w 68 112 a n c n' c' Tryz.underlying68
  go_enter Tryz.func82, Tryz.ntmps82
  go_wp2
  go_ret
  exact ⟨rfl, rfl⟩
theorem clone82_empty (w : World) (p : Addr) (c : Nat) : Calls Tryz.prog 82 #[.slice (some p) 0 c] w fun e w' => e = .returned (.slice (some ⟨w.heap.size, 0, none⟩) 0 0) ∧ w.alloc (.cells #[] 112) = w' := by
  have k1 := fun (w : World) (a : Option Addr) (n c n' c' : Nat) => Lib.run_eql_slice_nil (P := Tryz.prog) w 68 112 a n c n' c' Tryz.underlying68
  go_enter Tryz.func82, Tryz.ntmps82
  go_wp2
  go_ret
  exact ⟨rfl, rfl⟩
theorem clone82_ev (G : Nat → Option AV) (e : AV) (es : List AV) (sp : Sp) (h1 : szOk 2 (e :: es) = true) (h2 : (es.length + 1) * 4096 ≤ 140737488355328) :
    pureA G false noCl noYl 1 c82 [.slc sp (e :: es)] = some (.slc .shared (e :: es), some (.app (e :: es).length 112 2)) := by
  have h3 : (es.length + 1) * 24 ≤ 140737488355328 := by omega
  have h4 : es.length + 1 ≤ 140737488355328 := by omega
  cases sp <;> simp -implicitDefEqProofs [c82, kdOk, h1, h3, h4]
theorem orc82 {G : Nat → Option AV} {ags : List AV} {r : AV × Option Arr} (h : cloneA 112 2 ags = some r) : OrcAt Tryz.prog G 82 ags r :=
  clone_orc hmix kis ok82 clone82_nil (fun w p c => (clone82_empty w p c).mono fun e w' ⟨he, hw⟩ => ⟨⟨_, he⟩, hw ▸ (Below.refl _ _).alloc (Nat.le_refl _) _⟩) (fun e es sp h1 h2 => clone82_ev G e es sp h1 h2) h
def orcA (f : Nat) (ags : List AV) : Ores := match f with
  | 72 => cloneA 99 2 ags
  | 74 => cloneA 9 1 ags
  | 82 => cloneA 112 2 ags
  | _ => none
theorem oA {G : Nat → Option AV} : OrcOK Tryz.prog G orcA := by
  intro f ags r h
  unfold orcA at h
  split at h
  · exact orc72 h
  · exact orc74 h
  · exact orc82 h
  · cases h
end Go.Proofs.Ae
namespace Go.Proofs.Ae
open Go Go.RowKit
set_option maxRecDepth 1000000
def TA : Table := ⟨fns, orcA, mutv⟩
theorem kw_run : runTo (both Gv TA 100000 false 200).1 156 [] kws = true := by kernel_rfl
theorem orc156 : OrcAt Tryz.prog Gv 156 [] (kws, none) := fun U bs es w args hG hV hfr => pgood_run (both_ok (T := TA) (N := 100000) hmix kis tabOK oA 200 false).1 (runTo_inv kw_run) rfl hG hV hfr
def orcB (f : Nat) (ags : List AV) : Ores := match Nat.beq f 156, ags with
  | true, [] => some (kws, none)
  | _, _ => orcA f ags
theorem oB : OrcOK Tryz.prog Gv orcB := by
  intro f ags r h
  unfold orcB at h
  split at h
  · rename_i hb
    have := Nat.eq_of_beq_eq_true hb
    subst this
    cases h
    exact orc156
  · exact oA _ _ _ h
def TB : Table := ⟨fns, orcB, mutv⟩
theorem known_run : runTo (both Gv TB 100000 false 200).1 9 [] (.bool true) = true := by kernel_rfl
theorem orc9 : OrcAt Tryz.prog Gv 9 [] (.bool true, none) := fun U bs es w args hG hV hfr => pgood_run (both_ok (T := TB) (N := 100000) hmix kis tabOK oB 200 false).1 (runTo_inv known_run) rfl hG hV hfr
end Go.Proofs.Ae
