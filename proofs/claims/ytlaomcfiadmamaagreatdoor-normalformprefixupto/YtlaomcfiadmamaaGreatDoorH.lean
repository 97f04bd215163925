/- The examples of the document hold: the call known() answers true. -/
import Derived.Test.YtlaomcfiadmamaaGreatDoorG
/- The closed run of known. -/
namespace Go.Proofs.Ae
open Go Go.RowKit
set_option linter.unusedSimpArgs false
set_option linter.unusedVariables false
set_option maxRecDepth 1000000
def orcB (f : Nat) (ags : List AV) : Ores := match Nat.beq f 156, ags with
  | true, [] => some (kws, none)
  | _, _ => orcA f ags
theorem oB : OrcOK Tryz.prog Gv orcB := by
  intro f ags r h
  unfold orcB at h
  split at h
  · rename_i hb
    have := Nat.eq_of_beq_eq_true hb
    subst this
    cases h
    exact orc156
  · exact oA _ _ _ h
def TB : Table := ⟨fns, orcB, mutv⟩
theorem known_run : runTo (both Gv TB 100000 false 200).1 9 [] (.bool true) = true := by kernel_rfl
theorem orc9 : OrcAt Tryz.prog Gv 9 [] (.bool true, none) := fun U bs es w args hG hV hfr => pgood_run (both_ok (T := TB) (N := 100000) hmix kis tabOK oB 200 false).1 (runTo_inv known_run) rfl hG hV hfr
end Go.Proofs.Ae
