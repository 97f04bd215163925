/- Further functions: what they answer, and what that means. -/
import Derived.Test.YtlaomcfiadmamaaGreatDoorI
set_option linter.unusedSimpArgs false
set_option linter.unusedVariables false
set_option linter.unusedSectionVars false
namespace Go.Proofs.Ae
open Go Go.RowKit Go.ChangeShapes Go.WideShapes Go.ChangeAt
open Go.Proofs.YtlaomcfiadmamaaGreatDoor
set_option maxRecDepth 100000
def litV : Lit → Value
  | .int k n => .int k n
  | .bool b => .bool b
  | .string s => .string ⟨s.toArray⟩
  | _ => .int .i64 0
mutual
def cellD : DataW Unit → List Value
  | .lit l => [litV l]
  | .agg ps => cellDL ps
  | _ => []
def cellDL : List (DataW Unit) → List Value
  | [] => []
  | d :: ds => cellD d ++ cellDL ds
end
def rangeCells : List Value := match (Rows.laid_unicode_White_Space (H := Unit)) with
  | .ptr (.agg (.slice es _ :: _)) => cellDL es
  | _ => []
def errCells : DataW Unit → List Value
  | .iface _ (.ptr d) => cellD d
  | _ => []
noncomputable def laidWorld (os : Os) : World :=
  let N := (World.settled Tryz.prog os).heap.size
  let w0 := World.holding Tryz.prog os ⟨#[
    .cells (errCells Rows.laid_strconv_ErrRange).toArray 261,
    .cells (errCells Rows.laid_strconv_ErrSyntax).toArray 261,
    .cells #[.slice (some ⟨N + 3, 0, none⟩) 7 7, .slice none 0 0, .int .i64 2] 243,
    .cells rangeCells.toArray 246], #[], []⟩
  let put (h : Array Go.Obj) (g : Nat) (cs : Array Value) : Array Go.Obj := h.modify g fun
    | .cells _ t frozen => .cells cs t frozen
    | o => o
  let h0 := put w0.heap 0 (cellD Rows.laid_palmette_formula_forms).toArray
  let h1 := put h0 1 (cellD Rows.laid_palmette_formula_sorts).toArray
  let h2 := put h1 2 (cellD Rows.laid_strings_asciiSpace).toArray
  let h3 := put h2 4 #[.pointer (some ⟨N + 2, 0, none⟩)]
  let h4 := put h3 5 (cellD Rows.laid_internal_strconv_uint64pow10).toArray
  let h5 := put h4 6 #[.iface 259 (.pointer (some ⟨N + 1, 0, none⟩))]
  let h6 := put h5 7 #[.iface 259 (.pointer (some ⟨N, 0, none⟩))]
  let h7 := put h6 8 (cellD Rows.laid_math_bits_deBruijn32tab).toArray
  let h8 := put h7 9 (cellD Rows.laid_math_bits_deBruijn64tab).toArray
  { w0 with heap := h8 }
theorem laid_met (os : Os) (args : Array Value) : laidMet Tryz.prog LL ((laidWorld os).forCall (fun _ _ => 0) ⟨#[], args, []⟩).memory :=
  laidMet_of_run' 8 (by kernel_rfl) (by kernel_rfl)
theorem wv (os : Os) (args : Array Value) : ((laidWorld os).forCall (fun _ _ => 0) ⟨#[], args, []⟩).variablesRefB Tryz.prog = true := by kernel_rfl
theorem wr (os : Os) (args : Array Value) : (((laidWorld os).forCall (fun _ _ => 0) ⟨#[], args, []⟩).heap.toList.drop Tryz.prog.globals.size).take ((begin Tryz.prog (fun _ _ => 0) default).world.heap.size - Tryz.prog.globals.size) =
      (begin Tryz.prog (fun _ _ => 0) default).world.heap.toList.drop Tryz.prog.globals.size := by kernel_rfl
end Go.Proofs.Ae
