/-
  No cell of these rows narrows 'for every input' (looked for: loops, veiled, ifaces, maps, wideKeys, modest, calm, conditions, laid).
  DERIVED. THE GIVEN ROWS OF THIS SEAT. 10 by the template 'for every input the law returns true; each argument reads behind the call as it read before'; 0 by the template 'total and deterministic' (their statements: YtlmpecahmmgphaaTotals.lean).
  GIVEN WITH THE SEED: the statements are not yours to turn. If you find one false, say at which input.
  Laid BY PROGRAM, IN A SANDBOX (cutbox-rows.mjs): the forced cells as the released guide's own fill.sh prints them over the translation 89d51e391757d94f… (all of the seat's roots in one cut). By AI agents, Wed Nov 11 2026. No macro, syntax, notation, axiom, sorry.
-/
import Derived.Test.YtlmpecahmmgphaaChecked
import GoSem.Claim
import GoSem.ClaimJoined
import GoSem.ClaimMapViews
import Derived.JoinedTies
import Derived.KernelRfl
namespace Go.Proofs.Ytlmpecahmmgphaa
/- THE CELL 'sum', in the pinned program and in every row, IS THE sha256 OF THE DUMP (.gsa) THAT YtlmpecahmmgphaaProg.lean LOADS. Nothing in Lean hashes anything: it is a label: what it is worth is what the hold of that sum in a sandbox is worth. -/
noncomputable def Try.pinned : Pinned := { name := "ytlmpecahmmgphaa", sum := "89d51e391757d94f7bfd7c0b70cd70ecd61a9030eb2718776c542f7033687d36", checked := Try.checked }
namespace Rows
def none {H : Type} : Left H := { results := [], args := [] }

/-- 'linotypelaw01.FieldTells': WHATEVER THE INPUT: true; the input reads as it did. -/
def fieldTellsSpec : ChangeSpec := { name := "fieldTells", fn := fun _ => fun
  | [d1, d2, d3, d4, d5, d6] => { results := [.lit (.bool true)], args := [d1, d2, d3, d4, d5, d6] }
  | _ => none }
def fieldTellsRow : OpenClaim := { program := "ytlmpecahmmgphaa", sum := "89d51e391757d94f7bfd7c0b70cd70ecd61a9030eb2718776c542f7033687d36", func := "linotype/linotypelaw01.FieldTells", spec := "fieldTells", apart := false }
def FieldTellsSaid : Prop := fieldTellsRow.holds Try.pinned (OpenSpec.ofChange fieldTellsSpec)

/-- ITS FALSE NEIGHBOUR: 'it returns false'. Refute it at one input. -/
def fieldTellsWrong : ChangeSpec := { name := "fieldTells", fn := fun _ => fun
  | [d1, d2, d3, d4, d5, d6] => { results := [.lit (.bool false)], args := [d1, d2, d3, d4, d5, d6] }
  | _ => none }
def FieldTellsWrongFalsely : Prop := fieldTellsRow.holds Try.pinned (OpenSpec.ofChange fieldTellsWrong)

/-- 'linotypelaw01.FieldBack': WHATEVER THE INPUT: true; the input reads as it did. -/
def fieldBackSpec : ChangeSpec := { name := "fieldBack", fn := fun _ => fun
  | [d1, d2, d3] => { results := [.lit (.bool true)], args := [d1, d2, d3] }
  | _ => none }
def fieldBackRow : OpenClaim := { program := "ytlmpecahmmgphaa", sum := "89d51e391757d94f7bfd7c0b70cd70ecd61a9030eb2718776c542f7033687d36", func := "linotype/linotypelaw01.FieldBack", spec := "fieldBack", apart := false }
def FieldBackSaid : Prop := fieldBackRow.holds Try.pinned (OpenSpec.ofChange fieldBackSpec)

/-- ITS FALSE NEIGHBOUR: 'it returns false'. Refute it at one input. -/
def fieldBackWrong : ChangeSpec := { name := "fieldBack", fn := fun _ => fun
  | [d1, d2, d3] => { results := [.lit (.bool false)], args := [d1, d2, d3] }
  | _ => none }
def FieldBackWrongFalsely : Prop := fieldBackRow.holds Try.pinned (OpenSpec.ofChange fieldBackWrong)

/-- 'linotypelaw01.FieldFits': WHATEVER THE INPUT: true; the input reads as it did. -/
def fieldFitsSpec : ChangeSpec := { name := "fieldFits", fn := fun _ => fun
  | [d1, d2, d3] => { results := [.lit (.bool true)], args := [d1, d2, d3] }
  | _ => none }
def fieldFitsRow : OpenClaim := { program := "ytlmpecahmmgphaa", sum := "89d51e391757d94f7bfd7c0b70cd70ecd61a9030eb2718776c542f7033687d36", func := "linotype/linotypelaw01.FieldFits", spec := "fieldFits", apart := false }
def FieldFitsSaid : Prop := fieldFitsRow.holds Try.pinned (OpenSpec.ofChange fieldFitsSpec)

/-- ITS FALSE NEIGHBOUR: 'it returns false'. Refute it at one input. -/
def fieldFitsWrong : ChangeSpec := { name := "fieldFits", fn := fun _ => fun
  | [d1, d2, d3] => { results := [.lit (.bool false)], args := [d1, d2, d3] }
  | _ => none }
def FieldFitsWrongFalsely : Prop := fieldFitsRow.holds Try.pinned (OpenSpec.ofChange fieldFitsWrong)

/-- 'linotypelaw01.FieldNone': WHATEVER THE INPUT: true; the input reads as it did. -/
def fieldNoneSpec : ChangeSpec := { name := "fieldNone", fn := fun _ => fun
  | [d1, d2] => { results := [.lit (.bool true)], args := [d1, d2] }
  | _ => none }
def fieldNoneRow : OpenClaim := { program := "ytlmpecahmmgphaa", sum := "89d51e391757d94f7bfd7c0b70cd70ecd61a9030eb2718776c542f7033687d36", func := "linotype/linotypelaw01.FieldNone", spec := "fieldNone", unfollowed := true, recurses := true, apart := false }
def FieldNoneSaid : Prop := fieldNoneRow.holds Try.pinned (OpenSpec.ofChange fieldNoneSpec)

/-- ITS FALSE NEIGHBOUR: 'it returns false'. Refute it at one input. -/
def fieldNoneWrong : ChangeSpec := { name := "fieldNone", fn := fun _ => fun
  | [d1, d2] => { results := [.lit (.bool false)], args := [d1, d2] }
  | _ => none }
def FieldNoneWrongFalsely : Prop := fieldNoneRow.holds Try.pinned (OpenSpec.ofChange fieldNoneWrong)

/-- 'linotypelaw01.FieldKnown': WHATEVER THE INPUT: true; the input reads as it did. -/
def fieldKnownSpec : ChangeSpec := { name := "fieldKnown", fn := fun _ => fun
  | [] => { results := [.lit (.bool true)], args := [] }
  | _ => none }
def fieldKnownRow : OpenClaim := { program := "ytlmpecahmmgphaa", sum := "89d51e391757d94f7bfd7c0b70cd70ecd61a9030eb2718776c542f7033687d36", func := "linotype/linotypelaw01.FieldKnown", spec := "fieldKnown", unfollowed := true, recurses := true, apart := false }
def FieldKnownSaid : Prop := fieldKnownRow.holds Try.pinned (OpenSpec.ofChange fieldKnownSpec)

/-- ITS FALSE NEIGHBOUR: 'it returns false'. Refute it at one input. -/
def fieldKnownWrong : ChangeSpec := { name := "fieldKnown", fn := fun _ => fun
  | [] => { results := [.lit (.bool false)], args := [] }
  | _ => none }
def FieldKnownWrongFalsely : Prop := fieldKnownRow.holds Try.pinned (OpenSpec.ofChange fieldKnownWrong)

/-- 'linotypelaw27.LayoutMoves': WHATEVER THE INPUT: true; the input reads as it did. -/
def layoutMovesSpec : ChangeSpec := { name := "layoutMoves", fn := fun _ => fun
  | [d1, d2, d3] => { results := [.lit (.bool true)], args := [d1, d2, d3] }
  | _ => none }
def layoutMovesRow : OpenClaim := { program := "ytlmpecahmmgphaa", sum := "89d51e391757d94f7bfd7c0b70cd70ecd61a9030eb2718776c542f7033687d36", func := "linotype/linotypelaw27.LayoutMoves", spec := "layoutMoves", apart := false }
def LayoutMovesSaid : Prop := layoutMovesRow.holds Try.pinned (OpenSpec.ofChange layoutMovesSpec)

/-- ITS FALSE NEIGHBOUR: 'it returns false'. Refute it at one input. -/
def layoutMovesWrong : ChangeSpec := { name := "layoutMoves", fn := fun _ => fun
  | [d1, d2, d3] => { results := [.lit (.bool false)], args := [d1, d2, d3] }
  | _ => none }
def LayoutMovesWrongFalsely : Prop := layoutMovesRow.holds Try.pinned (OpenSpec.ofChange layoutMovesWrong)

/-- 'linotypelaw27.LayoutKnown': WHATEVER THE INPUT: true; the input reads as it did. -/
def layoutKnownSpec : ChangeSpec := { name := "layoutKnown", fn := fun _ => fun
  | [] => { results := [.lit (.bool true)], args := [] }
  | _ => none }
def layoutKnownRow : OpenClaim := { program := "ytlmpecahmmgphaa", sum := "89d51e391757d94f7bfd7c0b70cd70ecd61a9030eb2718776c542f7033687d36", func := "linotype/linotypelaw27.LayoutKnown", spec := "layoutKnown", apart := false }
def LayoutKnownSaid : Prop := layoutKnownRow.holds Try.pinned (OpenSpec.ofChange layoutKnownSpec)

/-- ITS FALSE NEIGHBOUR: 'it returns false'. Refute it at one input. -/
def layoutKnownWrong : ChangeSpec := { name := "layoutKnown", fn := fun _ => fun
  | [] => { results := [.lit (.bool false)], args := [] }
  | _ => none }
def LayoutKnownWrongFalsely : Prop := layoutKnownRow.holds Try.pinned (OpenSpec.ofChange layoutKnownWrong)

/-- 'linotypelaw27.LayoutPlans': WHATEVER THE INPUT: true; the input reads as it did. -/
def layoutPlansSpec : ChangeSpec := { name := "layoutPlans", fn := fun _ => fun
  | [d1, d2] => { results := [.lit (.bool true)], args := [d1, d2] }
  | _ => none }
def layoutPlansRow : OpenClaim := { program := "ytlmpecahmmgphaa", sum := "89d51e391757d94f7bfd7c0b70cd70ecd61a9030eb2718776c542f7033687d36", func := "linotype/linotypelaw27.LayoutPlans", spec := "layoutPlans", apart := false }
def LayoutPlansSaid : Prop := layoutPlansRow.holds Try.pinned (OpenSpec.ofChange layoutPlansSpec)

/-- ITS FALSE NEIGHBOUR: 'it returns false'. Refute it at one input. -/
def layoutPlansWrong : ChangeSpec := { name := "layoutPlans", fn := fun _ => fun
  | [d1, d2] => { results := [.lit (.bool false)], args := [d1, d2] }
  | _ => none }
def LayoutPlansWrongFalsely : Prop := layoutPlansRow.holds Try.pinned (OpenSpec.ofChange layoutPlansWrong)

/-- 'linotypelaw27.LayoutWorks': WHATEVER THE INPUT: true; the input reads as it did. -/
def layoutWorksSpec : ChangeSpec := { name := "layoutWorks", fn := fun _ => fun
  | [d1, d2] => { results := [.lit (.bool true)], args := [d1, d2] }
  | _ => none }
def layoutWorksRow : OpenClaim := { program := "ytlmpecahmmgphaa", sum := "89d51e391757d94f7bfd7c0b70cd70ecd61a9030eb2718776c542f7033687d36", func := "linotype/linotypelaw27.LayoutWorks", spec := "layoutWorks", apart := false }
def LayoutWorksSaid : Prop := layoutWorksRow.holds Try.pinned (OpenSpec.ofChange layoutWorksSpec)

/-- ITS FALSE NEIGHBOUR: 'it returns false'. Refute it at one input. -/
def layoutWorksWrong : ChangeSpec := { name := "layoutWorks", fn := fun _ => fun
  | [d1, d2] => { results := [.lit (.bool false)], args := [d1, d2] }
  | _ => none }
def LayoutWorksWrongFalsely : Prop := layoutWorksRow.holds Try.pinned (OpenSpec.ofChange layoutWorksWrong)

/-- 'linotypelaw27.LayoutLeast': WHATEVER THE INPUT: true; the input reads as it did. -/
def layoutLeastSpec : ChangeSpec := { name := "layoutLeast", fn := fun _ => fun
  | [d1, d2, d3] => { results := [.lit (.bool true)], args := [d1, d2, d3] }
  | _ => none }
def layoutLeastRow : OpenClaim := { program := "ytlmpecahmmgphaa", sum := "89d51e391757d94f7bfd7c0b70cd70ecd61a9030eb2718776c542f7033687d36", func := "linotype/linotypelaw27.LayoutLeast", spec := "layoutLeast", apart := false }
def LayoutLeastSaid : Prop := layoutLeastRow.holds Try.pinned (OpenSpec.ofChange layoutLeastSpec)

/-- ITS FALSE NEIGHBOUR: 'it returns false'. Refute it at one input. -/
def layoutLeastWrong : ChangeSpec := { name := "layoutLeast", fn := fun _ => fun
  | [d1, d2, d3] => { results := [.lit (.bool false)], args := [d1, d2, d3] }
  | _ => none }
def LayoutLeastWrongFalsely : Prop := layoutLeastRow.holds Try.pinned (OpenSpec.ofChange layoutLeastWrong)

/- THE SECOND FORM. 'bulk': how many values and letters a reading holds, each counted each time it is reached (what is shared counts as often as it is met; a slice's spare places count too). A statement '..UptoSaid' is the law's where the arguments, and the package variables that the reading takes, are together of bulk at most 1048576: NARROWER than '..Said'. Prove '..Said' where nothing that the law and all that it calls make is longer than what came in: it says more and counts as full. Else prove '..UptoSaid'. A law counts once. -/
mutual
def uptoBulk {H : Type} : DataW H → Nat
  | .lit (.string bytes) => bytes.length + 1
  | .lit _ => 1
  | .nil => 1
  | .ptr d => uptoBulk d + 1
  | .slice elems spare => uptoBulkAll elems + uptoBulkAll spare + 1
  | .agg parts => uptoBulkAll parts + 1
  | .iface _ d => uptoBulk d + 1
  | .map entries => uptoBulkEntries entries + 1
  | .held _ => 1
def uptoBulkAll {H : Type} : List (DataW H) → Nat
  | [] => 0
  | d :: r => uptoBulk d + uptoBulkAll r
def uptoBulkEntries {H : Type} : List (Lit × DataW H) → Nat
  | [] => 0
  | x :: r => uptoBulkEntry x + uptoBulkEntries r
def uptoBulkEntry {H : Type} : Lit × DataW H → Nat
  | (.string bytes, d) => bytes.length + uptoBulk d + 1
  | (_, d) => uptoBulk d + 1
 end
def uptoSmall : (H : Type) → List (DataW H) → Bool := fun _ ds => decide (uptoBulkAll ds ≤ 1048576)
def OpenSpec.upto (s : _root_.Go.ChangeSpec) : _root_.Go.OpenSpec := { _root_.Go.OpenSpec.ofChange s with cond := some uptoSmall }

/-- 'linotypelaw01.FieldTells', WHERE WHAT IT READS IS OF BULK AT MOST 1048576: true; the input reads as it did. -/
def fieldTellsUptoRow : OpenClaim := { program := "ytlmpecahmmgphaa", sum := "89d51e391757d94f7bfd7c0b70cd70ecd61a9030eb2718776c542f7033687d36", func := "linotype/linotypelaw01.FieldTells", spec := "fieldTells", apart := false, narrowed := true }
def FieldTellsUptoSaid : Prop := fieldTellsUptoRow.holds Try.pinned (OpenSpec.upto fieldTellsSpec)

/-- 'linotypelaw01.FieldBack', WHERE WHAT IT READS IS OF BULK AT MOST 1048576: true; the input reads as it did. -/
def fieldBackUptoRow : OpenClaim := { program := "ytlmpecahmmgphaa", sum := "89d51e391757d94f7bfd7c0b70cd70ecd61a9030eb2718776c542f7033687d36", func := "linotype/linotypelaw01.FieldBack", spec := "fieldBack", apart := false, narrowed := true }
def FieldBackUptoSaid : Prop := fieldBackUptoRow.holds Try.pinned (OpenSpec.upto fieldBackSpec)

/-- 'linotypelaw01.FieldFits', WHERE WHAT IT READS IS OF BULK AT MOST 1048576: true; the input reads as it did. -/
def fieldFitsUptoRow : OpenClaim := { program := "ytlmpecahmmgphaa", sum := "89d51e391757d94f7bfd7c0b70cd70ecd61a9030eb2718776c542f7033687d36", func := "linotype/linotypelaw01.FieldFits", spec := "fieldFits", apart := false, narrowed := true }
def FieldFitsUptoSaid : Prop := fieldFitsUptoRow.holds Try.pinned (OpenSpec.upto fieldFitsSpec)

/-- 'linotypelaw01.FieldNone', WHERE WHAT IT READS IS OF BULK AT MOST 1048576: true; the input reads as it did. -/
def fieldNoneUptoRow : OpenClaim := { program := "ytlmpecahmmgphaa", sum := "89d51e391757d94f7bfd7c0b70cd70ecd61a9030eb2718776c542f7033687d36", func := "linotype/linotypelaw01.FieldNone", spec := "fieldNone", unfollowed := true, recurses := true, apart := false, narrowed := true }
def FieldNoneUptoSaid : Prop := fieldNoneUptoRow.holds Try.pinned (OpenSpec.upto fieldNoneSpec)

/-- 'linotypelaw01.FieldKnown', WHERE WHAT IT READS IS OF BULK AT MOST 1048576: true; the input reads as it did. -/
def fieldKnownUptoRow : OpenClaim := { program := "ytlmpecahmmgphaa", sum := "89d51e391757d94f7bfd7c0b70cd70ecd61a9030eb2718776c542f7033687d36", func := "linotype/linotypelaw01.FieldKnown", spec := "fieldKnown", unfollowed := true, recurses := true, apart := false, narrowed := true }
def FieldKnownUptoSaid : Prop := fieldKnownUptoRow.holds Try.pinned (OpenSpec.upto fieldKnownSpec)

/-- 'linotypelaw27.LayoutMoves', WHERE WHAT IT READS IS OF BULK AT MOST 1048576: true; the input reads as it did. -/
def layoutMovesUptoRow : OpenClaim := { program := "ytlmpecahmmgphaa", sum := "89d51e391757d94f7bfd7c0b70cd70ecd61a9030eb2718776c542f7033687d36", func := "linotype/linotypelaw27.LayoutMoves", spec := "layoutMoves", apart := false, narrowed := true }
def LayoutMovesUptoSaid : Prop := layoutMovesUptoRow.holds Try.pinned (OpenSpec.upto layoutMovesSpec)

/-- 'linotypelaw27.LayoutKnown', WHERE WHAT IT READS IS OF BULK AT MOST 1048576: true; the input reads as it did. -/
def layoutKnownUptoRow : OpenClaim := { program := "ytlmpecahmmgphaa", sum := "89d51e391757d94f7bfd7c0b70cd70ecd61a9030eb2718776c542f7033687d36", func := "linotype/linotypelaw27.LayoutKnown", spec := "layoutKnown", apart := false, narrowed := true }
def LayoutKnownUptoSaid : Prop := layoutKnownUptoRow.holds Try.pinned (OpenSpec.upto layoutKnownSpec)

/-- 'linotypelaw27.LayoutPlans', WHERE WHAT IT READS IS OF BULK AT MOST 1048576: true; the input reads as it did. -/
def layoutPlansUptoRow : OpenClaim := { program := "ytlmpecahmmgphaa", sum := "89d51e391757d94f7bfd7c0b70cd70ecd61a9030eb2718776c542f7033687d36", func := "linotype/linotypelaw27.LayoutPlans", spec := "layoutPlans", apart := false, narrowed := true }
def LayoutPlansUptoSaid : Prop := layoutPlansUptoRow.holds Try.pinned (OpenSpec.upto layoutPlansSpec)

/-- 'linotypelaw27.LayoutWorks', WHERE WHAT IT READS IS OF BULK AT MOST 1048576: true; the input reads as it did. -/
def layoutWorksUptoRow : OpenClaim := { program := "ytlmpecahmmgphaa", sum := "89d51e391757d94f7bfd7c0b70cd70ecd61a9030eb2718776c542f7033687d36", func := "linotype/linotypelaw27.LayoutWorks", spec := "layoutWorks", apart := false, narrowed := true }
def LayoutWorksUptoSaid : Prop := layoutWorksUptoRow.holds Try.pinned (OpenSpec.upto layoutWorksSpec)

/-- 'linotypelaw27.LayoutLeast', WHERE WHAT IT READS IS OF BULK AT MOST 1048576: true; the input reads as it did. -/
def layoutLeastUptoRow : OpenClaim := { program := "ytlmpecahmmgphaa", sum := "89d51e391757d94f7bfd7c0b70cd70ecd61a9030eb2718776c542f7033687d36", func := "linotype/linotypelaw27.LayoutLeast", spec := "layoutLeast", apart := false, narrowed := true }
def LayoutLeastUptoSaid : Prop := layoutLeastUptoRow.holds Try.pinned (OpenSpec.upto layoutLeastSpec)

end Rows
end Go.Proofs.Ytlmpecahmmgphaa
