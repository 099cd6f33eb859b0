/-
  NARROWER THAN 'FOR EVERY INPUT', by the rows' own cells (each row's printed sentence says how): MemTells: laid · MemAddresses: laid · MemKnown: laid · MemCanon: laid · MemSame: laid · OperandImm: laid · OperandLike: laid · OperandKnown: laid · OperandTells: laid · OperandCanon: laid.
  DERIVED. THE GIVEN ROWS OF THIS SEAT. 10 by the template 'for every input the law returns true; each argument reads behind the call as it read before'; 0 by the template 'total and deterministic' (their statements: YtceofdchbolidaaDoorTotals.lean).
  GIVEN WITH THE SEED: the statements are not yours to turn. If you find one false, say at which input.
  Laid BY PROGRAM, IN A SANDBOX (cutbox-rows.mjs): the forced cells as the released guide's own fill.sh prints them over the translation bfdd312046c6c74b… (all of the seat's roots in one cut). By AI agents, Wed Nov 11 2026. No macro, syntax, notation, axiom, sorry.
-/
import Derived.Test.YtceofdchbolidaaDoorChecked
import GoSem.Claim
import GoSem.ClaimJoined
import GoSem.ClaimMapViews
import Derived.JoinedTies
import Derived.KernelRfl
namespace Go.Proofs.YtceofdchbolidaaDoor
/- THE CELL 'sum', in the pinned program and in every row, IS THE sha256 OF THE DUMP (.gsa) THAT YtceofdchbolidaaDoorProg.lean LOADS. Nothing in Lean hashes anything: it is a label: what it is worth is what the hold of that sum in a sandbox is worth. -/
noncomputable def Tryd.pinned : Pinned := { name := "ytceofdchbolidaadoor", sum := "bfdd312046c6c74b6de2e4c10dc902e4e0f0359f8fe990c6c25c87e00322356c", checked := Tryd.checked }
namespace Rows
def none {H : Type} : Left H := { results := [], args := [] }

/- WHAT THE LISTED PACKAGE-LEVEL VARIABLES READ AS WHEN THE CALL BEGINS. Each datum BY PROGRAM (the guide's laid-datum.mjs) off the statement by which the dump's own 'gosem.cut.vars' lays the variable. In a bare row this is a premise. The card (YtceofdchbolidaaDoorCards.lean) ties it to the program's text. -/
def laid_unicode_White_Space {H : Type} : DataW H := .ptr (.agg [.slice [.agg [.lit (.int .u16 9), .lit (.int .u16 13), .lit (.int .u16 1)], .agg [.lit (.int .u16 32), .lit (.int .u16 133), .lit (.int .u16 101)], .agg [.lit (.int .u16 160), .lit (.int .u16 5760), .lit (.int .u16 5600)], .agg [.lit (.int .u16 8192), .lit (.int .u16 8202), .lit (.int .u16 1)], .agg [.lit (.int .u16 8232), .lit (.int .u16 8233), .lit (.int .u16 1)], .agg [.lit (.int .u16 8239), .lit (.int .u16 8287), .lit (.int .u16 48)], .agg [.lit (.int .u16 12288), .lit (.int .u16 12288), .lit (.int .u16 1)]] [], .nil, .lit (.int .i64 2)])
def laid_strings_asciiSpace {H : Type} : DataW H := .agg [.lit (.int .u8 0), .lit (.int .u8 0), .lit (.int .u8 0), .lit (.int .u8 0), .lit (.int .u8 0), .lit (.int .u8 0), .lit (.int .u8 0), .lit (.int .u8 0), .lit (.int .u8 0), .lit (.int .u8 1), .lit (.int .u8 1), .lit (.int .u8 1), .lit (.int .u8 1), .lit (.int .u8 1), .lit (.int .u8 0), .lit (.int .u8 0), .lit (.int .u8 0), .lit (.int .u8 0), .lit (.int .u8 0), .lit (.int .u8 0), .lit (.int .u8 0), .lit (.int .u8 0), .lit (.int .u8 0), .lit (.int .u8 0), .lit (.int .u8 0), .lit (.int .u8 0), .lit (.int .u8 0), .lit (.int .u8 0), .lit (.int .u8 0), .lit (.int .u8 0), .lit (.int .u8 0), .lit (.int .u8 0), .lit (.int .u8 1), .lit (.int .u8 0), .lit (.int .u8 0), .lit (.int .u8 0), .lit (.int .u8 0), .lit (.int .u8 0), .lit (.int .u8 0), .lit (.int .u8 0), .lit (.int .u8 0), .lit (.int .u8 0), .lit (.int .u8 0), .lit (.int .u8 0), .lit (.int .u8 0), .lit (.int .u8 0), .lit (.int .u8 0), .lit (.int .u8 0), .lit (.int .u8 0), .lit (.int .u8 0), .lit (.int .u8 0), .lit (.int .u8 0), .lit (.int .u8 0), .lit (.int .u8 0), .lit (.int .u8 0), .lit (.int .u8 0), .lit (.int .u8 0), .lit (.int .u8 0), .lit (.int .u8 0), .lit (.int .u8 0), .lit (.int .u8 0), .lit (.int .u8 0), .lit (.int .u8 0), .lit (.int .u8 0), .lit (.int .u8 0), .lit (.int .u8 0), .lit (.int .u8 0), .lit (.int .u8 0), .lit (.int .u8 0), .lit (.int .u8 0), .lit (.int .u8 0), .lit (.int .u8 0), .lit (.int .u8 0), .lit (.int .u8 0), .lit (.int .u8 0), .lit (.int .u8 0), .lit (.int .u8 0), .lit (.int .u8 0), .lit (.int .u8 0), .lit (.int .u8 0), .lit (.int .u8 0), .lit (.int .u8 0), .lit (.int .u8 0), .lit (.int .u8 0), .lit (.int .u8 0), .lit (.int .u8 0), .lit (.int .u8 0), .lit (.int .u8 0), .lit (.int .u8 0), .lit (.int .u8 0), .lit (.int .u8 0), .lit (.int .u8 0), .lit (.int .u8 0), .lit (.int .u8 0), .lit (.int .u8 0), .lit (.int .u8 0), .lit (.int .u8 0), .lit (.int .u8 0), .lit (.int .u8 0), .lit (.int .u8 0), .lit (.int .u8 0), .lit (.int .u8 0), .lit (.int .u8 0), .lit (.int .u8 0), .lit (.int .u8 0), .lit (.int .u8 0), .lit (.int .u8 0), .lit (.int .u8 0), .lit (.int .u8 0), .lit (.int .u8 0), .lit (.int .u8 0), .lit (.int .u8 0), .lit (.int .u8 0), .lit (.int .u8 0), .lit (.int .u8 0), .lit (.int .u8 0), .lit (.int .u8 0), .lit (.int .u8 0), .lit (.int .u8 0), .lit (.int .u8 0), .lit (.int .u8 0), .lit (.int .u8 0), .lit (.int .u8 0), .lit (.int .u8 0), .lit (.int .u8 0), .lit (.int .u8 0), .lit (.int .u8 0), .lit (.int .u8 0), .lit (.int .u8 0), .lit (.int .u8 0), .lit (.int .u8 0), .lit (.int .u8 0), .lit (.int .u8 0), .lit (.int .u8 0), .lit (.int .u8 0), .lit (.int .u8 0), .lit (.int .u8 0), .lit (.int .u8 0), .lit (.int .u8 0), .lit (.int .u8 0), .lit (.int .u8 0), .lit (.int .u8 0), .lit (.int .u8 0), .lit (.int .u8 0), .lit (.int .u8 0), .lit (.int .u8 0), .lit (.int .u8 0), .lit (.int .u8 0), .lit (.int .u8 0), .lit (.int .u8 0), .lit (.int .u8 0), .lit (.int .u8 0), .lit (.int .u8 0), .lit (.int .u8 0), .lit (.int .u8 0), .lit (.int .u8 0), .lit (.int .u8 0), .lit (.int .u8 0), .lit (.int .u8 0), .lit (.int .u8 0), .lit (.int .u8 0), .lit (.int .u8 0), .lit (.int .u8 0), .lit (.int .u8 0), .lit (.int .u8 0), .lit (.int .u8 0), .lit (.int .u8 0), .lit (.int .u8 0), .lit (.int .u8 0), .lit (.int .u8 0), .lit (.int .u8 0), .lit (.int .u8 0), .lit (.int .u8 0), .lit (.int .u8 0), .lit (.int .u8 0), .lit (.int .u8 0), .lit (.int .u8 0), .lit (.int .u8 0), .lit (.int .u8 0), .lit (.int .u8 0), .lit (.int .u8 0), .lit (.int .u8 0), .lit (.int .u8 0), .lit (.int .u8 0), .lit (.int .u8 0), .lit (.int .u8 0), .lit (.int .u8 0), .lit (.int .u8 0), .lit (.int .u8 0), .lit (.int .u8 0), .lit (.int .u8 0), .lit (.int .u8 0), .lit (.int .u8 0), .lit (.int .u8 0), .lit (.int .u8 0), .lit (.int .u8 0), .lit (.int .u8 0), .lit (.int .u8 0), .lit (.int .u8 0), .lit (.int .u8 0), .lit (.int .u8 0), .lit (.int .u8 0), .lit (.int .u8 0), .lit (.int .u8 0), .lit (.int .u8 0), .lit (.int .u8 0), .lit (.int .u8 0), .lit (.int .u8 0), .lit (.int .u8 0), .lit (.int .u8 0), .lit (.int .u8 0), .lit (.int .u8 0), .lit (.int .u8 0), .lit (.int .u8 0), .lit (.int .u8 0), .lit (.int .u8 0), .lit (.int .u8 0), .lit (.int .u8 0), .lit (.int .u8 0), .lit (.int .u8 0), .lit (.int .u8 0), .lit (.int .u8 0), .lit (.int .u8 0), .lit (.int .u8 0), .lit (.int .u8 0), .lit (.int .u8 0), .lit (.int .u8 0), .lit (.int .u8 0), .lit (.int .u8 0), .lit (.int .u8 0), .lit (.int .u8 0), .lit (.int .u8 0), .lit (.int .u8 0), .lit (.int .u8 0), .lit (.int .u8 0), .lit (.int .u8 0), .lit (.int .u8 0), .lit (.int .u8 0), .lit (.int .u8 0), .lit (.int .u8 0), .lit (.int .u8 0), .lit (.int .u8 0), .lit (.int .u8 0), .lit (.int .u8 0), .lit (.int .u8 0), .lit (.int .u8 0), .lit (.int .u8 0), .lit (.int .u8 0), .lit (.int .u8 0), .lit (.int .u8 0), .lit (.int .u8 0), .lit (.int .u8 0), .lit (.int .u8 0), .lit (.int .u8 0), .lit (.int .u8 0), .lit (.int .u8 0)]

/-- 'linotypelaw05.MemTells': WHATEVER THE INPUT: true; the input reads as it did. -/
def memTellsSpec : ChangeSpec := { name := "memTells", fn := fun _ => fun
  | [d1, d2] => { results := [.lit (.bool true)], args := [d1, d2] }
  | _ => none }
def memTellsRow : OpenClaim := { program := "ytceofdchbolidaadoor", sum := "bfdd312046c6c74b6de2e4c10dc902e4e0f0359f8fe990c6c25c87e00322356c", func := "linotype/linotypelaw05.MemTells", spec := "memTells", unfollowed := true, recurses := true, named := ["strings.asciiSpace", "unicode.White_Space"], apart := false, laid := [("unicode.White_Space", laid_unicode_White_Space), ("strings.asciiSpace", laid_strings_asciiSpace)] }
def MemTellsSaid : Prop := memTellsRow.holds Tryd.pinned (OpenSpec.ofChange memTellsSpec)

/-- ITS FALSE NEIGHBOUR: 'it returns false'. Refute it at one input. -/
def memTellsWrong : ChangeSpec := { name := "memTells", fn := fun _ => fun
  | [d1, d2] => { results := [.lit (.bool false)], args := [d1, d2] }
  | _ => none }
def MemTellsWrongFalsely : Prop := memTellsRow.holds Tryd.pinned (OpenSpec.ofChange memTellsWrong)

/-- 'linotypelaw05.MemAddresses': WHATEVER THE INPUT: true; the input reads as it did. -/
def memAddressesSpec : ChangeSpec := { name := "memAddresses", fn := fun _ => fun
  | [d1, d2, d3] => { results := [.lit (.bool true)], args := [d1, d2, d3] }
  | _ => none }
def memAddressesRow : OpenClaim := { program := "ytceofdchbolidaadoor", sum := "bfdd312046c6c74b6de2e4c10dc902e4e0f0359f8fe990c6c25c87e00322356c", func := "linotype/linotypelaw05.MemAddresses", spec := "memAddresses", unfollowed := true, recurses := true, named := ["strings.asciiSpace", "unicode.White_Space"], apart := false, laid := [("unicode.White_Space", laid_unicode_White_Space), ("strings.asciiSpace", laid_strings_asciiSpace)] }
def MemAddressesSaid : Prop := memAddressesRow.holds Tryd.pinned (OpenSpec.ofChange memAddressesSpec)

/-- ITS FALSE NEIGHBOUR: 'it returns false'. Refute it at one input. -/
def memAddressesWrong : ChangeSpec := { name := "memAddresses", fn := fun _ => fun
  | [d1, d2, d3] => { results := [.lit (.bool false)], args := [d1, d2, d3] }
  | _ => none }
def MemAddressesWrongFalsely : Prop := memAddressesRow.holds Tryd.pinned (OpenSpec.ofChange memAddressesWrong)

/-- 'linotypelaw05.MemKnown': WHATEVER THE INPUT: true; the input reads as it did. -/
def memKnownSpec : ChangeSpec := { name := "memKnown", fn := fun _ => fun
  | [] => { results := [.lit (.bool true)], args := [] }
  | _ => none }
def memKnownRow : OpenClaim := { program := "ytceofdchbolidaadoor", sum := "bfdd312046c6c74b6de2e4c10dc902e4e0f0359f8fe990c6c25c87e00322356c", func := "linotype/linotypelaw05.MemKnown", spec := "memKnown", unfollowed := true, recurses := true, named := ["strings.asciiSpace", "unicode.White_Space"], apart := false, laid := [("unicode.White_Space", laid_unicode_White_Space), ("strings.asciiSpace", laid_strings_asciiSpace)] }
def MemKnownSaid : Prop := memKnownRow.holds Tryd.pinned (OpenSpec.ofChange memKnownSpec)

/-- ITS FALSE NEIGHBOUR: 'it returns false'. Refute it at one input. -/
def memKnownWrong : ChangeSpec := { name := "memKnown", fn := fun _ => fun
  | [] => { results := [.lit (.bool false)], args := [] }
  | _ => none }
def MemKnownWrongFalsely : Prop := memKnownRow.holds Tryd.pinned (OpenSpec.ofChange memKnownWrong)

/-- 'linotypelaw05.MemCanon': WHATEVER THE INPUT: true; the input reads as it did. -/
def memCanonSpec : ChangeSpec := { name := "memCanon", fn := fun _ => fun
  | [d1, d2, d3] => { results := [.lit (.bool true)], args := [d1, d2, d3] }
  | _ => none }
def memCanonRow : OpenClaim := { program := "ytceofdchbolidaadoor", sum := "bfdd312046c6c74b6de2e4c10dc902e4e0f0359f8fe990c6c25c87e00322356c", func := "linotype/linotypelaw05.MemCanon", spec := "memCanon", unfollowed := true, recurses := true, named := ["strings.asciiSpace", "unicode.White_Space"], apart := false, laid := [("unicode.White_Space", laid_unicode_White_Space), ("strings.asciiSpace", laid_strings_asciiSpace)] }
def MemCanonSaid : Prop := memCanonRow.holds Tryd.pinned (OpenSpec.ofChange memCanonSpec)

/-- ITS FALSE NEIGHBOUR: 'it returns false'. Refute it at one input. -/
def memCanonWrong : ChangeSpec := { name := "memCanon", fn := fun _ => fun
  | [d1, d2, d3] => { results := [.lit (.bool false)], args := [d1, d2, d3] }
  | _ => none }
def MemCanonWrongFalsely : Prop := memCanonRow.holds Tryd.pinned (OpenSpec.ofChange memCanonWrong)

/-- 'linotypelaw05.MemSame': WHATEVER THE INPUT: true; the input reads as it did. -/
def memSameSpec : ChangeSpec := { name := "memSame", fn := fun _ => fun
  | [d1, d2, d3, d4] => { results := [.lit (.bool true)], args := [d1, d2, d3, d4] }
  | _ => none }
def memSameRow : OpenClaim := { program := "ytceofdchbolidaadoor", sum := "bfdd312046c6c74b6de2e4c10dc902e4e0f0359f8fe990c6c25c87e00322356c", func := "linotype/linotypelaw05.MemSame", spec := "memSame", unfollowed := true, recurses := true, named := ["strings.asciiSpace", "unicode.White_Space"], apart := false, laid := [("unicode.White_Space", laid_unicode_White_Space), ("strings.asciiSpace", laid_strings_asciiSpace)] }
def MemSameSaid : Prop := memSameRow.holds Tryd.pinned (OpenSpec.ofChange memSameSpec)

/-- ITS FALSE NEIGHBOUR: 'it returns false'. Refute it at one input. -/
def memSameWrong : ChangeSpec := { name := "memSame", fn := fun _ => fun
  | [d1, d2, d3, d4] => { results := [.lit (.bool false)], args := [d1, d2, d3, d4] }
  | _ => none }
def MemSameWrongFalsely : Prop := memSameRow.holds Tryd.pinned (OpenSpec.ofChange memSameWrong)

/-- 'linotypelaw06.OperandImm': WHATEVER THE INPUT: true; the input reads as it did. -/
def operandImmSpec : ChangeSpec := { name := "operandImm", fn := fun _ => fun
  | [d1, d2, d3] => { results := [.lit (.bool true)], args := [d1, d2, d3] }
  | _ => none }
def operandImmRow : OpenClaim := { program := "ytceofdchbolidaadoor", sum := "bfdd312046c6c74b6de2e4c10dc902e4e0f0359f8fe990c6c25c87e00322356c", func := "linotype/linotypelaw06.OperandImm", spec := "operandImm", unfollowed := true, recurses := true, named := ["strings.asciiSpace", "unicode.White_Space"], apart := false, laid := [("unicode.White_Space", laid_unicode_White_Space), ("strings.asciiSpace", laid_strings_asciiSpace)] }
def OperandImmSaid : Prop := operandImmRow.holds Tryd.pinned (OpenSpec.ofChange operandImmSpec)

/-- ITS FALSE NEIGHBOUR: 'it returns false'. Refute it at one input. -/
def operandImmWrong : ChangeSpec := { name := "operandImm", fn := fun _ => fun
  | [d1, d2, d3] => { results := [.lit (.bool false)], args := [d1, d2, d3] }
  | _ => none }
def OperandImmWrongFalsely : Prop := operandImmRow.holds Tryd.pinned (OpenSpec.ofChange operandImmWrong)

/-- 'linotypelaw06.OperandLike': WHATEVER THE INPUT: true; the input reads as it did. -/
def operandLikeSpec : ChangeSpec := { name := "operandLike", fn := fun _ => fun
  | [d1, d2] => { results := [.lit (.bool true)], args := [d1, d2] }
  | _ => none }
def operandLikeRow : OpenClaim := { program := "ytceofdchbolidaadoor", sum := "bfdd312046c6c74b6de2e4c10dc902e4e0f0359f8fe990c6c25c87e00322356c", func := "linotype/linotypelaw06.OperandLike", spec := "operandLike", unfollowed := true, recurses := true, named := ["strings.asciiSpace", "unicode.White_Space"], apart := false, laid := [("unicode.White_Space", laid_unicode_White_Space), ("strings.asciiSpace", laid_strings_asciiSpace)] }
def OperandLikeSaid : Prop := operandLikeRow.holds Tryd.pinned (OpenSpec.ofChange operandLikeSpec)

/-- ITS FALSE NEIGHBOUR: 'it returns false'. Refute it at one input. -/
def operandLikeWrong : ChangeSpec := { name := "operandLike", fn := fun _ => fun
  | [d1, d2] => { results := [.lit (.bool false)], args := [d1, d2] }
  | _ => none }
def OperandLikeWrongFalsely : Prop := operandLikeRow.holds Tryd.pinned (OpenSpec.ofChange operandLikeWrong)

/-- 'linotypelaw06.OperandKnown': WHATEVER THE INPUT: true; the input reads as it did. -/
def operandKnownSpec : ChangeSpec := { name := "operandKnown", fn := fun _ => fun
  | [] => { results := [.lit (.bool true)], args := [] }
  | _ => none }
def operandKnownRow : OpenClaim := { program := "ytceofdchbolidaadoor", sum := "bfdd312046c6c74b6de2e4c10dc902e4e0f0359f8fe990c6c25c87e00322356c", func := "linotype/linotypelaw06.OperandKnown", spec := "operandKnown", unfollowed := true, recurses := true, named := ["strings.asciiSpace", "unicode.White_Space"], apart := false, laid := [("unicode.White_Space", laid_unicode_White_Space), ("strings.asciiSpace", laid_strings_asciiSpace)] }
def OperandKnownSaid : Prop := operandKnownRow.holds Tryd.pinned (OpenSpec.ofChange operandKnownSpec)

/-- ITS FALSE NEIGHBOUR: 'it returns false'. Refute it at one input. -/
def operandKnownWrong : ChangeSpec := { name := "operandKnown", fn := fun _ => fun
  | [] => { results := [.lit (.bool false)], args := [] }
  | _ => none }
def OperandKnownWrongFalsely : Prop := operandKnownRow.holds Tryd.pinned (OpenSpec.ofChange operandKnownWrong)

/-- 'linotypelaw06.OperandTells': WHATEVER THE INPUT: true; the input reads as it did. -/
def operandTellsSpec : ChangeSpec := { name := "operandTells", fn := fun _ => fun
  | [d1, d2] => { results := [.lit (.bool true)], args := [d1, d2] }
  | _ => none }
def operandTellsRow : OpenClaim := { program := "ytceofdchbolidaadoor", sum := "bfdd312046c6c74b6de2e4c10dc902e4e0f0359f8fe990c6c25c87e00322356c", func := "linotype/linotypelaw06.OperandTells", spec := "operandTells", unfollowed := true, recurses := true, named := ["strings.asciiSpace", "unicode.White_Space"], apart := false, laid := [("unicode.White_Space", laid_unicode_White_Space), ("strings.asciiSpace", laid_strings_asciiSpace)] }
def OperandTellsSaid : Prop := operandTellsRow.holds Tryd.pinned (OpenSpec.ofChange operandTellsSpec)

/-- ITS FALSE NEIGHBOUR: 'it returns false'. Refute it at one input. -/
def operandTellsWrong : ChangeSpec := { name := "operandTells", fn := fun _ => fun
  | [d1, d2] => { results := [.lit (.bool false)], args := [d1, d2] }
  | _ => none }
def OperandTellsWrongFalsely : Prop := operandTellsRow.holds Tryd.pinned (OpenSpec.ofChange operandTellsWrong)

/-- 'linotypelaw06.OperandCanon': WHATEVER THE INPUT: true; the input reads as it did. -/
def operandCanonSpec : ChangeSpec := { name := "operandCanon", fn := fun _ => fun
  | [d1, d2] => { results := [.lit (.bool true)], args := [d1, d2] }
  | _ => none }
def operandCanonRow : OpenClaim := { program := "ytceofdchbolidaadoor", sum := "bfdd312046c6c74b6de2e4c10dc902e4e0f0359f8fe990c6c25c87e00322356c", func := "linotype/linotypelaw06.OperandCanon", spec := "operandCanon", unfollowed := true, recurses := true, named := ["strings.asciiSpace", "unicode.White_Space"], apart := false, laid := [("unicode.White_Space", laid_unicode_White_Space), ("strings.asciiSpace", laid_strings_asciiSpace)] }
def OperandCanonSaid : Prop := operandCanonRow.holds Tryd.pinned (OpenSpec.ofChange operandCanonSpec)

/-- ITS FALSE NEIGHBOUR: 'it returns false'. Refute it at one input. -/
def operandCanonWrong : ChangeSpec := { name := "operandCanon", fn := fun _ => fun
  | [d1, d2] => { results := [.lit (.bool false)], args := [d1, d2] }
  | _ => none }
def OperandCanonWrongFalsely : Prop := operandCanonRow.holds Tryd.pinned (OpenSpec.ofChange operandCanonWrong)

/- THE SECOND FORM. 'bulk': how many values and letters a reading holds, each counted each time it is reached (what is shared counts as often as it is met; a slice's spare places count too). A statement '..UptoSaid' is the law's where the arguments, and the package variables that the reading takes, are together of bulk at most 1048576: NARROWER than '..Said'. Prove '..Said' where nothing that the law and all that it calls make is longer than what came in: it says more and counts as full. Else prove '..UptoSaid'. A law counts once. -/
mutual
def uptoBulk {H : Type} : DataW H → Nat
  | .lit (.string bytes) => bytes.length + 1
  | .lit _ => 1
  | .nil => 1
  | .ptr d => uptoBulk d + 1
  | .slice elems spare => uptoBulkAll elems + uptoBulkAll spare + 1
  | .agg parts => uptoBulkAll parts + 1
  | .iface _ d => uptoBulk d + 1
  | .map entries => uptoBulkEntries entries + 1
  | .held _ => 1
def uptoBulkAll {H : Type} : List (DataW H) → Nat
  | [] => 0
  | d :: r => uptoBulk d + uptoBulkAll r
def uptoBulkEntries {H : Type} : List (Lit × DataW H) → Nat
  | [] => 0
  | x :: r => uptoBulkEntry x + uptoBulkEntries r
def uptoBulkEntry {H : Type} : Lit × DataW H → Nat
  | (.string bytes, d) => bytes.length + uptoBulk d + 1
  | (_, d) => uptoBulk d + 1
 end
def uptoSmall : (H : Type) → List (DataW H) → Bool := fun _ ds => decide (uptoBulkAll ds ≤ 1048576)
def OpenSpec.upto (s : _root_.Go.ChangeSpec) : _root_.Go.OpenSpec := { _root_.Go.OpenSpec.ofChange s with cond := some uptoSmall }

/-- 'linotypelaw05.MemTells', WHERE WHAT IT READS IS OF BULK AT MOST 1048576: true; the input reads as it did. -/
def memTellsUptoRow : OpenClaim := { program := "ytceofdchbolidaadoor", sum := "bfdd312046c6c74b6de2e4c10dc902e4e0f0359f8fe990c6c25c87e00322356c", func := "linotype/linotypelaw05.MemTells", spec := "memTells", unfollowed := true, recurses := true, named := ["strings.asciiSpace", "unicode.White_Space"], apart := false, laid := [("unicode.White_Space", laid_unicode_White_Space), ("strings.asciiSpace", laid_strings_asciiSpace)], narrowed := true }
def MemTellsUptoSaid : Prop := memTellsUptoRow.holds Tryd.pinned (OpenSpec.upto memTellsSpec)

/-- 'linotypelaw05.MemAddresses', WHERE WHAT IT READS IS OF BULK AT MOST 1048576: true; the input reads as it did. -/
def memAddressesUptoRow : OpenClaim := { program := "ytceofdchbolidaadoor", sum := "bfdd312046c6c74b6de2e4c10dc902e4e0f0359f8fe990c6c25c87e00322356c", func := "linotype/linotypelaw05.MemAddresses", spec := "memAddresses", unfollowed := true, recurses := true, named := ["strings.asciiSpace", "unicode.White_Space"], apart := false, laid := [("unicode.White_Space", laid_unicode_White_Space), ("strings.asciiSpace", laid_strings_asciiSpace)], narrowed := true }
def MemAddressesUptoSaid : Prop := memAddressesUptoRow.holds Tryd.pinned (OpenSpec.upto memAddressesSpec)

/-- 'linotypelaw05.MemKnown', WHERE WHAT IT READS IS OF BULK AT MOST 1048576: true; the input reads as it did. -/
def memKnownUptoRow : OpenClaim := { program := "ytceofdchbolidaadoor", sum := "bfdd312046c6c74b6de2e4c10dc902e4e0f0359f8fe990c6c25c87e00322356c", func := "linotype/linotypelaw05.MemKnown", spec := "memKnown", unfollowed := true, recurses := true, named := ["strings.asciiSpace", "unicode.White_Space"], apart := false, laid := [("unicode.White_Space", laid_unicode_White_Space), ("strings.asciiSpace", laid_strings_asciiSpace)], narrowed := true }
def MemKnownUptoSaid : Prop := memKnownUptoRow.holds Tryd.pinned (OpenSpec.upto memKnownSpec)

/-- 'linotypelaw05.MemCanon', WHERE WHAT IT READS IS OF BULK AT MOST 1048576: true; the input reads as it did. -/
def memCanonUptoRow : OpenClaim := { program := "ytceofdchbolidaadoor", sum := "bfdd312046c6c74b6de2e4c10dc902e4e0f0359f8fe990c6c25c87e00322356c", func := "linotype/linotypelaw05.MemCanon", spec := "memCanon", unfollowed := true, recurses := true, named := ["strings.asciiSpace", "unicode.White_Space"], apart := false, laid := [("unicode.White_Space", laid_unicode_White_Space), ("strings.asciiSpace", laid_strings_asciiSpace)], narrowed := true }
def MemCanonUptoSaid : Prop := memCanonUptoRow.holds Tryd.pinned (OpenSpec.upto memCanonSpec)

/-- 'linotypelaw05.MemSame', WHERE WHAT IT READS IS OF BULK AT MOST 1048576: true; the input reads as it did. -/
def memSameUptoRow : OpenClaim := { program := "ytceofdchbolidaadoor", sum := "bfdd312046c6c74b6de2e4c10dc902e4e0f0359f8fe990c6c25c87e00322356c", func := "linotype/linotypelaw05.MemSame", spec := "memSame", unfollowed := true, recurses := true, named := ["strings.asciiSpace", "unicode.White_Space"], apart := false, laid := [("unicode.White_Space", laid_unicode_White_Space), ("strings.asciiSpace", laid_strings_asciiSpace)], narrowed := true }
def MemSameUptoSaid : Prop := memSameUptoRow.holds Tryd.pinned (OpenSpec.upto memSameSpec)

/-- 'linotypelaw06.OperandImm', WHERE WHAT IT READS IS OF BULK AT MOST 1048576: true; the input reads as it did. -/
def operandImmUptoRow : OpenClaim := { program := "ytceofdchbolidaadoor", sum := "bfdd312046c6c74b6de2e4c10dc902e4e0f0359f8fe990c6c25c87e00322356c", func := "linotype/linotypelaw06.OperandImm", spec := "operandImm", unfollowed := true, recurses := true, named := ["strings.asciiSpace", "unicode.White_Space"], apart := false, laid := [("unicode.White_Space", laid_unicode_White_Space), ("strings.asciiSpace", laid_strings_asciiSpace)], narrowed := true }
def OperandImmUptoSaid : Prop := operandImmUptoRow.holds Tryd.pinned (OpenSpec.upto operandImmSpec)

/-- 'linotypelaw06.OperandLike', WHERE WHAT IT READS IS OF BULK AT MOST 1048576: true; the input reads as it did. -/
def operandLikeUptoRow : OpenClaim := { program := "ytceofdchbolidaadoor", sum := "bfdd312046c6c74b6de2e4c10dc902e4e0f0359f8fe990c6c25c87e00322356c", func := "linotype/linotypelaw06.OperandLike", spec := "operandLike", unfollowed := true, recurses := true, named := ["strings.asciiSpace", "unicode.White_Space"], apart := false, laid := [("unicode.White_Space", laid_unicode_White_Space), ("strings.asciiSpace", laid_strings_asciiSpace)], narrowed := true }
def OperandLikeUptoSaid : Prop := operandLikeUptoRow.holds Tryd.pinned (OpenSpec.upto operandLikeSpec)

/-- 'linotypelaw06.OperandKnown', WHERE WHAT IT READS IS OF BULK AT MOST 1048576: true; the input reads as it did. -/
def operandKnownUptoRow : OpenClaim := { program := "ytceofdchbolidaadoor", sum := "bfdd312046c6c74b6de2e4c10dc902e4e0f0359f8fe990c6c25c87e00322356c", func := "linotype/linotypelaw06.OperandKnown", spec := "operandKnown", unfollowed := true, recurses := true, named := ["strings.asciiSpace", "unicode.White_Space"], apart := false, laid := [("unicode.White_Space", laid_unicode_White_Space), ("strings.asciiSpace", laid_strings_asciiSpace)], narrowed := true }
def OperandKnownUptoSaid : Prop := operandKnownUptoRow.holds Tryd.pinned (OpenSpec.upto operandKnownSpec)

/-- 'linotypelaw06.OperandTells', WHERE WHAT IT READS IS OF BULK AT MOST 1048576: true; the input reads as it did. -/
def operandTellsUptoRow : OpenClaim := { program := "ytceofdchbolidaadoor", sum := "bfdd312046c6c74b6de2e4c10dc902e4e0f0359f8fe990c6c25c87e00322356c", func := "linotype/linotypelaw06.OperandTells", spec := "operandTells", unfollowed := true, recurses := true, named := ["strings.asciiSpace", "unicode.White_Space"], apart := false, laid := [("unicode.White_Space", laid_unicode_White_Space), ("strings.asciiSpace", laid_strings_asciiSpace)], narrowed := true }
def OperandTellsUptoSaid : Prop := operandTellsUptoRow.holds Tryd.pinned (OpenSpec.upto operandTellsSpec)

/-- 'linotypelaw06.OperandCanon', WHERE WHAT IT READS IS OF BULK AT MOST 1048576: true; the input reads as it did. -/
def operandCanonUptoRow : OpenClaim := { program := "ytceofdchbolidaadoor", sum := "bfdd312046c6c74b6de2e4c10dc902e4e0f0359f8fe990c6c25c87e00322356c", func := "linotype/linotypelaw06.OperandCanon", spec := "operandCanon", unfollowed := true, recurses := true, named := ["strings.asciiSpace", "unicode.White_Space"], apart := false, laid := [("unicode.White_Space", laid_unicode_White_Space), ("strings.asciiSpace", laid_strings_asciiSpace)], narrowed := true }
def OperandCanonUptoSaid : Prop := operandCanonUptoRow.holds Tryd.pinned (OpenSpec.upto operandCanonSpec)

end Rows
end Go.Proofs.YtceofdchbolidaaDoor
