/-
  NARROWER THAN 'FOR EVERY INPUT', by the rows' own cells (each row's printed sentence says how): ArchiveFinds: laid · StoreQuiet: laid · StoreRewinds: laid · StoreForks: laid · StoreNeeds: laid · StoreFull: laid · StoreFolds: laid · StoreNow: laid.
  DERIVED. THE GIVEN ROWS OF THIS SEAT. 8 by the template 'for every input the law returns true; each argument reads behind the call as it read before'; 0 by the template 'total and deterministic' (their statements: YthmlcohmlehddaaGreatDoorTotals.lean).
  GIVEN WITH THE SEED: the statements are not yours to turn. If you find one false, say at which input.
  Laid BY PROGRAM, IN A SANDBOX (cutbox-rows.mjs): the forced cells as the released guide's own fill.sh prints them over the translation 1e7f80ff0579ef5a… (all of the seat's roots in one cut). By AI agents, Wed Nov 11 2026. No macro, syntax, notation, axiom, sorry.
-/
import Derived.Test.YthmlcohmlehddaaGreatDoorChecked
import GoSem.Claim
import GoSem.ClaimJoined
import GoSem.ClaimMapViews
import Derived.JoinedTies
import Derived.KernelRfl
namespace Go.Proofs.YthmlcohmlehddaaGreatDoor
/- THE CELL 'sum', in the pinned program and in every row, IS THE sha256 OF THE DUMP (.gsa) THAT YthmlcohmlehddaaGreatDoorProg.lean LOADS. Nothing in Lean hashes anything: it is a label: what it is worth is what the hold of that sum in a sandbox is worth. -/
noncomputable def Tryz.pinned : Pinned := { name := "ythmlcohmlehddaagreatdoor", sum := "1e7f80ff0579ef5a1b8f6c8d7beda00456df1f5a41ed8804438d4d14beb09be4", checked := Tryz.checked }
namespace Rows
def none {H : Type} : Left H := { results := [], args := [] }

/- WHAT THE LISTED PACKAGE-LEVEL VARIABLES READ AS WHEN THE CALL BEGINS. Each datum BY PROGRAM (the guide's laid-datum.mjs) off the statement by which the dump's own 'gosem.cut.vars' lays the variable. In a bare row this is a premise. The card (YthmlcohmlehddaaGreatDoorCards.lean) ties it to the program's text. -/
def laid_math_bits_deBruijn32tab {H : Type} : DataW H := .agg [.lit (.int .u8 0), .lit (.int .u8 1), .lit (.int .u8 28), .lit (.int .u8 2), .lit (.int .u8 29), .lit (.int .u8 14), .lit (.int .u8 24), .lit (.int .u8 3), .lit (.int .u8 30), .lit (.int .u8 22), .lit (.int .u8 20), .lit (.int .u8 15), .lit (.int .u8 25), .lit (.int .u8 17), .lit (.int .u8 4), .lit (.int .u8 8), .lit (.int .u8 31), .lit (.int .u8 27), .lit (.int .u8 13), .lit (.int .u8 23), .lit (.int .u8 21), .lit (.int .u8 19), .lit (.int .u8 16), .lit (.int .u8 7), .lit (.int .u8 26), .lit (.int .u8 12), .lit (.int .u8 18), .lit (.int .u8 6), .lit (.int .u8 11), .lit (.int .u8 5), .lit (.int .u8 10), .lit (.int .u8 9)]
def laid_math_bits_deBruijn64tab {H : Type} : DataW H := .agg [.lit (.int .u8 0), .lit (.int .u8 1), .lit (.int .u8 56), .lit (.int .u8 2), .lit (.int .u8 57), .lit (.int .u8 49), .lit (.int .u8 28), .lit (.int .u8 3), .lit (.int .u8 61), .lit (.int .u8 58), .lit (.int .u8 42), .lit (.int .u8 50), .lit (.int .u8 38), .lit (.int .u8 29), .lit (.int .u8 17), .lit (.int .u8 4), .lit (.int .u8 62), .lit (.int .u8 47), .lit (.int .u8 59), .lit (.int .u8 36), .lit (.int .u8 45), .lit (.int .u8 43), .lit (.int .u8 51), .lit (.int .u8 22), .lit (.int .u8 53), .lit (.int .u8 39), .lit (.int .u8 33), .lit (.int .u8 30), .lit (.int .u8 24), .lit (.int .u8 18), .lit (.int .u8 12), .lit (.int .u8 5), .lit (.int .u8 63), .lit (.int .u8 55), .lit (.int .u8 48), .lit (.int .u8 27), .lit (.int .u8 60), .lit (.int .u8 41), .lit (.int .u8 37), .lit (.int .u8 16), .lit (.int .u8 46), .lit (.int .u8 35), .lit (.int .u8 44), .lit (.int .u8 21), .lit (.int .u8 52), .lit (.int .u8 32), .lit (.int .u8 23), .lit (.int .u8 11), .lit (.int .u8 54), .lit (.int .u8 26), .lit (.int .u8 40), .lit (.int .u8 15), .lit (.int .u8 34), .lit (.int .u8 20), .lit (.int .u8 31), .lit (.int .u8 10), .lit (.int .u8 25), .lit (.int .u8 14), .lit (.int .u8 19), .lit (.int .u8 9), .lit (.int .u8 13), .lit (.int .u8 8), .lit (.int .u8 7), .lit (.int .u8 6)]
def laid_internal_strconv_uint64pow10 {H : Type} : DataW H := .agg [.lit (.int .u64 1), .lit (.int .u64 10), .lit (.int .u64 100), .lit (.int .u64 1000), .lit (.int .u64 10000), .lit (.int .u64 100000), .lit (.int .u64 1000000), .lit (.int .u64 10000000), .lit (.int .u64 100000000), .lit (.int .u64 1000000000), .lit (.int .u64 10000000000), .lit (.int .u64 100000000000), .lit (.int .u64 1000000000000), .lit (.int .u64 10000000000000), .lit (.int .u64 100000000000000), .lit (.int .u64 1000000000000000), .lit (.int .u64 10000000000000000), .lit (.int .u64 100000000000000000), .lit (.int .u64 1000000000000000000), .lit (.int .u64 10000000000000000000)]

/-- 'duramenlaw19.ArchiveFinds': WHATEVER THE INPUT: true; the input reads as it did. -/
def archiveFindsSpec : ChangeSpec := { name := "archiveFinds", fn := fun _ => fun
  | [d1, d2, d3, d4] => { results := [.lit (.bool true)], args := [d1, d2, d3, d4] }
  | _ => none }
def archiveFindsRow : OpenClaim := { program := "ythmlcohmlehddaagreatdoor", sum := "1e7f80ff0579ef5a1b8f6c8d7beda00456df1f5a41ed8804438d4d14beb09be4", func := "duramen/duramenlaw19.ArchiveFinds", spec := "archiveFinds", inPlace := ["internal/bytealg.IndexByteString"], unfollowed := true, recurses := true, named := ["internal/strconv.uint64pow10", "math/bits.deBruijn32tab", "math/bits.deBruijn64tab"], plainKeys := false, apart := false, laid := [("math/bits.deBruijn32tab", laid_math_bits_deBruijn32tab), ("math/bits.deBruijn64tab", laid_math_bits_deBruijn64tab), ("internal/strconv.uint64pow10", laid_internal_strconv_uint64pow10)] }
def ArchiveFindsSaid : Prop := archiveFindsRow.holds Tryz.pinned (OpenSpec.ofChange archiveFindsSpec)

/-- ITS FALSE NEIGHBOUR: 'it returns false'. Refute it at one input. -/
def archiveFindsWrong : ChangeSpec := { name := "archiveFinds", fn := fun _ => fun
  | [d1, d2, d3, d4] => { results := [.lit (.bool false)], args := [d1, d2, d3, d4] }
  | _ => none }
def ArchiveFindsWrongFalsely : Prop := archiveFindsRow.holds Tryz.pinned (OpenSpec.ofChange archiveFindsWrong)

/-- 'duramenlaw20.StoreQuiet': WHATEVER THE INPUT: true; the input reads as it did. -/
def storeQuietSpec : ChangeSpec := { name := "storeQuiet", fn := fun _ => fun
  | [d1, d2, d3] => { results := [.lit (.bool true)], args := [d1, d2, d3] }
  | _ => none }
def storeQuietRow : OpenClaim := { program := "ythmlcohmlehddaagreatdoor", sum := "1e7f80ff0579ef5a1b8f6c8d7beda00456df1f5a41ed8804438d4d14beb09be4", func := "duramen/duramenlaw20.StoreQuiet", spec := "storeQuiet", inPlace := ["internal/bytealg.IndexByteString", "slices.overlaps[duramen/api.Version]", "slices.overlaps[duramen/api.Piece]"], unfollowed := true, recurses := true, named := ["internal/strconv.uint64pow10", "math/bits.deBruijn32tab", "math/bits.deBruijn64tab"], plainKeys := false, apart := false, laid := [("math/bits.deBruijn32tab", laid_math_bits_deBruijn32tab), ("math/bits.deBruijn64tab", laid_math_bits_deBruijn64tab), ("internal/strconv.uint64pow10", laid_internal_strconv_uint64pow10)] }
def StoreQuietSaid : Prop := storeQuietRow.holds Tryz.pinned (OpenSpec.ofChange storeQuietSpec)

/-- ITS FALSE NEIGHBOUR: 'it returns false'. Refute it at one input. -/
def storeQuietWrong : ChangeSpec := { name := "storeQuiet", fn := fun _ => fun
  | [d1, d2, d3] => { results := [.lit (.bool false)], args := [d1, d2, d3] }
  | _ => none }
def StoreQuietWrongFalsely : Prop := storeQuietRow.holds Tryz.pinned (OpenSpec.ofChange storeQuietWrong)

/-- 'duramenlaw20.StoreRewinds': WHATEVER THE INPUT: true; the input reads as it did. -/
def storeRewindsSpec : ChangeSpec := { name := "storeRewinds", fn := fun _ => fun
  | [d1, d2, d3, d4, d5] => { results := [.lit (.bool true)], args := [d1, d2, d3, d4, d5] }
  | _ => none }
def storeRewindsRow : OpenClaim := { program := "ythmlcohmlehddaagreatdoor", sum := "1e7f80ff0579ef5a1b8f6c8d7beda00456df1f5a41ed8804438d4d14beb09be4", func := "duramen/duramenlaw20.StoreRewinds", spec := "storeRewinds", inPlace := ["internal/bytealg.IndexByteString", "slices.overlaps[duramen/api.Version]", "slices.overlaps[duramen/api.Piece]"], unfollowed := true, recurses := true, named := ["internal/strconv.uint64pow10", "math/bits.deBruijn32tab", "math/bits.deBruijn64tab"], plainKeys := false, apart := false, laid := [("math/bits.deBruijn32tab", laid_math_bits_deBruijn32tab), ("math/bits.deBruijn64tab", laid_math_bits_deBruijn64tab), ("internal/strconv.uint64pow10", laid_internal_strconv_uint64pow10)] }
def StoreRewindsSaid : Prop := storeRewindsRow.holds Tryz.pinned (OpenSpec.ofChange storeRewindsSpec)

/-- ITS FALSE NEIGHBOUR: 'it returns false'. Refute it at one input. -/
def storeRewindsWrong : ChangeSpec := { name := "storeRewinds", fn := fun _ => fun
  | [d1, d2, d3, d4, d5] => { results := [.lit (.bool false)], args := [d1, d2, d3, d4, d5] }
  | _ => none }
def StoreRewindsWrongFalsely : Prop := storeRewindsRow.holds Tryz.pinned (OpenSpec.ofChange storeRewindsWrong)

/-- 'duramenlaw20.StoreForks': WHATEVER THE INPUT: true; the input reads as it did. -/
def storeForksSpec : ChangeSpec := { name := "storeForks", fn := fun _ => fun
  | [d1, d2, d3, d4, d5] => { results := [.lit (.bool true)], args := [d1, d2, d3, d4, d5] }
  | _ => none }
def storeForksRow : OpenClaim := { program := "ythmlcohmlehddaagreatdoor", sum := "1e7f80ff0579ef5a1b8f6c8d7beda00456df1f5a41ed8804438d4d14beb09be4", func := "duramen/duramenlaw20.StoreForks", spec := "storeForks", inPlace := ["internal/bytealg.IndexByteString", "slices.overlaps[duramen/api.Version]", "slices.overlaps[duramen/api.Piece]"], unfollowed := true, recurses := true, named := ["internal/strconv.uint64pow10", "math/bits.deBruijn32tab", "math/bits.deBruijn64tab"], plainKeys := false, apart := false, laid := [("math/bits.deBruijn32tab", laid_math_bits_deBruijn32tab), ("math/bits.deBruijn64tab", laid_math_bits_deBruijn64tab), ("internal/strconv.uint64pow10", laid_internal_strconv_uint64pow10)] }
def StoreForksSaid : Prop := storeForksRow.holds Tryz.pinned (OpenSpec.ofChange storeForksSpec)

/-- ITS FALSE NEIGHBOUR: 'it returns false'. Refute it at one input. -/
def storeForksWrong : ChangeSpec := { name := "storeForks", fn := fun _ => fun
  | [d1, d2, d3, d4, d5] => { results := [.lit (.bool false)], args := [d1, d2, d3, d4, d5] }
  | _ => none }
def StoreForksWrongFalsely : Prop := storeForksRow.holds Tryz.pinned (OpenSpec.ofChange storeForksWrong)

/-- 'duramenlaw20.StoreNeeds': WHATEVER THE INPUT: true; the input reads as it did. -/
def storeNeedsSpec : ChangeSpec := { name := "storeNeeds", fn := fun _ => fun
  | [d] => { results := [.lit (.bool true)], args := [d] }
  | _ => none }
def storeNeedsRow : OpenClaim := { program := "ythmlcohmlehddaagreatdoor", sum := "1e7f80ff0579ef5a1b8f6c8d7beda00456df1f5a41ed8804438d4d14beb09be4", func := "duramen/duramenlaw20.StoreNeeds", spec := "storeNeeds", inPlace := ["internal/bytealg.IndexByteString", "slices.overlaps[duramen/api.Version]", "slices.overlaps[duramen/api.Piece]"], unfollowed := true, recurses := true, named := ["internal/strconv.uint64pow10", "math/bits.deBruijn32tab", "math/bits.deBruijn64tab"], plainKeys := false, apart := false, laid := [("math/bits.deBruijn32tab", laid_math_bits_deBruijn32tab), ("math/bits.deBruijn64tab", laid_math_bits_deBruijn64tab), ("internal/strconv.uint64pow10", laid_internal_strconv_uint64pow10)] }
def StoreNeedsSaid : Prop := storeNeedsRow.holds Tryz.pinned (OpenSpec.ofChange storeNeedsSpec)

/-- ITS FALSE NEIGHBOUR: 'it returns false'. Refute it at one input. -/
def storeNeedsWrong : ChangeSpec := { name := "storeNeeds", fn := fun _ => fun
  | [d] => { results := [.lit (.bool false)], args := [d] }
  | _ => none }
def StoreNeedsWrongFalsely : Prop := storeNeedsRow.holds Tryz.pinned (OpenSpec.ofChange storeNeedsWrong)

/-- 'duramenlaw20.StoreFull': WHATEVER THE INPUT: true; the input reads as it did. -/
def storeFullSpec : ChangeSpec := { name := "storeFull", fn := fun _ => fun
  | [d1, d2] => { results := [.lit (.bool true)], args := [d1, d2] }
  | _ => none }
def storeFullRow : OpenClaim := { program := "ythmlcohmlehddaagreatdoor", sum := "1e7f80ff0579ef5a1b8f6c8d7beda00456df1f5a41ed8804438d4d14beb09be4", func := "duramen/duramenlaw20.StoreFull", spec := "storeFull", inPlace := ["internal/bytealg.IndexByteString", "slices.overlaps[duramen/api.Version]", "slices.overlaps[duramen/api.Piece]"], unfollowed := true, recurses := true, named := ["internal/strconv.uint64pow10", "math/bits.deBruijn32tab", "math/bits.deBruijn64tab"], plainKeys := false, apart := false, laid := [("math/bits.deBruijn32tab", laid_math_bits_deBruijn32tab), ("math/bits.deBruijn64tab", laid_math_bits_deBruijn64tab), ("internal/strconv.uint64pow10", laid_internal_strconv_uint64pow10)] }
def StoreFullSaid : Prop := storeFullRow.holds Tryz.pinned (OpenSpec.ofChange storeFullSpec)

/-- ITS FALSE NEIGHBOUR: 'it returns false'. Refute it at one input. -/
def storeFullWrong : ChangeSpec := { name := "storeFull", fn := fun _ => fun
  | [d1, d2] => { results := [.lit (.bool false)], args := [d1, d2] }
  | _ => none }
def StoreFullWrongFalsely : Prop := storeFullRow.holds Tryz.pinned (OpenSpec.ofChange storeFullWrong)

/-- 'duramenlaw20.StoreFolds': WHATEVER THE INPUT: true; the input reads as it did. -/
def storeFoldsSpec : ChangeSpec := { name := "storeFolds", fn := fun _ => fun
  | [d1, d2] => { results := [.lit (.bool true)], args := [d1, d2] }
  | _ => none }
def storeFoldsRow : OpenClaim := { program := "ythmlcohmlehddaagreatdoor", sum := "1e7f80ff0579ef5a1b8f6c8d7beda00456df1f5a41ed8804438d4d14beb09be4", func := "duramen/duramenlaw20.StoreFolds", spec := "storeFolds", inPlace := ["internal/bytealg.IndexByteString", "slices.overlaps[duramen/api.Version]", "slices.overlaps[duramen/api.Piece]"], unfollowed := true, recurses := true, named := ["internal/strconv.uint64pow10", "math/bits.deBruijn32tab", "math/bits.deBruijn64tab"], plainKeys := false, apart := false, laid := [("math/bits.deBruijn32tab", laid_math_bits_deBruijn32tab), ("math/bits.deBruijn64tab", laid_math_bits_deBruijn64tab), ("internal/strconv.uint64pow10", laid_internal_strconv_uint64pow10)] }
def StoreFoldsSaid : Prop := storeFoldsRow.holds Tryz.pinned (OpenSpec.ofChange storeFoldsSpec)

/-- ITS FALSE NEIGHBOUR: 'it returns false'. Refute it at one input. -/
def storeFoldsWrong : ChangeSpec := { name := "storeFolds", fn := fun _ => fun
  | [d1, d2] => { results := [.lit (.bool false)], args := [d1, d2] }
  | _ => none }
def StoreFoldsWrongFalsely : Prop := storeFoldsRow.holds Tryz.pinned (OpenSpec.ofChange storeFoldsWrong)

/-- 'duramenlaw20.StoreNow': WHATEVER THE INPUT: true; the input reads as it did. -/
def storeNowSpec : ChangeSpec := { name := "storeNow", fn := fun _ => fun
  | [d1, d2, d3, d4] => { results := [.lit (.bool true)], args := [d1, d2, d3, d4] }
  | _ => none }
def storeNowRow : OpenClaim := { program := "ythmlcohmlehddaagreatdoor", sum := "1e7f80ff0579ef5a1b8f6c8d7beda00456df1f5a41ed8804438d4d14beb09be4", func := "duramen/duramenlaw20.StoreNow", spec := "storeNow", inPlace := ["internal/bytealg.IndexByteString", "slices.overlaps[duramen/api.Version]", "slices.overlaps[duramen/api.Piece]"], unfollowed := true, recurses := true, named := ["internal/strconv.uint64pow10", "math/bits.deBruijn32tab", "math/bits.deBruijn64tab"], plainKeys := false, apart := false, laid := [("math/bits.deBruijn32tab", laid_math_bits_deBruijn32tab), ("math/bits.deBruijn64tab", laid_math_bits_deBruijn64tab), ("internal/strconv.uint64pow10", laid_internal_strconv_uint64pow10)] }
def StoreNowSaid : Prop := storeNowRow.holds Tryz.pinned (OpenSpec.ofChange storeNowSpec)

/-- ITS FALSE NEIGHBOUR: 'it returns false'. Refute it at one input. -/
def storeNowWrong : ChangeSpec := { name := "storeNow", fn := fun _ => fun
  | [d1, d2, d3, d4] => { results := [.lit (.bool false)], args := [d1, d2, d3, d4] }
  | _ => none }
def StoreNowWrongFalsely : Prop := storeNowRow.holds Tryz.pinned (OpenSpec.ofChange storeNowWrong)

/- THE SECOND FORM. 'bulk': how many values and letters a reading holds, each counted each time it is reached (what is shared counts as often as it is met; a slice's spare places count too). A statement '..UptoSaid' is the law's where the arguments, and the package variables that the reading takes, are together of bulk at most 1048576: NARROWER than '..Said'. Prove '..Said' where nothing that the law and all that it calls make is longer than what came in: it says more and counts as full. Else prove '..UptoSaid'. A law counts once. -/
mutual
def uptoBulk {H : Type} : DataW H → Nat
  | .lit (.string bytes) => bytes.length + 1
  | .lit _ => 1
  | .nil => 1
  | .ptr d => uptoBulk d + 1
  | .slice elems spare => uptoBulkAll elems + uptoBulkAll spare + 1
  | .agg parts => uptoBulkAll parts + 1
  | .iface _ d => uptoBulk d + 1
  | .map entries => uptoBulkEntries entries + 1
  | .held _ => 1
def uptoBulkAll {H : Type} : List (DataW H) → Nat
  | [] => 0
  | d :: r => uptoBulk d + uptoBulkAll r
def uptoBulkEntries {H : Type} : List (Lit × DataW H) → Nat
  | [] => 0
  | x :: r => uptoBulkEntry x + uptoBulkEntries r
def uptoBulkEntry {H : Type} : Lit × DataW H → Nat
  | (.string bytes, d) => bytes.length + uptoBulk d + 1
  | (_, d) => uptoBulk d + 1
 end
def uptoSmall : (H : Type) → List (DataW H) → Bool := fun _ ds => decide (uptoBulkAll ds ≤ 1048576)
def OpenSpec.upto (s : _root_.Go.ChangeSpec) : _root_.Go.OpenSpec := { _root_.Go.OpenSpec.ofChange s with cond := some uptoSmall }

/-- 'duramenlaw19.ArchiveFinds', WHERE WHAT IT READS IS OF BULK AT MOST 1048576: true; the input reads as it did. -/
def archiveFindsUptoRow : OpenClaim := { program := "ythmlcohmlehddaagreatdoor", sum := "1e7f80ff0579ef5a1b8f6c8d7beda00456df1f5a41ed8804438d4d14beb09be4", func := "duramen/duramenlaw19.ArchiveFinds", spec := "archiveFinds", inPlace := ["internal/bytealg.IndexByteString"], unfollowed := true, recurses := true, named := ["internal/strconv.uint64pow10", "math/bits.deBruijn32tab", "math/bits.deBruijn64tab"], plainKeys := false, apart := false, laid := [("math/bits.deBruijn32tab", laid_math_bits_deBruijn32tab), ("math/bits.deBruijn64tab", laid_math_bits_deBruijn64tab), ("internal/strconv.uint64pow10", laid_internal_strconv_uint64pow10)], narrowed := true }
def ArchiveFindsUptoSaid : Prop := archiveFindsUptoRow.holds Tryz.pinned (OpenSpec.upto archiveFindsSpec)

/-- 'duramenlaw20.StoreQuiet', WHERE WHAT IT READS IS OF BULK AT MOST 1048576: true; the input reads as it did. -/
def storeQuietUptoRow : OpenClaim := { program := "ythmlcohmlehddaagreatdoor", sum := "1e7f80ff0579ef5a1b8f6c8d7beda00456df1f5a41ed8804438d4d14beb09be4", func := "duramen/duramenlaw20.StoreQuiet", spec := "storeQuiet", inPlace := ["internal/bytealg.IndexByteString", "slices.overlaps[duramen/api.Version]", "slices.overlaps[duramen/api.Piece]"], unfollowed := true, recurses := true, named := ["internal/strconv.uint64pow10", "math/bits.deBruijn32tab", "math/bits.deBruijn64tab"], plainKeys := false, apart := false, laid := [("math/bits.deBruijn32tab", laid_math_bits_deBruijn32tab), ("math/bits.deBruijn64tab", laid_math_bits_deBruijn64tab), ("internal/strconv.uint64pow10", laid_internal_strconv_uint64pow10)], narrowed := true }
def StoreQuietUptoSaid : Prop := storeQuietUptoRow.holds Tryz.pinned (OpenSpec.upto storeQuietSpec)

/-- 'duramenlaw20.StoreRewinds', WHERE WHAT IT READS IS OF BULK AT MOST 1048576: true; the input reads as it did. -/
def storeRewindsUptoRow : OpenClaim := { program := "ythmlcohmlehddaagreatdoor", sum := "1e7f80ff0579ef5a1b8f6c8d7beda00456df1f5a41ed8804438d4d14beb09be4", func := "duramen/duramenlaw20.StoreRewinds", spec := "storeRewinds", inPlace := ["internal/bytealg.IndexByteString", "slices.overlaps[duramen/api.Version]", "slices.overlaps[duramen/api.Piece]"], unfollowed := true, recurses := true, named := ["internal/strconv.uint64pow10", "math/bits.deBruijn32tab", "math/bits.deBruijn64tab"], plainKeys := false, apart := false, laid := [("math/bits.deBruijn32tab", laid_math_bits_deBruijn32tab), ("math/bits.deBruijn64tab", laid_math_bits_deBruijn64tab), ("internal/strconv.uint64pow10", laid_internal_strconv_uint64pow10)], narrowed := true }
def StoreRewindsUptoSaid : Prop := storeRewindsUptoRow.holds Tryz.pinned (OpenSpec.upto storeRewindsSpec)

/-- 'duramenlaw20.StoreForks', WHERE WHAT IT READS IS OF BULK AT MOST 1048576: true; the input reads as it did. -/
def storeForksUptoRow : OpenClaim := { program := "ythmlcohmlehddaagreatdoor", sum := "1e7f80ff0579ef5a1b8f6c8d7beda00456df1f5a41ed8804438d4d14beb09be4", func := "duramen/duramenlaw20.StoreForks", spec := "storeForks", inPlace := ["internal/bytealg.IndexByteString", "slices.overlaps[duramen/api.Version]", "slices.overlaps[duramen/api.Piece]"], unfollowed := true, recurses := true, named := ["internal/strconv.uint64pow10", "math/bits.deBruijn32tab", "math/bits.deBruijn64tab"], plainKeys := false, apart := false, laid := [("math/bits.deBruijn32tab", laid_math_bits_deBruijn32tab), ("math/bits.deBruijn64tab", laid_math_bits_deBruijn64tab), ("internal/strconv.uint64pow10", laid_internal_strconv_uint64pow10)], narrowed := true }
def StoreForksUptoSaid : Prop := storeForksUptoRow.holds Tryz.pinned (OpenSpec.upto storeForksSpec)

/-- 'duramenlaw20.StoreNeeds', WHERE WHAT IT READS IS OF BULK AT MOST 1048576: true; the input reads as it did. -/
def storeNeedsUptoRow : OpenClaim := { program := "ythmlcohmlehddaagreatdoor", sum := "1e7f80ff0579ef5a1b8f6c8d7beda00456df1f5a41ed8804438d4d14beb09be4", func := "duramen/duramenlaw20.StoreNeeds", spec := "storeNeeds", inPlace := ["internal/bytealg.IndexByteString", "slices.overlaps[duramen/api.Version]", "slices.overlaps[duramen/api.Piece]"], unfollowed := true, recurses := true, named := ["internal/strconv.uint64pow10", "math/bits.deBruijn32tab", "math/bits.deBruijn64tab"], plainKeys := false, apart := false, laid := [("math/bits.deBruijn32tab", laid_math_bits_deBruijn32tab), ("math/bits.deBruijn64tab", laid_math_bits_deBruijn64tab), ("internal/strconv.uint64pow10", laid_internal_strconv_uint64pow10)], narrowed := true }
def StoreNeedsUptoSaid : Prop := storeNeedsUptoRow.holds Tryz.pinned (OpenSpec.upto storeNeedsSpec)

/-- 'duramenlaw20.StoreFull', WHERE WHAT IT READS IS OF BULK AT MOST 1048576: true; the input reads as it did. -/
def storeFullUptoRow : OpenClaim := { program := "ythmlcohmlehddaagreatdoor", sum := "1e7f80ff0579ef5a1b8f6c8d7beda00456df1f5a41ed8804438d4d14beb09be4", func := "duramen/duramenlaw20.StoreFull", spec := "storeFull", inPlace := ["internal/bytealg.IndexByteString", "slices.overlaps[duramen/api.Version]", "slices.overlaps[duramen/api.Piece]"], unfollowed := true, recurses := true, named := ["internal/strconv.uint64pow10", "math/bits.deBruijn32tab", "math/bits.deBruijn64tab"], plainKeys := false, apart := false, laid := [("math/bits.deBruijn32tab", laid_math_bits_deBruijn32tab), ("math/bits.deBruijn64tab", laid_math_bits_deBruijn64tab), ("internal/strconv.uint64pow10", laid_internal_strconv_uint64pow10)], narrowed := true }
def StoreFullUptoSaid : Prop := storeFullUptoRow.holds Tryz.pinned (OpenSpec.upto storeFullSpec)

/-- 'duramenlaw20.StoreFolds', WHERE WHAT IT READS IS OF BULK AT MOST 1048576: true; the input reads as it did. -/
def storeFoldsUptoRow : OpenClaim := { program := "ythmlcohmlehddaagreatdoor", sum := "1e7f80ff0579ef5a1b8f6c8d7beda00456df1f5a41ed8804438d4d14beb09be4", func := "duramen/duramenlaw20.StoreFolds", spec := "storeFolds", inPlace := ["internal/bytealg.IndexByteString", "slices.overlaps[duramen/api.Version]", "slices.overlaps[duramen/api.Piece]"], unfollowed := true, recurses := true, named := ["internal/strconv.uint64pow10", "math/bits.deBruijn32tab", "math/bits.deBruijn64tab"], plainKeys := false, apart := false, laid := [("math/bits.deBruijn32tab", laid_math_bits_deBruijn32tab), ("math/bits.deBruijn64tab", laid_math_bits_deBruijn64tab), ("internal/strconv.uint64pow10", laid_internal_strconv_uint64pow10)], narrowed := true }
def StoreFoldsUptoSaid : Prop := storeFoldsUptoRow.holds Tryz.pinned (OpenSpec.upto storeFoldsSpec)

/-- 'duramenlaw20.StoreNow', WHERE WHAT IT READS IS OF BULK AT MOST 1048576: true; the input reads as it did. -/
def storeNowUptoRow : OpenClaim := { program := "ythmlcohmlehddaagreatdoor", sum := "1e7f80ff0579ef5a1b8f6c8d7beda00456df1f5a41ed8804438d4d14beb09be4", func := "duramen/duramenlaw20.StoreNow", spec := "storeNow", inPlace := ["internal/bytealg.IndexByteString", "slices.overlaps[duramen/api.Version]", "slices.overlaps[duramen/api.Piece]"], unfollowed := true, recurses := true, named := ["internal/strconv.uint64pow10", "math/bits.deBruijn32tab", "math/bits.deBruijn64tab"], plainKeys := false, apart := false, laid := [("math/bits.deBruijn32tab", laid_math_bits_deBruijn32tab), ("math/bits.deBruijn64tab", laid_math_bits_deBruijn64tab), ("internal/strconv.uint64pow10", laid_internal_strconv_uint64pow10)], narrowed := true }
def StoreNowUptoSaid : Prop := storeNowUptoRow.holds Tryz.pinned (OpenSpec.upto storeNowSpec)

end Rows
end Go.Proofs.YthmlcohmlehddaaGreatDoor
