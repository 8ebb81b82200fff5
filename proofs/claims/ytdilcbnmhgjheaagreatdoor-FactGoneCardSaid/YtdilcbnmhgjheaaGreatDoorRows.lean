/-
  NARROWER THAN 'FOR EVERY INPUT', by the rows' own cells (each row's printed sentence says how): FactOrder: laid · FactLearns: laid · FactLast: laid · FactGone: laid · FactWrong: laid · FactLater: laid · FactDiffs: laid.
  DERIVED. THE GIVEN ROWS OF THIS SEAT. 7 by the template 'for every input the law returns true; each argument reads behind the call as it read before'; 0 by the template 'total and deterministic' (their statements: YtdilcbnmhgjheaaGreatDoorTotals.lean).
  GIVEN WITH THE SEED: the statements are not yours to turn. If you find one false, say at which input.
  Laid BY PROGRAM, IN A SANDBOX (cutbox-rows.mjs): the forced cells as the released guide's own fill.sh prints them over the translation 8f11a6256b76b0e4… (all of the seat's roots in one cut). By AI agents, Wed Nov 11 2026. No macro, syntax, notation, axiom, sorry.
-/
import Derived.Test.YtdilcbnmhgjheaaGreatDoorChecked
import GoSem.Claim
import GoSem.ClaimJoined
import GoSem.ClaimMapViews
import Derived.JoinedTies
import Derived.KernelRfl
namespace Go.Proofs.YtdilcbnmhgjheaaGreatDoor
/- THE CELL 'sum', in the pinned program and in every row, IS THE sha256 OF THE DUMP (.gsa) THAT YtdilcbnmhgjheaaGreatDoorProg.lean LOADS. Nothing in Lean hashes anything: it is a label: what it is worth is what the hold of that sum in a sandbox is worth. -/
noncomputable def Tryz.pinned : Pinned := { name := "ytdilcbnmhgjheaagreatdoor", sum := "8f11a6256b76b0e41bbeb29154ae2a12d55fae77f957b83600ce58d08a37de78", checked := Tryz.checked }
namespace Rows
def none {H : Type} : Left H := { results := [], args := [] }

/- WHAT THE LISTED PACKAGE-LEVEL VARIABLES READ AS WHEN THE CALL BEGINS. Each datum BY PROGRAM (the guide's laid-datum.mjs) off the statement by which the dump's own 'gosem.cut.vars' lays the variable. In a bare row this is a premise. The card (YtdilcbnmhgjheaaGreatDoorCards.lean) ties it to the program's text. -/
def laid_math_bits_deBruijn32tab {H : Type} : DataW H := .agg [.lit (.int .u8 0), .lit (.int .u8 1), .lit (.int .u8 28), .lit (.int .u8 2), .lit (.int .u8 29), .lit (.int .u8 14), .lit (.int .u8 24), .lit (.int .u8 3), .lit (.int .u8 30), .lit (.int .u8 22), .lit (.int .u8 20), .lit (.int .u8 15), .lit (.int .u8 25), .lit (.int .u8 17), .lit (.int .u8 4), .lit (.int .u8 8), .lit (.int .u8 31), .lit (.int .u8 27), .lit (.int .u8 13), .lit (.int .u8 23), .lit (.int .u8 21), .lit (.int .u8 19), .lit (.int .u8 16), .lit (.int .u8 7), .lit (.int .u8 26), .lit (.int .u8 12), .lit (.int .u8 18), .lit (.int .u8 6), .lit (.int .u8 11), .lit (.int .u8 5), .lit (.int .u8 10), .lit (.int .u8 9)]
def laid_math_bits_deBruijn64tab {H : Type} : DataW H := .agg [.lit (.int .u8 0), .lit (.int .u8 1), .lit (.int .u8 56), .lit (.int .u8 2), .lit (.int .u8 57), .lit (.int .u8 49), .lit (.int .u8 28), .lit (.int .u8 3), .lit (.int .u8 61), .lit (.int .u8 58), .lit (.int .u8 42), .lit (.int .u8 50), .lit (.int .u8 38), .lit (.int .u8 29), .lit (.int .u8 17), .lit (.int .u8 4), .lit (.int .u8 62), .lit (.int .u8 47), .lit (.int .u8 59), .lit (.int .u8 36), .lit (.int .u8 45), .lit (.int .u8 43), .lit (.int .u8 51), .lit (.int .u8 22), .lit (.int .u8 53), .lit (.int .u8 39), .lit (.int .u8 33), .lit (.int .u8 30), .lit (.int .u8 24), .lit (.int .u8 18), .lit (.int .u8 12), .lit (.int .u8 5), .lit (.int .u8 63), .lit (.int .u8 55), .lit (.int .u8 48), .lit (.int .u8 27), .lit (.int .u8 60), .lit (.int .u8 41), .lit (.int .u8 37), .lit (.int .u8 16), .lit (.int .u8 46), .lit (.int .u8 35), .lit (.int .u8 44), .lit (.int .u8 21), .lit (.int .u8 52), .lit (.int .u8 32), .lit (.int .u8 23), .lit (.int .u8 11), .lit (.int .u8 54), .lit (.int .u8 26), .lit (.int .u8 40), .lit (.int .u8 15), .lit (.int .u8 34), .lit (.int .u8 20), .lit (.int .u8 31), .lit (.int .u8 10), .lit (.int .u8 25), .lit (.int .u8 14), .lit (.int .u8 19), .lit (.int .u8 9), .lit (.int .u8 13), .lit (.int .u8 8), .lit (.int .u8 7), .lit (.int .u8 6)]
def laid_internal_strconv_uint64pow10 {H : Type} : DataW H := .agg [.lit (.int .u64 1), .lit (.int .u64 10), .lit (.int .u64 100), .lit (.int .u64 1000), .lit (.int .u64 10000), .lit (.int .u64 100000), .lit (.int .u64 1000000), .lit (.int .u64 10000000), .lit (.int .u64 100000000), .lit (.int .u64 1000000000), .lit (.int .u64 10000000000), .lit (.int .u64 100000000000), .lit (.int .u64 1000000000000), .lit (.int .u64 10000000000000), .lit (.int .u64 100000000000000), .lit (.int .u64 1000000000000000), .lit (.int .u64 10000000000000000), .lit (.int .u64 100000000000000000), .lit (.int .u64 1000000000000000000), .lit (.int .u64 10000000000000000000)]

/-- 'annuitantlaw06.FactOrder': WHATEVER THE INPUT: true; the input reads as it did. -/
def factOrderSpec : ChangeSpec := { name := "factOrder", fn := fun _ => fun
  | [d1, d2] => { results := [.lit (.bool true)], args := [d1, d2] }
  | _ => none }
def factOrderRow : OpenClaim := { program := "ytdilcbnmhgjheaagreatdoor", sum := "8f11a6256b76b0e41bbeb29154ae2a12d55fae77f957b83600ce58d08a37de78", func := "annuitant/annuitantlaw06.FactOrder", spec := "factOrder", unfollowed := true, recurses := true, named := ["math/bits.overflowError", "internal/strconv.uint64pow10", "math/bits.deBruijn32tab", "math/bits.deBruijn64tab"], apart := false, laid := [("math/bits.deBruijn32tab", laid_math_bits_deBruijn32tab), ("math/bits.deBruijn64tab", laid_math_bits_deBruijn64tab), ("internal/strconv.uint64pow10", laid_internal_strconv_uint64pow10)] }
def FactOrderSaid : Prop := factOrderRow.holds Tryz.pinned (OpenSpec.ofChange factOrderSpec)

/-- ITS FALSE NEIGHBOUR: 'it returns false'. Refute it at one input. -/
def factOrderWrong : ChangeSpec := { name := "factOrder", fn := fun _ => fun
  | [d1, d2] => { results := [.lit (.bool false)], args := [d1, d2] }
  | _ => none }
def FactOrderWrongFalsely : Prop := factOrderRow.holds Tryz.pinned (OpenSpec.ofChange factOrderWrong)

/-- 'annuitantlaw06.FactLearns': WHATEVER THE INPUT: true; the input reads as it did. -/
def factLearnsSpec : ChangeSpec := { name := "factLearns", fn := fun _ => fun
  | [d1, d2] => { results := [.lit (.bool true)], args := [d1, d2] }
  | _ => none }
def factLearnsRow : OpenClaim := { program := "ytdilcbnmhgjheaagreatdoor", sum := "8f11a6256b76b0e41bbeb29154ae2a12d55fae77f957b83600ce58d08a37de78", func := "annuitant/annuitantlaw06.FactLearns", spec := "factLearns", unfollowed := true, recurses := true, named := ["math/bits.overflowError", "internal/strconv.uint64pow10", "math/bits.deBruijn32tab", "math/bits.deBruijn64tab"], apart := false, laid := [("math/bits.deBruijn32tab", laid_math_bits_deBruijn32tab), ("math/bits.deBruijn64tab", laid_math_bits_deBruijn64tab), ("internal/strconv.uint64pow10", laid_internal_strconv_uint64pow10)] }
def FactLearnsSaid : Prop := factLearnsRow.holds Tryz.pinned (OpenSpec.ofChange factLearnsSpec)

/-- ITS FALSE NEIGHBOUR: 'it returns false'. Refute it at one input. -/
def factLearnsWrong : ChangeSpec := { name := "factLearns", fn := fun _ => fun
  | [d1, d2] => { results := [.lit (.bool false)], args := [d1, d2] }
  | _ => none }
def FactLearnsWrongFalsely : Prop := factLearnsRow.holds Tryz.pinned (OpenSpec.ofChange factLearnsWrong)

/-- 'annuitantlaw06.FactLast': WHATEVER THE INPUT: true; the input reads as it did. -/
def factLastSpec : ChangeSpec := { name := "factLast", fn := fun _ => fun
  | [d1, d2, d3] => { results := [.lit (.bool true)], args := [d1, d2, d3] }
  | _ => none }
def factLastRow : OpenClaim := { program := "ytdilcbnmhgjheaagreatdoor", sum := "8f11a6256b76b0e41bbeb29154ae2a12d55fae77f957b83600ce58d08a37de78", func := "annuitant/annuitantlaw06.FactLast", spec := "factLast", unfollowed := true, recurses := true, named := ["math/bits.overflowError", "internal/strconv.uint64pow10", "math/bits.deBruijn32tab", "math/bits.deBruijn64tab"], apart := false, laid := [("math/bits.deBruijn32tab", laid_math_bits_deBruijn32tab), ("math/bits.deBruijn64tab", laid_math_bits_deBruijn64tab), ("internal/strconv.uint64pow10", laid_internal_strconv_uint64pow10)] }
def FactLastSaid : Prop := factLastRow.holds Tryz.pinned (OpenSpec.ofChange factLastSpec)

/-- ITS FALSE NEIGHBOUR: 'it returns false'. Refute it at one input. -/
def factLastWrong : ChangeSpec := { name := "factLast", fn := fun _ => fun
  | [d1, d2, d3] => { results := [.lit (.bool false)], args := [d1, d2, d3] }
  | _ => none }
def FactLastWrongFalsely : Prop := factLastRow.holds Tryz.pinned (OpenSpec.ofChange factLastWrong)

/-- 'annuitantlaw06.FactGone': WHATEVER THE INPUT: true; the input reads as it did. -/
def factGoneSpec : ChangeSpec := { name := "factGone", fn := fun _ => fun
  | [d] => { results := [.lit (.bool true)], args := [d] }
  | _ => none }
def factGoneRow : OpenClaim := { program := "ytdilcbnmhgjheaagreatdoor", sum := "8f11a6256b76b0e41bbeb29154ae2a12d55fae77f957b83600ce58d08a37de78", func := "annuitant/annuitantlaw06.FactGone", spec := "factGone", unfollowed := true, recurses := true, named := ["math/bits.overflowError", "internal/strconv.uint64pow10", "math/bits.deBruijn32tab", "math/bits.deBruijn64tab"], apart := false, laid := [("math/bits.deBruijn32tab", laid_math_bits_deBruijn32tab), ("math/bits.deBruijn64tab", laid_math_bits_deBruijn64tab), ("internal/strconv.uint64pow10", laid_internal_strconv_uint64pow10)] }
def FactGoneSaid : Prop := factGoneRow.holds Tryz.pinned (OpenSpec.ofChange factGoneSpec)

/-- ITS FALSE NEIGHBOUR: 'it returns false'. Refute it at one input. -/
def factGoneWrong : ChangeSpec := { name := "factGone", fn := fun _ => fun
  | [d] => { results := [.lit (.bool false)], args := [d] }
  | _ => none }
def FactGoneWrongFalsely : Prop := factGoneRow.holds Tryz.pinned (OpenSpec.ofChange factGoneWrong)

/-- 'annuitantlaw06.FactWrong': WHATEVER THE INPUT: true; the input reads as it did. -/
def factWrongSpec : ChangeSpec := { name := "factWrong", fn := fun _ => fun
  | [d1, d2, d3] => { results := [.lit (.bool true)], args := [d1, d2, d3] }
  | _ => none }
def factWrongRow : OpenClaim := { program := "ytdilcbnmhgjheaagreatdoor", sum := "8f11a6256b76b0e41bbeb29154ae2a12d55fae77f957b83600ce58d08a37de78", func := "annuitant/annuitantlaw06.FactWrong", spec := "factWrong", unfollowed := true, recurses := true, named := ["math/bits.overflowError", "internal/strconv.uint64pow10", "math/bits.deBruijn32tab", "math/bits.deBruijn64tab"], apart := false, laid := [("math/bits.deBruijn32tab", laid_math_bits_deBruijn32tab), ("math/bits.deBruijn64tab", laid_math_bits_deBruijn64tab), ("internal/strconv.uint64pow10", laid_internal_strconv_uint64pow10)] }
def FactWrongSaid : Prop := factWrongRow.holds Tryz.pinned (OpenSpec.ofChange factWrongSpec)

/-- ITS FALSE NEIGHBOUR: 'it returns false'. Refute it at one input. -/
def factWrongWrong : ChangeSpec := { name := "factWrong", fn := fun _ => fun
  | [d1, d2, d3] => { results := [.lit (.bool false)], args := [d1, d2, d3] }
  | _ => none }
def FactWrongWrongFalsely : Prop := factWrongRow.holds Tryz.pinned (OpenSpec.ofChange factWrongWrong)

/-- 'annuitantlaw06.FactLater': WHATEVER THE INPUT: true; the input reads as it did. -/
def factLaterSpec : ChangeSpec := { name := "factLater", fn := fun _ => fun
  | [d1, d2, d3] => { results := [.lit (.bool true)], args := [d1, d2, d3] }
  | _ => none }
def factLaterRow : OpenClaim := { program := "ytdilcbnmhgjheaagreatdoor", sum := "8f11a6256b76b0e41bbeb29154ae2a12d55fae77f957b83600ce58d08a37de78", func := "annuitant/annuitantlaw06.FactLater", spec := "factLater", unfollowed := true, recurses := true, named := ["math/bits.overflowError", "internal/strconv.uint64pow10", "math/bits.deBruijn32tab", "math/bits.deBruijn64tab"], apart := false, laid := [("math/bits.deBruijn32tab", laid_math_bits_deBruijn32tab), ("math/bits.deBruijn64tab", laid_math_bits_deBruijn64tab), ("internal/strconv.uint64pow10", laid_internal_strconv_uint64pow10)] }
def FactLaterSaid : Prop := factLaterRow.holds Tryz.pinned (OpenSpec.ofChange factLaterSpec)

/-- ITS FALSE NEIGHBOUR: 'it returns false'. Refute it at one input. -/
def factLaterWrong : ChangeSpec := { name := "factLater", fn := fun _ => fun
  | [d1, d2, d3] => { results := [.lit (.bool false)], args := [d1, d2, d3] }
  | _ => none }
def FactLaterWrongFalsely : Prop := factLaterRow.holds Tryz.pinned (OpenSpec.ofChange factLaterWrong)

/-- 'annuitantlaw06.FactDiffs': WHATEVER THE INPUT: true; the input reads as it did. -/
def factDiffsSpec : ChangeSpec := { name := "factDiffs", fn := fun _ => fun
  | [d1, d2, d3, d4] => { results := [.lit (.bool true)], args := [d1, d2, d3, d4] }
  | _ => none }
def factDiffsRow : OpenClaim := { program := "ytdilcbnmhgjheaagreatdoor", sum := "8f11a6256b76b0e41bbeb29154ae2a12d55fae77f957b83600ce58d08a37de78", func := "annuitant/annuitantlaw06.FactDiffs", spec := "factDiffs", unfollowed := true, recurses := true, named := ["math/bits.overflowError", "internal/strconv.uint64pow10", "math/bits.deBruijn32tab", "math/bits.deBruijn64tab"], apart := false, laid := [("math/bits.deBruijn32tab", laid_math_bits_deBruijn32tab), ("math/bits.deBruijn64tab", laid_math_bits_deBruijn64tab), ("internal/strconv.uint64pow10", laid_internal_strconv_uint64pow10)] }
def FactDiffsSaid : Prop := factDiffsRow.holds Tryz.pinned (OpenSpec.ofChange factDiffsSpec)

/-- ITS FALSE NEIGHBOUR: 'it returns false'. Refute it at one input. -/
def factDiffsWrong : ChangeSpec := { name := "factDiffs", fn := fun _ => fun
  | [d1, d2, d3, d4] => { results := [.lit (.bool false)], args := [d1, d2, d3, d4] }
  | _ => none }
def FactDiffsWrongFalsely : Prop := factDiffsRow.holds Tryz.pinned (OpenSpec.ofChange factDiffsWrong)

/- THE SECOND FORM. 'bulk': how many values and letters a reading holds, each counted each time it is reached (what is shared counts as often as it is met; a slice's spare places count too). A statement '..UptoSaid' is the law's where the arguments, and the package variables that the reading takes, are together of bulk at most 1048576: NARROWER than '..Said'. Prove '..Said' where nothing that the law and all that it calls make is longer than what came in: it says more and counts as full. Else prove '..UptoSaid'. A law counts once. -/
mutual
def uptoBulk {H : Type} : DataW H → Nat
  | .lit (.string bytes) => bytes.length + 1
  | .lit _ => 1
  | .nil => 1
  | .ptr d => uptoBulk d + 1
  | .slice elems spare => uptoBulkAll elems + uptoBulkAll spare + 1
  | .agg parts => uptoBulkAll parts + 1
  | .iface _ d => uptoBulk d + 1
  | .map entries => uptoBulkEntries entries + 1
  | .held _ => 1
def uptoBulkAll {H : Type} : List (DataW H) → Nat
  | [] => 0
  | d :: r => uptoBulk d + uptoBulkAll r
def uptoBulkEntries {H : Type} : List (Lit × DataW H) → Nat
  | [] => 0
  | x :: r => uptoBulkEntry x + uptoBulkEntries r
def uptoBulkEntry {H : Type} : Lit × DataW H → Nat
  | (.string bytes, d) => bytes.length + uptoBulk d + 1
  | (_, d) => uptoBulk d + 1
 end
def uptoSmall : (H : Type) → List (DataW H) → Bool := fun _ ds => decide (uptoBulkAll ds ≤ 1048576)
def OpenSpec.upto (s : _root_.Go.ChangeSpec) : _root_.Go.OpenSpec := { _root_.Go.OpenSpec.ofChange s with cond := some uptoSmall }

/-- 'annuitantlaw06.FactOrder', WHERE WHAT IT READS IS OF BULK AT MOST 1048576: true; the input reads as it did. -/
def factOrderUptoRow : OpenClaim := { program := "ytdilcbnmhgjheaagreatdoor", sum := "8f11a6256b76b0e41bbeb29154ae2a12d55fae77f957b83600ce58d08a37de78", func := "annuitant/annuitantlaw06.FactOrder", spec := "factOrder", unfollowed := true, recurses := true, named := ["math/bits.overflowError", "internal/strconv.uint64pow10", "math/bits.deBruijn32tab", "math/bits.deBruijn64tab"], apart := false, laid := [("math/bits.deBruijn32tab", laid_math_bits_deBruijn32tab), ("math/bits.deBruijn64tab", laid_math_bits_deBruijn64tab), ("internal/strconv.uint64pow10", laid_internal_strconv_uint64pow10)], narrowed := true }
def FactOrderUptoSaid : Prop := factOrderUptoRow.holds Tryz.pinned (OpenSpec.upto factOrderSpec)

/-- 'annuitantlaw06.FactLearns', WHERE WHAT IT READS IS OF BULK AT MOST 1048576: true; the input reads as it did. -/
def factLearnsUptoRow : OpenClaim := { program := "ytdilcbnmhgjheaagreatdoor", sum := "8f11a6256b76b0e41bbeb29154ae2a12d55fae77f957b83600ce58d08a37de78", func := "annuitant/annuitantlaw06.FactLearns", spec := "factLearns", unfollowed := true, recurses := true, named := ["math/bits.overflowError", "internal/strconv.uint64pow10", "math/bits.deBruijn32tab", "math/bits.deBruijn64tab"], apart := false, laid := [("math/bits.deBruijn32tab", laid_math_bits_deBruijn32tab), ("math/bits.deBruijn64tab", laid_math_bits_deBruijn64tab), ("internal/strconv.uint64pow10", laid_internal_strconv_uint64pow10)], narrowed := true }
def FactLearnsUptoSaid : Prop := factLearnsUptoRow.holds Tryz.pinned (OpenSpec.upto factLearnsSpec)

/-- 'annuitantlaw06.FactLast', WHERE WHAT IT READS IS OF BULK AT MOST 1048576: true; the input reads as it did. -/
def factLastUptoRow : OpenClaim := { program := "ytdilcbnmhgjheaagreatdoor", sum := "8f11a6256b76b0e41bbeb29154ae2a12d55fae77f957b83600ce58d08a37de78", func := "annuitant/annuitantlaw06.FactLast", spec := "factLast", unfollowed := true, recurses := true, named := ["math/bits.overflowError", "internal/strconv.uint64pow10", "math/bits.deBruijn32tab", "math/bits.deBruijn64tab"], apart := false, laid := [("math/bits.deBruijn32tab", laid_math_bits_deBruijn32tab), ("math/bits.deBruijn64tab", laid_math_bits_deBruijn64tab), ("internal/strconv.uint64pow10", laid_internal_strconv_uint64pow10)], narrowed := true }
def FactLastUptoSaid : Prop := factLastUptoRow.holds Tryz.pinned (OpenSpec.upto factLastSpec)

/-- 'annuitantlaw06.FactGone', WHERE WHAT IT READS IS OF BULK AT MOST 1048576: true; the input reads as it did. -/
def factGoneUptoRow : OpenClaim := { program := "ytdilcbnmhgjheaagreatdoor", sum := "8f11a6256b76b0e41bbeb29154ae2a12d55fae77f957b83600ce58d08a37de78", func := "annuitant/annuitantlaw06.FactGone", spec := "factGone", unfollowed := true, recurses := true, named := ["math/bits.overflowError", "internal/strconv.uint64pow10", "math/bits.deBruijn32tab", "math/bits.deBruijn64tab"], apart := false, laid := [("math/bits.deBruijn32tab", laid_math_bits_deBruijn32tab), ("math/bits.deBruijn64tab", laid_math_bits_deBruijn64tab), ("internal/strconv.uint64pow10", laid_internal_strconv_uint64pow10)], narrowed := true }
def FactGoneUptoSaid : Prop := factGoneUptoRow.holds Tryz.pinned (OpenSpec.upto factGoneSpec)

/-- 'annuitantlaw06.FactWrong', WHERE WHAT IT READS IS OF BULK AT MOST 1048576: true; the input reads as it did. -/
def factWrongUptoRow : OpenClaim := { program := "ytdilcbnmhgjheaagreatdoor", sum := "8f11a6256b76b0e41bbeb29154ae2a12d55fae77f957b83600ce58d08a37de78", func := "annuitant/annuitantlaw06.FactWrong", spec := "factWrong", unfollowed := true, recurses := true, named := ["math/bits.overflowError", "internal/strconv.uint64pow10", "math/bits.deBruijn32tab", "math/bits.deBruijn64tab"], apart := false, laid := [("math/bits.deBruijn32tab", laid_math_bits_deBruijn32tab), ("math/bits.deBruijn64tab", laid_math_bits_deBruijn64tab), ("internal/strconv.uint64pow10", laid_internal_strconv_uint64pow10)], narrowed := true }
def FactWrongUptoSaid : Prop := factWrongUptoRow.holds Tryz.pinned (OpenSpec.upto factWrongSpec)

/-- 'annuitantlaw06.FactLater', WHERE WHAT IT READS IS OF BULK AT MOST 1048576: true; the input reads as it did. -/
def factLaterUptoRow : OpenClaim := { program := "ytdilcbnmhgjheaagreatdoor", sum := "8f11a6256b76b0e41bbeb29154ae2a12d55fae77f957b83600ce58d08a37de78", func := "annuitant/annuitantlaw06.FactLater", spec := "factLater", unfollowed := true, recurses := true, named := ["math/bits.overflowError", "internal/strconv.uint64pow10", "math/bits.deBruijn32tab", "math/bits.deBruijn64tab"], apart := false, laid := [("math/bits.deBruijn32tab", laid_math_bits_deBruijn32tab), ("math/bits.deBruijn64tab", laid_math_bits_deBruijn64tab), ("internal/strconv.uint64pow10", laid_internal_strconv_uint64pow10)], narrowed := true }
def FactLaterUptoSaid : Prop := factLaterUptoRow.holds Tryz.pinned (OpenSpec.upto factLaterSpec)

/-- 'annuitantlaw06.FactDiffs', WHERE WHAT IT READS IS OF BULK AT MOST 1048576: true; the input reads as it did. -/
def factDiffsUptoRow : OpenClaim := { program := "ytdilcbnmhgjheaagreatdoor", sum := "8f11a6256b76b0e41bbeb29154ae2a12d55fae77f957b83600ce58d08a37de78", func := "annuitant/annuitantlaw06.FactDiffs", spec := "factDiffs", unfollowed := true, recurses := true, named := ["math/bits.overflowError", "internal/strconv.uint64pow10", "math/bits.deBruijn32tab", "math/bits.deBruijn64tab"], apart := false, laid := [("math/bits.deBruijn32tab", laid_math_bits_deBruijn32tab), ("math/bits.deBruijn64tab", laid_math_bits_deBruijn64tab), ("internal/strconv.uint64pow10", laid_internal_strconv_uint64pow10)], narrowed := true }
def FactDiffsUptoSaid : Prop := factDiffsUptoRow.holds Tryz.pinned (OpenSpec.upto factDiffsSpec)

end Rows
end Go.Proofs.YtdilcbnmhgjheaaGreatDoor
