/-
  No cell of these rows narrows 'for every input' (looked for: loops, veiled, ifaces, maps, wideKeys, modest, calm, conditions, laid).
  DERIVED. THE GIVEN ROWS OF THIS SEAT. 2 by the template 'for every input the law returns true; each argument reads behind the call as it read before'; 0 by the template 'total and deterministic' (their statements: YtdcbapghcmhgkaaGreatTotals.lean).
  GIVEN WITH THE SEED: the statements are not yours to turn. If you find one false, say at which input.
  Laid BY PROGRAM, IN A SANDBOX (cutbox-rows.mjs): the forced cells as the released guide's own fill.sh prints them over the translation b8f6a10a7099ef22… (all of the seat's roots in one cut). By AI agents, Wed Nov 11 2026. No macro, syntax, notation, axiom, sorry.
-/
import Derived.Test.YtdcbapghcmhgkaaGreatChecked
import GoSem.Claim
import GoSem.ClaimJoined
import GoSem.ClaimMapViews
import Derived.JoinedTies
import Derived.KernelRfl
namespace Go.Proofs.YtdcbapghcmhgkaaGreat
/- THE CELL 'sum', in the pinned program and in every row, IS THE sha256 OF THE DUMP (.gsa) THAT YtdcbapghcmhgkaaGreatProg.lean LOADS. Nothing in Lean hashes anything: it is a label: what it is worth is what the hold of that sum in a sandbox is worth. -/
noncomputable def Tryz.pinned : Pinned := { name := "ytdcbapghcmhgkaagreat", sum := "b8f6a10a7099ef22f2cd97b72fefa5cc5f56a36eeeeb04bd8cefc3b8a41b5f94", checked := Tryz.checked }
namespace Rows
def none {H : Type} : Left H := { results := [], args := [] }

/-- 'annuitantlaw08.ServiceSets': WHATEVER THE INPUT: true; the input reads as it did. -/
def serviceSetsSpec : ChangeSpec := { name := "serviceSets", fn := fun _ => fun
  | [d1, d2, d3, d4] => { results := [.lit (.bool true)], args := [d1, d2, d3, d4] }
  | _ => none }
def serviceSetsRow : OpenClaim := { program := "ytdcbapghcmhgkaagreat", sum := "b8f6a10a7099ef22f2cd97b72fefa5cc5f56a36eeeeb04bd8cefc3b8a41b5f94", func := "annuitant/annuitantlaw08.ServiceSets", spec := "serviceSets", unfollowed := true, recurses := true, named := ["math/bits.overflowError"], apart := false }
def ServiceSetsSaid : Prop := serviceSetsRow.holds Tryz.pinned (OpenSpec.ofChange serviceSetsSpec)

/-- ITS FALSE NEIGHBOUR: 'it returns false'. Refute it at one input. -/
def serviceSetsWrong : ChangeSpec := { name := "serviceSets", fn := fun _ => fun
  | [d1, d2, d3, d4] => { results := [.lit (.bool false)], args := [d1, d2, d3, d4] }
  | _ => none }
def ServiceSetsWrongFalsely : Prop := serviceSetsRow.holds Tryz.pinned (OpenSpec.ofChange serviceSetsWrong)

/-- 'annuitantlaw08.ServiceSmall': WHATEVER THE INPUT: true; the input reads as it did. -/
def serviceSmallSpec : ChangeSpec := { name := "serviceSmall", fn := fun _ => fun
  | [] => { results := [.lit (.bool true)], args := [] }
  | _ => none }
def serviceSmallRow : OpenClaim := { program := "ytdcbapghcmhgkaagreat", sum := "b8f6a10a7099ef22f2cd97b72fefa5cc5f56a36eeeeb04bd8cefc3b8a41b5f94", func := "annuitant/annuitantlaw08.ServiceSmall", spec := "serviceSmall", unfollowed := true, recurses := true, named := ["math/bits.overflowError"], apart := false }
def ServiceSmallSaid : Prop := serviceSmallRow.holds Tryz.pinned (OpenSpec.ofChange serviceSmallSpec)

/-- ITS FALSE NEIGHBOUR: 'it returns false'. Refute it at one input. -/
def serviceSmallWrong : ChangeSpec := { name := "serviceSmall", fn := fun _ => fun
  | [] => { results := [.lit (.bool false)], args := [] }
  | _ => none }
def ServiceSmallWrongFalsely : Prop := serviceSmallRow.holds Tryz.pinned (OpenSpec.ofChange serviceSmallWrong)

/- THE SECOND FORM. 'bulk': how many values and letters a reading holds, each counted each time it is reached (what is shared counts as often as it is met; a slice's spare places count too). A statement '..UptoSaid' is the law's where the arguments, and the package variables that the reading takes, are together of bulk at most 1048576: NARROWER than '..Said'. Prove '..Said' where nothing that the law and all that it calls make is longer than what came in: it says more and counts as full. Else prove '..UptoSaid'. A law counts once. -/
mutual
def uptoBulk {H : Type} : DataW H → Nat
  | .lit (.string bytes) => bytes.length + 1
  | .lit _ => 1
  | .nil => 1
  | .ptr d => uptoBulk d + 1
  | .slice elems spare => uptoBulkAll elems + uptoBulkAll spare + 1
  | .agg parts => uptoBulkAll parts + 1
  | .iface _ d => uptoBulk d + 1
  | .map entries => uptoBulkEntries entries + 1
  | .held _ => 1
def uptoBulkAll {H : Type} : List (DataW H) → Nat
  | [] => 0
  | d :: r => uptoBulk d + uptoBulkAll r
def uptoBulkEntries {H : Type} : List (Lit × DataW H) → Nat
  | [] => 0
  | x :: r => uptoBulkEntry x + uptoBulkEntries r
def uptoBulkEntry {H : Type} : Lit × DataW H → Nat
  | (.string bytes, d) => bytes.length + uptoBulk d + 1
  | (_, d) => uptoBulk d + 1
 end
def uptoSmall : (H : Type) → List (DataW H) → Bool := fun _ ds => decide (uptoBulkAll ds ≤ 1048576)
def OpenSpec.upto (s : _root_.Go.ChangeSpec) : _root_.Go.OpenSpec := { _root_.Go.OpenSpec.ofChange s with cond := some uptoSmall }

/-- 'annuitantlaw08.ServiceSets', WHERE WHAT IT READS IS OF BULK AT MOST 1048576: true; the input reads as it did. -/
def serviceSetsUptoRow : OpenClaim := { program := "ytdcbapghcmhgkaagreat", sum := "b8f6a10a7099ef22f2cd97b72fefa5cc5f56a36eeeeb04bd8cefc3b8a41b5f94", func := "annuitant/annuitantlaw08.ServiceSets", spec := "serviceSets", unfollowed := true, recurses := true, named := ["math/bits.overflowError"], apart := false, narrowed := true }
def ServiceSetsUptoSaid : Prop := serviceSetsUptoRow.holds Tryz.pinned (OpenSpec.upto serviceSetsSpec)

/-- 'annuitantlaw08.ServiceSmall', WHERE WHAT IT READS IS OF BULK AT MOST 1048576: true; the input reads as it did. -/
def serviceSmallUptoRow : OpenClaim := { program := "ytdcbapghcmhgkaagreat", sum := "b8f6a10a7099ef22f2cd97b72fefa5cc5f56a36eeeeb04bd8cefc3b8a41b5f94", func := "annuitant/annuitantlaw08.ServiceSmall", spec := "serviceSmall", unfollowed := true, recurses := true, named := ["math/bits.overflowError"], apart := false, narrowed := true }
def ServiceSmallUptoSaid : Prop := serviceSmallUptoRow.holds Tryz.pinned (OpenSpec.upto serviceSmallSpec)

end Rows
end Go.Proofs.YtdcbapghcmhgkaaGreat
