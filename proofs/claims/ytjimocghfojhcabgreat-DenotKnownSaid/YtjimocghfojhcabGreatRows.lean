/-
  No cell of these rows narrows 'for every input' (looked for: loops, veiled, ifaces, maps, wideKeys, modest, calm, conditions, laid).
  DERIVED. THE GIVEN ROWS OF THIS SEAT. 6 by the template 'for every input the law returns true; each argument reads behind the call as it read before'; 0 by the template 'total and deterministic' (their statements: YtjimocghfojhcabGreatTotals.lean).
  GIVEN WITH THE SEED: the statements are not yours to turn. If you find one false, say at which input.
  Laid BY PROGRAM, IN A SANDBOX (cutbox-rows.mjs): the forced cells as the released guide's own fill.sh prints them over the translation 1f555be2dbbf80c6… (all of the seat's roots in one cut). By AI agents, Wed Nov 11 2026. No macro, syntax, notation, axiom, sorry.
-/
import Derived.Test.YtjimocghfojhcabGreatChecked
import GoSem.Claim
import GoSem.ClaimJoined
import GoSem.ClaimMapViews
import Derived.JoinedTies
import Derived.KernelRfl
namespace Go.Proofs.YtjimocghfojhcabGreat
/- THE CELL 'sum', in the pinned program and in every row, IS THE sha256 OF THE DUMP (.gsa) THAT YtjimocghfojhcabGreatProg.lean LOADS. Nothing in Lean hashes anything: it is a label: what it is worth is what the hold of that sum in a sandbox is worth. -/
noncomputable def Tryz.pinned : Pinned := { name := "ytjimocghfojhcabgreat", sum := "1f555be2dbbf80c6036d094fe54fd0f47ad639df6629e383421609d872c44601", checked := Tryz.checked }
namespace Rows
def none {H : Type} : Left H := { results := [], args := [] }

/-- 'anabranchlaw11.PartKnown': WHATEVER THE INPUT: true; the input reads as it did. -/
def partKnownSpec : ChangeSpec := { name := "partKnown", fn := fun _ => fun
  | [] => { results := [.lit (.bool true)], args := [] }
  | _ => none }
def partKnownRow : OpenClaim := { program := "ytjimocghfojhcabgreat", sum := "1f555be2dbbf80c6036d094fe54fd0f47ad639df6629e383421609d872c44601", func := "anabranch/anabranchlaw11.PartKnown", spec := "partKnown", inPlace := ["math/bits.Add64"], unfollowed := true, recurses := true, plainKeys := false, apart := false }
def PartKnownSaid : Prop := partKnownRow.holds Tryz.pinned (OpenSpec.ofChange partKnownSpec)

/-- ITS FALSE NEIGHBOUR: 'it returns false'. Refute it at one input. -/
def partKnownWrong : ChangeSpec := { name := "partKnown", fn := fun _ => fun
  | [] => { results := [.lit (.bool false)], args := [] }
  | _ => none }
def PartKnownWrongFalsely : Prop := partKnownRow.holds Tryz.pinned (OpenSpec.ofChange partKnownWrong)

/-- 'anabranchlaw13.DenotTells': WHATEVER THE INPUT: true; the input reads as it did. -/
def denotTellsSpec : ChangeSpec := { name := "denotTells", fn := fun _ => fun
  | [d] => { results := [.lit (.bool true)], args := [d] }
  | _ => none }
def denotTellsRow : OpenClaim := { program := "ytjimocghfojhcabgreat", sum := "1f555be2dbbf80c6036d094fe54fd0f47ad639df6629e383421609d872c44601", func := "anabranch/anabranchlaw13.DenotTells", spec := "denotTells", inPlace := ["math/bits.Add64"], unfollowed := true, recurses := true, plainKeys := false, apart := false }
def DenotTellsSaid : Prop := denotTellsRow.holds Tryz.pinned (OpenSpec.ofChange denotTellsSpec)

/-- ITS FALSE NEIGHBOUR: 'it returns false'. Refute it at one input. -/
def denotTellsWrong : ChangeSpec := { name := "denotTells", fn := fun _ => fun
  | [d] => { results := [.lit (.bool false)], args := [d] }
  | _ => none }
def DenotTellsWrongFalsely : Prop := denotTellsRow.holds Tryz.pinned (OpenSpec.ofChange denotTellsWrong)

/-- 'anabranchlaw13.DenotMoves': WHATEVER THE INPUT: true; the input reads as it did. -/
def denotMovesSpec : ChangeSpec := { name := "denotMoves", fn := fun _ => fun
  | [d1, d2] => { results := [.lit (.bool true)], args := [d1, d2] }
  | _ => none }
def denotMovesRow : OpenClaim := { program := "ytjimocghfojhcabgreat", sum := "1f555be2dbbf80c6036d094fe54fd0f47ad639df6629e383421609d872c44601", func := "anabranch/anabranchlaw13.DenotMoves", spec := "denotMoves", inPlace := ["math/bits.Add64"], unfollowed := true, recurses := true, plainKeys := false, apart := false }
def DenotMovesSaid : Prop := denotMovesRow.holds Tryz.pinned (OpenSpec.ofChange denotMovesSpec)

/-- ITS FALSE NEIGHBOUR: 'it returns false'. Refute it at one input. -/
def denotMovesWrong : ChangeSpec := { name := "denotMoves", fn := fun _ => fun
  | [d1, d2] => { results := [.lit (.bool false)], args := [d1, d2] }
  | _ => none }
def DenotMovesWrongFalsely : Prop := denotMovesRow.holds Tryz.pinned (OpenSpec.ofChange denotMovesWrong)

/-- 'anabranchlaw13.DenotCounts': WHATEVER THE INPUT: true; the input reads as it did. -/
def denotCountsSpec : ChangeSpec := { name := "denotCounts", fn := fun _ => fun
  | [d1, d2, d3] => { results := [.lit (.bool true)], args := [d1, d2, d3] }
  | _ => none }
def denotCountsRow : OpenClaim := { program := "ytjimocghfojhcabgreat", sum := "1f555be2dbbf80c6036d094fe54fd0f47ad639df6629e383421609d872c44601", func := "anabranch/anabranchlaw13.DenotCounts", spec := "denotCounts", inPlace := ["math/bits.Add64"], unfollowed := true, recurses := true, plainKeys := false, apart := false }
def DenotCountsSaid : Prop := denotCountsRow.holds Tryz.pinned (OpenSpec.ofChange denotCountsSpec)

/-- ITS FALSE NEIGHBOUR: 'it returns false'. Refute it at one input. -/
def denotCountsWrong : ChangeSpec := { name := "denotCounts", fn := fun _ => fun
  | [d1, d2, d3] => { results := [.lit (.bool false)], args := [d1, d2, d3] }
  | _ => none }
def DenotCountsWrongFalsely : Prop := denotCountsRow.holds Tryz.pinned (OpenSpec.ofChange denotCountsWrong)

/-- 'anabranchlaw13.DenotKnown': WHATEVER THE INPUT: true; the input reads as it did. -/
def denotKnownSpec : ChangeSpec := { name := "denotKnown", fn := fun _ => fun
  | [] => { results := [.lit (.bool true)], args := [] }
  | _ => none }
def denotKnownRow : OpenClaim := { program := "ytjimocghfojhcabgreat", sum := "1f555be2dbbf80c6036d094fe54fd0f47ad639df6629e383421609d872c44601", func := "anabranch/anabranchlaw13.DenotKnown", spec := "denotKnown", inPlace := ["math/bits.Add64"], unfollowed := true, recurses := true, plainKeys := false, apart := false }
def DenotKnownSaid : Prop := denotKnownRow.holds Tryz.pinned (OpenSpec.ofChange denotKnownSpec)

/-- ITS FALSE NEIGHBOUR: 'it returns false'. Refute it at one input. -/
def denotKnownWrong : ChangeSpec := { name := "denotKnown", fn := fun _ => fun
  | [] => { results := [.lit (.bool false)], args := [] }
  | _ => none }
def DenotKnownWrongFalsely : Prop := denotKnownRow.holds Tryz.pinned (OpenSpec.ofChange denotKnownWrong)

/-- 'anabranchlaw13.DenotSorts': WHATEVER THE INPUT: true; the input reads as it did. -/
def denotSortsSpec : ChangeSpec := { name := "denotSorts", fn := fun _ => fun
  | [d] => { results := [.lit (.bool true)], args := [d] }
  | _ => none }
def denotSortsRow : OpenClaim := { program := "ytjimocghfojhcabgreat", sum := "1f555be2dbbf80c6036d094fe54fd0f47ad639df6629e383421609d872c44601", func := "anabranch/anabranchlaw13.DenotSorts", spec := "denotSorts", inPlace := ["math/bits.Add64"], unfollowed := true, recurses := true, plainKeys := false, apart := false }
def DenotSortsSaid : Prop := denotSortsRow.holds Tryz.pinned (OpenSpec.ofChange denotSortsSpec)

/-- ITS FALSE NEIGHBOUR: 'it returns false'. Refute it at one input. -/
def denotSortsWrong : ChangeSpec := { name := "denotSorts", fn := fun _ => fun
  | [d] => { results := [.lit (.bool false)], args := [d] }
  | _ => none }
def DenotSortsWrongFalsely : Prop := denotSortsRow.holds Tryz.pinned (OpenSpec.ofChange denotSortsWrong)

/- THE SECOND FORM. 'bulk': how many values and letters a reading holds, each counted each time it is reached (what is shared counts as often as it is met; a slice's spare places count too). A statement '..UptoSaid' is the law's where the arguments, and the package variables that the reading takes, are together of bulk at most 1048576: NARROWER than '..Said'. Prove '..Said' where nothing that the law and all that it calls make is longer than what came in: it says more and counts as full. Else prove '..UptoSaid'. A law counts once. -/
mutual
def uptoBulk {H : Type} : DataW H → Nat
  | .lit (.string bytes) => bytes.length + 1
  | .lit _ => 1
  | .nil => 1
  | .ptr d => uptoBulk d + 1
  | .slice elems spare => uptoBulkAll elems + uptoBulkAll spare + 1
  | .agg parts => uptoBulkAll parts + 1
  | .iface _ d => uptoBulk d + 1
  | .map entries => uptoBulkEntries entries + 1
  | .held _ => 1
def uptoBulkAll {H : Type} : List (DataW H) → Nat
  | [] => 0
  | d :: r => uptoBulk d + uptoBulkAll r
def uptoBulkEntries {H : Type} : List (Lit × DataW H) → Nat
  | [] => 0
  | x :: r => uptoBulkEntry x + uptoBulkEntries r
def uptoBulkEntry {H : Type} : Lit × DataW H → Nat
  | (.string bytes, d) => bytes.length + uptoBulk d + 1
  | (_, d) => uptoBulk d + 1
 end
def uptoSmall : (H : Type) → List (DataW H) → Bool := fun _ ds => decide (uptoBulkAll ds ≤ 1048576)
def OpenSpec.upto (s : _root_.Go.ChangeSpec) : _root_.Go.OpenSpec := { _root_.Go.OpenSpec.ofChange s with cond := some uptoSmall }

/-- 'anabranchlaw11.PartKnown', WHERE WHAT IT READS IS OF BULK AT MOST 1048576: true; the input reads as it did. -/
def partKnownUptoRow : OpenClaim := { program := "ytjimocghfojhcabgreat", sum := "1f555be2dbbf80c6036d094fe54fd0f47ad639df6629e383421609d872c44601", func := "anabranch/anabranchlaw11.PartKnown", spec := "partKnown", inPlace := ["math/bits.Add64"], unfollowed := true, recurses := true, plainKeys := false, apart := false, narrowed := true }
def PartKnownUptoSaid : Prop := partKnownUptoRow.holds Tryz.pinned (OpenSpec.upto partKnownSpec)

/-- 'anabranchlaw13.DenotTells', WHERE WHAT IT READS IS OF BULK AT MOST 1048576: true; the input reads as it did. -/
def denotTellsUptoRow : OpenClaim := { program := "ytjimocghfojhcabgreat", sum := "1f555be2dbbf80c6036d094fe54fd0f47ad639df6629e383421609d872c44601", func := "anabranch/anabranchlaw13.DenotTells", spec := "denotTells", inPlace := ["math/bits.Add64"], unfollowed := true, recurses := true, plainKeys := false, apart := false, narrowed := true }
def DenotTellsUptoSaid : Prop := denotTellsUptoRow.holds Tryz.pinned (OpenSpec.upto denotTellsSpec)

/-- 'anabranchlaw13.DenotMoves', WHERE WHAT IT READS IS OF BULK AT MOST 1048576: true; the input reads as it did. -/
def denotMovesUptoRow : OpenClaim := { program := "ytjimocghfojhcabgreat", sum := "1f555be2dbbf80c6036d094fe54fd0f47ad639df6629e383421609d872c44601", func := "anabranch/anabranchlaw13.DenotMoves", spec := "denotMoves", inPlace := ["math/bits.Add64"], unfollowed := true, recurses := true, plainKeys := false, apart := false, narrowed := true }
def DenotMovesUptoSaid : Prop := denotMovesUptoRow.holds Tryz.pinned (OpenSpec.upto denotMovesSpec)

/-- 'anabranchlaw13.DenotCounts', WHERE WHAT IT READS IS OF BULK AT MOST 1048576: true; the input reads as it did. -/
def denotCountsUptoRow : OpenClaim := { program := "ytjimocghfojhcabgreat", sum := "1f555be2dbbf80c6036d094fe54fd0f47ad639df6629e383421609d872c44601", func := "anabranch/anabranchlaw13.DenotCounts", spec := "denotCounts", inPlace := ["math/bits.Add64"], unfollowed := true, recurses := true, plainKeys := false, apart := false, narrowed := true }
def DenotCountsUptoSaid : Prop := denotCountsUptoRow.holds Tryz.pinned (OpenSpec.upto denotCountsSpec)

/-- 'anabranchlaw13.DenotKnown', WHERE WHAT IT READS IS OF BULK AT MOST 1048576: true; the input reads as it did. -/
def denotKnownUptoRow : OpenClaim := { program := "ytjimocghfojhcabgreat", sum := "1f555be2dbbf80c6036d094fe54fd0f47ad639df6629e383421609d872c44601", func := "anabranch/anabranchlaw13.DenotKnown", spec := "denotKnown", inPlace := ["math/bits.Add64"], unfollowed := true, recurses := true, plainKeys := false, apart := false, narrowed := true }
def DenotKnownUptoSaid : Prop := denotKnownUptoRow.holds Tryz.pinned (OpenSpec.upto denotKnownSpec)

/-- 'anabranchlaw13.DenotSorts', WHERE WHAT IT READS IS OF BULK AT MOST 1048576: true; the input reads as it did. -/
def denotSortsUptoRow : OpenClaim := { program := "ytjimocghfojhcabgreat", sum := "1f555be2dbbf80c6036d094fe54fd0f47ad639df6629e383421609d872c44601", func := "anabranch/anabranchlaw13.DenotSorts", spec := "denotSorts", inPlace := ["math/bits.Add64"], unfollowed := true, recurses := true, plainKeys := false, apart := false, narrowed := true }
def DenotSortsUptoSaid : Prop := denotSortsUptoRow.holds Tryz.pinned (OpenSpec.upto denotSortsSpec)

end Rows
end Go.Proofs.YtjimocghfojhcabGreat
