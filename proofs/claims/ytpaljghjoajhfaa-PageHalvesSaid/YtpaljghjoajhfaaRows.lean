/-
  No cell of these rows narrows 'for every input' (looked for: loops, veiled, ifaces, maps, wideKeys, modest, calm, conditions, laid).
  DERIVED. THE GIVEN ROWS OF THIS SEAT. 8 by the template 'for every input the law returns true; each argument reads behind the call as it read before'; 0 by the template 'total and deterministic' (their statements: YtpaljghjoajhfaaTotals.lean).
  GIVEN WITH THE SEED: the statements are not yours to turn. If you find one false, say at which input.
  Laid BY PROGRAM, IN A SANDBOX (cutbox-rows.mjs): the forced cells as the released guide's own fill.sh prints them over the translation aedc21d57b1642bf… (all of the seat's roots in one cut). By AI agents, Wed Nov 11 2026. No macro, syntax, notation, axiom, sorry.
-/
import Derived.Test.YtpaljghjoajhfaaChecked
import GoSem.Claim
import GoSem.ClaimJoined
import GoSem.ClaimMapViews
import Derived.JoinedTies
import Derived.KernelRfl
namespace Go.Proofs.Ytpaljghjoajhfaa
/- THE CELL 'sum', in the pinned program and in every row, IS THE sha256 OF THE DUMP (.gsa) THAT YtpaljghjoajhfaaProg.lean LOADS. Nothing in Lean hashes anything: it is a label: what it is worth is what the hold of that sum in a sandbox is worth. -/
noncomputable def Try.pinned : Pinned := { name := "ytpaljghjoajhfaa", sum := "aedc21d57b1642bf13f770a33859392f211e969edf26f6e908fed20dc81b72d4", checked := Try.checked }
namespace Rows
def none {H : Type} : Left H := { results := [], args := [] }

/-- 'ambrylaw08.PageWrites': WHATEVER THE INPUT: true; the input reads as it did. -/
def pageWritesSpec : ChangeSpec := { name := "pageWrites", fn := fun _ => fun
  | [d] => { results := [.lit (.bool true)], args := [d] }
  | _ => none }
def pageWritesRow : OpenClaim := { program := "ytpaljghjoajhfaa", sum := "aedc21d57b1642bf13f770a33859392f211e969edf26f6e908fed20dc81b72d4", func := "ambry/ambrylaw08.PageWrites", spec := "pageWrites", unfollowed := true, recurses := true, apart := false }
def PageWritesSaid : Prop := pageWritesRow.holds Try.pinned (OpenSpec.ofChange pageWritesSpec)

/-- ITS FALSE NEIGHBOUR: 'it returns false'. Refute it at one input. -/
def pageWritesWrong : ChangeSpec := { name := "pageWrites", fn := fun _ => fun
  | [d] => { results := [.lit (.bool false)], args := [d] }
  | _ => none }
def PageWritesWrongFalsely : Prop := pageWritesRow.holds Try.pinned (OpenSpec.ofChange pageWritesWrong)

/-- 'ambrylaw08.PageSplits': WHATEVER THE INPUT: true; the input reads as it did. -/
def pageSplitsSpec : ChangeSpec := { name := "pageSplits", fn := fun _ => fun
  | [d] => { results := [.lit (.bool true)], args := [d] }
  | _ => none }
def pageSplitsRow : OpenClaim := { program := "ytpaljghjoajhfaa", sum := "aedc21d57b1642bf13f770a33859392f211e969edf26f6e908fed20dc81b72d4", func := "ambry/ambrylaw08.PageSplits", spec := "pageSplits", unfollowed := true, recurses := true, apart := false }
def PageSplitsSaid : Prop := pageSplitsRow.holds Try.pinned (OpenSpec.ofChange pageSplitsSpec)

/-- ITS FALSE NEIGHBOUR: 'it returns false'. Refute it at one input. -/
def pageSplitsWrong : ChangeSpec := { name := "pageSplits", fn := fun _ => fun
  | [d] => { results := [.lit (.bool false)], args := [d] }
  | _ => none }
def PageSplitsWrongFalsely : Prop := pageSplitsRow.holds Try.pinned (OpenSpec.ofChange pageSplitsWrong)

/-- 'ambrylaw08.PageKids': WHATEVER THE INPUT: true; the input reads as it did. -/
def pageKidsSpec : ChangeSpec := { name := "pageKids", fn := fun _ => fun
  | [d1, d2, d3] => { results := [.lit (.bool true)], args := [d1, d2, d3] }
  | _ => none }
def pageKidsRow : OpenClaim := { program := "ytpaljghjoajhfaa", sum := "aedc21d57b1642bf13f770a33859392f211e969edf26f6e908fed20dc81b72d4", func := "ambry/ambrylaw08.PageKids", spec := "pageKids", unfollowed := true, recurses := true, apart := false }
def PageKidsSaid : Prop := pageKidsRow.holds Try.pinned (OpenSpec.ofChange pageKidsSpec)

/-- ITS FALSE NEIGHBOUR: 'it returns false'. Refute it at one input. -/
def pageKidsWrong : ChangeSpec := { name := "pageKids", fn := fun _ => fun
  | [d1, d2, d3] => { results := [.lit (.bool false)], args := [d1, d2, d3] }
  | _ => none }
def PageKidsWrongFalsely : Prop := pageKidsRow.holds Try.pinned (OpenSpec.ofChange pageKidsWrong)

/-- 'ambrylaw08.PageReads': WHATEVER THE INPUT: true; the input reads as it did. -/
def pageReadsSpec : ChangeSpec := { name := "pageReads", fn := fun _ => fun
  | [d] => { results := [.lit (.bool true)], args := [d] }
  | _ => none }
def pageReadsRow : OpenClaim := { program := "ytpaljghjoajhfaa", sum := "aedc21d57b1642bf13f770a33859392f211e969edf26f6e908fed20dc81b72d4", func := "ambry/ambrylaw08.PageReads", spec := "pageReads", unfollowed := true, recurses := true, apart := false }
def PageReadsSaid : Prop := pageReadsRow.holds Try.pinned (OpenSpec.ofChange pageReadsSpec)

/-- ITS FALSE NEIGHBOUR: 'it returns false'. Refute it at one input. -/
def pageReadsWrong : ChangeSpec := { name := "pageReads", fn := fun _ => fun
  | [d] => { results := [.lit (.bool false)], args := [d] }
  | _ => none }
def PageReadsWrongFalsely : Prop := pageReadsRow.holds Try.pinned (OpenSpec.ofChange pageReadsWrong)

/-- 'ambrylaw08.PageBack': WHATEVER THE INPUT: true; the input reads as it did. -/
def pageBackSpec : ChangeSpec := { name := "pageBack", fn := fun _ => fun
  | [d1, d2] => { results := [.lit (.bool true)], args := [d1, d2] }
  | _ => none }
def pageBackRow : OpenClaim := { program := "ytpaljghjoajhfaa", sum := "aedc21d57b1642bf13f770a33859392f211e969edf26f6e908fed20dc81b72d4", func := "ambry/ambrylaw08.PageBack", spec := "pageBack", unfollowed := true, recurses := true, apart := false }
def PageBackSaid : Prop := pageBackRow.holds Try.pinned (OpenSpec.ofChange pageBackSpec)

/-- ITS FALSE NEIGHBOUR: 'it returns false'. Refute it at one input. -/
def pageBackWrong : ChangeSpec := { name := "pageBack", fn := fun _ => fun
  | [d1, d2] => { results := [.lit (.bool false)], args := [d1, d2] }
  | _ => none }
def PageBackWrongFalsely : Prop := pageBackRow.holds Try.pinned (OpenSpec.ofChange pageBackWrong)

/-- 'ambrylaw08.PageTurns': WHATEVER THE INPUT: true; the input reads as it did. -/
def pageTurnsSpec : ChangeSpec := { name := "pageTurns", fn := fun _ => fun
  | [d1, d2, d3] => { results := [.lit (.bool true)], args := [d1, d2, d3] }
  | _ => none }
def pageTurnsRow : OpenClaim := { program := "ytpaljghjoajhfaa", sum := "aedc21d57b1642bf13f770a33859392f211e969edf26f6e908fed20dc81b72d4", func := "ambry/ambrylaw08.PageTurns", spec := "pageTurns", inPlace := ["slices.overlaps[string]"], unfollowed := true, recurses := true, apart := false }
def PageTurnsSaid : Prop := pageTurnsRow.holds Try.pinned (OpenSpec.ofChange pageTurnsSpec)

/-- ITS FALSE NEIGHBOUR: 'it returns false'. Refute it at one input. -/
def pageTurnsWrong : ChangeSpec := { name := "pageTurns", fn := fun _ => fun
  | [d1, d2, d3] => { results := [.lit (.bool false)], args := [d1, d2, d3] }
  | _ => none }
def PageTurnsWrongFalsely : Prop := pageTurnsRow.holds Try.pinned (OpenSpec.ofChange pageTurnsWrong)

/-- 'ambrylaw08.PagePut': WHATEVER THE INPUT: true; the input reads as it did. -/
def pagePutSpec : ChangeSpec := { name := "pagePut", fn := fun _ => fun
  | [d1, d2, d3, d4] => { results := [.lit (.bool true)], args := [d1, d2, d3, d4] }
  | _ => none }
def pagePutRow : OpenClaim := { program := "ytpaljghjoajhfaa", sum := "aedc21d57b1642bf13f770a33859392f211e969edf26f6e908fed20dc81b72d4", func := "ambry/ambrylaw08.PagePut", spec := "pagePut", inPlace := ["slices.overlaps[string]"], unfollowed := true, recurses := true, apart := false }
def PagePutSaid : Prop := pagePutRow.holds Try.pinned (OpenSpec.ofChange pagePutSpec)

/-- ITS FALSE NEIGHBOUR: 'it returns false'. Refute it at one input. -/
def pagePutWrong : ChangeSpec := { name := "pagePut", fn := fun _ => fun
  | [d1, d2, d3, d4] => { results := [.lit (.bool false)], args := [d1, d2, d3, d4] }
  | _ => none }
def PagePutWrongFalsely : Prop := pagePutRow.holds Try.pinned (OpenSpec.ofChange pagePutWrong)

/-- 'ambrylaw08.PageHalves': WHATEVER THE INPUT: true; the input reads as it did. -/
def pageHalvesSpec : ChangeSpec := { name := "pageHalves", fn := fun _ => fun
  | [d1, d2, d3] => { results := [.lit (.bool true)], args := [d1, d2, d3] }
  | _ => none }
def pageHalvesRow : OpenClaim := { program := "ytpaljghjoajhfaa", sum := "aedc21d57b1642bf13f770a33859392f211e969edf26f6e908fed20dc81b72d4", func := "ambry/ambrylaw08.PageHalves", spec := "pageHalves", inPlace := ["slices.overlaps[string]"], unfollowed := true, recurses := true, apart := false }
def PageHalvesSaid : Prop := pageHalvesRow.holds Try.pinned (OpenSpec.ofChange pageHalvesSpec)

/-- ITS FALSE NEIGHBOUR: 'it returns false'. Refute it at one input. -/
def pageHalvesWrong : ChangeSpec := { name := "pageHalves", fn := fun _ => fun
  | [d1, d2, d3] => { results := [.lit (.bool false)], args := [d1, d2, d3] }
  | _ => none }
def PageHalvesWrongFalsely : Prop := pageHalvesRow.holds Try.pinned (OpenSpec.ofChange pageHalvesWrong)

/- THE SECOND FORM. 'bulk': how many values and letters a reading holds, each counted each time it is reached (what is shared counts as often as it is met; a slice's spare places count too). A statement '..UptoSaid' is the law's where the arguments, and the package variables that the reading takes, are together of bulk at most 1048576: NARROWER than '..Said'. Prove '..Said' where nothing that the law and all that it calls make is longer than what came in: it says more and counts as full. Else prove '..UptoSaid'. A law counts once. -/
mutual
def uptoBulk {H : Type} : DataW H → Nat
  | .lit (.string bytes) => bytes.length + 1
  | .lit _ => 1
  | .nil => 1
  | .ptr d => uptoBulk d + 1
  | .slice elems spare => uptoBulkAll elems + uptoBulkAll spare + 1
  | .agg parts => uptoBulkAll parts + 1
  | .iface _ d => uptoBulk d + 1
  | .map entries => uptoBulkEntries entries + 1
  | .held _ => 1
def uptoBulkAll {H : Type} : List (DataW H) → Nat
  | [] => 0
  | d :: r => uptoBulk d + uptoBulkAll r
def uptoBulkEntries {H : Type} : List (Lit × DataW H) → Nat
  | [] => 0
  | x :: r => uptoBulkEntry x + uptoBulkEntries r
def uptoBulkEntry {H : Type} : Lit × DataW H → Nat
  | (.string bytes, d) => bytes.length + uptoBulk d + 1
  | (_, d) => uptoBulk d + 1
 end
def uptoSmall : (H : Type) → List (DataW H) → Bool := fun _ ds => decide (uptoBulkAll ds ≤ 1048576)
def OpenSpec.upto (s : _root_.Go.ChangeSpec) : _root_.Go.OpenSpec := { _root_.Go.OpenSpec.ofChange s with cond := some uptoSmall }

/-- 'ambrylaw08.PageWrites', WHERE WHAT IT READS IS OF BULK AT MOST 1048576: true; the input reads as it did. -/
def pageWritesUptoRow : OpenClaim := { program := "ytpaljghjoajhfaa", sum := "aedc21d57b1642bf13f770a33859392f211e969edf26f6e908fed20dc81b72d4", func := "ambry/ambrylaw08.PageWrites", spec := "pageWrites", unfollowed := true, recurses := true, apart := false, narrowed := true }
def PageWritesUptoSaid : Prop := pageWritesUptoRow.holds Try.pinned (OpenSpec.upto pageWritesSpec)

/-- 'ambrylaw08.PageSplits', WHERE WHAT IT READS IS OF BULK AT MOST 1048576: true; the input reads as it did. -/
def pageSplitsUptoRow : OpenClaim := { program := "ytpaljghjoajhfaa", sum := "aedc21d57b1642bf13f770a33859392f211e969edf26f6e908fed20dc81b72d4", func := "ambry/ambrylaw08.PageSplits", spec := "pageSplits", unfollowed := true, recurses := true, apart := false, narrowed := true }
def PageSplitsUptoSaid : Prop := pageSplitsUptoRow.holds Try.pinned (OpenSpec.upto pageSplitsSpec)

/-- 'ambrylaw08.PageKids', WHERE WHAT IT READS IS OF BULK AT MOST 1048576: true; the input reads as it did. -/
def pageKidsUptoRow : OpenClaim := { program := "ytpaljghjoajhfaa", sum := "aedc21d57b1642bf13f770a33859392f211e969edf26f6e908fed20dc81b72d4", func := "ambry/ambrylaw08.PageKids", spec := "pageKids", unfollowed := true, recurses := true, apart := false, narrowed := true }
def PageKidsUptoSaid : Prop := pageKidsUptoRow.holds Try.pinned (OpenSpec.upto pageKidsSpec)

/-- 'ambrylaw08.PageReads', WHERE WHAT IT READS IS OF BULK AT MOST 1048576: true; the input reads as it did. -/
def pageReadsUptoRow : OpenClaim := { program := "ytpaljghjoajhfaa", sum := "aedc21d57b1642bf13f770a33859392f211e969edf26f6e908fed20dc81b72d4", func := "ambry/ambrylaw08.PageReads", spec := "pageReads", unfollowed := true, recurses := true, apart := false, narrowed := true }
def PageReadsUptoSaid : Prop := pageReadsUptoRow.holds Try.pinned (OpenSpec.upto pageReadsSpec)

/-- 'ambrylaw08.PageBack', WHERE WHAT IT READS IS OF BULK AT MOST 1048576: true; the input reads as it did. -/
def pageBackUptoRow : OpenClaim := { program := "ytpaljghjoajhfaa", sum := "aedc21d57b1642bf13f770a33859392f211e969edf26f6e908fed20dc81b72d4", func := "ambry/ambrylaw08.PageBack", spec := "pageBack", unfollowed := true, recurses := true, apart := false, narrowed := true }
def PageBackUptoSaid : Prop := pageBackUptoRow.holds Try.pinned (OpenSpec.upto pageBackSpec)

/-- 'ambrylaw08.PageTurns', WHERE WHAT IT READS IS OF BULK AT MOST 1048576: true; the input reads as it did. -/
def pageTurnsUptoRow : OpenClaim := { program := "ytpaljghjoajhfaa", sum := "aedc21d57b1642bf13f770a33859392f211e969edf26f6e908fed20dc81b72d4", func := "ambry/ambrylaw08.PageTurns", spec := "pageTurns", inPlace := ["slices.overlaps[string]"], unfollowed := true, recurses := true, apart := false, narrowed := true }
def PageTurnsUptoSaid : Prop := pageTurnsUptoRow.holds Try.pinned (OpenSpec.upto pageTurnsSpec)

/-- 'ambrylaw08.PagePut', WHERE WHAT IT READS IS OF BULK AT MOST 1048576: true; the input reads as it did. -/
def pagePutUptoRow : OpenClaim := { program := "ytpaljghjoajhfaa", sum := "aedc21d57b1642bf13f770a33859392f211e969edf26f6e908fed20dc81b72d4", func := "ambry/ambrylaw08.PagePut", spec := "pagePut", inPlace := ["slices.overlaps[string]"], unfollowed := true, recurses := true, apart := false, narrowed := true }
def PagePutUptoSaid : Prop := pagePutUptoRow.holds Try.pinned (OpenSpec.upto pagePutSpec)

/-- 'ambrylaw08.PageHalves', WHERE WHAT IT READS IS OF BULK AT MOST 1048576: true; the input reads as it did. -/
def pageHalvesUptoRow : OpenClaim := { program := "ytpaljghjoajhfaa", sum := "aedc21d57b1642bf13f770a33859392f211e969edf26f6e908fed20dc81b72d4", func := "ambry/ambrylaw08.PageHalves", spec := "pageHalves", inPlace := ["slices.overlaps[string]"], unfollowed := true, recurses := true, apart := false, narrowed := true }
def PageHalvesUptoSaid : Prop := pageHalvesUptoRow.holds Try.pinned (OpenSpec.upto pageHalvesSpec)

end Rows
end Go.Proofs.Ytpaljghjoajhfaa
