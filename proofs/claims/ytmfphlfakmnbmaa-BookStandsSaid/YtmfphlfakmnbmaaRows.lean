/-
  No cell of these rows narrows 'for every input' (looked for: loops, veiled, ifaces, maps, wideKeys, modest, calm, conditions, laid).
  DERIVED. THE GIVEN ROWS OF THIS SEAT. 18 by the template 'for every input the law returns true; each argument reads behind the call as it read before'; 0 by the template 'total and deterministic' (their statements: YtmfphlfakmnbmaaTotals.lean).
  GIVEN WITH THE SEED: the statements are not yours to turn. If you find one false, say at which input.
  Laid BY PROGRAM, IN A SANDBOX (cutbox-rows.mjs): the forced cells as the released guide's own fill.sh prints them over the translation 7c45ee9275b26942… (all of the seat's roots in one cut). By AI agents, Wed Nov 11 2026. No macro, syntax, notation, axiom, sorry.
-/
import Derived.Test.YtmfphlfakmnbmaaChecked
import GoSem.Claim
import GoSem.ClaimJoined
import GoSem.ClaimMapViews
import Derived.JoinedTies
import Derived.KernelRfl
namespace Go.Proofs.Ytmfphlfakmnbmaa
/- THE CELL 'sum', in the pinned program and in every row, IS THE sha256 OF THE DUMP (.gsa) THAT YtmfphlfakmnbmaaProg.lean LOADS. Nothing in Lean hashes anything: it is a label: what it is worth is what the hold of that sum in a sandbox is worth. -/
noncomputable def Try.pinned : Pinned := { name := "ytmfphlfakmnbmaa", sum := "7c45ee9275b269425ae5eae1d75f9d105a6a0430da50c9674908d820ee2cc3ab", checked := Try.checked }
namespace Rows
def none {H : Type} : Left H := { results := [], args := [] }

/-- 'calxlaw08.BookJoins': WHATEVER THE INPUT: true; the input reads as it did. -/
def bookJoinsSpec : ChangeSpec := { name := "bookJoins", fn := fun _ => fun
  | [d1, d2] => { results := [.lit (.bool true)], args := [d1, d2] }
  | _ => none }
def bookJoinsRow : OpenClaim := { program := "ytmfphlfakmnbmaa", sum := "7c45ee9275b269425ae5eae1d75f9d105a6a0430da50c9674908d820ee2cc3ab", func := "calx/calxlaw08.BookJoins", spec := "bookJoins", unfollowed := true, recurses := true, plainKeys := false, apart := false }
def BookJoinsSaid : Prop := bookJoinsRow.holds Try.pinned (OpenSpec.ofChange bookJoinsSpec)

/-- ITS FALSE NEIGHBOUR: 'it returns false'. Refute it at one input. -/
def bookJoinsWrong : ChangeSpec := { name := "bookJoins", fn := fun _ => fun
  | [d1, d2] => { results := [.lit (.bool false)], args := [d1, d2] }
  | _ => none }
def BookJoinsWrongFalsely : Prop := bookJoinsRow.holds Try.pinned (OpenSpec.ofChange bookJoinsWrong)

/-- 'calxlaw08.BookAgrees': WHATEVER THE INPUT: true; the input reads as it did. -/
def bookAgreesSpec : ChangeSpec := { name := "bookAgrees", fn := fun _ => fun
  | [d1, d2, d3] => { results := [.lit (.bool true)], args := [d1, d2, d3] }
  | _ => none }
def bookAgreesRow : OpenClaim := { program := "ytmfphlfakmnbmaa", sum := "7c45ee9275b269425ae5eae1d75f9d105a6a0430da50c9674908d820ee2cc3ab", func := "calx/calxlaw08.BookAgrees", spec := "bookAgrees", unfollowed := true, recurses := true, plainKeys := false, apart := false }
def BookAgreesSaid : Prop := bookAgreesRow.holds Try.pinned (OpenSpec.ofChange bookAgreesSpec)

/-- ITS FALSE NEIGHBOUR: 'it returns false'. Refute it at one input. -/
def bookAgreesWrong : ChangeSpec := { name := "bookAgrees", fn := fun _ => fun
  | [d1, d2, d3] => { results := [.lit (.bool false)], args := [d1, d2, d3] }
  | _ => none }
def BookAgreesWrongFalsely : Prop := bookAgreesRow.holds Try.pinned (OpenSpec.ofChange bookAgreesWrong)

/-- 'calxlaw08.BookCopies': WHATEVER THE INPUT: true; the input reads as it did. -/
def bookCopiesSpec : ChangeSpec := { name := "bookCopies", fn := fun _ => fun
  | [d] => { results := [.lit (.bool true)], args := [d] }
  | _ => none }
def bookCopiesRow : OpenClaim := { program := "ytmfphlfakmnbmaa", sum := "7c45ee9275b269425ae5eae1d75f9d105a6a0430da50c9674908d820ee2cc3ab", func := "calx/calxlaw08.BookCopies", spec := "bookCopies", unfollowed := true, recurses := true, plainKeys := false, apart := false }
def BookCopiesSaid : Prop := bookCopiesRow.holds Try.pinned (OpenSpec.ofChange bookCopiesSpec)

/-- ITS FALSE NEIGHBOUR: 'it returns false'. Refute it at one input. -/
def bookCopiesWrong : ChangeSpec := { name := "bookCopies", fn := fun _ => fun
  | [d] => { results := [.lit (.bool false)], args := [d] }
  | _ => none }
def BookCopiesWrongFalsely : Prop := bookCopiesRow.holds Try.pinned (OpenSpec.ofChange bookCopiesWrong)

/-- 'calxlaw08.BookTrees': WHATEVER THE INPUT: true; the input reads as it did. -/
def bookTreesSpec : ChangeSpec := { name := "bookTrees", fn := fun _ => fun
  | [d1, d2, d3, d4] => { results := [.lit (.bool true)], args := [d1, d2, d3, d4] }
  | _ => none }
def bookTreesRow : OpenClaim := { program := "ytmfphlfakmnbmaa", sum := "7c45ee9275b269425ae5eae1d75f9d105a6a0430da50c9674908d820ee2cc3ab", func := "calx/calxlaw08.BookTrees", spec := "bookTrees", unfollowed := true, recurses := true, plainKeys := false, apart := false }
def BookTreesSaid : Prop := bookTreesRow.holds Try.pinned (OpenSpec.ofChange bookTreesSpec)

/-- ITS FALSE NEIGHBOUR: 'it returns false'. Refute it at one input. -/
def bookTreesWrong : ChangeSpec := { name := "bookTrees", fn := fun _ => fun
  | [d1, d2, d3, d4] => { results := [.lit (.bool false)], args := [d1, d2, d3, d4] }
  | _ => none }
def BookTreesWrongFalsely : Prop := bookTreesRow.holds Try.pinned (OpenSpec.ofChange bookTreesWrong)

/-- 'calxlaw08.BookDigests': WHATEVER THE INPUT: true; the input reads as it did. -/
def bookDigestsSpec : ChangeSpec := { name := "bookDigests", fn := fun _ => fun
  | [d1, d2, d3, d4, d5, d6, d7, d8] => { results := [.lit (.bool true)], args := [d1, d2, d3, d4, d5, d6, d7, d8] }
  | _ => none }
def bookDigestsRow : OpenClaim := { program := "ytmfphlfakmnbmaa", sum := "7c45ee9275b269425ae5eae1d75f9d105a6a0430da50c9674908d820ee2cc3ab", func := "calx/calxlaw08.BookDigests", spec := "bookDigests", unfollowed := true, recurses := true, plainKeys := false, apart := false }
def BookDigestsSaid : Prop := bookDigestsRow.holds Try.pinned (OpenSpec.ofChange bookDigestsSpec)

/-- ITS FALSE NEIGHBOUR: 'it returns false'. Refute it at one input. -/
def bookDigestsWrong : ChangeSpec := { name := "bookDigests", fn := fun _ => fun
  | [d1, d2, d3, d4, d5, d6, d7, d8] => { results := [.lit (.bool false)], args := [d1, d2, d3, d4, d5, d6, d7, d8] }
  | _ => none }
def BookDigestsWrongFalsely : Prop := bookDigestsRow.holds Try.pinned (OpenSpec.ofChange bookDigestsWrong)

/-- 'calxlaw08.BookSums': WHATEVER THE INPUT: true; the input reads as it did. -/
def bookSumsSpec : ChangeSpec := { name := "bookSums", fn := fun _ => fun
  | [d1, d2, d3, d4] => { results := [.lit (.bool true)], args := [d1, d2, d3, d4] }
  | _ => none }
def bookSumsRow : OpenClaim := { program := "ytmfphlfakmnbmaa", sum := "7c45ee9275b269425ae5eae1d75f9d105a6a0430da50c9674908d820ee2cc3ab", func := "calx/calxlaw08.BookSums", spec := "bookSums", unfollowed := true, recurses := true, plainKeys := false, apart := false }
def BookSumsSaid : Prop := bookSumsRow.holds Try.pinned (OpenSpec.ofChange bookSumsSpec)

/-- ITS FALSE NEIGHBOUR: 'it returns false'. Refute it at one input. -/
def bookSumsWrong : ChangeSpec := { name := "bookSums", fn := fun _ => fun
  | [d1, d2, d3, d4] => { results := [.lit (.bool false)], args := [d1, d2, d3, d4] }
  | _ => none }
def BookSumsWrongFalsely : Prop := bookSumsRow.holds Try.pinned (OpenSpec.ofChange bookSumsWrong)

/-- 'calxlaw08.BookGaps': WHATEVER THE INPUT: true; the input reads as it did. -/
def bookGapsSpec : ChangeSpec := { name := "bookGaps", fn := fun _ => fun
  | [d] => { results := [.lit (.bool true)], args := [d] }
  | _ => none }
def bookGapsRow : OpenClaim := { program := "ytmfphlfakmnbmaa", sum := "7c45ee9275b269425ae5eae1d75f9d105a6a0430da50c9674908d820ee2cc3ab", func := "calx/calxlaw08.BookGaps", spec := "bookGaps", unfollowed := true, recurses := true, plainKeys := false, apart := false }
def BookGapsSaid : Prop := bookGapsRow.holds Try.pinned (OpenSpec.ofChange bookGapsSpec)

/-- ITS FALSE NEIGHBOUR: 'it returns false'. Refute it at one input. -/
def bookGapsWrong : ChangeSpec := { name := "bookGaps", fn := fun _ => fun
  | [d] => { results := [.lit (.bool false)], args := [d] }
  | _ => none }
def BookGapsWrongFalsely : Prop := bookGapsRow.holds Try.pinned (OpenSpec.ofChange bookGapsWrong)

/-- 'calxtop.TopSticksAreBooked': WHATEVER THE INPUT: true; the input reads as it did. -/
def topSticksAreBookedSpec : ChangeSpec := { name := "topSticksAreBooked", fn := fun _ => fun
  | [d1, d2, d3, d4] => { results := [.lit (.bool true)], args := [d1, d2, d3, d4] }
  | _ => none }
def topSticksAreBookedRow : OpenClaim := { program := "ytmfphlfakmnbmaa", sum := "7c45ee9275b269425ae5eae1d75f9d105a6a0430da50c9674908d820ee2cc3ab", func := "calx/calxtop.TopSticksAreBooked", spec := "topSticksAreBooked", unfollowed := true, recurses := true, plainKeys := false, apart := false }
def TopSticksAreBookedSaid : Prop := topSticksAreBookedRow.holds Try.pinned (OpenSpec.ofChange topSticksAreBookedSpec)

/-- ITS FALSE NEIGHBOUR: 'it returns false'. Refute it at one input. -/
def topSticksAreBookedWrong : ChangeSpec := { name := "topSticksAreBooked", fn := fun _ => fun
  | [d1, d2, d3, d4] => { results := [.lit (.bool false)], args := [d1, d2, d3, d4] }
  | _ => none }
def TopSticksAreBookedWrongFalsely : Prop := topSticksAreBookedRow.holds Try.pinned (OpenSpec.ofChange topSticksAreBookedWrong)

/-- 'calxlaw08.BookWhole': WHATEVER THE INPUT: true; the input reads as it did. -/
def bookWholeSpec : ChangeSpec := { name := "bookWhole", fn := fun _ => fun
  | [d1, d2, d3, d4] => { results := [.lit (.bool true)], args := [d1, d2, d3, d4] }
  | _ => none }
def bookWholeRow : OpenClaim := { program := "ytmfphlfakmnbmaa", sum := "7c45ee9275b269425ae5eae1d75f9d105a6a0430da50c9674908d820ee2cc3ab", func := "calx/calxlaw08.BookWhole", spec := "bookWhole", unfollowed := true, recurses := true, plainKeys := false, apart := false }
def BookWholeSaid : Prop := bookWholeRow.holds Try.pinned (OpenSpec.ofChange bookWholeSpec)

/-- ITS FALSE NEIGHBOUR: 'it returns false'. Refute it at one input. -/
def bookWholeWrong : ChangeSpec := { name := "bookWhole", fn := fun _ => fun
  | [d1, d2, d3, d4] => { results := [.lit (.bool false)], args := [d1, d2, d3, d4] }
  | _ => none }
def BookWholeWrongFalsely : Prop := bookWholeRow.holds Try.pinned (OpenSpec.ofChange bookWholeWrong)

/-- 'calxlaw08.BookPieces': WHATEVER THE INPUT: true; the input reads as it did. -/
def bookPiecesSpec : ChangeSpec := { name := "bookPieces", fn := fun _ => fun
  | [d1, d2, d3] => { results := [.lit (.bool true)], args := [d1, d2, d3] }
  | _ => none }
def bookPiecesRow : OpenClaim := { program := "ytmfphlfakmnbmaa", sum := "7c45ee9275b269425ae5eae1d75f9d105a6a0430da50c9674908d820ee2cc3ab", func := "calx/calxlaw08.BookPieces", spec := "bookPieces", unfollowed := true, recurses := true, plainKeys := false, apart := false }
def BookPiecesSaid : Prop := bookPiecesRow.holds Try.pinned (OpenSpec.ofChange bookPiecesSpec)

/-- ITS FALSE NEIGHBOUR: 'it returns false'. Refute it at one input. -/
def bookPiecesWrong : ChangeSpec := { name := "bookPieces", fn := fun _ => fun
  | [d1, d2, d3] => { results := [.lit (.bool false)], args := [d1, d2, d3] }
  | _ => none }
def BookPiecesWrongFalsely : Prop := bookPiecesRow.holds Try.pinned (OpenSpec.ofChange bookPiecesWrong)

/-- 'calxlaw08.BookForks': WHATEVER THE INPUT: true; the input reads as it did. -/
def bookForksSpec : ChangeSpec := { name := "bookForks", fn := fun _ => fun
  | [d1, d2] => { results := [.lit (.bool true)], args := [d1, d2] }
  | _ => none }
def bookForksRow : OpenClaim := { program := "ytmfphlfakmnbmaa", sum := "7c45ee9275b269425ae5eae1d75f9d105a6a0430da50c9674908d820ee2cc3ab", func := "calx/calxlaw08.BookForks", spec := "bookForks", unfollowed := true, recurses := true, plainKeys := false, apart := false }
def BookForksSaid : Prop := bookForksRow.holds Try.pinned (OpenSpec.ofChange bookForksSpec)

/-- ITS FALSE NEIGHBOUR: 'it returns false'. Refute it at one input. -/
def bookForksWrong : ChangeSpec := { name := "bookForks", fn := fun _ => fun
  | [d1, d2] => { results := [.lit (.bool false)], args := [d1, d2] }
  | _ => none }
def BookForksWrongFalsely : Prop := bookForksRow.holds Try.pinned (OpenSpec.ofChange bookForksWrong)

/-- 'calxlaw08.BookCompares': WHATEVER THE INPUT: true; the input reads as it did. -/
def bookComparesSpec : ChangeSpec := { name := "bookCompares", fn := fun _ => fun
  | [d1, d2] => { results := [.lit (.bool true)], args := [d1, d2] }
  | _ => none }
def bookComparesRow : OpenClaim := { program := "ytmfphlfakmnbmaa", sum := "7c45ee9275b269425ae5eae1d75f9d105a6a0430da50c9674908d820ee2cc3ab", func := "calx/calxlaw08.BookCompares", spec := "bookCompares", unfollowed := true, recurses := true, plainKeys := false, apart := false }
def BookComparesSaid : Prop := bookComparesRow.holds Try.pinned (OpenSpec.ofChange bookComparesSpec)

/-- ITS FALSE NEIGHBOUR: 'it returns false'. Refute it at one input. -/
def bookComparesWrong : ChangeSpec := { name := "bookCompares", fn := fun _ => fun
  | [d1, d2] => { results := [.lit (.bool false)], args := [d1, d2] }
  | _ => none }
def BookComparesWrongFalsely : Prop := bookComparesRow.holds Try.pinned (OpenSpec.ofChange bookComparesWrong)

/-- 'calxlaw08.BookParts': WHATEVER THE INPUT: true; the input reads as it did. -/
def bookPartsSpec : ChangeSpec := { name := "bookParts", fn := fun _ => fun
  | [d1, d2] => { results := [.lit (.bool true)], args := [d1, d2] }
  | _ => none }
def bookPartsRow : OpenClaim := { program := "ytmfphlfakmnbmaa", sum := "7c45ee9275b269425ae5eae1d75f9d105a6a0430da50c9674908d820ee2cc3ab", func := "calx/calxlaw08.BookParts", spec := "bookParts", unfollowed := true, recurses := true, plainKeys := false, apart := false }
def BookPartsSaid : Prop := bookPartsRow.holds Try.pinned (OpenSpec.ofChange bookPartsSpec)

/-- ITS FALSE NEIGHBOUR: 'it returns false'. Refute it at one input. -/
def bookPartsWrong : ChangeSpec := { name := "bookParts", fn := fun _ => fun
  | [d1, d2] => { results := [.lit (.bool false)], args := [d1, d2] }
  | _ => none }
def BookPartsWrongFalsely : Prop := bookPartsRow.holds Try.pinned (OpenSpec.ofChange bookPartsWrong)

/-- 'calxlaw08.BookGrows': WHATEVER THE INPUT: true; the input reads as it did. -/
def bookGrowsSpec : ChangeSpec := { name := "bookGrows", fn := fun _ => fun
  | [d1, d2, d3, d4, d5, d6] => { results := [.lit (.bool true)], args := [d1, d2, d3, d4, d5, d6] }
  | _ => none }
def bookGrowsRow : OpenClaim := { program := "ytmfphlfakmnbmaa", sum := "7c45ee9275b269425ae5eae1d75f9d105a6a0430da50c9674908d820ee2cc3ab", func := "calx/calxlaw08.BookGrows", spec := "bookGrows", unfollowed := true, recurses := true, plainKeys := false, apart := false }
def BookGrowsSaid : Prop := bookGrowsRow.holds Try.pinned (OpenSpec.ofChange bookGrowsSpec)

/-- ITS FALSE NEIGHBOUR: 'it returns false'. Refute it at one input. -/
def bookGrowsWrong : ChangeSpec := { name := "bookGrows", fn := fun _ => fun
  | [d1, d2, d3, d4, d5, d6] => { results := [.lit (.bool false)], args := [d1, d2, d3, d4, d5, d6] }
  | _ => none }
def BookGrowsWrongFalsely : Prop := bookGrowsRow.holds Try.pinned (OpenSpec.ofChange bookGrowsWrong)

/-- 'calxlaw08.BookGoesOn': WHATEVER THE INPUT: true; the input reads as it did. -/
def bookGoesOnSpec : ChangeSpec := { name := "bookGoesOn", fn := fun _ => fun
  | [d1, d2, d3, d4, d5] => { results := [.lit (.bool true)], args := [d1, d2, d3, d4, d5] }
  | _ => none }
def bookGoesOnRow : OpenClaim := { program := "ytmfphlfakmnbmaa", sum := "7c45ee9275b269425ae5eae1d75f9d105a6a0430da50c9674908d820ee2cc3ab", func := "calx/calxlaw08.BookGoesOn", spec := "bookGoesOn", unfollowed := true, recurses := true, plainKeys := false, apart := false }
def BookGoesOnSaid : Prop := bookGoesOnRow.holds Try.pinned (OpenSpec.ofChange bookGoesOnSpec)

/-- ITS FALSE NEIGHBOUR: 'it returns false'. Refute it at one input. -/
def bookGoesOnWrong : ChangeSpec := { name := "bookGoesOn", fn := fun _ => fun
  | [d1, d2, d3, d4, d5] => { results := [.lit (.bool false)], args := [d1, d2, d3, d4, d5] }
  | _ => none }
def BookGoesOnWrongFalsely : Prop := bookGoesOnRow.holds Try.pinned (OpenSpec.ofChange bookGoesOnWrong)

/-- 'calxlaw08.BookStands': WHATEVER THE INPUT: true; the input reads as it did. -/
def bookStandsSpec : ChangeSpec := { name := "bookStands", fn := fun _ => fun
  | [d1, d2, d3, d4, d5, d6] => { results := [.lit (.bool true)], args := [d1, d2, d3, d4, d5, d6] }
  | _ => none }
def bookStandsRow : OpenClaim := { program := "ytmfphlfakmnbmaa", sum := "7c45ee9275b269425ae5eae1d75f9d105a6a0430da50c9674908d820ee2cc3ab", func := "calx/calxlaw08.BookStands", spec := "bookStands", unfollowed := true, recurses := true, plainKeys := false, apart := false }
def BookStandsSaid : Prop := bookStandsRow.holds Try.pinned (OpenSpec.ofChange bookStandsSpec)

/-- ITS FALSE NEIGHBOUR: 'it returns false'. Refute it at one input. -/
def bookStandsWrong : ChangeSpec := { name := "bookStands", fn := fun _ => fun
  | [d1, d2, d3, d4, d5, d6] => { results := [.lit (.bool false)], args := [d1, d2, d3, d4, d5, d6] }
  | _ => none }
def BookStandsWrongFalsely : Prop := bookStandsRow.holds Try.pinned (OpenSpec.ofChange bookStandsWrong)

/-- 'calxlaw08.BookProves': WHATEVER THE INPUT: true; the input reads as it did. -/
def bookProvesSpec : ChangeSpec := { name := "bookProves", fn := fun _ => fun
  | [d1, d2, d3] => { results := [.lit (.bool true)], args := [d1, d2, d3] }
  | _ => none }
def bookProvesRow : OpenClaim := { program := "ytmfphlfakmnbmaa", sum := "7c45ee9275b269425ae5eae1d75f9d105a6a0430da50c9674908d820ee2cc3ab", func := "calx/calxlaw08.BookProves", spec := "bookProves", unfollowed := true, recurses := true, plainKeys := false, apart := false }
def BookProvesSaid : Prop := bookProvesRow.holds Try.pinned (OpenSpec.ofChange bookProvesSpec)

/-- ITS FALSE NEIGHBOUR: 'it returns false'. Refute it at one input. -/
def bookProvesWrong : ChangeSpec := { name := "bookProves", fn := fun _ => fun
  | [d1, d2, d3] => { results := [.lit (.bool false)], args := [d1, d2, d3] }
  | _ => none }
def BookProvesWrongFalsely : Prop := bookProvesRow.holds Try.pinned (OpenSpec.ofChange bookProvesWrong)

/-- 'calxlaw08.BookForges': WHATEVER THE INPUT: true; the input reads as it did. -/
def bookForgesSpec : ChangeSpec := { name := "bookForges", fn := fun _ => fun
  | [d1, d2, d3, d4] => { results := [.lit (.bool true)], args := [d1, d2, d3, d4] }
  | _ => none }
def bookForgesRow : OpenClaim := { program := "ytmfphlfakmnbmaa", sum := "7c45ee9275b269425ae5eae1d75f9d105a6a0430da50c9674908d820ee2cc3ab", func := "calx/calxlaw08.BookForges", spec := "bookForges", unfollowed := true, recurses := true, plainKeys := false, apart := false }
def BookForgesSaid : Prop := bookForgesRow.holds Try.pinned (OpenSpec.ofChange bookForgesSpec)

/-- ITS FALSE NEIGHBOUR: 'it returns false'. Refute it at one input. -/
def bookForgesWrong : ChangeSpec := { name := "bookForges", fn := fun _ => fun
  | [d1, d2, d3, d4] => { results := [.lit (.bool false)], args := [d1, d2, d3, d4] }
  | _ => none }
def BookForgesWrongFalsely : Prop := bookForgesRow.holds Try.pinned (OpenSpec.ofChange bookForgesWrong)

/- THE SECOND FORM. 'bulk': how many values and letters a reading holds, each counted each time it is reached (what is shared counts as often as it is met; a slice's spare places count too). A statement '..UptoSaid' is the law's where the arguments, and the package variables that the reading takes, are together of bulk at most 1048576: NARROWER than '..Said'. Prove '..Said' where nothing that the law and all that it calls make is longer than what came in: it says more and counts as full. Else prove '..UptoSaid'. A law counts once. -/
mutual
def uptoBulk {H : Type} : DataW H → Nat
  | .lit (.string bytes) => bytes.length + 1
  | .lit _ => 1
  | .nil => 1
  | .ptr d => uptoBulk d + 1
  | .slice elems spare => uptoBulkAll elems + uptoBulkAll spare + 1
  | .agg parts => uptoBulkAll parts + 1
  | .iface _ d => uptoBulk d + 1
  | .map entries => uptoBulkEntries entries + 1
  | .held _ => 1
def uptoBulkAll {H : Type} : List (DataW H) → Nat
  | [] => 0
  | d :: r => uptoBulk d + uptoBulkAll r
def uptoBulkEntries {H : Type} : List (Lit × DataW H) → Nat
  | [] => 0
  | x :: r => uptoBulkEntry x + uptoBulkEntries r
def uptoBulkEntry {H : Type} : Lit × DataW H → Nat
  | (.string bytes, d) => bytes.length + uptoBulk d + 1
  | (_, d) => uptoBulk d + 1
 end
def uptoSmall : (H : Type) → List (DataW H) → Bool := fun _ ds => decide (uptoBulkAll ds ≤ 1048576)
def OpenSpec.upto (s : _root_.Go.ChangeSpec) : _root_.Go.OpenSpec := { _root_.Go.OpenSpec.ofChange s with cond := some uptoSmall }

/-- 'calxlaw08.BookJoins', WHERE WHAT IT READS IS OF BULK AT MOST 1048576: true; the input reads as it did. -/
def bookJoinsUptoRow : OpenClaim := { program := "ytmfphlfakmnbmaa", sum := "7c45ee9275b269425ae5eae1d75f9d105a6a0430da50c9674908d820ee2cc3ab", func := "calx/calxlaw08.BookJoins", spec := "bookJoins", unfollowed := true, recurses := true, plainKeys := false, apart := false, narrowed := true }
def BookJoinsUptoSaid : Prop := bookJoinsUptoRow.holds Try.pinned (OpenSpec.upto bookJoinsSpec)

/-- 'calxlaw08.BookAgrees', WHERE WHAT IT READS IS OF BULK AT MOST 1048576: true; the input reads as it did. -/
def bookAgreesUptoRow : OpenClaim := { program := "ytmfphlfakmnbmaa", sum := "7c45ee9275b269425ae5eae1d75f9d105a6a0430da50c9674908d820ee2cc3ab", func := "calx/calxlaw08.BookAgrees", spec := "bookAgrees", unfollowed := true, recurses := true, plainKeys := false, apart := false, narrowed := true }
def BookAgreesUptoSaid : Prop := bookAgreesUptoRow.holds Try.pinned (OpenSpec.upto bookAgreesSpec)

/-- 'calxlaw08.BookCopies', WHERE WHAT IT READS IS OF BULK AT MOST 1048576: true; the input reads as it did. -/
def bookCopiesUptoRow : OpenClaim := { program := "ytmfphlfakmnbmaa", sum := "7c45ee9275b269425ae5eae1d75f9d105a6a0430da50c9674908d820ee2cc3ab", func := "calx/calxlaw08.BookCopies", spec := "bookCopies", unfollowed := true, recurses := true, plainKeys := false, apart := false, narrowed := true }
def BookCopiesUptoSaid : Prop := bookCopiesUptoRow.holds Try.pinned (OpenSpec.upto bookCopiesSpec)

/-- 'calxlaw08.BookTrees', WHERE WHAT IT READS IS OF BULK AT MOST 1048576: true; the input reads as it did. -/
def bookTreesUptoRow : OpenClaim := { program := "ytmfphlfakmnbmaa", sum := "7c45ee9275b269425ae5eae1d75f9d105a6a0430da50c9674908d820ee2cc3ab", func := "calx/calxlaw08.BookTrees", spec := "bookTrees", unfollowed := true, recurses := true, plainKeys := false, apart := false, narrowed := true }
def BookTreesUptoSaid : Prop := bookTreesUptoRow.holds Try.pinned (OpenSpec.upto bookTreesSpec)

/-- 'calxlaw08.BookDigests', WHERE WHAT IT READS IS OF BULK AT MOST 1048576: true; the input reads as it did. -/
def bookDigestsUptoRow : OpenClaim := { program := "ytmfphlfakmnbmaa", sum := "7c45ee9275b269425ae5eae1d75f9d105a6a0430da50c9674908d820ee2cc3ab", func := "calx/calxlaw08.BookDigests", spec := "bookDigests", unfollowed := true, recurses := true, plainKeys := false, apart := false, narrowed := true }
def BookDigestsUptoSaid : Prop := bookDigestsUptoRow.holds Try.pinned (OpenSpec.upto bookDigestsSpec)

/-- 'calxlaw08.BookSums', WHERE WHAT IT READS IS OF BULK AT MOST 1048576: true; the input reads as it did. -/
def bookSumsUptoRow : OpenClaim := { program := "ytmfphlfakmnbmaa", sum := "7c45ee9275b269425ae5eae1d75f9d105a6a0430da50c9674908d820ee2cc3ab", func := "calx/calxlaw08.BookSums", spec := "bookSums", unfollowed := true, recurses := true, plainKeys := false, apart := false, narrowed := true }
def BookSumsUptoSaid : Prop := bookSumsUptoRow.holds Try.pinned (OpenSpec.upto bookSumsSpec)

/-- 'calxlaw08.BookGaps', WHERE WHAT IT READS IS OF BULK AT MOST 1048576: true; the input reads as it did. -/
def bookGapsUptoRow : OpenClaim := { program := "ytmfphlfakmnbmaa", sum := "7c45ee9275b269425ae5eae1d75f9d105a6a0430da50c9674908d820ee2cc3ab", func := "calx/calxlaw08.BookGaps", spec := "bookGaps", unfollowed := true, recurses := true, plainKeys := false, apart := false, narrowed := true }
def BookGapsUptoSaid : Prop := bookGapsUptoRow.holds Try.pinned (OpenSpec.upto bookGapsSpec)

/-- 'calxtop.TopSticksAreBooked', WHERE WHAT IT READS IS OF BULK AT MOST 1048576: true; the input reads as it did. -/
def topSticksAreBookedUptoRow : OpenClaim := { program := "ytmfphlfakmnbmaa", sum := "7c45ee9275b269425ae5eae1d75f9d105a6a0430da50c9674908d820ee2cc3ab", func := "calx/calxtop.TopSticksAreBooked", spec := "topSticksAreBooked", unfollowed := true, recurses := true, plainKeys := false, apart := false, narrowed := true }
def TopSticksAreBookedUptoSaid : Prop := topSticksAreBookedUptoRow.holds Try.pinned (OpenSpec.upto topSticksAreBookedSpec)

/-- 'calxlaw08.BookWhole', WHERE WHAT IT READS IS OF BULK AT MOST 1048576: true; the input reads as it did. -/
def bookWholeUptoRow : OpenClaim := { program := "ytmfphlfakmnbmaa", sum := "7c45ee9275b269425ae5eae1d75f9d105a6a0430da50c9674908d820ee2cc3ab", func := "calx/calxlaw08.BookWhole", spec := "bookWhole", unfollowed := true, recurses := true, plainKeys := false, apart := false, narrowed := true }
def BookWholeUptoSaid : Prop := bookWholeUptoRow.holds Try.pinned (OpenSpec.upto bookWholeSpec)

/-- 'calxlaw08.BookPieces', WHERE WHAT IT READS IS OF BULK AT MOST 1048576: true; the input reads as it did. -/
def bookPiecesUptoRow : OpenClaim := { program := "ytmfphlfakmnbmaa", sum := "7c45ee9275b269425ae5eae1d75f9d105a6a0430da50c9674908d820ee2cc3ab", func := "calx/calxlaw08.BookPieces", spec := "bookPieces", unfollowed := true, recurses := true, plainKeys := false, apart := false, narrowed := true }
def BookPiecesUptoSaid : Prop := bookPiecesUptoRow.holds Try.pinned (OpenSpec.upto bookPiecesSpec)

/-- 'calxlaw08.BookForks', WHERE WHAT IT READS IS OF BULK AT MOST 1048576: true; the input reads as it did. -/
def bookForksUptoRow : OpenClaim := { program := "ytmfphlfakmnbmaa", sum := "7c45ee9275b269425ae5eae1d75f9d105a6a0430da50c9674908d820ee2cc3ab", func := "calx/calxlaw08.BookForks", spec := "bookForks", unfollowed := true, recurses := true, plainKeys := false, apart := false, narrowed := true }
def BookForksUptoSaid : Prop := bookForksUptoRow.holds Try.pinned (OpenSpec.upto bookForksSpec)

/-- 'calxlaw08.BookCompares', WHERE WHAT IT READS IS OF BULK AT MOST 1048576: true; the input reads as it did. -/
def bookComparesUptoRow : OpenClaim := { program := "ytmfphlfakmnbmaa", sum := "7c45ee9275b269425ae5eae1d75f9d105a6a0430da50c9674908d820ee2cc3ab", func := "calx/calxlaw08.BookCompares", spec := "bookCompares", unfollowed := true, recurses := true, plainKeys := false, apart := false, narrowed := true }
def BookComparesUptoSaid : Prop := bookComparesUptoRow.holds Try.pinned (OpenSpec.upto bookComparesSpec)

/-- 'calxlaw08.BookParts', WHERE WHAT IT READS IS OF BULK AT MOST 1048576: true; the input reads as it did. -/
def bookPartsUptoRow : OpenClaim := { program := "ytmfphlfakmnbmaa", sum := "7c45ee9275b269425ae5eae1d75f9d105a6a0430da50c9674908d820ee2cc3ab", func := "calx/calxlaw08.BookParts", spec := "bookParts", unfollowed := true, recurses := true, plainKeys := false, apart := false, narrowed := true }
def BookPartsUptoSaid : Prop := bookPartsUptoRow.holds Try.pinned (OpenSpec.upto bookPartsSpec)

/-- 'calxlaw08.BookGrows', WHERE WHAT IT READS IS OF BULK AT MOST 1048576: true; the input reads as it did. -/
def bookGrowsUptoRow : OpenClaim := { program := "ytmfphlfakmnbmaa", sum := "7c45ee9275b269425ae5eae1d75f9d105a6a0430da50c9674908d820ee2cc3ab", func := "calx/calxlaw08.BookGrows", spec := "bookGrows", unfollowed := true, recurses := true, plainKeys := false, apart := false, narrowed := true }
def BookGrowsUptoSaid : Prop := bookGrowsUptoRow.holds Try.pinned (OpenSpec.upto bookGrowsSpec)

/-- 'calxlaw08.BookGoesOn', WHERE WHAT IT READS IS OF BULK AT MOST 1048576: true; the input reads as it did. -/
def bookGoesOnUptoRow : OpenClaim := { program := "ytmfphlfakmnbmaa", sum := "7c45ee9275b269425ae5eae1d75f9d105a6a0430da50c9674908d820ee2cc3ab", func := "calx/calxlaw08.BookGoesOn", spec := "bookGoesOn", unfollowed := true, recurses := true, plainKeys := false, apart := false, narrowed := true }
def BookGoesOnUptoSaid : Prop := bookGoesOnUptoRow.holds Try.pinned (OpenSpec.upto bookGoesOnSpec)

/-- 'calxlaw08.BookStands', WHERE WHAT IT READS IS OF BULK AT MOST 1048576: true; the input reads as it did. -/
def bookStandsUptoRow : OpenClaim := { program := "ytmfphlfakmnbmaa", sum := "7c45ee9275b269425ae5eae1d75f9d105a6a0430da50c9674908d820ee2cc3ab", func := "calx/calxlaw08.BookStands", spec := "bookStands", unfollowed := true, recurses := true, plainKeys := false, apart := false, narrowed := true }
def BookStandsUptoSaid : Prop := bookStandsUptoRow.holds Try.pinned (OpenSpec.upto bookStandsSpec)

/-- 'calxlaw08.BookProves', WHERE WHAT IT READS IS OF BULK AT MOST 1048576: true; the input reads as it did. -/
def bookProvesUptoRow : OpenClaim := { program := "ytmfphlfakmnbmaa", sum := "7c45ee9275b269425ae5eae1d75f9d105a6a0430da50c9674908d820ee2cc3ab", func := "calx/calxlaw08.BookProves", spec := "bookProves", unfollowed := true, recurses := true, plainKeys := false, apart := false, narrowed := true }
def BookProvesUptoSaid : Prop := bookProvesUptoRow.holds Try.pinned (OpenSpec.upto bookProvesSpec)

/-- 'calxlaw08.BookForges', WHERE WHAT IT READS IS OF BULK AT MOST 1048576: true; the input reads as it did. -/
def bookForgesUptoRow : OpenClaim := { program := "ytmfphlfakmnbmaa", sum := "7c45ee9275b269425ae5eae1d75f9d105a6a0430da50c9674908d820ee2cc3ab", func := "calx/calxlaw08.BookForges", spec := "bookForges", unfollowed := true, recurses := true, plainKeys := false, apart := false, narrowed := true }
def BookForgesUptoSaid : Prop := bookForgesUptoRow.holds Try.pinned (OpenSpec.upto bookForgesSpec)

end Rows
end Go.Proofs.Ytmfphlfakmnbmaa
