/-
  No cell of these rows narrows 'for every input' (looked for: loops, veiled, ifaces, maps, wideKeys, modest, calm, conditions, laid).
  DERIVED. THE GIVEN ROWS OF THIS SEAT. 13 by the template 'for every input the law returns true; each argument reads behind the call as it read before'; 0 by the template 'total and deterministic' (their statements: YtjjfpmapjjemcaaGreatTotals.lean).
  GIVEN WITH THE SEED: the statements are not yours to turn. If you find one false, say at which input.
  Laid BY PROGRAM, IN A SANDBOX (cutbox-rows.mjs): the forced cells as the released guide's own fill.sh prints them over the translation e8c5dce85e8ebd80… (all of the seat's roots in one cut). By AI agents, Wed Nov 11 2026. No macro, syntax, notation, axiom, sorry.
-/
import Derived.Test.YtjjfpmapjjemcaaGreatChecked
import GoSem.Claim
import GoSem.ClaimJoined
import GoSem.ClaimMapViews
import Derived.JoinedTies
import Derived.KernelRfl
namespace Go.Proofs.YtjjfpmapjjemcaaGreat
/- THE CELL 'sum', in the pinned program and in every row, IS THE sha256 OF THE DUMP (.gsa) THAT YtjjfpmapjjemcaaGreatProg.lean LOADS. Nothing in Lean hashes anything: it is a label: what it is worth is what the hold of that sum in a sandbox is worth. -/
noncomputable def Tryz.pinned : Pinned := { name := "ytjjfpmapjjemcaagreat", sum := "e8c5dce85e8ebd80d17a61b06b444098b8b80b5fac535deccc9a2c7373a9253b", checked := Tryz.checked }
namespace Rows
def none {H : Type} : Left H := { results := [], args := [] }

/-- 'calxtop.TopBarrowsComeOfLoads': WHATEVER THE INPUT: true; the input reads as it did. -/
def topBarrowsComeOfLoadsSpec : ChangeSpec := { name := "topBarrowsComeOfLoads", fn := fun _ => fun
  | [d1, d2, d3, d4, d5] => { results := [.lit (.bool true)], args := [d1, d2, d3, d4, d5] }
  | _ => none }
def topBarrowsComeOfLoadsRow : OpenClaim := { program := "ytjjfpmapjjemcaagreat", sum := "e8c5dce85e8ebd80d17a61b06b444098b8b80b5fac535deccc9a2c7373a9253b", func := "calx/calxtop.TopBarrowsComeOfLoads", spec := "topBarrowsComeOfLoads", unfollowed := true, recurses := true, apart := false }
def TopBarrowsComeOfLoadsSaid : Prop := topBarrowsComeOfLoadsRow.holds Tryz.pinned (OpenSpec.ofChange topBarrowsComeOfLoadsSpec)

/-- ITS FALSE NEIGHBOUR: 'it returns false'. Refute it at one input. -/
def topBarrowsComeOfLoadsWrong : ChangeSpec := { name := "topBarrowsComeOfLoads", fn := fun _ => fun
  | [d1, d2, d3, d4, d5] => { results := [.lit (.bool false)], args := [d1, d2, d3, d4, d5] }
  | _ => none }
def TopBarrowsComeOfLoadsWrongFalsely : Prop := topBarrowsComeOfLoadsRow.holds Tryz.pinned (OpenSpec.ofChange topBarrowsComeOfLoadsWrong)

/-- 'calxlaw04.PitBarrows': WHATEVER THE INPUT: true; the input reads as it did. -/
def pitBarrowsSpec : ChangeSpec := { name := "pitBarrows", fn := fun _ => fun
  | [d1, d2, d3, d4] => { results := [.lit (.bool true)], args := [d1, d2, d3, d4] }
  | _ => none }
def pitBarrowsRow : OpenClaim := { program := "ytjjfpmapjjemcaagreat", sum := "e8c5dce85e8ebd80d17a61b06b444098b8b80b5fac535deccc9a2c7373a9253b", func := "calx/calxlaw04.PitBarrows", spec := "pitBarrows", unfollowed := true, recurses := true, apart := false }
def PitBarrowsSaid : Prop := pitBarrowsRow.holds Tryz.pinned (OpenSpec.ofChange pitBarrowsSpec)

/-- ITS FALSE NEIGHBOUR: 'it returns false'. Refute it at one input. -/
def pitBarrowsWrong : ChangeSpec := { name := "pitBarrows", fn := fun _ => fun
  | [d1, d2, d3, d4] => { results := [.lit (.bool false)], args := [d1, d2, d3, d4] }
  | _ => none }
def PitBarrowsWrongFalsely : Prop := pitBarrowsRow.holds Tryz.pinned (OpenSpec.ofChange pitBarrowsWrong)

/-- 'calxlaw04.PitGrades': WHATEVER THE INPUT: true; the input reads as it did. -/
def pitGradesSpec : ChangeSpec := { name := "pitGrades", fn := fun _ => fun
  | [d1, d2, d3] => { results := [.lit (.bool true)], args := [d1, d2, d3] }
  | _ => none }
def pitGradesRow : OpenClaim := { program := "ytjjfpmapjjemcaagreat", sum := "e8c5dce85e8ebd80d17a61b06b444098b8b80b5fac535deccc9a2c7373a9253b", func := "calx/calxlaw04.PitGrades", spec := "pitGrades", unfollowed := true, recurses := true, apart := false }
def PitGradesSaid : Prop := pitGradesRow.holds Tryz.pinned (OpenSpec.ofChange pitGradesSpec)

/-- ITS FALSE NEIGHBOUR: 'it returns false'. Refute it at one input. -/
def pitGradesWrong : ChangeSpec := { name := "pitGrades", fn := fun _ => fun
  | [d1, d2, d3] => { results := [.lit (.bool false)], args := [d1, d2, d3] }
  | _ => none }
def PitGradesWrongFalsely : Prop := pitGradesRow.holds Tryz.pinned (OpenSpec.ofChange pitGradesWrong)

/-- 'calxlaw04.PitInTurn': WHATEVER THE INPUT: true; the input reads as it did. -/
def pitInTurnSpec : ChangeSpec := { name := "pitInTurn", fn := fun _ => fun
  | [d] => { results := [.lit (.bool true)], args := [d] }
  | _ => none }
def pitInTurnRow : OpenClaim := { program := "ytjjfpmapjjemcaagreat", sum := "e8c5dce85e8ebd80d17a61b06b444098b8b80b5fac535deccc9a2c7373a9253b", func := "calx/calxlaw04.PitInTurn", spec := "pitInTurn", unfollowed := true, recurses := true, apart := false }
def PitInTurnSaid : Prop := pitInTurnRow.holds Tryz.pinned (OpenSpec.ofChange pitInTurnSpec)

/-- ITS FALSE NEIGHBOUR: 'it returns false'. Refute it at one input. -/
def pitInTurnWrong : ChangeSpec := { name := "pitInTurn", fn := fun _ => fun
  | [d] => { results := [.lit (.bool false)], args := [d] }
  | _ => none }
def PitInTurnWrongFalsely : Prop := pitInTurnRow.holds Tryz.pinned (OpenSpec.ofChange pitInTurnWrong)

/-- 'calxlaw04.PitOthers': WHATEVER THE INPUT: true; the input reads as it did. -/
def pitOthersSpec : ChangeSpec := { name := "pitOthers", fn := fun _ => fun
  | [d1, d2, d3] => { results := [.lit (.bool true)], args := [d1, d2, d3] }
  | _ => none }
def pitOthersRow : OpenClaim := { program := "ytjjfpmapjjemcaagreat", sum := "e8c5dce85e8ebd80d17a61b06b444098b8b80b5fac535deccc9a2c7373a9253b", func := "calx/calxlaw04.PitOthers", spec := "pitOthers", unfollowed := true, recurses := true, apart := false }
def PitOthersSaid : Prop := pitOthersRow.holds Tryz.pinned (OpenSpec.ofChange pitOthersSpec)

/-- ITS FALSE NEIGHBOUR: 'it returns false'. Refute it at one input. -/
def pitOthersWrong : ChangeSpec := { name := "pitOthers", fn := fun _ => fun
  | [d1, d2, d3] => { results := [.lit (.bool false)], args := [d1, d2, d3] }
  | _ => none }
def PitOthersWrongFalsely : Prop := pitOthersRow.holds Tryz.pinned (OpenSpec.ofChange pitOthersWrong)

/-- 'calxlaw04.PitFractions': WHATEVER THE INPUT: true; the input reads as it did. -/
def pitFractionsSpec : ChangeSpec := { name := "pitFractions", fn := fun _ => fun
  | [d1, d2, d3, d4] => { results := [.lit (.bool true)], args := [d1, d2, d3, d4] }
  | _ => none }
def pitFractionsRow : OpenClaim := { program := "ytjjfpmapjjemcaagreat", sum := "e8c5dce85e8ebd80d17a61b06b444098b8b80b5fac535deccc9a2c7373a9253b", func := "calx/calxlaw04.PitFractions", spec := "pitFractions", unfollowed := true, recurses := true, apart := false }
def PitFractionsSaid : Prop := pitFractionsRow.holds Tryz.pinned (OpenSpec.ofChange pitFractionsSpec)

/-- ITS FALSE NEIGHBOUR: 'it returns false'. Refute it at one input. -/
def pitFractionsWrong : ChangeSpec := { name := "pitFractions", fn := fun _ => fun
  | [d1, d2, d3, d4] => { results := [.lit (.bool false)], args := [d1, d2, d3, d4] }
  | _ => none }
def PitFractionsWrongFalsely : Prop := pitFractionsRow.holds Tryz.pinned (OpenSpec.ofChange pitFractionsWrong)

/-- 'calxlaw04.PitKeeps': WHATEVER THE INPUT: true; the input reads as it did. -/
def pitKeepsSpec : ChangeSpec := { name := "pitKeeps", fn := fun _ => fun
  | [d1, d2] => { results := [.lit (.bool true)], args := [d1, d2] }
  | _ => none }
def pitKeepsRow : OpenClaim := { program := "ytjjfpmapjjemcaagreat", sum := "e8c5dce85e8ebd80d17a61b06b444098b8b80b5fac535deccc9a2c7373a9253b", func := "calx/calxlaw04.PitKeeps", spec := "pitKeeps", unfollowed := true, recurses := true, apart := false }
def PitKeepsSaid : Prop := pitKeepsRow.holds Tryz.pinned (OpenSpec.ofChange pitKeepsSpec)

/-- ITS FALSE NEIGHBOUR: 'it returns false'. Refute it at one input. -/
def pitKeepsWrong : ChangeSpec := { name := "pitKeeps", fn := fun _ => fun
  | [d1, d2] => { results := [.lit (.bool false)], args := [d1, d2] }
  | _ => none }
def PitKeepsWrongFalsely : Prop := pitKeepsRow.holds Tryz.pinned (OpenSpec.ofChange pitKeepsWrong)

/-- 'calxlaw04.PitMixed': WHATEVER THE INPUT: true; the input reads as it did. -/
def pitMixedSpec : ChangeSpec := { name := "pitMixed", fn := fun _ => fun
  | [d1, d2, d3, d4] => { results := [.lit (.bool true)], args := [d1, d2, d3, d4] }
  | _ => none }
def pitMixedRow : OpenClaim := { program := "ytjjfpmapjjemcaagreat", sum := "e8c5dce85e8ebd80d17a61b06b444098b8b80b5fac535deccc9a2c7373a9253b", func := "calx/calxlaw04.PitMixed", spec := "pitMixed", unfollowed := true, recurses := true, apart := false }
def PitMixedSaid : Prop := pitMixedRow.holds Tryz.pinned (OpenSpec.ofChange pitMixedSpec)

/-- ITS FALSE NEIGHBOUR: 'it returns false'. Refute it at one input. -/
def pitMixedWrong : ChangeSpec := { name := "pitMixed", fn := fun _ => fun
  | [d1, d2, d3, d4] => { results := [.lit (.bool false)], args := [d1, d2, d3, d4] }
  | _ => none }
def PitMixedWrongFalsely : Prop := pitMixedRow.holds Tryz.pinned (OpenSpec.ofChange pitMixedWrong)

/-- 'calxlaw04.PitWorth': WHATEVER THE INPUT: true; the input reads as it did. -/
def pitWorthSpec : ChangeSpec := { name := "pitWorth", fn := fun _ => fun
  | [d1, d2, d3, d4] => { results := [.lit (.bool true)], args := [d1, d2, d3, d4] }
  | _ => none }
def pitWorthRow : OpenClaim := { program := "ytjjfpmapjjemcaagreat", sum := "e8c5dce85e8ebd80d17a61b06b444098b8b80b5fac535deccc9a2c7373a9253b", func := "calx/calxlaw04.PitWorth", spec := "pitWorth", unfollowed := true, recurses := true, apart := false }
def PitWorthSaid : Prop := pitWorthRow.holds Tryz.pinned (OpenSpec.ofChange pitWorthSpec)

/-- ITS FALSE NEIGHBOUR: 'it returns false'. Refute it at one input. -/
def pitWorthWrong : ChangeSpec := { name := "pitWorth", fn := fun _ => fun
  | [d1, d2, d3, d4] => { results := [.lit (.bool false)], args := [d1, d2, d3, d4] }
  | _ => none }
def PitWorthWrongFalsely : Prop := pitWorthRow.holds Tryz.pinned (OpenSpec.ofChange pitWorthWrong)

/-- 'calxlaw04.PitBlames': WHATEVER THE INPUT: true; the input reads as it did. -/
def pitBlamesSpec : ChangeSpec := { name := "pitBlames", fn := fun _ => fun
  | [d1, d2, d3, d4] => { results := [.lit (.bool true)], args := [d1, d2, d3, d4] }
  | _ => none }
def pitBlamesRow : OpenClaim := { program := "ytjjfpmapjjemcaagreat", sum := "e8c5dce85e8ebd80d17a61b06b444098b8b80b5fac535deccc9a2c7373a9253b", func := "calx/calxlaw04.PitBlames", spec := "pitBlames", unfollowed := true, recurses := true, apart := false }
def PitBlamesSaid : Prop := pitBlamesRow.holds Tryz.pinned (OpenSpec.ofChange pitBlamesSpec)

/-- ITS FALSE NEIGHBOUR: 'it returns false'. Refute it at one input. -/
def pitBlamesWrong : ChangeSpec := { name := "pitBlames", fn := fun _ => fun
  | [d1, d2, d3, d4] => { results := [.lit (.bool false)], args := [d1, d2, d3, d4] }
  | _ => none }
def PitBlamesWrongFalsely : Prop := pitBlamesRow.holds Tryz.pinned (OpenSpec.ofChange pitBlamesWrong)

/-- 'calxlaw04.PitApart': WHATEVER THE INPUT: true; the input reads as it did. -/
def pitApartSpec : ChangeSpec := { name := "pitApart", fn := fun _ => fun
  | [d1, d2, d3, d4] => { results := [.lit (.bool true)], args := [d1, d2, d3, d4] }
  | _ => none }
def pitApartRow : OpenClaim := { program := "ytjjfpmapjjemcaagreat", sum := "e8c5dce85e8ebd80d17a61b06b444098b8b80b5fac535deccc9a2c7373a9253b", func := "calx/calxlaw04.PitApart", spec := "pitApart", unfollowed := true, recurses := true, apart := false }
def PitApartSaid : Prop := pitApartRow.holds Tryz.pinned (OpenSpec.ofChange pitApartSpec)

/-- ITS FALSE NEIGHBOUR: 'it returns false'. Refute it at one input. -/
def pitApartWrong : ChangeSpec := { name := "pitApart", fn := fun _ => fun
  | [d1, d2, d3, d4] => { results := [.lit (.bool false)], args := [d1, d2, d3, d4] }
  | _ => none }
def PitApartWrongFalsely : Prop := pitApartRow.holds Tryz.pinned (OpenSpec.ofChange pitApartWrong)

/-- 'calxlaw04.PitCulprits': WHATEVER THE INPUT: true; the input reads as it did. -/
def pitCulpritsSpec : ChangeSpec := { name := "pitCulprits", fn := fun _ => fun
  | [d1, d2, d3, d4] => { results := [.lit (.bool true)], args := [d1, d2, d3, d4] }
  | _ => none }
def pitCulpritsRow : OpenClaim := { program := "ytjjfpmapjjemcaagreat", sum := "e8c5dce85e8ebd80d17a61b06b444098b8b80b5fac535deccc9a2c7373a9253b", func := "calx/calxlaw04.PitCulprits", spec := "pitCulprits", unfollowed := true, recurses := true, apart := false }
def PitCulpritsSaid : Prop := pitCulpritsRow.holds Tryz.pinned (OpenSpec.ofChange pitCulpritsSpec)

/-- ITS FALSE NEIGHBOUR: 'it returns false'. Refute it at one input. -/
def pitCulpritsWrong : ChangeSpec := { name := "pitCulprits", fn := fun _ => fun
  | [d1, d2, d3, d4] => { results := [.lit (.bool false)], args := [d1, d2, d3, d4] }
  | _ => none }
def PitCulpritsWrongFalsely : Prop := pitCulpritsRow.holds Tryz.pinned (OpenSpec.ofChange pitCulpritsWrong)

/-- 'calxlaw04.PitContents': WHATEVER THE INPUT: true; the input reads as it did. -/
def pitContentsSpec : ChangeSpec := { name := "pitContents", fn := fun _ => fun
  | [d1, d2, d3] => { results := [.lit (.bool true)], args := [d1, d2, d3] }
  | _ => none }
def pitContentsRow : OpenClaim := { program := "ytjjfpmapjjemcaagreat", sum := "e8c5dce85e8ebd80d17a61b06b444098b8b80b5fac535deccc9a2c7373a9253b", func := "calx/calxlaw04.PitContents", spec := "pitContents", unfollowed := true, recurses := true, apart := false }
def PitContentsSaid : Prop := pitContentsRow.holds Tryz.pinned (OpenSpec.ofChange pitContentsSpec)

/-- ITS FALSE NEIGHBOUR: 'it returns false'. Refute it at one input. -/
def pitContentsWrong : ChangeSpec := { name := "pitContents", fn := fun _ => fun
  | [d1, d2, d3] => { results := [.lit (.bool false)], args := [d1, d2, d3] }
  | _ => none }
def PitContentsWrongFalsely : Prop := pitContentsRow.holds Tryz.pinned (OpenSpec.ofChange pitContentsWrong)

/- THE SECOND FORM. 'bulk': how many values and letters a reading holds, each counted each time it is reached (what is shared counts as often as it is met; a slice's spare places count too). A statement '..UptoSaid' is the law's where the arguments, and the package variables that the reading takes, are together of bulk at most 1048576: NARROWER than '..Said'. Prove '..Said' where nothing that the law and all that it calls make is longer than what came in: it says more and counts as full. Else prove '..UptoSaid'. A law counts once. -/
mutual
def uptoBulk {H : Type} : DataW H → Nat
  | .lit (.string bytes) => bytes.length + 1
  | .lit _ => 1
  | .nil => 1
  | .ptr d => uptoBulk d + 1
  | .slice elems spare => uptoBulkAll elems + uptoBulkAll spare + 1
  | .agg parts => uptoBulkAll parts + 1
  | .iface _ d => uptoBulk d + 1
  | .map entries => uptoBulkEntries entries + 1
  | .held _ => 1
def uptoBulkAll {H : Type} : List (DataW H) → Nat
  | [] => 0
  | d :: r => uptoBulk d + uptoBulkAll r
def uptoBulkEntries {H : Type} : List (Lit × DataW H) → Nat
  | [] => 0
  | x :: r => uptoBulkEntry x + uptoBulkEntries r
def uptoBulkEntry {H : Type} : Lit × DataW H → Nat
  | (.string bytes, d) => bytes.length + uptoBulk d + 1
  | (_, d) => uptoBulk d + 1
 end
def uptoSmall : (H : Type) → List (DataW H) → Bool := fun _ ds => decide (uptoBulkAll ds ≤ 1048576)
def OpenSpec.upto (s : _root_.Go.ChangeSpec) : _root_.Go.OpenSpec := { _root_.Go.OpenSpec.ofChange s with cond := some uptoSmall }

/-- 'calxtop.TopBarrowsComeOfLoads', WHERE WHAT IT READS IS OF BULK AT MOST 1048576: true; the input reads as it did. -/
def topBarrowsComeOfLoadsUptoRow : OpenClaim := { program := "ytjjfpmapjjemcaagreat", sum := "e8c5dce85e8ebd80d17a61b06b444098b8b80b5fac535deccc9a2c7373a9253b", func := "calx/calxtop.TopBarrowsComeOfLoads", spec := "topBarrowsComeOfLoads", unfollowed := true, recurses := true, apart := false, narrowed := true }
def TopBarrowsComeOfLoadsUptoSaid : Prop := topBarrowsComeOfLoadsUptoRow.holds Tryz.pinned (OpenSpec.upto topBarrowsComeOfLoadsSpec)

/-- 'calxlaw04.PitBarrows', WHERE WHAT IT READS IS OF BULK AT MOST 1048576: true; the input reads as it did. -/
def pitBarrowsUptoRow : OpenClaim := { program := "ytjjfpmapjjemcaagreat", sum := "e8c5dce85e8ebd80d17a61b06b444098b8b80b5fac535deccc9a2c7373a9253b", func := "calx/calxlaw04.PitBarrows", spec := "pitBarrows", unfollowed := true, recurses := true, apart := false, narrowed := true }
def PitBarrowsUptoSaid : Prop := pitBarrowsUptoRow.holds Tryz.pinned (OpenSpec.upto pitBarrowsSpec)

/-- 'calxlaw04.PitGrades', WHERE WHAT IT READS IS OF BULK AT MOST 1048576: true; the input reads as it did. -/
def pitGradesUptoRow : OpenClaim := { program := "ytjjfpmapjjemcaagreat", sum := "e8c5dce85e8ebd80d17a61b06b444098b8b80b5fac535deccc9a2c7373a9253b", func := "calx/calxlaw04.PitGrades", spec := "pitGrades", unfollowed := true, recurses := true, apart := false, narrowed := true }
def PitGradesUptoSaid : Prop := pitGradesUptoRow.holds Tryz.pinned (OpenSpec.upto pitGradesSpec)

/-- 'calxlaw04.PitInTurn', WHERE WHAT IT READS IS OF BULK AT MOST 1048576: true; the input reads as it did. -/
def pitInTurnUptoRow : OpenClaim := { program := "ytjjfpmapjjemcaagreat", sum := "e8c5dce85e8ebd80d17a61b06b444098b8b80b5fac535deccc9a2c7373a9253b", func := "calx/calxlaw04.PitInTurn", spec := "pitInTurn", unfollowed := true, recurses := true, apart := false, narrowed := true }
def PitInTurnUptoSaid : Prop := pitInTurnUptoRow.holds Tryz.pinned (OpenSpec.upto pitInTurnSpec)

/-- 'calxlaw04.PitOthers', WHERE WHAT IT READS IS OF BULK AT MOST 1048576: true; the input reads as it did. -/
def pitOthersUptoRow : OpenClaim := { program := "ytjjfpmapjjemcaagreat", sum := "e8c5dce85e8ebd80d17a61b06b444098b8b80b5fac535deccc9a2c7373a9253b", func := "calx/calxlaw04.PitOthers", spec := "pitOthers", unfollowed := true, recurses := true, apart := false, narrowed := true }
def PitOthersUptoSaid : Prop := pitOthersUptoRow.holds Tryz.pinned (OpenSpec.upto pitOthersSpec)

/-- 'calxlaw04.PitFractions', WHERE WHAT IT READS IS OF BULK AT MOST 1048576: true; the input reads as it did. -/
def pitFractionsUptoRow : OpenClaim := { program := "ytjjfpmapjjemcaagreat", sum := "e8c5dce85e8ebd80d17a61b06b444098b8b80b5fac535deccc9a2c7373a9253b", func := "calx/calxlaw04.PitFractions", spec := "pitFractions", unfollowed := true, recurses := true, apart := false, narrowed := true }
def PitFractionsUptoSaid : Prop := pitFractionsUptoRow.holds Tryz.pinned (OpenSpec.upto pitFractionsSpec)

/-- 'calxlaw04.PitKeeps', WHERE WHAT IT READS IS OF BULK AT MOST 1048576: true; the input reads as it did. -/
def pitKeepsUptoRow : OpenClaim := { program := "ytjjfpmapjjemcaagreat", sum := "e8c5dce85e8ebd80d17a61b06b444098b8b80b5fac535deccc9a2c7373a9253b", func := "calx/calxlaw04.PitKeeps", spec := "pitKeeps", unfollowed := true, recurses := true, apart := false, narrowed := true }
def PitKeepsUptoSaid : Prop := pitKeepsUptoRow.holds Tryz.pinned (OpenSpec.upto pitKeepsSpec)

/-- 'calxlaw04.PitMixed', WHERE WHAT IT READS IS OF BULK AT MOST 1048576: true; the input reads as it did. -/
def pitMixedUptoRow : OpenClaim := { program := "ytjjfpmapjjemcaagreat", sum := "e8c5dce85e8ebd80d17a61b06b444098b8b80b5fac535deccc9a2c7373a9253b", func := "calx/calxlaw04.PitMixed", spec := "pitMixed", unfollowed := true, recurses := true, apart := false, narrowed := true }
def PitMixedUptoSaid : Prop := pitMixedUptoRow.holds Tryz.pinned (OpenSpec.upto pitMixedSpec)

/-- 'calxlaw04.PitWorth', WHERE WHAT IT READS IS OF BULK AT MOST 1048576: true; the input reads as it did. -/
def pitWorthUptoRow : OpenClaim := { program := "ytjjfpmapjjemcaagreat", sum := "e8c5dce85e8ebd80d17a61b06b444098b8b80b5fac535deccc9a2c7373a9253b", func := "calx/calxlaw04.PitWorth", spec := "pitWorth", unfollowed := true, recurses := true, apart := false, narrowed := true }
def PitWorthUptoSaid : Prop := pitWorthUptoRow.holds Tryz.pinned (OpenSpec.upto pitWorthSpec)

/-- 'calxlaw04.PitBlames', WHERE WHAT IT READS IS OF BULK AT MOST 1048576: true; the input reads as it did. -/
def pitBlamesUptoRow : OpenClaim := { program := "ytjjfpmapjjemcaagreat", sum := "e8c5dce85e8ebd80d17a61b06b444098b8b80b5fac535deccc9a2c7373a9253b", func := "calx/calxlaw04.PitBlames", spec := "pitBlames", unfollowed := true, recurses := true, apart := false, narrowed := true }
def PitBlamesUptoSaid : Prop := pitBlamesUptoRow.holds Tryz.pinned (OpenSpec.upto pitBlamesSpec)

/-- 'calxlaw04.PitApart', WHERE WHAT IT READS IS OF BULK AT MOST 1048576: true; the input reads as it did. -/
def pitApartUptoRow : OpenClaim := { program := "ytjjfpmapjjemcaagreat", sum := "e8c5dce85e8ebd80d17a61b06b444098b8b80b5fac535deccc9a2c7373a9253b", func := "calx/calxlaw04.PitApart", spec := "pitApart", unfollowed := true, recurses := true, apart := false, narrowed := true }
def PitApartUptoSaid : Prop := pitApartUptoRow.holds Tryz.pinned (OpenSpec.upto pitApartSpec)

/-- 'calxlaw04.PitCulprits', WHERE WHAT IT READS IS OF BULK AT MOST 1048576: true; the input reads as it did. -/
def pitCulpritsUptoRow : OpenClaim := { program := "ytjjfpmapjjemcaagreat", sum := "e8c5dce85e8ebd80d17a61b06b444098b8b80b5fac535deccc9a2c7373a9253b", func := "calx/calxlaw04.PitCulprits", spec := "pitCulprits", unfollowed := true, recurses := true, apart := false, narrowed := true }
def PitCulpritsUptoSaid : Prop := pitCulpritsUptoRow.holds Tryz.pinned (OpenSpec.upto pitCulpritsSpec)

/-- 'calxlaw04.PitContents', WHERE WHAT IT READS IS OF BULK AT MOST 1048576: true; the input reads as it did. -/
def pitContentsUptoRow : OpenClaim := { program := "ytjjfpmapjjemcaagreat", sum := "e8c5dce85e8ebd80d17a61b06b444098b8b80b5fac535deccc9a2c7373a9253b", func := "calx/calxlaw04.PitContents", spec := "pitContents", unfollowed := true, recurses := true, apart := false, narrowed := true }
def PitContentsUptoSaid : Prop := pitContentsUptoRow.holds Tryz.pinned (OpenSpec.upto pitContentsSpec)

end Rows
end Go.Proofs.YtjjfpmapjjemcaaGreat
