/-
  NARROWER THAN 'FOR EVERY INPUT', by the rows' own cells (each row's printed sentence says how): FeedTokens: laid · FeedTells: laid · FeedWhole: laid · FeedMeanwhile: laid · FeedResumes: laid · FeedOne: laid.
  DERIVED. THE GIVEN ROWS OF THIS SEAT. 6 by the template 'for every input the law returns true; each argument reads behind the call as it read before'; 0 by the template 'total and deterministic' (their statements: YtkgapncajjafoaaGreatDoorTotals.lean).
  GIVEN WITH THE SEED: the statements are not yours to turn. If you find one false, say at which input.
  Laid BY PROGRAM, IN A SANDBOX (cutbox-rows.mjs): the forced cells as the released guide's own fill.sh prints them over the translation 99ae270d31209683… (all of the seat's roots in one cut). By AI agents, Wed Nov 11 2026. No macro, syntax, notation, axiom, sorry.
-/
import Derived.Test.YtkgapncajjafoaaGreatDoorChecked
import GoSem.Claim
import GoSem.ClaimJoined
import GoSem.ClaimMapViews
import Derived.JoinedTies
import Derived.KernelRfl
namespace Go.Proofs.YtkgapncajjafoaaGreatDoor
/- THE CELL 'sum', in the pinned program and in every row, IS THE sha256 OF THE DUMP (.gsa) THAT YtkgapncajjafoaaGreatDoorProg.lean LOADS. Nothing in Lean hashes anything: it is a label: what it is worth is what the hold of that sum in a sandbox is worth. -/
noncomputable def Tryz.pinned : Pinned := { name := "ytkgapncajjafoaagreatdoor", sum := "99ae270d31209683587d5e55ec3ab9017eb735d1287e55e1939e8b50b9770aa8", checked := Tryz.checked }
namespace Rows
def none {H : Type} : Left H := { results := [], args := [] }

/- WHAT THE LISTED PACKAGE-LEVEL VARIABLES READ AS WHEN THE CALL BEGINS. Each datum BY PROGRAM (the guide's laid-datum.mjs) off the statement by which the dump's own 'gosem.cut.vars' lays the variable. In a bare row this is a premise. The card (YtkgapncajjafoaaGreatDoorCards.lean) ties it to the program's text. -/
def laid_davenport_utf_none {H : Type} : DataW H := .agg [.lit (.int .i64 0), .lit (.int .i64 0)]

/-- 'davenportlaw21.FeedTokens': WHATEVER THE INPUT: true; the input reads as it did. -/
def feedTokensSpec : ChangeSpec := { name := "feedTokens", fn := fun _ => fun
  | [d1, d2] => { results := [.lit (.bool true)], args := [d1, d2] }
  | _ => none }
def feedTokensRow : OpenClaim := { program := "ytkgapncajjafoaagreatdoor", sum := "99ae270d31209683587d5e55ec3ab9017eb735d1287e55e1939e8b50b9770aa8", func := "davenport/davenportlaw21.FeedTokens", spec := "feedTokens", inPlace := ["internal/bytealg.Compare", "internal/abi.NoEscape", "internal/bytealg.MakeNoZero"], unfollowed := true, recurses := true, named := ["davenport/utf.none"], apart := false, laid := [("davenport/utf.none", laid_davenport_utf_none)] }
def FeedTokensSaid : Prop := feedTokensRow.holds Tryz.pinned (OpenSpec.ofChange feedTokensSpec)

/-- ITS FALSE NEIGHBOUR: 'it returns false'. Refute it at one input. -/
def feedTokensWrong : ChangeSpec := { name := "feedTokens", fn := fun _ => fun
  | [d1, d2] => { results := [.lit (.bool false)], args := [d1, d2] }
  | _ => none }
def FeedTokensWrongFalsely : Prop := feedTokensRow.holds Tryz.pinned (OpenSpec.ofChange feedTokensWrong)

/-- 'davenportlaw21.FeedTells': WHATEVER THE INPUT: true; the input reads as it did. -/
def feedTellsSpec : ChangeSpec := { name := "feedTells", fn := fun _ => fun
  | [d1, d2, d3] => { results := [.lit (.bool true)], args := [d1, d2, d3] }
  | _ => none }
def feedTellsRow : OpenClaim := { program := "ytkgapncajjafoaagreatdoor", sum := "99ae270d31209683587d5e55ec3ab9017eb735d1287e55e1939e8b50b9770aa8", func := "davenport/davenportlaw21.FeedTells", spec := "feedTells", inPlace := ["internal/bytealg.Compare", "internal/abi.NoEscape", "internal/bytealg.MakeNoZero"], unfollowed := true, recurses := true, named := ["davenport/utf.none"], apart := false, laid := [("davenport/utf.none", laid_davenport_utf_none)] }
def FeedTellsSaid : Prop := feedTellsRow.holds Tryz.pinned (OpenSpec.ofChange feedTellsSpec)

/-- ITS FALSE NEIGHBOUR: 'it returns false'. Refute it at one input. -/
def feedTellsWrong : ChangeSpec := { name := "feedTells", fn := fun _ => fun
  | [d1, d2, d3] => { results := [.lit (.bool false)], args := [d1, d2, d3] }
  | _ => none }
def FeedTellsWrongFalsely : Prop := feedTellsRow.holds Tryz.pinned (OpenSpec.ofChange feedTellsWrong)

/-- 'davenportlaw21.FeedWhole': WHATEVER THE INPUT: true; the input reads as it did. -/
def feedWholeSpec : ChangeSpec := { name := "feedWhole", fn := fun _ => fun
  | [d1, d2] => { results := [.lit (.bool true)], args := [d1, d2] }
  | _ => none }
def feedWholeRow : OpenClaim := { program := "ytkgapncajjafoaagreatdoor", sum := "99ae270d31209683587d5e55ec3ab9017eb735d1287e55e1939e8b50b9770aa8", func := "davenport/davenportlaw21.FeedWhole", spec := "feedWhole", inPlace := ["internal/bytealg.Compare", "internal/abi.NoEscape", "internal/bytealg.MakeNoZero"], unfollowed := true, recurses := true, named := ["davenport/utf.none"], apart := false, laid := [("davenport/utf.none", laid_davenport_utf_none)] }
def FeedWholeSaid : Prop := feedWholeRow.holds Tryz.pinned (OpenSpec.ofChange feedWholeSpec)

/-- ITS FALSE NEIGHBOUR: 'it returns false'. Refute it at one input. -/
def feedWholeWrong : ChangeSpec := { name := "feedWhole", fn := fun _ => fun
  | [d1, d2] => { results := [.lit (.bool false)], args := [d1, d2] }
  | _ => none }
def FeedWholeWrongFalsely : Prop := feedWholeRow.holds Tryz.pinned (OpenSpec.ofChange feedWholeWrong)

/-- 'davenportlaw21.FeedMeanwhile': WHATEVER THE INPUT: true; the input reads as it did. -/
def feedMeanwhileSpec : ChangeSpec := { name := "feedMeanwhile", fn := fun _ => fun
  | [d1, d2, d3] => { results := [.lit (.bool true)], args := [d1, d2, d3] }
  | _ => none }
def feedMeanwhileRow : OpenClaim := { program := "ytkgapncajjafoaagreatdoor", sum := "99ae270d31209683587d5e55ec3ab9017eb735d1287e55e1939e8b50b9770aa8", func := "davenport/davenportlaw21.FeedMeanwhile", spec := "feedMeanwhile", inPlace := ["internal/bytealg.Compare", "internal/abi.NoEscape", "internal/bytealg.MakeNoZero"], unfollowed := true, recurses := true, named := ["davenport/utf.none"], apart := false, laid := [("davenport/utf.none", laid_davenport_utf_none)] }
def FeedMeanwhileSaid : Prop := feedMeanwhileRow.holds Tryz.pinned (OpenSpec.ofChange feedMeanwhileSpec)

/-- ITS FALSE NEIGHBOUR: 'it returns false'. Refute it at one input. -/
def feedMeanwhileWrong : ChangeSpec := { name := "feedMeanwhile", fn := fun _ => fun
  | [d1, d2, d3] => { results := [.lit (.bool false)], args := [d1, d2, d3] }
  | _ => none }
def FeedMeanwhileWrongFalsely : Prop := feedMeanwhileRow.holds Tryz.pinned (OpenSpec.ofChange feedMeanwhileWrong)

/-- 'davenportlaw21.FeedResumes': WHATEVER THE INPUT: true; the input reads as it did. -/
def feedResumesSpec : ChangeSpec := { name := "feedResumes", fn := fun _ => fun
  | [d1, d2, d3] => { results := [.lit (.bool true)], args := [d1, d2, d3] }
  | _ => none }
def feedResumesRow : OpenClaim := { program := "ytkgapncajjafoaagreatdoor", sum := "99ae270d31209683587d5e55ec3ab9017eb735d1287e55e1939e8b50b9770aa8", func := "davenport/davenportlaw21.FeedResumes", spec := "feedResumes", inPlace := ["internal/bytealg.Compare", "internal/abi.NoEscape", "internal/bytealg.MakeNoZero"], unfollowed := true, recurses := true, named := ["davenport/utf.none"], apart := false, laid := [("davenport/utf.none", laid_davenport_utf_none)] }
def FeedResumesSaid : Prop := feedResumesRow.holds Tryz.pinned (OpenSpec.ofChange feedResumesSpec)

/-- ITS FALSE NEIGHBOUR: 'it returns false'. Refute it at one input. -/
def feedResumesWrong : ChangeSpec := { name := "feedResumes", fn := fun _ => fun
  | [d1, d2, d3] => { results := [.lit (.bool false)], args := [d1, d2, d3] }
  | _ => none }
def FeedResumesWrongFalsely : Prop := feedResumesRow.holds Tryz.pinned (OpenSpec.ofChange feedResumesWrong)

/-- 'davenportlaw21.FeedOne': WHATEVER THE INPUT: true; the input reads as it did. -/
def feedOneSpec : ChangeSpec := { name := "feedOne", fn := fun _ => fun
  | [d1, d2] => { results := [.lit (.bool true)], args := [d1, d2] }
  | _ => none }
def feedOneRow : OpenClaim := { program := "ytkgapncajjafoaagreatdoor", sum := "99ae270d31209683587d5e55ec3ab9017eb735d1287e55e1939e8b50b9770aa8", func := "davenport/davenportlaw21.FeedOne", spec := "feedOne", inPlace := ["internal/bytealg.Compare", "internal/abi.NoEscape", "internal/bytealg.MakeNoZero"], unfollowed := true, recurses := true, named := ["davenport/utf.none"], apart := false, laid := [("davenport/utf.none", laid_davenport_utf_none)] }
def FeedOneSaid : Prop := feedOneRow.holds Tryz.pinned (OpenSpec.ofChange feedOneSpec)

/-- ITS FALSE NEIGHBOUR: 'it returns false'. Refute it at one input. -/
def feedOneWrong : ChangeSpec := { name := "feedOne", fn := fun _ => fun
  | [d1, d2] => { results := [.lit (.bool false)], args := [d1, d2] }
  | _ => none }
def FeedOneWrongFalsely : Prop := feedOneRow.holds Tryz.pinned (OpenSpec.ofChange feedOneWrong)

/- THE SECOND FORM. 'bulk': how many values and letters a reading holds, each counted each time it is reached (what is shared counts as often as it is met; a slice's spare places count too). A statement '..UptoSaid' is the law's where the arguments, and the package variables that the reading takes, are together of bulk at most 1048576: NARROWER than '..Said'. Prove '..Said' where nothing that the law and all that it calls make is longer than what came in: it says more and counts as full. Else prove '..UptoSaid'. A law counts once. -/
mutual
def uptoBulk {H : Type} : DataW H → Nat
  | .lit (.string bytes) => bytes.length + 1
  | .lit _ => 1
  | .nil => 1
  | .ptr d => uptoBulk d + 1
  | .slice elems spare => uptoBulkAll elems + uptoBulkAll spare + 1
  | .agg parts => uptoBulkAll parts + 1
  | .iface _ d => uptoBulk d + 1
  | .map entries => uptoBulkEntries entries + 1
  | .held _ => 1
def uptoBulkAll {H : Type} : List (DataW H) → Nat
  | [] => 0
  | d :: r => uptoBulk d + uptoBulkAll r
def uptoBulkEntries {H : Type} : List (Lit × DataW H) → Nat
  | [] => 0
  | x :: r => uptoBulkEntry x + uptoBulkEntries r
def uptoBulkEntry {H : Type} : Lit × DataW H → Nat
  | (.string bytes, d) => bytes.length + uptoBulk d + 1
  | (_, d) => uptoBulk d + 1
 end
def uptoSmall : (H : Type) → List (DataW H) → Bool := fun _ ds => decide (uptoBulkAll ds ≤ 1048576)
def OpenSpec.upto (s : _root_.Go.ChangeSpec) : _root_.Go.OpenSpec := { _root_.Go.OpenSpec.ofChange s with cond := some uptoSmall }

/-- 'davenportlaw21.FeedTokens', WHERE WHAT IT READS IS OF BULK AT MOST 1048576: true; the input reads as it did. -/
def feedTokensUptoRow : OpenClaim := { program := "ytkgapncajjafoaagreatdoor", sum := "99ae270d31209683587d5e55ec3ab9017eb735d1287e55e1939e8b50b9770aa8", func := "davenport/davenportlaw21.FeedTokens", spec := "feedTokens", inPlace := ["internal/bytealg.Compare", "internal/abi.NoEscape", "internal/bytealg.MakeNoZero"], unfollowed := true, recurses := true, named := ["davenport/utf.none"], apart := false, laid := [("davenport/utf.none", laid_davenport_utf_none)], narrowed := true }
def FeedTokensUptoSaid : Prop := feedTokensUptoRow.holds Tryz.pinned (OpenSpec.upto feedTokensSpec)

/-- 'davenportlaw21.FeedTells', WHERE WHAT IT READS IS OF BULK AT MOST 1048576: true; the input reads as it did. -/
def feedTellsUptoRow : OpenClaim := { program := "ytkgapncajjafoaagreatdoor", sum := "99ae270d31209683587d5e55ec3ab9017eb735d1287e55e1939e8b50b9770aa8", func := "davenport/davenportlaw21.FeedTells", spec := "feedTells", inPlace := ["internal/bytealg.Compare", "internal/abi.NoEscape", "internal/bytealg.MakeNoZero"], unfollowed := true, recurses := true, named := ["davenport/utf.none"], apart := false, laid := [("davenport/utf.none", laid_davenport_utf_none)], narrowed := true }
def FeedTellsUptoSaid : Prop := feedTellsUptoRow.holds Tryz.pinned (OpenSpec.upto feedTellsSpec)

/-- 'davenportlaw21.FeedWhole', WHERE WHAT IT READS IS OF BULK AT MOST 1048576: true; the input reads as it did. -/
def feedWholeUptoRow : OpenClaim := { program := "ytkgapncajjafoaagreatdoor", sum := "99ae270d31209683587d5e55ec3ab9017eb735d1287e55e1939e8b50b9770aa8", func := "davenport/davenportlaw21.FeedWhole", spec := "feedWhole", inPlace := ["internal/bytealg.Compare", "internal/abi.NoEscape", "internal/bytealg.MakeNoZero"], unfollowed := true, recurses := true, named := ["davenport/utf.none"], apart := false, laid := [("davenport/utf.none", laid_davenport_utf_none)], narrowed := true }
def FeedWholeUptoSaid : Prop := feedWholeUptoRow.holds Tryz.pinned (OpenSpec.upto feedWholeSpec)

/-- 'davenportlaw21.FeedMeanwhile', WHERE WHAT IT READS IS OF BULK AT MOST 1048576: true; the input reads as it did. -/
def feedMeanwhileUptoRow : OpenClaim := { program := "ytkgapncajjafoaagreatdoor", sum := "99ae270d31209683587d5e55ec3ab9017eb735d1287e55e1939e8b50b9770aa8", func := "davenport/davenportlaw21.FeedMeanwhile", spec := "feedMeanwhile", inPlace := ["internal/bytealg.Compare", "internal/abi.NoEscape", "internal/bytealg.MakeNoZero"], unfollowed := true, recurses := true, named := ["davenport/utf.none"], apart := false, laid := [("davenport/utf.none", laid_davenport_utf_none)], narrowed := true }
def FeedMeanwhileUptoSaid : Prop := feedMeanwhileUptoRow.holds Tryz.pinned (OpenSpec.upto feedMeanwhileSpec)

/-- 'davenportlaw21.FeedResumes', WHERE WHAT IT READS IS OF BULK AT MOST 1048576: true; the input reads as it did. -/
def feedResumesUptoRow : OpenClaim := { program := "ytkgapncajjafoaagreatdoor", sum := "99ae270d31209683587d5e55ec3ab9017eb735d1287e55e1939e8b50b9770aa8", func := "davenport/davenportlaw21.FeedResumes", spec := "feedResumes", inPlace := ["internal/bytealg.Compare", "internal/abi.NoEscape", "internal/bytealg.MakeNoZero"], unfollowed := true, recurses := true, named := ["davenport/utf.none"], apart := false, laid := [("davenport/utf.none", laid_davenport_utf_none)], narrowed := true }
def FeedResumesUptoSaid : Prop := feedResumesUptoRow.holds Tryz.pinned (OpenSpec.upto feedResumesSpec)

/-- 'davenportlaw21.FeedOne', WHERE WHAT IT READS IS OF BULK AT MOST 1048576: true; the input reads as it did. -/
def feedOneUptoRow : OpenClaim := { program := "ytkgapncajjafoaagreatdoor", sum := "99ae270d31209683587d5e55ec3ab9017eb735d1287e55e1939e8b50b9770aa8", func := "davenport/davenportlaw21.FeedOne", spec := "feedOne", inPlace := ["internal/bytealg.Compare", "internal/abi.NoEscape", "internal/bytealg.MakeNoZero"], unfollowed := true, recurses := true, named := ["davenport/utf.none"], apart := false, laid := [("davenport/utf.none", laid_davenport_utf_none)], narrowed := true }
def FeedOneUptoSaid : Prop := feedOneUptoRow.holds Tryz.pinned (OpenSpec.upto feedOneSpec)

end Rows
end Go.Proofs.YtkgapncajjafoaaGreatDoor
