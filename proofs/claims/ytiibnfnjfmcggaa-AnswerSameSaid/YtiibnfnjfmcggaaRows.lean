/-
  NARROWER THAN 'FOR EVERY INPUT', by the rows' own cells (each row's printed sentence says how): CodecEncodes: loops · CodecFields: loops · CodecBack: loops.
  DERIVED. THE GIVEN ROWS OF THIS SEAT. 6 by the template 'for every input the law returns true; each argument reads behind the call as it read before'; 0 by the template 'total and deterministic' (their statements: YtiibnfnjfmcggaaTotals.lean).
  GIVEN WITH THE SEED: the statements are not yours to turn. If you find one false, say at which input.
  Laid BY PROGRAM, IN A SANDBOX (cutbox-rows.mjs): the forced cells as the released guide's own fill.sh prints them over the translation ae5c7be91eee1177… (all of the seat's roots in one cut). By AI agents, Wed Nov 11 2026. No macro, syntax, notation, axiom, sorry.
-/
import Derived.Test.YtiibnfnjfmcggaaChecked
import GoSem.Claim
import GoSem.ClaimJoined
import GoSem.ClaimMapViews
import Derived.JoinedTies
import Derived.KernelRfl
namespace Go.Proofs.Ytiibnfnjfmcggaa
/- THE CELL 'sum', in the pinned program and in every row, IS THE sha256 OF THE DUMP (.gsa) THAT YtiibnfnjfmcggaaProg.lean LOADS. Nothing in Lean hashes anything: it is a label: what it is worth is what the hold of that sum in a sandbox is worth. -/
noncomputable def Try.pinned : Pinned := { name := "ytiibnfnjfmcggaa", sum := "ae5c7be91eee1177fc0b62b683e064125233df037ae360b9a9a3cd6587aa0902", checked := Try.checked }
namespace Rows
def none {H : Type} : Left H := { results := [], args := [] }

/-- 'bastillelaw31.AnswerBack': WHATEVER THE INPUT: true; the input reads as it did. -/
def answerBackSpec : ChangeSpec := { name := "answerBack", fn := fun _ => fun
  | [d] => { results := [.lit (.bool true)], args := [d] }
  | _ => none }
def answerBackRow : OpenClaim := { program := "ytiibnfnjfmcggaa", sum := "ae5c7be91eee1177fc0b62b683e064125233df037ae360b9a9a3cd6587aa0902", func := "bastille/bastillelaw31.AnswerBack", spec := "answerBack", unfollowed := true, recurses := true, apart := false }
def AnswerBackSaid : Prop := answerBackRow.holds Try.pinned (OpenSpec.ofChange answerBackSpec)

/-- ITS FALSE NEIGHBOUR: 'it returns false'. Refute it at one input. -/
def answerBackWrong : ChangeSpec := { name := "answerBack", fn := fun _ => fun
  | [d] => { results := [.lit (.bool false)], args := [d] }
  | _ => none }
def AnswerBackWrongFalsely : Prop := answerBackRow.holds Try.pinned (OpenSpec.ofChange answerBackWrong)

/-- 'bastillelaw31.AnswerReads': WHATEVER THE INPUT: true; the input reads as it did. -/
def answerReadsSpec : ChangeSpec := { name := "answerReads", fn := fun _ => fun
  | [d] => { results := [.lit (.bool true)], args := [d] }
  | _ => none }
def answerReadsRow : OpenClaim := { program := "ytiibnfnjfmcggaa", sum := "ae5c7be91eee1177fc0b62b683e064125233df037ae360b9a9a3cd6587aa0902", func := "bastille/bastillelaw31.AnswerReads", spec := "answerReads", unfollowed := true, recurses := true, apart := false }
def AnswerReadsSaid : Prop := answerReadsRow.holds Try.pinned (OpenSpec.ofChange answerReadsSpec)

/-- ITS FALSE NEIGHBOUR: 'it returns false'. Refute it at one input. -/
def answerReadsWrong : ChangeSpec := { name := "answerReads", fn := fun _ => fun
  | [d] => { results := [.lit (.bool false)], args := [d] }
  | _ => none }
def AnswerReadsWrongFalsely : Prop := answerReadsRow.holds Try.pinned (OpenSpec.ofChange answerReadsWrong)

/-- 'bastillelaw02.CodecEncodes': WHATEVER THE INPUT: true; the input reads as it did. -/
def codecEncodesSpec : ChangeSpec := { name := "codecEncodes", fn := fun _ => fun
  | [d] => { results := [.lit (.bool true)], args := [d] }
  | _ => none }
def codecEncodesRow : OpenClaim := { program := "ytiibnfnjfmcggaa", sum := "ae5c7be91eee1177fc0b62b683e064125233df037ae360b9a9a3cd6587aa0902", func := "bastille/bastillelaw02.CodecEncodes", spec := "codecEncodes", recurses := true, loops := true, apart := false }
def CodecEncodesSaid : Prop := codecEncodesRow.holds Try.pinned (OpenSpec.ofChange codecEncodesSpec)

/-- ITS FALSE NEIGHBOUR: 'it returns false'. Refute it at one input. -/
def codecEncodesWrong : ChangeSpec := { name := "codecEncodes", fn := fun _ => fun
  | [d] => { results := [.lit (.bool false)], args := [d] }
  | _ => none }
def CodecEncodesWrongFalsely : Prop := codecEncodesRow.holds Try.pinned (OpenSpec.ofChange codecEncodesWrong)

/-- 'bastillelaw02.CodecFields': WHATEVER THE INPUT: true; the input reads as it did. -/
def codecFieldsSpec : ChangeSpec := { name := "codecFields", fn := fun _ => fun
  | [d1, d2, d3] => { results := [.lit (.bool true)], args := [d1, d2, d3] }
  | _ => none }
def codecFieldsRow : OpenClaim := { program := "ytiibnfnjfmcggaa", sum := "ae5c7be91eee1177fc0b62b683e064125233df037ae360b9a9a3cd6587aa0902", func := "bastille/bastillelaw02.CodecFields", spec := "codecFields", unfollowed := true, recurses := true, loops := true, apart := false }
def CodecFieldsSaid : Prop := codecFieldsRow.holds Try.pinned (OpenSpec.ofChange codecFieldsSpec)

/-- ITS FALSE NEIGHBOUR: 'it returns false'. Refute it at one input. -/
def codecFieldsWrong : ChangeSpec := { name := "codecFields", fn := fun _ => fun
  | [d1, d2, d3] => { results := [.lit (.bool false)], args := [d1, d2, d3] }
  | _ => none }
def CodecFieldsWrongFalsely : Prop := codecFieldsRow.holds Try.pinned (OpenSpec.ofChange codecFieldsWrong)

/-- 'bastillelaw31.AnswerSame': WHATEVER THE INPUT: true; the input reads as it did. -/
def answerSameSpec : ChangeSpec := { name := "answerSame", fn := fun _ => fun
  | [d1, d2] => { results := [.lit (.bool true)], args := [d1, d2] }
  | _ => none }
def answerSameRow : OpenClaim := { program := "ytiibnfnjfmcggaa", sum := "ae5c7be91eee1177fc0b62b683e064125233df037ae360b9a9a3cd6587aa0902", func := "bastille/bastillelaw31.AnswerSame", spec := "answerSame", unfollowed := true, recurses := true, apart := false }
def AnswerSameSaid : Prop := answerSameRow.holds Try.pinned (OpenSpec.ofChange answerSameSpec)

/-- ITS FALSE NEIGHBOUR: 'it returns false'. Refute it at one input. -/
def answerSameWrong : ChangeSpec := { name := "answerSame", fn := fun _ => fun
  | [d1, d2] => { results := [.lit (.bool false)], args := [d1, d2] }
  | _ => none }
def AnswerSameWrongFalsely : Prop := answerSameRow.holds Try.pinned (OpenSpec.ofChange answerSameWrong)

/-- 'bastillelaw02.CodecBack': WHATEVER THE INPUT: true; the input reads as it did. -/
def codecBackSpec : ChangeSpec := { name := "codecBack", fn := fun _ => fun
  | [d1, d2] => { results := [.lit (.bool true)], args := [d1, d2] }
  | _ => none }
def codecBackRow : OpenClaim := { program := "ytiibnfnjfmcggaa", sum := "ae5c7be91eee1177fc0b62b683e064125233df037ae360b9a9a3cd6587aa0902", func := "bastille/bastillelaw02.CodecBack", spec := "codecBack", unfollowed := true, recurses := true, loops := true, apart := false }
def CodecBackSaid : Prop := codecBackRow.holds Try.pinned (OpenSpec.ofChange codecBackSpec)

/-- ITS FALSE NEIGHBOUR: 'it returns false'. Refute it at one input. -/
def codecBackWrong : ChangeSpec := { name := "codecBack", fn := fun _ => fun
  | [d1, d2] => { results := [.lit (.bool false)], args := [d1, d2] }
  | _ => none }
def CodecBackWrongFalsely : Prop := codecBackRow.holds Try.pinned (OpenSpec.ofChange codecBackWrong)

/- THE SECOND FORM. 'bulk': how many values and letters a reading holds, each counted each time it is reached (what is shared counts as often as it is met; a slice's spare places count too). A statement '..UptoSaid' is the law's where the arguments, and the package variables that the reading takes, are together of bulk at most 1048576: NARROWER than '..Said'. Prove '..Said' where nothing that the law and all that it calls make is longer than what came in: it says more and counts as full. Else prove '..UptoSaid'. A law counts once. -/
mutual
def uptoBulk {H : Type} : DataW H → Nat
  | .lit (.string bytes) => bytes.length + 1
  | .lit _ => 1
  | .nil => 1
  | .ptr d => uptoBulk d + 1
  | .slice elems spare => uptoBulkAll elems + uptoBulkAll spare + 1
  | .agg parts => uptoBulkAll parts + 1
  | .iface _ d => uptoBulk d + 1
  | .map entries => uptoBulkEntries entries + 1
  | .held _ => 1
def uptoBulkAll {H : Type} : List (DataW H) → Nat
  | [] => 0
  | d :: r => uptoBulk d + uptoBulkAll r
def uptoBulkEntries {H : Type} : List (Lit × DataW H) → Nat
  | [] => 0
  | x :: r => uptoBulkEntry x + uptoBulkEntries r
def uptoBulkEntry {H : Type} : Lit × DataW H → Nat
  | (.string bytes, d) => bytes.length + uptoBulk d + 1
  | (_, d) => uptoBulk d + 1
 end
def uptoSmall : (H : Type) → List (DataW H) → Bool := fun _ ds => decide (uptoBulkAll ds ≤ 1048576)
def OpenSpec.upto (s : _root_.Go.ChangeSpec) : _root_.Go.OpenSpec := { _root_.Go.OpenSpec.ofChange s with cond := some uptoSmall }

/-- 'bastillelaw31.AnswerBack', WHERE WHAT IT READS IS OF BULK AT MOST 1048576: true; the input reads as it did. -/
def answerBackUptoRow : OpenClaim := { program := "ytiibnfnjfmcggaa", sum := "ae5c7be91eee1177fc0b62b683e064125233df037ae360b9a9a3cd6587aa0902", func := "bastille/bastillelaw31.AnswerBack", spec := "answerBack", unfollowed := true, recurses := true, apart := false, narrowed := true }
def AnswerBackUptoSaid : Prop := answerBackUptoRow.holds Try.pinned (OpenSpec.upto answerBackSpec)

/-- 'bastillelaw31.AnswerReads', WHERE WHAT IT READS IS OF BULK AT MOST 1048576: true; the input reads as it did. -/
def answerReadsUptoRow : OpenClaim := { program := "ytiibnfnjfmcggaa", sum := "ae5c7be91eee1177fc0b62b683e064125233df037ae360b9a9a3cd6587aa0902", func := "bastille/bastillelaw31.AnswerReads", spec := "answerReads", unfollowed := true, recurses := true, apart := false, narrowed := true }
def AnswerReadsUptoSaid : Prop := answerReadsUptoRow.holds Try.pinned (OpenSpec.upto answerReadsSpec)

/-- 'bastillelaw02.CodecEncodes', WHERE WHAT IT READS IS OF BULK AT MOST 1048576: true; the input reads as it did. -/
def codecEncodesUptoRow : OpenClaim := { program := "ytiibnfnjfmcggaa", sum := "ae5c7be91eee1177fc0b62b683e064125233df037ae360b9a9a3cd6587aa0902", func := "bastille/bastillelaw02.CodecEncodes", spec := "codecEncodes", recurses := true, loops := true, apart := false, narrowed := true }
def CodecEncodesUptoSaid : Prop := codecEncodesUptoRow.holds Try.pinned (OpenSpec.upto codecEncodesSpec)

/-- 'bastillelaw02.CodecFields', WHERE WHAT IT READS IS OF BULK AT MOST 1048576: true; the input reads as it did. -/
def codecFieldsUptoRow : OpenClaim := { program := "ytiibnfnjfmcggaa", sum := "ae5c7be91eee1177fc0b62b683e064125233df037ae360b9a9a3cd6587aa0902", func := "bastille/bastillelaw02.CodecFields", spec := "codecFields", unfollowed := true, recurses := true, loops := true, apart := false, narrowed := true }
def CodecFieldsUptoSaid : Prop := codecFieldsUptoRow.holds Try.pinned (OpenSpec.upto codecFieldsSpec)

/-- 'bastillelaw31.AnswerSame', WHERE WHAT IT READS IS OF BULK AT MOST 1048576: true; the input reads as it did. -/
def answerSameUptoRow : OpenClaim := { program := "ytiibnfnjfmcggaa", sum := "ae5c7be91eee1177fc0b62b683e064125233df037ae360b9a9a3cd6587aa0902", func := "bastille/bastillelaw31.AnswerSame", spec := "answerSame", unfollowed := true, recurses := true, apart := false, narrowed := true }
def AnswerSameUptoSaid : Prop := answerSameUptoRow.holds Try.pinned (OpenSpec.upto answerSameSpec)

/-- 'bastillelaw02.CodecBack', WHERE WHAT IT READS IS OF BULK AT MOST 1048576: true; the input reads as it did. -/
def codecBackUptoRow : OpenClaim := { program := "ytiibnfnjfmcggaa", sum := "ae5c7be91eee1177fc0b62b683e064125233df037ae360b9a9a3cd6587aa0902", func := "bastille/bastillelaw02.CodecBack", spec := "codecBack", unfollowed := true, recurses := true, loops := true, apart := false, narrowed := true }
def CodecBackUptoSaid : Prop := codecBackUptoRow.holds Try.pinned (OpenSpec.upto codecBackSpec)

end Rows
end Go.Proofs.Ytiibnfnjfmcggaa
