/-
  NARROWER THAN 'FOR EVERY INPUT', by the rows' own cells (each row's printed sentence says how): CallSame: laid · CallBack: laid · CallReads: laid.
  DERIVED. THE GIVEN ROWS OF THIS SEAT. 3 by the template 'for every input the law returns true; each argument reads behind the call as it read before'; 0 by the template 'total and deterministic' (their statements: YtiibnfnjfmcggaaDoorTotals.lean).
  GIVEN WITH THE SEED: the statements are not yours to turn. If you find one false, say at which input.
  Laid BY PROGRAM, IN A SANDBOX (cutbox-rows.mjs): the forced cells as the released guide's own fill.sh prints them over the translation 97a9fbc7dc33d902… (all of the seat's roots in one cut). By AI agents, Wed Nov 11 2026. No macro, syntax, notation, axiom, sorry.
-/
import Derived.Test.YtiibnfnjfmcggaaDoorChecked
import GoSem.Claim
import GoSem.ClaimJoined
import GoSem.ClaimMapViews
import Derived.JoinedTies
import Derived.KernelRfl
namespace Go.Proofs.YtiibnfnjfmcggaaDoor
/- THE CELL 'sum', in the pinned program and in every row, IS THE sha256 OF THE DUMP (.gsa) THAT YtiibnfnjfmcggaaDoorProg.lean LOADS. Nothing in Lean hashes anything: it is a label: what it is worth is what the hold of that sum in a sandbox is worth. -/
noncomputable def Tryd.pinned : Pinned := { name := "ytiibnfnjfmcggaadoor", sum := "97a9fbc7dc33d9024253af0b0cc2bfc44fa59a93e08e386c0bfdb74cdd35f886", checked := Tryd.checked }
namespace Rows
def none {H : Type} : Left H := { results := [], args := [] }

/- WHAT THE LISTED PACKAGE-LEVEL VARIABLES READ AS WHEN THE CALL BEGINS. Each datum BY PROGRAM (the guide's laid-datum.mjs) off the statement by which the dump's own 'gosem.cut.vars' lays the variable. In a bare row this is a premise. The card (YtiibnfnjfmcggaaDoorCards.lean) ties it to the program's text. -/
def laid_bastille_call_fields {H : Type} : DataW H := .agg [.lit (.int .i64 0), .lit (.int .i64 0), .lit (.int .i64 9), .lit (.int .i64 9), .lit (.int .i64 1), .lit (.int .i64 21), .lit (.int .i64 21), .lit (.int .i64 5), .lit (.int .i64 67), .lit (.int .i64 35), .lit (.int .i64 1), .lit (.int .i64 3), .lit (.int .i64 3), .lit (.int .i64 1), .lit (.int .i64 4), .lit (.int .i64 0), .lit (.int .i64 4)]

/-- 'bastillelaw30.CallSame': WHATEVER THE INPUT: true; the input reads as it did. -/
def callSameSpec : ChangeSpec := { name := "callSame", fn := fun _ => fun
  | [d1, d2, d3] => { results := [.lit (.bool true)], args := [d1, d2, d3] }
  | _ => none }
def callSameRow : OpenClaim := { program := "ytiibnfnjfmcggaadoor", sum := "97a9fbc7dc33d9024253af0b0cc2bfc44fa59a93e08e386c0bfdb74cdd35f886", func := "bastille/bastillelaw30.CallSame", spec := "callSame", recurses := true, named := ["bastille/call.fields"], apart := false, laid := [("bastille/call.fields", laid_bastille_call_fields)] }
def CallSameSaid : Prop := callSameRow.holds Tryd.pinned (OpenSpec.ofChange callSameSpec)

/-- ITS FALSE NEIGHBOUR: 'it returns false'. Refute it at one input. -/
def callSameWrong : ChangeSpec := { name := "callSame", fn := fun _ => fun
  | [d1, d2, d3] => { results := [.lit (.bool false)], args := [d1, d2, d3] }
  | _ => none }
def CallSameWrongFalsely : Prop := callSameRow.holds Tryd.pinned (OpenSpec.ofChange callSameWrong)

/-- 'bastillelaw30.CallBack': WHATEVER THE INPUT: true; the input reads as it did. -/
def callBackSpec : ChangeSpec := { name := "callBack", fn := fun _ => fun
  | [d] => { results := [.lit (.bool true)], args := [d] }
  | _ => none }
def callBackRow : OpenClaim := { program := "ytiibnfnjfmcggaadoor", sum := "97a9fbc7dc33d9024253af0b0cc2bfc44fa59a93e08e386c0bfdb74cdd35f886", func := "bastille/bastillelaw30.CallBack", spec := "callBack", recurses := true, named := ["bastille/call.fields"], apart := false, laid := [("bastille/call.fields", laid_bastille_call_fields)] }
def CallBackSaid : Prop := callBackRow.holds Tryd.pinned (OpenSpec.ofChange callBackSpec)

/-- ITS FALSE NEIGHBOUR: 'it returns false'. Refute it at one input. -/
def callBackWrong : ChangeSpec := { name := "callBack", fn := fun _ => fun
  | [d] => { results := [.lit (.bool false)], args := [d] }
  | _ => none }
def CallBackWrongFalsely : Prop := callBackRow.holds Tryd.pinned (OpenSpec.ofChange callBackWrong)

/-- 'bastillelaw30.CallReads': WHATEVER THE INPUT: true; the input reads as it did. -/
def callReadsSpec : ChangeSpec := { name := "callReads", fn := fun _ => fun
  | [d] => { results := [.lit (.bool true)], args := [d] }
  | _ => none }
def callReadsRow : OpenClaim := { program := "ytiibnfnjfmcggaadoor", sum := "97a9fbc7dc33d9024253af0b0cc2bfc44fa59a93e08e386c0bfdb74cdd35f886", func := "bastille/bastillelaw30.CallReads", spec := "callReads", recurses := true, named := ["bastille/call.fields"], apart := false, laid := [("bastille/call.fields", laid_bastille_call_fields)] }
def CallReadsSaid : Prop := callReadsRow.holds Tryd.pinned (OpenSpec.ofChange callReadsSpec)

/-- ITS FALSE NEIGHBOUR: 'it returns false'. Refute it at one input. -/
def callReadsWrong : ChangeSpec := { name := "callReads", fn := fun _ => fun
  | [d] => { results := [.lit (.bool false)], args := [d] }
  | _ => none }
def CallReadsWrongFalsely : Prop := callReadsRow.holds Tryd.pinned (OpenSpec.ofChange callReadsWrong)

/- THE SECOND FORM. 'bulk': how many values and letters a reading holds, each counted each time it is reached (what is shared counts as often as it is met; a slice's spare places count too). A statement '..UptoSaid' is the law's where the arguments, and the package variables that the reading takes, are together of bulk at most 1048576: NARROWER than '..Said'. Prove '..Said' where nothing that the law and all that it calls make is longer than what came in: it says more and counts as full. Else prove '..UptoSaid'. A law counts once. -/
mutual
def uptoBulk {H : Type} : DataW H → Nat
  | .lit (.string bytes) => bytes.length + 1
  | .lit _ => 1
  | .nil => 1
  | .ptr d => uptoBulk d + 1
  | .slice elems spare => uptoBulkAll elems + uptoBulkAll spare + 1
  | .agg parts => uptoBulkAll parts + 1
  | .iface _ d => uptoBulk d + 1
  | .map entries => uptoBulkEntries entries + 1
  | .held _ => 1
def uptoBulkAll {H : Type} : List (DataW H) → Nat
  | [] => 0
  | d :: r => uptoBulk d + uptoBulkAll r
def uptoBulkEntries {H : Type} : List (Lit × DataW H) → Nat
  | [] => 0
  | x :: r => uptoBulkEntry x + uptoBulkEntries r
def uptoBulkEntry {H : Type} : Lit × DataW H → Nat
  | (.string bytes, d) => bytes.length + uptoBulk d + 1
  | (_, d) => uptoBulk d + 1
 end
def uptoSmall : (H : Type) → List (DataW H) → Bool := fun _ ds => decide (uptoBulkAll ds ≤ 1048576)
def OpenSpec.upto (s : _root_.Go.ChangeSpec) : _root_.Go.OpenSpec := { _root_.Go.OpenSpec.ofChange s with cond := some uptoSmall }

/-- 'bastillelaw30.CallSame', WHERE WHAT IT READS IS OF BULK AT MOST 1048576: true; the input reads as it did. -/
def callSameUptoRow : OpenClaim := { program := "ytiibnfnjfmcggaadoor", sum := "97a9fbc7dc33d9024253af0b0cc2bfc44fa59a93e08e386c0bfdb74cdd35f886", func := "bastille/bastillelaw30.CallSame", spec := "callSame", recurses := true, named := ["bastille/call.fields"], apart := false, laid := [("bastille/call.fields", laid_bastille_call_fields)], narrowed := true }
def CallSameUptoSaid : Prop := callSameUptoRow.holds Tryd.pinned (OpenSpec.upto callSameSpec)

/-- 'bastillelaw30.CallBack', WHERE WHAT IT READS IS OF BULK AT MOST 1048576: true; the input reads as it did. -/
def callBackUptoRow : OpenClaim := { program := "ytiibnfnjfmcggaadoor", sum := "97a9fbc7dc33d9024253af0b0cc2bfc44fa59a93e08e386c0bfdb74cdd35f886", func := "bastille/bastillelaw30.CallBack", spec := "callBack", recurses := true, named := ["bastille/call.fields"], apart := false, laid := [("bastille/call.fields", laid_bastille_call_fields)], narrowed := true }
def CallBackUptoSaid : Prop := callBackUptoRow.holds Tryd.pinned (OpenSpec.upto callBackSpec)

/-- 'bastillelaw30.CallReads', WHERE WHAT IT READS IS OF BULK AT MOST 1048576: true; the input reads as it did. -/
def callReadsUptoRow : OpenClaim := { program := "ytiibnfnjfmcggaadoor", sum := "97a9fbc7dc33d9024253af0b0cc2bfc44fa59a93e08e386c0bfdb74cdd35f886", func := "bastille/bastillelaw30.CallReads", spec := "callReads", recurses := true, named := ["bastille/call.fields"], apart := false, laid := [("bastille/call.fields", laid_bastille_call_fields)], narrowed := true }
def CallReadsUptoSaid : Prop := callReadsUptoRow.holds Tryd.pinned (OpenSpec.upto callReadsSpec)

end Rows
end Go.Proofs.YtiibnfnjfmcggaaDoor
