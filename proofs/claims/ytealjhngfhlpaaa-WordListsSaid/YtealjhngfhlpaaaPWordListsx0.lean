-- Written by drive.py of this work: the kit's print.py with contracts of this work laid in.
import Derived.Test.YtealjhngfhlpaaaProg
import Derived.Below
import Derived.Deep.Draws
import Derived.Deep.AppendLies
import Derived.Maps.AppendAt
import Derived.OwnWalk
import Derived.Laws.BytesArg
import Derived.Laws.MakeOwn
import Derived.Laws.OwnMore
import Derived.Deep.OwnRows
import Derived.Tactics
import Derived.Lib.ConvBytes
import Derived.Laws.Slices
import Derived.WalkKit
import Derived.KernelRfl
import Derived.RowKit3
import Derived.Deep.LoopGhost
import Derived.Deep.QuietTactic
import Derived.BigQuiet
import Derived.WideLaws
import Derived.Deep.DeepCutAuto
import Derived.Deep.CutBlock
import Derived.Deep.RegionHeld3
import Derived.Laws.Rows
import Derived.Lib.AppendStr
import Derived.ArgAppend
import Derived.Laws.IdiomCopy
import Derived.OrdersHeld
import Derived.Laws.BitsLemmas
import Derived.RowKit
import Derived.WalkSpells
import Derived.Lib.Walk
import Derived.Sort.WalkB12
import Derived.Lib.SlicesMore
import Derived.Lib.OwnBridge
import Derived.Lib.RowBridge
import Derived.Test.YtealjhngfhlpaaaWWords
import Derived.Test.YtealjhngfhlpaaaWLast
import Derived.Test.YtealjhngfhlpaaaWTab
import Derived.Test.YtealjhngfhlpaaaWFour
import Derived.Test.YtealjhngfhlpaaaWQPut
import Derived.Test.YtealjhngfhlpaaaWApart
import Derived.Test.YtealjhngfhlpaaaWArr
import Derived.Test.YtealjhngfhlpaaaWZeros
import Derived.Test.YtealjhngfhlpaaaWFoot
import Derived.Test.YtealjhngfhlpaaaWKept
import Derived.Test.YtealjhngfhlpaaaWShare
import Derived.Test.YtealjhngfhlpaaaWN
import Derived.Test.YtealjhngfhlpaaaWFootNe
import Derived.Test.YtealjhngfhlpaaaWAt
import Derived.Test.YtealjhngfhlpaaaWEqStruct
import Derived.Test.YtealjhngfhlpaaaWRepsOne
import Derived.Test.YtealjhngfhlpaaaWInv
import Derived.Test.YtealjhngfhlpaaaWInvWords
import Derived.Test.YtealjhngfhlpaaaWGuard
import Derived.Test.YtealjhngfhlpaaaWNEv
import Derived.Test.YtealjhngfhlpaaaWMore
namespace Go.Proofs.Ytealjhngfhlpaaa.PWordLists
open Go.RowKit Go.Proofs.YtealjhngfhlpaaaW.PrintWords Go.Proofs.YtealjhngfhlpaaaW.PrintLast Go.Proofs.YtealjhngfhlpaaaW.PrintMore
attribute [local go_sem] max2_int min2_int max_two min_two max_three min_three max_four min_four   -- for this text's walks alone
set_option linter.unusedVariables false
set_option linter.unusedSimpArgs false



def errW : Option Int → Value
  | none => .nilIface
  | some c => .iface 0 (.int .i64 c)
theorem errW_none : errW none = .nilIface := rfl
theorem errW_some (c : Int) : errW (some c) = .iface 0 (.int .i64 c) := rfl

theorem info5 : (Try.prog.info? 5).map (fun i => (i.zero, i.size, i.bytes)) = some (some (.int .u8 0), 1, 1) := by kernel_rfl
theorem info36 : (Try.prog.info? 36).map (fun i => (i.zero, i.size, i.bytes)) = some (some (.int .u32 0), 1, 4) := by kernel_rfl
theorem info68 : (Try.prog.info? 68).map (fun i => (i.zero, i.size, i.bytes)) = some (some (.int .u64 0), 1, 8) := by kernel_rfl
-- the values' own types

end Go.Proofs.Ytealjhngfhlpaaa.PWordLists
