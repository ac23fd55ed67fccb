-- Written by drive.py of this work: the kit's print.py with contracts of this work laid in.
import Derived.Test.YtiibnfnjfmcggaaDoorPCallBackx21
namespace Go.Proofs.YtiibnfnjfmcggaaDoor.PCallBack
open Go.RowKit
def bastillelaw30_CallBack.Pure : Prop := ∀ (a0_0 : Int) (a0_1 : ByteArray) (a0_2 : ByteArray) (a0_3 : ByteArray) (a0_4 : ByteArray) (a0_5 : Int) (a0_6 : Int) (l0_7 : List Int), (Lit.int .i64 a0_0).wf = true → a0_1.size ≤ maxLen → a0_2.size ≤ maxLen → a0_3.size ≤ maxLen → a0_4.size ≤ maxLen → (Lit.int .i64 a0_5).wf = true → (Lit.int .i64 a0_6).wf = true → (l0_7.length ≤ maxLen ∧ ∀ y_ ∈ l0_7, (Lit.int .u8 y_).wf = true) → ∃ k, bastillelaw30_CallBack.f k a0_0 a0_1 a0_2 a0_3 a0_4 a0_5 a0_6 l0_7 = some true
end Go.Proofs.YtiibnfnjfmcggaaDoor.PCallBack
