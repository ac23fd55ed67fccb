-- Written by drive.py of this work: the kit's print.py with contracts of this work laid in.
import Derived.Test.YtiibnfnjfmcggaaPAnswerSamex14
namespace Go.Proofs.Ytiibnfnjfmcggaa.PAnswerSame
open Go.RowKit
def g62 (x : S62) : Prop := x.f0.size ≤ maxLen ∧ (Lit.int .i64 x.f1).wf = true
def g64 (x : S64) : Prop := (Lit.int .i64 x.f0).wf = true ∧ (Lit.int .i64 x.f1).wf = true ∧ True ∧ x.f3.size ≤ maxLen
def bastillelaw31_AnswerSame.Pure : Prop := ∀ (a0_0 : Int) (a0_1 : Int) (a0_2 : ByteArray) (l0_3 : List Int) (l0_4 : List ByteArray) (l0_5 : List (S62)) (l0_6 : List (S64)) (a1_0 : Int) (a1_1 : Int) (a1_2 : ByteArray) (l1_3 : List Int) (l1_4 : List ByteArray) (l1_5 : List (S62)) (l1_6 : List (S64)), (Lit.int .i64 a0_0).wf = true → (Lit.int .i64 a0_1).wf = true → a0_2.size ≤ maxLen → (l0_3.length ≤ maxLen ∧ ∀ y_ ∈ l0_3, (Lit.int .u8 y_).wf = true) → (l0_4.length ≤ maxLen ∧ ∀ y_ ∈ l0_4, y_.size ≤ maxLen) → (l0_5.length ≤ maxLen ∧ ∀ y_ ∈ l0_5, g62 y_) → (l0_6.length ≤ maxLen ∧ ∀ y_ ∈ l0_6, g64 y_) → (Lit.int .i64 a1_0).wf = true → (Lit.int .i64 a1_1).wf = true → a1_2.size ≤ maxLen → (l1_3.length ≤ maxLen ∧ ∀ y_ ∈ l1_3, (Lit.int .u8 y_).wf = true) → (l1_4.length ≤ maxLen ∧ ∀ y_ ∈ l1_4, y_.size ≤ maxLen) → (l1_5.length ≤ maxLen ∧ ∀ y_ ∈ l1_5, g62 y_) → (l1_6.length ≤ maxLen ∧ ∀ y_ ∈ l1_6, g64 y_) → ∃ k, bastillelaw31_AnswerSame.f k a0_0 a0_1 a0_2 l0_3 l0_4 l0_5 l0_6 a1_0 a1_1 a1_2 l1_3 l1_4 l1_5 l1_6 = some true
end Go.Proofs.Ytiibnfnjfmcggaa.PAnswerSame
