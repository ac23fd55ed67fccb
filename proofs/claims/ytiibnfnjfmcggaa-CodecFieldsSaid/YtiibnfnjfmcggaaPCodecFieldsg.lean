-- Written by drive.py of this work: the kit's print.py with contracts of this work laid in.
import Derived.Test.YtiibnfnjfmcggaaPCodecFieldsx11
namespace Go.Proofs.Ytiibnfnjfmcggaa.PCodecFields
open Go.RowKit
inductive g43 : S43 → Prop
  | mk (x : S43) : (Lit.int .i64 x.f0).wf = true → (Lit.int .i64 x.f1).wf = true → (x.f2.length ≤ maxLen) → (∀ y_ ∈ x.f2, (Lit.int .u8 y_).wf = true) → (x.f3.length ≤ maxLen) → (∀ y_ ∈ x.f3, g43 y_) → g43 x
def bastillelaw02_CodecFields.Pure : Prop := ∀ (a0_0 : Int) (a0_1 : Int) (l0_2 : List Int) (l0_3 : List (S43)) (a1_0 : Int) (a1_1 : Int) (l1_2 : List Int) (l1_3 : List (S43)) (l2 : List Int), (Lit.int .i64 a0_0).wf = true → (Lit.int .i64 a0_1).wf = true → (l0_2.length ≤ maxLen ∧ ∀ y_ ∈ l0_2, (Lit.int .u8 y_).wf = true) → (l0_3.length ≤ maxLen ∧ ∀ y_ ∈ l0_3, g43 y_) → (Lit.int .i64 a1_0).wf = true → (Lit.int .i64 a1_1).wf = true → (l1_2.length ≤ maxLen ∧ ∀ y_ ∈ l1_2, (Lit.int .u8 y_).wf = true) → (l1_3.length ≤ maxLen ∧ ∀ y_ ∈ l1_3, g43 y_) → (l2.length ≤ maxLen ∧ ∀ y_ ∈ l2, (Lit.int .i64 y_).wf = true) → ∃ k, bastillelaw02_CodecFields.f k a0_0 a0_1 l0_2 l0_3 a1_0 a1_1 l1_2 l1_3 l2 = some true
end Go.Proofs.Ytiibnfnjfmcggaa.PCodecFields
