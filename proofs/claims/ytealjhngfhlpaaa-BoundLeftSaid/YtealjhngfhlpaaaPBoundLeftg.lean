-- Written by drive.py of this work: the kit's print.py with contracts of this work laid in.
import Derived.Test.YtealjhngfhlpaaaPBoundLeftx5
namespace Go.Proofs.Ytealjhngfhlpaaa.PBoundLeft
open Go.RowKit
def g101 (x : S101) : Prop := x.f0.size ≤ 140737488351232 ∧ True
def g103 (x : S103) : Prop := x.f0.size ≤ 140737488351232 ∧ x.f1.size ≤ 140737488351232
def g133 (x : S133) : Prop := x.f0.size ≤ 140737488351232 ∧ (Lit.int .i64 x.f1).wf = true
def g113 (x : S113) : Prop := x.f0.size ≤ 140737488351232 ∧ (Lit.int .i64 x.f1).wf = true ∧ (x.f2.length * 1 ≤ 140737488351232 ∧ ∀ y_ ∈ x.f2, (Lit.int .u8 y_).wf = true) ∧ x.f3.size ≤ 140737488351232 ∧ (x.f4.length * 24 ≤ 140737488351232 ∧ ∀ y_ ∈ x.f4, g133 y_) ∧ (Lit.int .i64 x.f5).wf = true ∧ True ∧ x.f7.size ≤ 140737488351232
def g135 (x : S135) : Prop := x.f0.size ≤ 140737488351232 ∧ (Lit.int .i64 x.f1).wf = true
def g116 (x : S116) : Prop := (Lit.int .i64 x.f0).wf = true ∧ (Lit.int .i64 x.f1).wf = true ∧ (Lit.int .i64 x.f2).wf = true ∧ (x.f3.length * 24 ≤ 140737488351232 ∧ ∀ y_ ∈ x.f3, g135 y_) ∧ x.f4.size ≤ 140737488351232
def g167 (x : S167) : Prop := (Lit.int .i64 x.f0).wf = true ∧ True ∧ x.f2.size ≤ 140737488351232 ∧ (x.f3.length * 1 ≤ 140737488351232 ∧ ∀ y_ ∈ x.f3, (Lit.int .u8 y_).wf = true)
def g108 (x : S108) : Prop := x.f0.size ≤ 140737488351232 ∧ (x.f1.length * 56 ≤ 140737488351232 ∧ ∀ y_ ∈ x.f1, g167 y_)
def g137 (x : S137) : Prop := x.f0.size ≤ 140737488351232 ∧ (Lit.int .i64 x.f1).wf = true ∧ True
def g139 (x : S139) : Prop := (Lit.int .i64 x.f0).wf = true ∧ x.f1.size ≤ 140737488351232 ∧ (Lit.int .i64 x.f2).wf = true
def g45 (x : S45) : Prop := x.f0.size ≤ 140737488351232 ∧ (Lit.int .i64 x.f1).wf = true ∧ (x.f2.length * 120 ≤ 140737488351232 ∧ ∀ y_ ∈ x.f2, g113 y_) ∧ (x.f3.length * 64 ≤ 140737488351232 ∧ ∀ y_ ∈ x.f3, g116 y_) ∧ (x.f4.length * 40 ≤ 140737488351232 ∧ ∀ y_ ∈ x.f4, g108 y_) ∧ (x.f5.length * 32 ≤ 140737488351232 ∧ ∀ y_ ∈ x.f5, g137 y_) ∧ (x.f6.length * 32 ≤ 140737488351232 ∧ ∀ y_ ∈ x.f6, g139 y_)
def bastillelaw33_BoundLeft.Pure : Prop := ∀ (a0_0 : Int) (l0_1 : List (S101)) (l0_2 : List (S103)) (l0_3 : List (S45)) (a1 : Int) (a2 : Int), (Lit.int .i64 a0_0).wf = true → (l0_1.length * 24 ≤ 140737488351232 ∧ ∀ y_ ∈ l0_1, g101 y_) → (l0_2.length * 32 ≤ 140737488351232 ∧ ∀ y_ ∈ l0_2, g103 y_) → (l0_3.length * 144 ≤ 140737488351232 ∧ ∀ y_ ∈ l0_3, g45 y_) → (Lit.int .u32 a1).wf = true → (Lit.int .u16 a2).wf = true → ∃ k, bastillelaw33_BoundLeft.f k a0_0 l0_1 l0_2 l0_3 a1 a2 = some true
end Go.Proofs.Ytealjhngfhlpaaa.PBoundLeft
