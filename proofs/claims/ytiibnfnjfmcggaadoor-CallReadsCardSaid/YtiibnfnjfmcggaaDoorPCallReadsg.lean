-- Written by drive.py of this work: the kit's print.py with contracts of this work laid in.
import Derived.Test.YtiibnfnjfmcggaaDoorPCallReadsx27
namespace Go.Proofs.YtiibnfnjfmcggaaDoor.PCallReads
open Go.RowKit
def bastillelaw30_CallReads.Pure : Prop := ∀ (l0 : List Int), (l0.length ≤ maxLen ∧ ∀ y_ ∈ l0, (Lit.int .u8 y_).wf = true) → ∃ k, bastillelaw30_CallReads.f k l0 = some true
end Go.Proofs.YtiibnfnjfmcggaaDoor.PCallReads
