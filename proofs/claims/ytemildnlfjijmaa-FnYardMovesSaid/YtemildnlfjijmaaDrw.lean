/- A literal's cells, read: whole or its head. -/
import Derived.Test.YtemildnlfjijmaaWMore
import Derived.Test.YtemildnlfjijmaaVV
namespace Go.Proofs.Ytemildnlfjijmaa.P
open Go.RowKit Go.Proofs.YtemildnlfjijmaaW.PrintWords
end Go.Proofs.Ytemildnlfjijmaa.P
