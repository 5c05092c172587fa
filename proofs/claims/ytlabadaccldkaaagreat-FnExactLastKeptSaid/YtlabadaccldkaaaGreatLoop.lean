/- Loop: lemmas. No conditions. -/
import Derived.Test.YtlabadaccldkaaaGreatCe
namespace Go.Proofs.YtlabadaccldkaaaGreat
open Go.ChangeShapes Go.WideShapes Go.ChangeAt Go.RowKit Go.Deep
end Go.Proofs.YtlabadaccldkaaaGreat
