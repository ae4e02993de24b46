/- The reference's operations on fractions. No condition. -/
import Derived.Test.YthlpjpcnpcclhaaDoorP9
/- The reference's fractions: RatMul, RatMin, RatMax. -/
namespace Go.Proofs.YthlpjpcnpcclhaaDoor.X
open Go.RowKit Go.XB Go.XN
attribute [local go_sem] fillBy opAt deps depOf Region.wanted yielded
attribute [local simp] deps depOf MP.eq MP.agg MP.sl Facts
set_option linter.constructorNameAsVariable false

end Go.Proofs.YthlpjpcnpcclhaaDoor.X

/- The reference's fractions: RatCmp, RatSign. -/
namespace Go.Proofs.YthlpjpcnpcclhaaDoor.X
open Go.RowKit Go.XB Go.XN
attribute [local go_sem] fillBy opAt deps depOf Region.wanted yielded
attribute [local simp] deps depOf MP.eq MP.agg MP.sl Facts
set_option linter.constructorNameAsVariable false

end Go.Proofs.YthlpjpcnpcclhaaDoor.X

/- The reference's fractions: l11Valid. -/
namespace Go.Proofs.YthlpjpcnpcclhaaDoor.X
open Go.RowKit Go.XB Go.XN
attribute [local go_sem] fillBy opAt deps depOf Region.wanted yielded
attribute [local simp] deps depOf MP.eq MP.agg MP.sl Facts
set_option linter.constructorNameAsVariable false

end Go.Proofs.YthlpjpcnpcclhaaDoor.X

/- The reference's fractions: l04Add. -/
namespace Go.Proofs.YthlpjpcnpcclhaaDoor.X
open Go.RowKit Go.XB Go.XN
attribute [local go_sem] fillBy opAt deps depOf Region.wanted yielded
attribute [local simp] deps depOf MP.eq MP.agg MP.sl Facts
set_option linter.constructorNameAsVariable false

end Go.Proofs.YthlpjpcnpcclhaaDoor.X

/- The reference's fractions: RatAdd, RatSub. -/
namespace Go.Proofs.YthlpjpcnpcclhaaDoor.X
open Go.RowKit Go.XB Go.XN
attribute [local go_sem] fillBy opAt deps depOf Region.wanted yielded
attribute [local simp] deps depOf MP.eq MP.agg MP.sl Facts
set_option linter.constructorNameAsVariable false


end Go.Proofs.YthlpjpcnpcclhaaDoor.X
