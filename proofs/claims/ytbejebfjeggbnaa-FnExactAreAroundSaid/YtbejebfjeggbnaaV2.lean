/- Further lemmas of this session that serve every text of the seat. No condition beyond those typed. -/
import Derived.Test.YtbejebfjeggbnaaV
import Derived.WalkSpells
import Derived.Lib.SliceRun
namespace Go.Proofs.YtbejebfjeggbnaaV
open Go.RowKit Go.Proofs.YtbejebfjeggbnaaW.PrintWords Go.Proofs.YtbejebfjeggbnaaW.PrintLast
theorem v2_here : True := trivial
end Go.Proofs.YtbejebfjeggbnaaV
