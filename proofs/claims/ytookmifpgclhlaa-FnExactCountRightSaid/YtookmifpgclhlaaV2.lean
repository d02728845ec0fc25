/- Further lemmas of this session that serve every text of the seat. No condition beyond those typed. -/
import Derived.Test.YtookmifpgclhlaaV
import Derived.WalkSpells
import Derived.Lib.SliceRun
namespace Go.Proofs.YtookmifpgclhlaaV
open Go.RowKit Go.Proofs.YtookmifpgclhlaaW.PrintWords Go.Proofs.YtookmifpgclhlaaW.PrintLast
theorem v2_here : True := trivial
end Go.Proofs.YtookmifpgclhlaaV
