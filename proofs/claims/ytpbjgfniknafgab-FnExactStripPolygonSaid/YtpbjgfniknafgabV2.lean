/- Further lemmas of this session that serve every text of the seat. No condition beyond those typed. -/
import Derived.Test.YtpbjgfniknafgabV
import Derived.WalkSpells
import Derived.Lib.SliceRun
namespace Go.Proofs.YtpbjgfniknafgabV
open Go.RowKit Go.Proofs.YtpbjgfniknafgabW.PrintWords Go.Proofs.YtpbjgfniknafgabW.PrintLast
theorem v2_here : True := trivial
end Go.Proofs.YtpbjgfniknafgabV
