/- Further lemmas of this session that serve every text of the seat. No condition beyond those typed. -/
import Derived.Test.YtaclbccjcjdbpaaV
import Derived.WalkSpells
import Derived.Lib.SliceRun
namespace Go.Proofs.YtaclbccjcjdbpaaV
open Go.RowKit Go.Proofs.YtaclbccjcjdbpaaW.PrintWords Go.Proofs.YtaclbccjcjdbpaaW.PrintLast
theorem v2_here : True := trivial
/-- A row's block hangs on its address alone. -/
theorem own_len (A : Option Addr) (n m c : Nat) : (Value.slice A n c).ownBlock = (Value.slice A m c).ownBlock := by cases A <;> rfl
end Go.Proofs.YtaclbccjcjdbpaaV
