/- Parts of the plan for the law GroundLogs: each is one kernel run. -/
import Derived.Test.YtndjepdfgegdkaaGroundLogsPlan
set_option linter.unusedVariables false
namespace Go.Proofs.Ytndjepdfgegdkaa.groundLogs
open Go Go.Ev
noncomputable section

theorem qs : PartΦ Try.prog cuts φ 4 { rank := top } false (Go.Ev.ctxP shape) (Go.Ev.startP Try.prog 3 shape) := .auto away 1000000 [ ([h29], .cut 0 [(.var 0), (.var 1), (.var 2)] [(.var 0), (.var 1)] [(.row 0)])] (by kernel_rfl) (by kernel_rfl) (by kernel_rfl) (by kernel_rfl)

end
end Go.Proofs.Ytndjepdfgegdkaa.groundLogs
