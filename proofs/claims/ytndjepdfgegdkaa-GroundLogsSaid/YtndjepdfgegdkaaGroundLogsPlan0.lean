/- Blocks and frames that come often (definitions alone) for the law GroundLogs. -/
import Derived.Test.YtndjepdfgegdkaaChecked
import Derived.Test.YtndjepdfgegdkaaEv8
namespace Go.Proofs.Ytndjepdfgegdkaa.groundLogs
open Go Go.Ev
noncomputable section

def b0 : AB := .cells (Us [0,1,40,49,0,0,0,0,1,0,0,0,0,0,1,0,0,0,0,0,0,0,0,0]) 76
def b1 : AB := .cells [(.iface 107 (.slice 6 (.lit 0) (.lit 24) (.lit 24))), (I 6)] 71
def b2 : AB := .row (.ro (.var 0)) (.row 0) (.var 4) [(.int .i64), (.int .i64), (.int .i64), (.int .i64), (.int .i64), (.int .i64), (.int .i64), (.int .i64)] 44
def b3 : AB := .row .opn (.row 1) (.var 1) [(.int .i64), (.int .i64), (.int .i64), (.int .i64), (.int .i64), (.int .i64), (.int .i64), (.int .i64)] 44

end
end Go.Proofs.Ytndjepdfgegdkaa.groundLogs
