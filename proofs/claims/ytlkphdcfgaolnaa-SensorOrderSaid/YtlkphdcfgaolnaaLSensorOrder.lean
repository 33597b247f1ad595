/- The law of a vote's order, as its row wants it. -/
import Derived.Test.YtlkphdcfgaolnaaLo
namespace Go.Proofs.Ytlkphdcfgaolnaa.P
open Go.RowKit
def q_SensorOrder.Pure : Prop := True
theorem q_SensorOrder.walk (P : q_SensorOrder.Pure) (a0 : Int) (a1 : Int) (a2 : Int) (w : World) (w0 : (Lit.int .i64 a0).wf = true) (w1 : (Lit.int .i64 a1).wf = true) (w2 : (Lit.int .i64 a2).wf = true) :
    Calls Try.prog 7 #[.int .i64 a0, .int .i64 a1, .int .i64 a2] w fun e w' => e = .returned (.bool true) ∧ Below w.heap.size w w' := order_walk a0 a1 a2 w
end Go.Proofs.Ytlkphdcfgaolnaa.P
