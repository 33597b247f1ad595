/- The law of two readings of three, as its row wants it. -/
import Derived.Test.YtlkphdcfgaolnaaLt
namespace Go.Proofs.Ytlkphdcfgaolnaa.P
open Go.RowKit
def q_SensorTwo.Pure : Prop := True
theorem q_SensorTwo.walk (P : q_SensorTwo.Pure) (a0 : Int) (a1 : Int) (a2 : Int) (a3 : Int) (w : World) (w0 : (Lit.int .i64 a0).wf = true) (w1 : (Lit.int .i64 a1).wf = true) (w2 : (Lit.int .i64 a2).wf = true) (w3 : (Lit.int .i64 a3).wf = true) :
    Calls Try.prog 8 #[.int .i64 a0, .int .i64 a1, .int .i64 a2, .int .i64 a3] w fun e w' => e = .returned (.bool true) ∧ Below w.heap.size w w' := two_walk a0 a1 a2 a3 w
end Go.Proofs.Ytlkphdcfgaolnaa.P
