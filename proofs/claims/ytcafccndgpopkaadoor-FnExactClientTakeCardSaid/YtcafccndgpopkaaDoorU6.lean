import Derived.Test.YtcafccndgpopkaaDoorU5
namespace Go.Proofs.YtcafccndgpopkaaDoor
open Go.V
set_option linter.unusedVariables false
set_option linter.unusedSimpArgs false
set_option maxRecDepth 20000
set_option maxHeartbeats 4000000

structure Cl where
  id : Int
  st : Int
  bz : Bool
  rq : Rq
  rps : List Rp
  acc : List An
def Cl.T (c : Cl) (n1 n2 : Bool) : List T := [.int .i64 c.id, .int .i64 c.st, .bool c.bz, .int .i64 c.rq.cl, .int .i64 c.rq.st, .int .i64 c.rq.kd, .int .i64 c.rq.le, .str c.rq.nm, .sl n1 (c.rps.map Rp.T), .sl n2 (c.acc.map An.T)]
def Rq0 : Rq := ⟨0, 0, 0, 0, ⟨#[]⟩⟩

end Go.Proofs.YtcafccndgpopkaaDoor
