/- What a deed is as a part: its kind and its two numbers. -/
import Derived.Test.YtkcoclfpcjfeiaaWMore
namespace Go.Proofs.YtkcoclfpcjfeiaaW.PrintWords
/-- A deed as a part: which kind (0: none), and its two numbers. -/
structure Part where
  t : Int
  a : Int
  b : Int
def partW (p : Part) : Value :=
  if p.t = 1 then .iface 115 (.agg #[.int .i64 p.a, .int .i64 p.b])
  else if p.t = 2 then .iface 119 (.agg #[.int .i64 p.a, .int .i64 p.b])
  else if p.t = 3 then .iface 121 (.agg #[.int .i64 p.a, .int .i64 p.b])
  else if p.t = 4 then .iface 123 (.agg #[.int .i64 p.a, .int .i64 p.b])
  else if p.t = 5 then .iface 125 (.agg #[.int .i64 p.a])
  else .nilIface
end Go.Proofs.YtkcoclfpcjfeiaaW.PrintWords
