/- What a deed is as a part: its kind and its two numbers. -/
import Derived.Test.YtoeepmcaabmjkaaWMore
namespace Go.Proofs.YtoeepmcaabmjkaaW.PrintWords
/-- A deed as a part: which kind (0: none), and its two numbers. -/
structure Part where
  t : Int
  a : Int
  b : Int
def partW (p : Part) : Value :=
  if p.t = 1 then .iface 159 (.agg #[.int .i64 p.a, .int .i64 p.b])
  else if p.t = 2 then .iface 161 (.agg #[.int .i64 p.a, .int .i64 p.b])
  else if p.t = 3 then .iface 163 (.agg #[.int .i64 p.a, .int .i64 p.b])
  else if p.t = 4 then .iface 165 (.agg #[.int .i64 p.a, .int .i64 p.b])
  else if p.t = 5 then .iface 166 (.agg #[.int .i64 p.a])
  else .nilIface
end Go.Proofs.YtoeepmcaabmjkaaW.PrintWords
