/- What a deed is as a part: its kind and its two numbers. -/
import Derived.Test.YtedbgdnhkcllaaaWMore
namespace Go.Proofs.YtedbgdnhkcllaaaW.PrintWords
/-- A deed as a part: which kind (0: none), and its two numbers. -/
structure Part where
  t : Int
  a : Int
  b : Int
def partW (p : Part) : Value :=
  if p.t = 1 then .iface 105 (.agg #[.int .i64 p.a, .int .i64 p.b])
  else if p.t = 2 then .iface 107 (.agg #[.int .i64 p.a, .int .i64 p.b])
  else if p.t = 3 then .iface 109 (.agg #[.int .i64 p.a, .int .i64 p.b])
  else if p.t = 4 then .iface 111 (.agg #[.int .i64 p.a, .int .i64 p.b])
  else if p.t = 5 then .iface 112 (.agg #[.int .i64 p.a])
  else .nilIface
end Go.Proofs.YtedbgdnhkcllaaaW.PrintWords
