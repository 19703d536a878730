/- What a deed is as a part: its kind and its two numbers. -/
import Derived.Test.YtpodhdpkdhcnoaaWMore
namespace Go.Proofs.YtpodhdpkdhcnoaaW.PrintWords
/-- A deed as a part: which kind (0: none), and its two numbers. -/
structure Part where
  t : Int
  a : Int
  b : Int
def partW (p : Part) : Value :=
  if p.t = 1 then .iface 147 (.agg #[.int .i64 p.a, .int .i64 p.b])
  else if p.t = 2 then .iface 149 (.agg #[.int .i64 p.a, .int .i64 p.b])
  else if p.t = 3 then .iface 151 (.agg #[.int .i64 p.a, .int .i64 p.b])
  else if p.t = 4 then .iface 153 (.agg #[.int .i64 p.a, .int .i64 p.b])
  else if p.t = 5 then .iface 154 (.agg #[.int .i64 p.a])
  else .nilIface
end Go.Proofs.YtpodhdpkdhcnoaaW.PrintWords
