/- What an act is as a part, by its fields' values and lengths. -/
import Derived.Test.YtpodhdpkdhcnoaaWMore
namespace Go.Proofs.YtpodhdpkdhcnoaaW.PrintWords
/-- An act as a part, by its fields' values and lengths. -/
def actW (k : Int) (v1 : Value) (n1 : Nat) (v2 : Value) (n2 : Nat) (r : Int) : Value :=
  if k = 1 ∧ n2 = 0 ∧ r = 0 then .iface 120 (.agg #[v1])
  else if k = 2 ∧ n1 = 0 ∧ r = 0 then .iface 123 (.agg #[v2])
  else if k = 3 ∧ n1 = 0 ∧ n2 = 0 ∧ r = 0 then .iface 125 (.agg #[])
  else if k = 4 ∧ n1 = 0 ∧ n2 = 0 then .iface 127 (.agg #[.int .i64 r])
  else .nilIface
end Go.Proofs.YtpodhdpkdhcnoaaW.PrintWords
