/- What the plain texts stand on. -/
import Derived.Test.YtpodhdpkdhcnoaaQSCx
import Derived.Test.YtpodhdpkdhcnoaaStC
