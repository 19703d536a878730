-- Written by a program of this session (wip/tools/myprint.py).
import Derived.Test.YtpodhdpkdhcnoaaQSCx0
import Derived.Test.YtpodhdpkdhcnoaaQSCx1
import Derived.Test.YtpodhdpkdhcnoaaQSCx2
import Derived.Test.YtpodhdpkdhcnoaaQSCx3
import Derived.Test.YtpodhdpkdhcnoaaQSCx4
import Derived.Test.YtpodhdpkdhcnoaaQSCx5
import Derived.Test.YtpodhdpkdhcnoaaQSCx6
import Derived.Test.YtpodhdpkdhcnoaaQSCx7
import Derived.Test.YtpodhdpkdhcnoaaQSCx8
import Derived.Test.YtpodhdpkdhcnoaaQSCx9
import Derived.Test.YtpodhdpkdhcnoaaQSCx10
import Derived.Test.YtpodhdpkdhcnoaaQSCx11
import Derived.Test.YtpodhdpkdhcnoaaQSCx12
import Derived.Test.YtpodhdpkdhcnoaaQSCx13
import Derived.Test.YtpodhdpkdhcnoaaQSCx14
import Derived.Test.YtpodhdpkdhcnoaaQSCx15
import Derived.Test.YtpodhdpkdhcnoaaQSCx16
import Derived.Test.YtpodhdpkdhcnoaaQSCx17
import Derived.Test.YtpodhdpkdhcnoaaQSCx18
namespace Go.Proofs.Ytpodhdpkdhcnoaa.QSC
open Go.RowKit Go.Proofs.YtpodhdpkdhcnoaaW.PrintWords Go.Proofs.YtpodhdpkdhcnoaaW.PrintLast Go.Proofs.YtpodhdpkdhcnoaaW.PrintMore
attribute [local go_sem] max2_int min2_int max_two min_two max_three min_three max_four min_four   -- for this text's walks alone
set_option linter.unusedVariables false
set_option linter.unusedSimpArgs false

end Go.Proofs.Ytpodhdpkdhcnoaa.QSC
