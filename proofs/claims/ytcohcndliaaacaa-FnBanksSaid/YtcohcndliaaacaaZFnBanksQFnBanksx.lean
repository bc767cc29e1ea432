/- The machine's side of a law, written by a program of this session for this claim. -/
import Derived.Test.YtcohcndliaaacaaZFnBanksQq
import Derived.Test.YtcohcndliaaacaaZFnBanksQFnBanksx0
import Derived.Test.YtcohcndliaaacaaZFnBanksQFnBanksx1
import Derived.Test.YtcohcndliaaacaaZFnBanksQFnBanksx2
import Derived.Test.YtcohcndliaaacaaZFnBanksQFnBanksx3
import Derived.Test.YtcohcndliaaacaaZFnBanksQFnBanksx4
import Derived.Test.YtcohcndliaaacaaZFnBanksQFnBanksx5
import Derived.Test.YtcohcndliaaacaaZFnBanksQFnBanksx6
import Derived.Test.YtcohcndliaaacaaZFnBanksQFnBanksx7
import Derived.Test.YtcohcndliaaacaaZFnBanksQFnBanksx8
import Derived.Test.YtcohcndliaaacaaZFnBanksQFnBanksx9
import Derived.Test.YtcohcndliaaacaaZFnBanksQFnBanksx10
import Derived.Test.YtcohcndliaaacaaZFnBanksQFnBanksx11
import Derived.Test.YtcohcndliaaacaaZFnBanksQFnBanksx12
import Derived.Test.YtcohcndliaaacaaZFnBanksQFnBanksx13
namespace Go.Proofs.Ytcohcndliaaacaa.QFnBanks
open Go.Proofs.Ytcohcndliaaacaa.Qq
open Go.RowKit Go.Proofs.Ytcohcndliaaacaa.LibX Go.Proofs.Ytcohcndliaaacaa.LibC Go.Proofs.YtcohcndliaaacaaW.PrintWords Go.Proofs.YtcohcndliaaacaaW.PrintLast Go.Proofs.YtcohcndliaaacaaW.PrintMore
attribute [local go_sem] max2_int min2_int max_two min_two max_three min_three max_four min_four   -- for this text's walks alone
set_option linter.unusedVariables false
set_option linter.unusedSimpArgs false

end Go.Proofs.Ytcohcndliaaacaa.QFnBanks
