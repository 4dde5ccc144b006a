-- Laid by a program of this session (wip/myprint.py): the kit's print of the functions, contracts of our own among them.
import Derived.Test.YtcdamcfklehedaaGreatDoorOFnExactShapeFirstx0
import Derived.Test.YtcdamcfklehedaaGreatDoorOFnExactShapeFirstx5
namespace Go.Proofs.YtcdamcfklehedaaGreatDoor.OFnExactShapeFirst
open Go.RowKit Go.Proofs.YtcdamcfklehedaaGreatDoorW.PrintWords Go.Proofs.YtcdamcfklehedaaGreatDoorW.PrintLast Go.Proofs.YtcdamcfklehedaaGreatDoorW.PrintMore
set_option maxHeartbeats 8000000
set_option maxRecDepth 100000
attribute [local go_sem] max2_int min2_int max_two min_two max_three min_three max_four min_four   -- for this text's walks alone
set_option linter.unusedVariables false
set_option linter.unusedSimpArgs false

end Go.Proofs.YtcdamcfklehedaaGreatDoor.OFnExactShapeFirst
