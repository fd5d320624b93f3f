/- The law of RunScript -/
import Derived.Test.YtjmobminbckhjaaGreatDoorW6
import Derived.Test.YtjmobminbckhjaaGreatDoorPeD
import Derived.Test.YtjmobminbckhjaaGreatDoorMc1
import Derived.Test.YtjmobminbckhjaaGreatDoorMc2
import Derived.Test.YtjmobminbckhjaaGreatDoorMc3
import Derived.Test.YtjmobminbckhjaaGreatDoorMc4
import Derived.Test.YtjmobminbckhjaaGreatDoorMc5
import Derived.Test.YtjmobminbckhjaaGreatDoorMc6
import Derived.Test.YtjmobminbckhjaaGreatDoorMc7
import Derived.Test.YtjmobminbckhjaaGreatDoorMc8
set_option maxRecDepth 100000
set_option maxHeartbeats 4000000
set_option linter.all false
open Nat renaming reduceEqDiff->aA, reduceAdd->aB, reduceSub->aC, reduceLT->aD
namespace Go.Pe.Tryz
open Go.Proofs.Tryz Go.Sort
end Go.Pe.Tryz
