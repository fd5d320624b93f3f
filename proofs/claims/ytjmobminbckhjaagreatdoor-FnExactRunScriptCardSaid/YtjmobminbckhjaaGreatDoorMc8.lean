/-
The compact code of the functions that the law reaches,printed by gen.py,each with the proof that the machine's code is compiled to it.
-/
import Derived.Test.YtjmobminbckhjaaGreatDoorMc1
import Derived.Test.YtjmobminbckhjaaGreatDoorProg
import Derived.KernelRfl
set_option maxRecDepth 100000
namespace Go.Pe.Tryz
open Go.Pe
noncomputable def aQS:CM dD prog 198 2 [(0,[0,1]),(1,[4])]:=.mk Go.Proofs.Tryz.func198
noncomputable def aRq:CM dD prog 202 0 [(0,[0,1]),(1,[0,1,7]),(2,[0,1,12]),(3,[0,1]),(4,[4])]:=.mk Go.Proofs.Tryz.func202
noncomputable def aRz:CM dD prog 203 0 [(0,[0,1]),(1,[0,1,7]),(2,[0,1,15]),(3,[0,1]),(4,[4])]:=.mk Go.Proofs.Tryz.func203
noncomputable def aRJ:CM dD prog 213 1 [(0,[0,1,2,3,8]),(1,[0,1,2,3,8,9]),(2,[0,1,2,3,8,9,10]),(3,[0,1,2,3,8,9,10,23]),(4,[0]),(5,[0,1,2,3,8,9,10,29]),(6,[0]),(7,[0,1,2,3,8,9,10,35]),(8,[0,1,2,3,8,9,10]),(9,[0,1,2,3,8,9,10]),(10,[0,1,2,3,8,9,10,11,12]),(11,[0,1,2,3,8,9,10,11,12,50]),(12,[0,1,2,3,8,9,10,11]),(13,[0,1,2,3,8,9,10,11]),(14,[0,1,2,3,8,9,10,11,12]),(15,[0,1,2,3,8,9,10,11,68]),(16,[0,1,2,3,8,9,10,11,72]),(17,[0,1,2,3,8,9,10,11,87]),(18,[0,2,3,8,9,13]),(19,[0,1,2,3,8,9]),(20,[0,1,2,3,10,14,15]),(21,[0,1,2,3,9,10,14]),(22,[0,1,2,3,9,10,14,16,17]),(23,[0,1,2,3,9,14,16,17,18]),(24,[0,1,2,3,9,14,16,17,18,113]),(25,[0,1,2,3,8,9,14]),(26,[0,2,3,8,9,14]),(27,[0,1,2,3,8,9]),(28,[0,1,2,3,8,9,14]),(29,[0,1,3,8,9,14]),(30,[0,1,2,3,8,9])]:=.mk Go.Proofs.Tryz.func213
noncomputable def aR8:CM dD prog 214 1 [(0,[0]),(1,[2]),(2,[2])]:=.mk Go.Proofs.Tryz.func214
noncomputable def aQT:CM dD prog 219 1 [(0,[0]),(1,[3]),(2,[2])]:=.mk Go.Proofs.Tryz.func219
noncomputable def aQF:CM dD prog 221 2 [(0,[0,1]),(1,[5]),(2,[4])]:=.mk Go.Proofs.Tryz.func221
noncomputable def aRP:CM dD prog 222 2 [(0,[0,1]),(1,[0,4])]:=.mk Go.Proofs.Tryz.func222
noncomputable def aRA:CM dD prog 232 3 [(0,[0,1,2,6]),(1,[0,1,2,6,12]),(2,[0,1,2,6]),(3,[0,1,2,6,7]),(4,[0,1,2,6,7,30]),(5,[0,1,2,6,7]),(6,[0,1,2,6,7]),(1000006,[3,15,16,17,1,0,1,1,1,2,1,3,1,4,1,5,1,6,1,7,1,8,1,9,1,10,1,11,1,12,1,13,1,14,2,15,2,16,2,17,0])]:=.mk Go.Proofs.Tryz.func232
noncomputable def aQC:CM dD prog 238 2 [(0,[0,1]),(1,[4])]:=.mk Go.Proofs.Tryz.func238
noncomputable def aRd:CM dD prog 242 0 [(0,[0,2]),(1,[0,2,4]),(2,[0]),(3,[0,2]),(4,[0,2,8]),(5,[0,2]),(6,[0,2]),(7,[0,2,14]),(8,[0,2]),(9,[0,2]),(10,[2])]:=.mk Go.Proofs.Tryz.func242
noncomputable def aRN:CM dD prog 245 1 [(0,[0]),(1,[0,6]),(2,[2,3]),(3,[2,3])]:=.mk Go.Proofs.Tryz.func245
noncomputable def aQQ:CM dD prog 258 1 [(0,[0]),(1,[2])]:=.mk Go.Proofs.Tryz.func258
end Go.Pe.Tryz
