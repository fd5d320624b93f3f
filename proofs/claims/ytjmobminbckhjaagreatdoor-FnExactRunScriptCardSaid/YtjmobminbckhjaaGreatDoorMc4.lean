/-
The compact code of the functions that the law reaches,printed by gen.py,each with the proof that the machine's code is compiled to it.
-/
import Derived.Test.YtjmobminbckhjaaGreatDoorMc1
import Derived.Test.YtjmobminbckhjaaGreatDoorProg
import Derived.KernelRfl
set_option maxRecDepth 100000
namespace Go.Pe.Tryz
open Go.Pe
noncomputable def aOQ:CM dD prog 64 1 [(0,[1]),(1,[1,38]),(2,[2]),(3,[1,40,41,42]),(4,[1,40,41,42,43]),(5,[1,3,4,40,41,42]),(6,[1,40,41,42,65]),(7,[2]),(8,[1,40,41,42]),(9,[2])]:=.mk Go.Proofs.Tryz.func64
noncomputable def aTN:CM dD prog 65 1 [(0,[1]),(1,[4]),(2,[2])]:=.mk Go.Proofs.Tryz.func65
noncomputable def aT9:CM dD prog 66 1 [(0,[1,2]),(1,[1,2]),(2,[1,2,10,11]),(3,[1,2,10,11,12]),(4,[1,2,3,10,11]),(5,[1,2,10,11]),(6,[1,2,10,11]),(7,[1,2]),(8,[2]),(1000005,[1,12,1,0,1,1,1,2,1,3,1,4,1,5,1,6,1,7,1,8,2,9,1,10,1,11,2,12,0])]:=.mk Go.Proofs.Tryz.func66
noncomputable def aUD:CM dD prog 67 3 [(0,[0,1,2]),(1,[6])]:=.mk Go.Proofs.Tryz.func67
noncomputable def aU2:CM dD prog 68 1 [(0,[0]),(1,[0,5,6]),(2,[0,5,6,7]),(3,[0,3,5,6]),(4,[0,5,6,24]),(5,[2]),(6,[0,5,6]),(7,[2])]:=.mk Go.Proofs.Tryz.func68
noncomputable def aFY:CM dD prog 70 1 [(0,[0]),(1,[0,4,5]),(2,[4,23]),(3,[2,3]),(4,[2,3])]:=.mk Go.Proofs.Tryz.func70
noncomputable def pC:CM dD prog 71 2 [(0,[0,1,4]),(1,[1,4,6]),(2,[1,4,6,7]),(3,[4,5]),(4,[1,4,6,13]),(5,[4,5]),(6,[1,4,6,25]),(7,[4,5]),(8,[1,4,6,34]),(9,[4,5]),(10,[1,4,6,40]),(11,[4,5]),(12,[1,4,49]),(13,[4,5]),(14,[4,5]),(1000005,[2,10,11,1,0,1,1,1,2,1,3,1,4,1,5,1,6,1,7,1,8,2,9,2,10,2,11,0]),(1000007,[2,7,8,1,0,1,1,1,2,1,3,1,4,1,5,2,6,2,7,2,8,0]),(1000011,[2,7,8,1,0,1,1,1,2,1,3,1,4,1,5,2,6,2,7,2,8,0])]:=.mk Go.Proofs.Tryz.func71
noncomputable def aJQ:CM dD prog 72 2 [(0,[2,3,4]),(1,[2,3,4,15]),(2,[4,5]),(3,[3,4,6]),(4,[4,6,26]),(5,[4,5]),(6,[4,5])]:=.mk Go.Proofs.Tryz.func72
noncomputable def o6:CM dD prog 73 4 [(0,[2,3,4,5]),(1,[3,4,5,20]),(2,[3,4,5,20,21]),(3,[3,4,5,20,21]),(4,[8,9]),(5,[3,4,5,20,27]),(6,[10,11]),(7,[8,9]),(8,[3,5,20,40]),(9,[8,9]),(10,[3,5,20,51]),(11,[12,13]),(12,[8,9]),(13,[3,5,20,61]),(14,[14,15]),(15,[8,9]),(16,[3,5,20,71]),(17,[16,17]),(18,[8,9]),(19,[3,5,81]),(20,[18,19]),(21,[8,9]),(22,[8,9])]:=.mk Go.Proofs.Tryz.func73
noncomputable def aVd:CM dD prog 75 2 [(0,[0,3]),(1,[0,3,15]),(2,[4,5]),(3,[6,7]),(4,[4,5])]:=.mk Go.Proofs.Tryz.func75
noncomputable def aUX:CM dD prog 76 2 [(0,[0,1]),(1,[0,1,10]),(2,[4]),(3,[0,1,5]),(4,[0,1,5,14]),(5,[0,1,5]),(6,[0,1,5,26]),(7,[4]),(8,[4])]:=.mk Go.Proofs.Tryz.func76
noncomputable def aUg:CM dD prog 77 1 [(0,[0,1]),(1,[0,1,5]),(2,[0,1,5,9]),(3,[0,1,5]),(4,[0,1,5]),(5,[0,1,5]),(6,[0,1,5]),(7,[0,1,5]),(8,[0,1,5]),(9,[0,1,5]),(10,[0,1,5]),(11,[0,4])]:=.mk Go.Proofs.Tryz.func77
noncomputable def aVg:CM dD prog 78 1 [(0,[0,1]),(1,[0,1,5]),(2,[0,1,5,9]),(3,[0,1,5]),(4,[0,1,5,18]),(5,[4]),(6,[0,1,5]),(7,[0,1,5,27]),(8,[4]),(9,[0,1,5]),(10,[0,1,5,36]),(11,[4]),(12,[0,1,5]),(13,[0,1,5]),(14,[0,1,5,47]),(15,[4]),(16,[4])]:=.mk Go.Proofs.Tryz.func78
noncomputable def aUb:CM dD prog 79 1 [(0,[0]),(1,[2])]:=.mk Go.Proofs.Tryz.func79
noncomputable def aDr:CM dD prog 80 2 [(0,[0,1,4]),(1,[0,1,4,6]),(2,[0,1,4,6,7]),(3,[0,1,4,6,7,30]),(4,[4,5]),(5,[0,1,4,8]),(6,[0,1,4,8,9]),(7,[0,1,4,8,9,44]),(8,[4,5]),(9,[0,1,4,10]),(10,[4,5]),(1000010,[2,11,12,1,0,2,1,2,2,1,3,1,4,1,7,1,8,2,5,2,6,1,9,1,10,2,11,2,12,0])]:=.mk Go.Proofs.Tryz.func80
noncomputable def aTJ:CM dD prog 81 1 [(0,[0]),(1,[2])]:=.mk Go.Proofs.Tryz.func81
noncomputable def aVE:CM dD prog 82 1 [(0,[0]),(1,[0,4]),(2,[0,4,5]),(3,[0,4,5,22]),(4,[0,4,5,6,8]),(5,[0,4,5,6,32]),(6,[0,4,5,6,9]),(7,[0,4,5,6,12]),(8,[0,4,5,6,14,15]),(9,[0,4,5,6,17]),(10,[0,4,5,6,17,18,19]),(11,[0,4,5,6,17,67]),(12,[0,4,5,6]),(13,[0,4,5]),(14,[2,3])]:=.mk Go.Proofs.Tryz.func82
noncomputable def aUF:CM dD prog 83 1 [(0,[1,2]),(1,[1]),(2,[1,10]),(3,[4]),(4,[4])]:=.mk Go.Proofs.Tryz.func83
noncomputable def aT8:CM dD prog 84 1 [(0,[0]),(1,[2])]:=.mk Go.Proofs.Tryz.func84
noncomputable def aVk:CM dD prog 85 3 [(0,[0,1,2]),(1,[6])]:=.mk Go.Proofs.Tryz.func85
noncomputable def aUN:CM dD prog 86 1 [(0,[0]),(1,[0,3]),(2,[0,3,7]),(3,[0,3]),(4,[0,3,15]),(5,[2]),(6,[2])]:=.mk Go.Proofs.Tryz.func86
noncomputable def aUw:CM dD prog 87 1 [(0,[1]),(1,[2])]:=.mk Go.Proofs.Tryz.func87
noncomputable def aKO:CM dD prog 88 1 [(0,[0]),(1,[0,4]),(2,[0,4,15]),(3,[0,4]),(4,[0,4,21]),(5,[2,3]),(6,[0,4,5]),(7,[0,4,5,6]),(8,[0,4,5,6,25]),(9,[0,4,5,6]),(10,[0,4,5,6,37]),(11,[2,3]),(12,[0,4,5,6]),(13,[0,5,50]),(14,[0,5]),(15,[5,56]),(16,[2,3]),(17,[2,3])]:=.mk Go.Proofs.Tryz.func88
end Go.Pe.Tryz
