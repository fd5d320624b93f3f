/-
The compact code of the functions that the law reaches,printed by gen.py,each with the proof that the machine's code is compiled to it.
-/
import Derived.Test.YtjmobminbckhjabGreatDoorMc1
import Derived.Test.YtjmobminbckhjabGreatDoorProg
import Derived.KernelRfl
set_option maxRecDepth 100000
namespace Go.Pe.Tryz
open Go.Pe
noncomputable def aXN:CM dI prog 42 2 [(0,[2,3]),(1,[2,3,41]),(2,[4]),(3,[2,3,5]),(4,[2,3,5,46]),(5,[2,3,5]),(6,[2,3,5,107]),(7,[4]),(8,[4])]:=.mk Go.Proofs.Tryz.func42
noncomputable def aR9:CM dI prog 43 1 [(0,[1]),(1,[1,38]),(2,[2]),(3,[1,40,41,42]),(4,[1,40,41,42,43]),(5,[1,3,4,40,41,42]),(6,[1,40,41,42,65]),(7,[2]),(8,[1,40,41,42]),(9,[2])]:=.mk Go.Proofs.Tryz.func43
noncomputable def aW3:CM dI prog 44 1 [(0,[1]),(1,[4]),(2,[2])]:=.mk Go.Proofs.Tryz.func44
noncomputable def aXL:CM dI prog 45 1 [(0,[1]),(1,[1,4]),(2,[1,4,5,6]),(3,[1,4,5,6,8]),(4,[2,3])]:=.mk Go.Proofs.Tryz.func45
noncomputable def aYz:CM dI prog 46 2 [(0,[0,1]),(1,[0,1,5]),(2,[0,1,5,6]),(3,[0,1,5,6,7]),(4,[0,1,5,6,7,12]),(5,[0,1,5,6,7]),(6,[0,1,5,6,7,19]),(7,[0,1,5,7]),(8,[0,1,5,6,7]),(9,[4])]:=.mk Go.Proofs.Tryz.func46
noncomputable def aXB:CM dI prog 47 1 [(0,[0]),(1,[2])]:=.mk Go.Proofs.Tryz.func47
noncomputable def aQS:CM dI prog 48 1 [(0,[1]),(1,[1,3]),(2,[1,3,18]),(3,[3]),(4,[2]),(1000001,[0,1,1,1,2,1,3,1,7,1,8,3,2,0,1,4,1,5,1,6,2,9,1,10,1,11,0,2,9,2,0,1,4,1,5,1,6,1,10,1,11,0])]:=.mk Go.Proofs.Tryz.func48
noncomputable def aRL:CM dI prog 49 1 [(0,[0]),(1,[0,4]),(2,[2]),(3,[0,10]),(4,[2]),(5,[2])]:=.mk Go.Proofs.Tryz.func49
noncomputable def aLQ:CM dI prog 50 1 [(0,[1]),(1,[1,3]),(2,[1,3,4]),(3,[1,3,4,19]),(4,[1,3,4]),(5,[1,3,4,23]),(6,[1,3,4]),(7,[1,3,4]),(8,[1,3,4]),(9,[2]),(1000001,[0,1,1,1,2,1,6,1,7,3,2,0,1,3,1,4,1,5,2,8,1,9,1,10,0,2,8,2,0,1,3,1,4,1,5,1,9,1,10,0])]:=.mk Go.Proofs.Tryz.func50
noncomputable def aYJ:CM dI prog 51 1 [(0,[0]),(1,[0,2])]:=.mk Go.Proofs.Tryz.func51
noncomputable def aYC:CM dI prog 52 1 [(0,[0,2]),(1,[0,2,3]),(2,[0,2,3,12]),(3,[0,2,3,12,13]),(4,[0,2,3]),(5,[0,2,3,21]),(6,[0,2,3]),(7,[0,2])]:=.mk Go.Proofs.Tryz.func52
noncomputable def aX8:CM dI prog 53 1 [(0,[1]),(1,[1,14]),(2,[2]),(3,[1,3,4]),(4,[1,3,4,6]),(5,[2])]:=.mk Go.Proofs.Tryz.func53
noncomputable def aQT:CM dI prog 54 1 [(0,[1]),(1,[1,8]),(2,[2,3]),(3,[4]),(4,[2,3])]:=.mk Go.Proofs.Tryz.func54
noncomputable def aX5:CM dI prog 55 1 [(0,[0,2]),(1,[0,2,6]),(2,[2,3]),(3,[2,3])]:=.mk Go.Proofs.Tryz.func55
noncomputable def aRU:CM dI prog 56 1 [(0,[0,2]),(1,[0,2,6]),(2,[2,3]),(3,[2,3])]:=.mk Go.Proofs.Tryz.func56
noncomputable def aX0:CM dI prog 57 3 [(0,[0,1,2]),(1,[6])]:=.mk Go.Proofs.Tryz.func57
noncomputable def aYi:CM dI prog 58 1 [(0,[0]),(1,[0,4]),(2,[0,4,5]),(3,[0,4,5,22]),(4,[0,4,5,6,8]),(5,[0,4,5,6,32]),(6,[0,4,5,6,9]),(7,[0,4,5,6,12]),(8,[0,4,5,6,14,15]),(9,[0,4,5,6,17]),(10,[0,4,5,6,17,18,19]),(11,[0,4,5,6,17,67]),(12,[0,4,5,6]),(13,[0,4,5]),(14,[2,3])]:=.mk Go.Proofs.Tryz.func58
end Go.Pe.Tryz
