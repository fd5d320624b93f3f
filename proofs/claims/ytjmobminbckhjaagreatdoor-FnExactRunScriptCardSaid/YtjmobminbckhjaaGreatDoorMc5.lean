/-
The compact code of the functions that the law reaches,printed by gen.py,each with the proof that the machine's code is compiled to it.
-/
import Derived.Test.YtjmobminbckhjaaGreatDoorMc1
import Derived.Test.YtjmobminbckhjaaGreatDoorProg
import Derived.KernelRfl
set_option maxRecDepth 100000
namespace Go.Pe.Tryz
open Go.Pe
noncomputable def aOA:CM dD prog 89 1 [(0,[0]),(1,[0,4]),(2,[2]),(3,[0,10]),(4,[2]),(5,[2])]:=.mk Go.Proofs.Tryz.func89
noncomputable def aPt:CM dD prog 90 1 [(0,[1]),(1,[1,4]),(2,[1,4,9]),(3,[2,3]),(4,[1,4,5]),(5,[1,4,5,15]),(6,[1,4,5]),(7,[1,4,5,26]),(8,[1,4,5]),(9,[2,3])]:=.mk Go.Proofs.Tryz.func90
noncomputable def aKt:CM dD prog 91 2 [(0,[0,1]),(1,[0,8]),(2,[4]),(3,[0,11]),(4,[4]),(5,[0,5]),(6,[0,5,6]),(7,[0,5,6,19]),(8,[0,5,6]),(9,[0,5,6]),(10,[4])]:=.mk Go.Proofs.Tryz.func91
noncomputable def aPj:CM dD prog 92 1 [(0,[1]),(1,[1,4]),(2,[1,4,10]),(3,[2,3]),(4,[1,4,5]),(5,[1,4,5,16]),(6,[1,4,5]),(7,[1,4,5,6]),(8,[1,4,5,6,39]),(9,[1,4,5]),(10,[2,3])]:=.mk Go.Proofs.Tryz.func92
noncomputable def aJY:CM dD prog 93 1 [(0,[1]),(1,[1,12]),(2,[2,3]),(3,[2,3])]:=.mk Go.Proofs.Tryz.func93
noncomputable def aJ2:CM dD prog 94 2 [(0,[1,2]),(1,[1,2,6]),(2,[1,2,6,16]),(3,[4,5]),(4,[1,2,6,7]),(5,[1,2,6,7,22]),(6,[1,2,6,7]),(7,[1,2,6,7,32]),(8,[1,2,6,7]),(9,[4,5])]:=.mk Go.Proofs.Tryz.func94
noncomputable def aK4:CM dD prog 95 2 [(0,[1,2]),(1,[5,6]),(2,[5,14]),(3,[4]),(4,[4])]:=.mk Go.Proofs.Tryz.func95
noncomputable def aLq:CM dD prog 96 2 [(0,[2,3,4]),(1,[2,3,4,16]),(2,[4,5]),(3,[4,6,7]),(4,[4,6,25]),(5,[4,5]),(6,[4,5])]:=.mk Go.Proofs.Tryz.func96
noncomputable def aUO:CM dD prog 97 1 [(0,[0]),(1,[2])]:=.mk Go.Proofs.Tryz.func97
noncomputable def aUC:CM dD prog 98 1 [(0,[1,2]),(1,[1,2,3]),(2,[1,2,3]),(3,[1,2,3]),(4,[1,2,3]),(5,[2,3]),(6,[2])]:=.mk Go.Proofs.Tryz.func98
noncomputable def aPV:CM dD prog 99 1 [(0,[0]),(1,[2])]:=.mk Go.Proofs.Tryz.func99
noncomputable def aR0:CM dD prog 100 1 [(0,[1]),(1,[2])]:=.mk Go.Proofs.Tryz.func100
noncomputable def aRr:CM dD prog 101 1 [(0,[0]),(1,[0,4]),(2,[2]),(3,[2])]:=.mk Go.Proofs.Tryz.func101
noncomputable def aRI:CM dD prog 102 1 [(0,[0]),(1,[0,4]),(2,[2]),(3,[2])]:=.mk Go.Proofs.Tryz.func102
noncomputable def aRM:CM dD prog 103 1 [(0,[0]),(1,[0,4]),(2,[2]),(3,[2])]:=.mk Go.Proofs.Tryz.func103
noncomputable def aR4:CM dD prog 106 1 [(0,[0]),(1,[2])]:=.mk Go.Proofs.Tryz.func106
noncomputable def tP:CM dD prog 107 2 [(0,[0,3]),(1,[0,3,5]),(2,[0,3,5,13]),(3,[0,3,18]),(4,[0,4]),(5,[0,3,6]),(6,[0,3,6,38]),(7,[0,3,6]),(8,[0]),(9,[0,4]),(10,[0,3,5,63]),(11,[0,4]),(12,[0,3,5,67]),(13,[0,3]),(14,[0,4]),(15,[0,3,5,88]),(16,[0,4]),(17,[0,4]),(1000008,[1,22,1,0,1,1,1,2,1,3,1,4,1,5,1,6,1,7,1,8,1,9,1,10,1,11,1,12,1,13,1,14,1,15,1,16,2,17,2,18,2,19,1,20,1,21,2,22,0]),(1000013,[1,9,1,0,1,1,1,2,1,3,1,4,1,5,1,6,1,7,1,8,2,9,0])]:=.mk Go.Proofs.Tryz.func107
noncomputable def aEB:CM dD prog 108 2 [(0,[2,3]),(1,[2,3,13]),(2,[4,5]),(3,[4,5])]:=.mk Go.Proofs.Tryz.func108
noncomputable def aJe:CM dD prog 109 1 [(0,[0]),(1,[0,5]),(2,[2]),(3,[2])]:=.mk Go.Proofs.Tryz.func109
noncomputable def aJt:CM dD prog 110 1 [(0,[1]),(1,[1,6]),(2,[2,3]),(3,[2,3])]:=.mk Go.Proofs.Tryz.func110
noncomputable def aI8:CM dD prog 111 1 [(0,[1]),(1,[1,6]),(2,[2,3]),(3,[2,3])]:=.mk Go.Proofs.Tryz.func111
noncomputable def aEl:CM dD prog 112 1 [(0,[1]),(1,[1,6]),(2,[2,3]),(3,[2,3])]:=.mk Go.Proofs.Tryz.func112
noncomputable def aEc:CM dD prog 113 2 [(0,[1,2]),(1,[2,6]),(2,[2,6,16]),(3,[4,5]),(4,[4,5])]:=.mk Go.Proofs.Tryz.func113
noncomputable def aAW:CM dD prog 116 1 [(0,[0]),(1,[0,11]),(2,[2,3]),(3,[4]),(4,[4,20]),(5,[2,3]),(6,[2,3])]:=.mk Go.Proofs.Tryz.func116
noncomputable def aRo:CM dD prog 117 2 [(0,[2,3]),(1,[2,3,9]),(2,[4]),(3,[2,3,14]),(4,[4]),(5,[2,3,19]),(6,[4]),(7,[25]),(8,[4]),(9,[4])]:=.mk Go.Proofs.Tryz.func117
noncomputable def aQ0:CM dD prog 118 1 [(0,[0,1]),(1,[0,1,5]),(2,[0,1,5,9]),(3,[0,1,5]),(4,[0,1,5]),(5,[0,1,5]),(6,[0,4])]:=.mk Go.Proofs.Tryz.func118
noncomputable def aRc:CM dD prog 119 1 [(0,[0,1]),(1,[0,1,5]),(2,[0,1,5,9]),(3,[0,1,5]),(4,[0,1,5,17]),(5,[4]),(6,[0,1,5]),(7,[4])]:=.mk Go.Proofs.Tryz.func119
noncomputable def aEp:CM dD prog 121 1 [(0,[0]),(1,[0,4]),(2,[0,4,7,8]),(3,[4,26]),(4,[2,3]),(5,[2,3])]:=.mk Go.Proofs.Tryz.func121
noncomputable def aQJ:CM dD prog 122 1 [(0,[0,1]),(1,[1]),(2,[1,10]),(3,[4]),(4,[4])]:=.mk Go.Proofs.Tryz.func122
noncomputable def aRS:CM dD prog 123 1 [(0,[0]),(1,[0,3]),(2,[0,3,8]),(3,[0,3]),(4,[0,3,4]),(5,[0,3,33]),(6,[2]),(7,[2])]:=.mk Go.Proofs.Tryz.func123
noncomputable def aRE:CM dD prog 124 3 [(0,[0,1,2]),(1,[0,1,2,7]),(2,[0,1,2,7,11]),(3,[0,1,2,7]),(4,[0,1,2,7,37]),(5,[6]),(6,[6])]:=.mk Go.Proofs.Tryz.func124
noncomputable def aRB:CM dD prog 125 1 [(0,[0]),(1,[3]),(2,[3,8]),(3,[3]),(4,[2])]:=.mk Go.Proofs.Tryz.func125
noncomputable def aQP:CM dD prog 126 2 [(0,[0,1]),(1,[0,1,5]),(2,[0,1,5,9]),(3,[0,1,5]),(4,[0,1,5,17]),(5,[4]),(6,[4])]:=.mk Go.Proofs.Tryz.func126
noncomputable def aEz:CM dD prog 127 2 [(0,[1,2]),(1,[2,6]),(2,[2,6,16]),(3,[4,5]),(4,[4,5])]:=.mk Go.Proofs.Tryz.func127
end Go.Pe.Tryz
