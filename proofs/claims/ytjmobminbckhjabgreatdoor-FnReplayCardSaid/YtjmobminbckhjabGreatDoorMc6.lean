/-
The compact code of the functions that the law reaches,printed by gen.py,each with the proof that the machine's code is compiled to it.
-/
import Derived.Test.YtjmobminbckhjabGreatDoorMc1
import Derived.Test.YtjmobminbckhjabGreatDoorProg
import Derived.KernelRfl
set_option maxRecDepth 100000
namespace Go.Pe.Tryz
open Go.Pe
noncomputable def aSy:CM dI prog 83 2 [(0,[2,3,4]),(1,[2,3,4,6,7]),(2,[2,3,4,6,19]),(3,[4,5]),(4,[2,3,4,6,8]),(5,[2,3,4,6,8]),(6,[2,3,4,6,8,25]),(7,[2,3,4,6,8,25,26]),(8,[4,5]),(9,[2,3,4,6,8,25,32]),(10,[4,8,9,10]),(11,[4,5]),(12,[3,4,6,8,46]),(13,[4,5]),(14,[4,5]),(1000008,[2,4,5,1,1,3,2,0,2,2,2,3,2,4,2,5,0,2,2,3,2,0,2,3,2,4,2,5,0,2,3,2,0,2,4,2,5,0]),(1000011,[2,4,5,1,1,1,2,3,2,0,2,3,2,4,2,5,0,2,3,2,0,2,4,2,5,0]),(1000013,[0,1,1,1,2,1,3,1,4,1,5,1,6,1,7,3,2,0,2,8,2,9,2,10,1,11,0,2,8,3,2,0,2,9,2,10,1,11,0,2,9,2,0,2,10,1,11,0]),(1000014,[2,5,6,1,2,3,2,0,3,2,1,2,3,2,4,2,5,2,6,0,2,3,2,1,2,4,2,5,2,6,0,3,2,1,3,2,0,2,3,2,4,2,5,2,6,0,2,3,3,2,0,2,4,2,5,2,6,0,2,4,2,0,2,5,2,6,0,2,3,3,2,0,2,1,2,4,2,5,2,6,0,2,1,3,2,0,2,4,2,5,2,6,0,2,4,2,0,2,5,2,6,0])]:=.mk Go.Proofs.Tryz.func83
noncomputable def aXZ:CM dI prog 84 2 [(0,[0,1]),(1,[0,1,10]),(2,[4]),(3,[0,1,5]),(4,[0,1,5,14]),(5,[0,1,5]),(6,[0,1,5,25]),(7,[4]),(8,[4])]:=.mk Go.Proofs.Tryz.func84
noncomputable def aYx:CM dI prog 85 2 [(0,[0,1]),(1,[0,1,10]),(2,[4]),(3,[0,1,5]),(4,[0,1,5,14]),(5,[0,1,5]),(6,[0,1,5,25]),(7,[4]),(8,[4])]:=.mk Go.Proofs.Tryz.func85
noncomputable def aWY:CM dI prog 86 1 [(0,[0]),(1,[2])]:=.mk Go.Proofs.Tryz.func86
noncomputable def aQ1:CM dI prog 87 1 [(0,[0]),(1,[2])]:=.mk Go.Proofs.Tryz.func87
noncomputable def aYt:CM dI prog 88 1 [(0,[1]),(1,[2])]:=.mk Go.Proofs.Tryz.func88
noncomputable def aXj:CM dI prog 90 2 [(0,[0,1]),(1,[0,1,5]),(2,[1,5,11,12,13]),(3,[1,5,11,12,13,14]),(4,[1,5,6,7,11,12,13]),(5,[1,5,11,12,13]),(6,[1,5,11,12,13]),(7,[4])]:=.mk Go.Proofs.Tryz.func90
noncomputable def aRY:CM dI prog 91 2 [(0,[0,1]),(1,[0,4])]:=.mk Go.Proofs.Tryz.func91
noncomputable def aXa:CM dI prog 92 1 [(0,[0]),(1,[0,4]),(2,[0,4,5]),(3,[0,4,5,18]),(4,[0,4,5,6]),(5,[0,4,5,6,7,8]),(6,[0,4,5,6,7,38]),(7,[0,4,5,6]),(8,[0,4,5]),(9,[2,3])]:=.mk Go.Proofs.Tryz.func92
noncomputable def aYf:CM dI prog 93 1 [(0,[0]),(1,[2])]:=.mk Go.Proofs.Tryz.func93
noncomputable def aMy:CM dI prog 95 1 [(0,[0]),(1,[0,4]),(2,[0,4,7,8]),(3,[4,26]),(4,[2,3]),(5,[2,3])]:=.mk Go.Proofs.Tryz.func95
noncomputable def aMh:CM dI prog 96 2 [(0,[2,3,4]),(1,[2,3,4,16]),(2,[4,5]),(3,[4,6,7]),(4,[4,6,25]),(5,[4,5]),(6,[4,5])]:=.mk Go.Proofs.Tryz.func96
noncomputable def aYp:CM dI prog 97 1 [(0,[0,2]),(1,[0,2,3]),(2,[0,2,3,4]),(3,[0,2,3,4,9]),(4,[0,2,3,4]),(5,[0,2,3,4]),(6,[0,2,3,4,20]),(7,[0,2,3,4]),(8,[0,2]),(1000005,[1,7,1,0,1,1,2,2,2,3,1,4,1,5,1,6,2,7,0])]:=.mk Go.Proofs.Tryz.func97
noncomputable def aXT:CM dI prog 98 1 [(0,[0]),(1,[2])]:=.mk Go.Proofs.Tryz.func98
noncomputable def aWV:CM dI prog 99 1 [(0,[0]),(1,[0,4]),(2,[2]),(3,[2])]:=.mk Go.Proofs.Tryz.func99
noncomputable def aUG:CM dI prog 100 1 [(0,[0]),(1,[0,4]),(2,[2]),(3,[2])]:=.mk Go.Proofs.Tryz.func100
noncomputable def aUk:CM dI prog 101 1 [(0,[0]),(1,[0,4]),(2,[2]),(3,[2])]:=.mk Go.Proofs.Tryz.func101
noncomputable def vV:CM dI prog 104 2 [(0,[0,3]),(1,[0,3,5]),(2,[0,3,5,13]),(3,[0,3,18]),(4,[0,4]),(5,[0,3,6]),(6,[0,3,6,38]),(7,[0,3,6]),(8,[0]),(9,[0,4]),(10,[0,3,5,63]),(11,[0,4]),(12,[0,3,5,67]),(13,[0,3]),(14,[0,4]),(15,[0,3,5,88]),(16,[0,4]),(17,[0,4]),(1000008,[1,22,1,0,1,1,1,2,1,3,1,4,1,5,1,6,1,7,1,8,1,9,1,10,1,11,1,12,1,13,1,14,1,15,1,16,2,17,2,18,2,19,1,20,1,21,2,22,0]),(1000013,[1,9,1,0,1,1,1,2,1,3,1,4,1,5,1,6,1,7,1,8,2,9,0])]:=.mk Go.Proofs.Tryz.func104
noncomputable def aF4:CM dI prog 105 2 [(0,[2,3]),(1,[2,3,13]),(2,[4,5]),(3,[4,5])]:=.mk Go.Proofs.Tryz.func105
noncomputable def aK0:CM dI prog 106 1 [(0,[0]),(1,[0,5]),(2,[2]),(3,[2])]:=.mk Go.Proofs.Tryz.func106
noncomputable def aLv:CM dI prog 107 1 [(0,[1]),(1,[1,6]),(2,[2,3]),(3,[2,3])]:=.mk Go.Proofs.Tryz.func107
noncomputable def aLd:CM dI prog 108 1 [(0,[1]),(1,[1,6]),(2,[2,3]),(3,[2,3])]:=.mk Go.Proofs.Tryz.func108
noncomputable def aFT:CM dI prog 109 1 [(0,[1]),(1,[1,6]),(2,[2,3]),(3,[2,3])]:=.mk Go.Proofs.Tryz.func109
noncomputable def aFA:CM dI prog 110 2 [(0,[1,2]),(1,[2,6]),(2,[2,6,16]),(3,[4,5]),(4,[4,5])]:=.mk Go.Proofs.Tryz.func110
noncomputable def aCl:CM dI prog 113 1 [(0,[0]),(1,[0,11]),(2,[2,3]),(3,[4]),(4,[4,20]),(5,[2,3]),(6,[2,3])]:=.mk Go.Proofs.Tryz.func113
noncomputable def aTq:CM dI prog 114 1 [(0,[0]),(1,[2])]:=.mk Go.Proofs.Tryz.func114
noncomputable def aUr:CM dI prog 115 3 [(0,[0,1,2]),(1,[6])]:=.mk Go.Proofs.Tryz.func115
noncomputable def aUJ:CM dI prog 116 1 [(0,[0]),(1,[0,3]),(2,[0,3,7]),(3,[0,3]),(4,[0,3,15]),(5,[2]),(6,[2])]:=.mk Go.Proofs.Tryz.func116
noncomputable def aTN:CM dI prog 117 1 [(0,[1]),(1,[2])]:=.mk Go.Proofs.Tryz.func117
noncomputable def aF9:CM dI prog 118 1 [(0,[0]),(1,[0,4]),(2,[0,4,15]),(3,[0,4]),(4,[0,4,21]),(5,[2,3]),(6,[0,4,5]),(7,[0,4,5,6]),(8,[0,4,5,6,25]),(9,[0,4,5,6]),(10,[0,4,5,6,37]),(11,[2,3]),(12,[0,4,5,6]),(13,[0,5,50]),(14,[0,5]),(15,[5,56]),(16,[2,3]),(17,[2,3])]:=.mk Go.Proofs.Tryz.func118
noncomputable def aLK:CM dI prog 119 1 [(0,[1]),(1,[1,4]),(2,[1,4,9]),(3,[2,3]),(4,[1,4,5]),(5,[1,4,5,15]),(6,[1,4,5]),(7,[1,4,5,26]),(8,[1,4,5]),(9,[2,3])]:=.mk Go.Proofs.Tryz.func119
noncomputable def aFB:CM dI prog 120 2 [(0,[0,1]),(1,[0,8]),(2,[4]),(3,[0,11]),(4,[4]),(5,[0,5]),(6,[0,5,6]),(7,[0,5,6,19]),(8,[0,5,6]),(9,[0,5,6]),(10,[4])]:=.mk Go.Proofs.Tryz.func120
noncomputable def aLp:CM dI prog 121 1 [(0,[1]),(1,[1,4]),(2,[1,4,10]),(3,[2,3]),(4,[1,4,5]),(5,[1,4,5,16]),(6,[1,4,5]),(7,[1,4,5,6]),(8,[1,4,5,6,39]),(9,[1,4,5]),(10,[2,3])]:=.mk Go.Proofs.Tryz.func121
noncomputable def aF8:CM dI prog 122 1 [(0,[1]),(1,[1,12]),(2,[2,3]),(3,[2,3])]:=.mk Go.Proofs.Tryz.func122
noncomputable def aF6:CM dI prog 123 2 [(0,[1,2]),(1,[1,2,6]),(2,[1,2,6,16]),(3,[4,5]),(4,[1,2,6,7]),(5,[1,2,6,7,22]),(6,[1,2,6,7]),(7,[1,2,6,7,32]),(8,[1,2,6,7]),(9,[4,5])]:=.mk Go.Proofs.Tryz.func123
noncomputable def aFD:CM dI prog 124 2 [(0,[1,2]),(1,[5,6]),(2,[5,14]),(3,[4]),(4,[4])]:=.mk Go.Proofs.Tryz.func124
noncomputable def aTu:CM dI prog 125 2 [(0,[0,1]),(1,[4])]:=.mk Go.Proofs.Tryz.func125
noncomputable def aUt:CM dI prog 126 1 [(0,[0]),(1,[2])]:=.mk Go.Proofs.Tryz.func126
theorem aXf:g8 prog.P 126=true:=by kernel_rfl
noncomputable def aLC:CM dI prog 127 1 [(0,[0]),(1,[2])]:=.mk Go.Proofs.Tryz.func127
noncomputable def aT9:CM dI prog 128 1 [(0,[0]),(1,[2])]:=.mk Go.Proofs.Tryz.func128
noncomputable def aUE:CM dI prog 129 1 [(0,[0]),(1,[2])]:=.mk Go.Proofs.Tryz.func129
noncomputable def aUD:CM dI prog 130 1 [(0,[0]),(1,[0,3]),(2,[0,3,7]),(3,[0,3]),(4,[0,3,19]),(5,[2]),(6,[2])]:=.mk Go.Proofs.Tryz.func130
noncomputable def aUz:CM dI prog 131 2 [(0,[0,1]),(1,[4])]:=.mk Go.Proofs.Tryz.func131
noncomputable def aUq:CM dI prog 132 1 [(0,[0]),(1,[2])]:=.mk Go.Proofs.Tryz.func132
theorem aW2:g8 prog.P 132=true:=by kernel_rfl
noncomputable def aK8:CM dI prog 133 1 [(0,[0]),(1,[2])]:=.mk Go.Proofs.Tryz.func133
noncomputable def yP:CM dI prog 136 2 [(0,[0,1,4]),(1,[0,1,4,6]),(2,[0,1,4,6,7]),(3,[0,1,4,6,7,30]),(4,[4,5]),(5,[0,1,4,8]),(6,[0,1,4,8,9]),(7,[0,1,4,8,9,44]),(8,[4,5]),(9,[0,1,4,10]),(10,[4,5]),(1000010,[2,11,12,1,0,2,1,2,2,1,3,1,4,1,7,1,8,2,5,2,6,1,9,1,10,2,11,2,12,0])]:=.mk Go.Proofs.Tryz.func136
end Go.Pe.Tryz
