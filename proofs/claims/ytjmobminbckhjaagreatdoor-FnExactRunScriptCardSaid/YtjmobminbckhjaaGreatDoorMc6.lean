/-
The compact code of the functions that the law reaches,printed by gen.py,each with the proof that the machine's code is compiled to it.
-/
import Derived.Test.YtjmobminbckhjaaGreatDoorMc1
import Derived.Test.YtjmobminbckhjaaGreatDoorProg
import Derived.KernelRfl
set_option maxRecDepth 100000
namespace Go.Pe.Tryz
open Go.Pe
noncomputable def aQV:CM dD prog 128 2 [(0,[2,3]),(1,[3,5]),(2,[3,5,11]),(3,[3,5,11,12]),(4,[4]),(5,[3,5,11,27]),(6,[4]),(7,[3,5,11,46]),(8,[4]),(9,[3,5,11,60]),(10,[4]),(11,[3,5,75]),(12,[4]),(13,[4])]:=.mk Go.Proofs.Tryz.func128
noncomputable def lF:CM dD prog 129 2 [(0,[2,3,4]),(1,[2,3,4,6,7]),(2,[2,3,4,6,7,8]),(3,[2,3,4,6,7,8,16]),(4,[4,6,7]),(5,[2,3,4,6,7,8,16,23]),(6,[2,3,4,6,7,30]),(7,[4,5]),(8,[4,6,7]),(9,[2,3,4,6,7,8,16,38]),(10,[2,3,4,6,7,45]),(11,[4,5]),(12,[4,6,7]),(13,[2,3,4,6,7,8,16,50]),(14,[3,4,6,7,8,60]),(15,[4,5]),(16,[4,6,7]),(17,[2,3,4,6,7,8,16,76]),(18,[4,6,7]),(19,[2,3,4,6,7,8,85]),(20,[2,3,4,6,7,8,96]),(21,[4,5]),(22,[4,6,7]),(23,[4,5]),(1000016,[1,14,1,0,1,1,1,2,1,3,1,4,1,5,1,6,1,7,1,8,1,9,1,10,2,11,1,12,1,13,2,14,0]),(1000022,[1,14,1,0,1,1,1,2,1,3,1,4,1,5,1,6,1,7,1,8,1,9,1,10,1,11,1,12,1,13,2,14,0]),(1000023,[2,6,7,1,1,1,2,3,2,0,2,3,2,4,1,5,2,6,2,7,0,2,3,3,2,0,2,4,1,5,2,6,2,7,0,2,4,1,5,2,0,2,6,2,7,0])]:=.mk Go.Proofs.Tryz.func129
noncomputable def aQA:CM dD prog 130 1 [(0,[0]),(1,[0,3]),(2,[0,3,4]),(3,[0,3,4,8]),(4,[0,3,4]),(5,[0,3,4]),(6,[2])]:=.mk Go.Proofs.Tryz.func130
noncomputable def aR1:CM dD prog 131 1 [(0,[0]),(1,[0,3]),(2,[0,3,4]),(3,[0,3,4,11]),(4,[0,3,4]),(5,[0,3,4]),(6,[2])]:=.mk Go.Proofs.Tryz.func131
noncomputable def aRw:CM dD prog 132 2 [(0,[0,1]),(1,[4])]:=.mk Go.Proofs.Tryz.func132
noncomputable def aRV:CM dD prog 133 1 [(0,[0]),(1,[2])]:=.mk Go.Proofs.Tryz.func133
theorem aT5:gE prog.P 133=true:=by kernel_rfl
noncomputable def aJE:CM dD prog 134 1 [(0,[0]),(1,[2])]:=.mk Go.Proofs.Tryz.func134
noncomputable def aRu:CM dD prog 135 1 [(0,[0]),(1,[2])]:=.mk Go.Proofs.Tryz.func135
noncomputable def aRD:CM dD prog 136 1 [(0,[0]),(1,[2])]:=.mk Go.Proofs.Tryz.func136
noncomputable def aQZ:CM dD prog 137 1 [(0,[0]),(1,[0,3]),(2,[0,3,7]),(3,[0,3]),(4,[0,3,19]),(5,[2]),(6,[2])]:=.mk Go.Proofs.Tryz.func137
noncomputable def aRf:CM dD prog 138 2 [(0,[0,1]),(1,[4])]:=.mk Go.Proofs.Tryz.func138
noncomputable def aRU:CM dD prog 139 1 [(0,[0]),(1,[2])]:=.mk Go.Proofs.Tryz.func139
theorem aUG:gE prog.P 139=true:=by kernel_rfl
noncomputable def aJo:CM dD prog 140 1 [(0,[0]),(1,[2])]:=.mk Go.Proofs.Tryz.func140
noncomputable def aRZ:CM dD prog 145 2 [(0,[2,3]),(1,[4])]:=.mk Go.Proofs.Tryz.func145
noncomputable def aRF:CM dD prog 147 2 [(0,[0,1]),(1,[0,1,5]),(2,[0,1,5,12,13]),(3,[0,1,5,12,13,14]),(4,[0,1,5,6,12,13]),(5,[0,1,5,6,7,12,13]),(6,[0,1,5,6,7,12,13,27]),(7,[0,1,12,13]),(8,[0,1,5,12,13]),(9,[0,1,5,12,13]),(10,[0,4]),(1000007,[1,19,1,0,1,1,1,2,1,3,1,4,1,5,1,6,1,7,1,8,1,9,1,10,1,11,1,12,1,13,1,14,1,15,2,16,1,17,1,18,2,19,0])]:=.mk Go.Proofs.Tryz.func147
noncomputable def aAI:CM dD prog 148 3 [(0,[0,1,5]),(1,[0,1,5,7]),(2,[0,1,5,7,15]),(3,[0,1,5,7,15,16]),(4,[0,5,7,24]),(5,[0,6]),(6,[0,7]),(7,[0]),(8,[0,6]),(9,[0,1,5,7,15,41]),(10,[0,5]),(11,[0,6]),(12,[0,1,5,55]),(13,[0,6]),(14,[0,6]),(1000006,[1,11,1,0,1,1,1,2,1,3,1,4,1,5,1,6,2,7,2,8,1,9,1,10,2,11,0]),(1000010,[1,9,1,0,1,1,1,2,1,3,1,4,1,5,1,6,1,7,1,8,2,9,0])]:=.mk Go.Proofs.Tryz.func148
noncomputable def aRH:CM dD prog 149 2 [(0,[1,2]),(1,[1,2,5]),(2,[1,5,9,10,11]),(3,[1,5,9,10,11,12]),(4,[1,5,7,9,10,11]),(5,[1,5,7,9,10,11,17]),(6,[1,5,9,10,11]),(7,[1,5,9,10,11]),(8,[4])]:=.mk Go.Proofs.Tryz.func149
noncomputable def aRk:CM dD prog 150 2 [(0,[1,2]),(1,[3])]:=.mk Go.Proofs.Tryz.func150
theorem aUj:gE prog.P 150=true:=by kernel_rfl
noncomputable def aQy:CM dD prog 151 2 [(0,[0,1]),(1,[4])]:=.mk Go.Proofs.Tryz.func151
noncomputable def aRR:CM dD prog 152 2 [(0,[0,1]),(1,[0,1,5]),(2,[1,5,11,12,13]),(3,[1,5,11,12,13,14]),(4,[1,5,6,7,11,12,13]),(5,[1,5,11,12,13]),(6,[1,5,11,12,13]),(7,[4])]:=.mk Go.Proofs.Tryz.func152
noncomputable def aQG:CM dD prog 153 2 [(0,[1,2]),(1,[3])]:=.mk Go.Proofs.Tryz.func153
theorem aTM:gE prog.P 153=true:=by kernel_rfl
noncomputable def aQX:CM dD prog 154 2 [(0,[1,2]),(1,[3])]:=.mk Go.Proofs.Tryz.func154
theorem aUi:gE prog.P 154=true:=by kernel_rfl
noncomputable def aJO:CM dD prog 155 1 [(0,[0]),(1,[0,7]),(2,[2,3]),(3,[4]),(4,[4,12]),(5,[4]),(6,[2,3])]:=.mk Go.Proofs.Tryz.func155
noncomputable def aI7:CM dD prog 156 1 [(0,[1]),(1,[1,3]),(2,[1,3,18]),(3,[3]),(4,[2]),(1000001,[0,1,1,1,2,1,3,1,7,1,8,3,2,0,1,4,1,5,1,6,2,9,1,10,1,11,0,2,9,2,0,1,4,1,5,1,6,1,10,1,11,0])]:=.mk Go.Proofs.Tryz.func156
noncomputable def aRi:CM dD prog 160 1 [(0,[0]),(1,[0,3]),(2,[0,3,6,7]),(3,[0,3,6,7,8]),(4,[0,3,4,6,7]),(5,[0,3,6,7]),(6,[0,3,6,7]),(7,[2])]:=.mk Go.Proofs.Tryz.func160
noncomputable def aRe:CM dD prog 161 2 [(0,[0,1]),(1,[0,1,10]),(2,[4]),(3,[0,1,5]),(4,[0,1,5,14]),(5,[0,1,5]),(6,[0,1,5,25]),(7,[4]),(8,[4])]:=.mk Go.Proofs.Tryz.func161
noncomputable def aR9:CM dD prog 163 1 [(0,[0]),(1,[2])]:=.mk Go.Proofs.Tryz.func163
noncomputable def aRC:CM dD prog 164 1 [(0,[0]),(1,[0,3]),(2,[0,3,4]),(3,[0,3,4,9]),(4,[0,3,4]),(5,[0,3,4]),(6,[2])]:=.mk Go.Proofs.Tryz.func164
noncomputable def aRa:CM dD prog 165 1 [(0,[0]),(1,[0,3]),(2,[0,3,4]),(3,[0,3,4,9]),(4,[0,3,4]),(5,[0,3,4,16]),(6,[0,3,4]),(7,[0,3,4]),(8,[2]),(1000006,[0,1,0,1,1,1,2,1,3,1,4,1,5,1,6,1,7,1,8,1,9,2,10,2,11,2,12,1,13,0])]:=.mk Go.Proofs.Tryz.func165
noncomputable def aR6:CM dD prog 166 2 [(0,[1,2]),(1,[1,2,5]),(2,[1,2,5,10]),(3,[1,2,5]),(4,[1,2,5,20]),(5,[4]),(6,[4])]:=.mk Go.Proofs.Tryz.func166
noncomputable def aD1:CM dD prog 167 1 [(0,[1]),(1,[1,3]),(2,[1,3,4]),(3,[1,3,4,19]),(4,[1,3,4]),(5,[1,3,4,23]),(6,[1,3,4]),(7,[1,3,4]),(8,[1,3,4]),(9,[2]),(1000001,[0,1,1,1,2,1,6,1,7,3,2,0,1,3,1,4,1,5,2,8,1,9,1,10,0,2,8,2,0,1,3,1,4,1,5,1,9,1,10,0])]:=.mk Go.Proofs.Tryz.func167
end Go.Pe.Tryz
