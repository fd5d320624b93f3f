/-
The compact code of the functions that the law reaches,printed by gen.py,each with the proof that the machine's code is compiled to it.
-/
import Derived.Test.YtjmobminbckhjabGreatDoorPeD
import Derived.Lib.ItoaNum
import Derived.Lib.LaidTab
import Derived.Test.YtjmobminbckhjabGreatDoorProg
import Derived.KernelRfl
set_option maxRecDepth 100000
namespace Go.Pe.Tryz
open Go.Pe
theorem aOO {P:Program} {n:String} {k:IntKind} {zs:List Int} {g:Nat} (hg:P.globalNamed n=some g) (w w':World) (_:w.heap.size<=w'.heap.size) (hk:∀ b,b < w.heap.size->w'.heap[b]?=w.heap[b]?) (h:Go.Lib.TabIs P w n k zs):Go.Lib.TabIs P w' n k zs:=by
 unfold Go.Lib.TabIs World.var? at h ⊢
 rw [hg] at h ⊢
 simp only [Option.bind_some] at h ⊢
 by_cases hb:g < w.heap.size
 ·rw [hk g hb]; exact h
 ·rw [Array.getElem?_eq_none (by omega)] at h
  simp at h
theorem aMk (g:Nat) (w w':World) (hk:∀ b,b < w.heap.size->w'.heap[b]?=w.heap[b]?) (h:∃ m,w.cell? ⟨g,0,none⟩=some (.int .i64 m)):∃ m,w'.cell? ⟨g,0,none⟩=some (.int .i64 m):=by
 obtain ⟨m,h⟩:=h
 by_cases hb:g < w.heap.size
 ·refine ⟨m,?_⟩
  unfold World.cell? at h ⊢
  rw [hk g hb]; exact h
 ·have hn:w.heap[g]?=none:=Array.getElem?_eq_none (by omega)
  simp [World.cell?,hn] at h
theorem aIU {P:Program} {n:String} {g:Nat} (hg:P.globalNamed n=some g) (w w':World) (hk:∀ b,b < w.heap.size->w'.heap[b]?=w.heap[b]?) (h:∃ t p,w.var? P n=some #[.iface t p]):∃ t p,w'.var? P n=some #[.iface t p]:=by
 obtain ⟨t,p,h⟩:=h
 refine ⟨t,p,?_⟩
 unfold World.var? at h ⊢
 rw [hg] at h ⊢
 simp only [Option.bind_some] at h ⊢
 by_cases hb:g < w.heap.size
 ·rw [hk g hb]; exact h
 ·rw [Array.getElem?_eq_none (by omega)] at h
  simp at h
noncomputable def prog : PG := ⟨Go.Proofs.Tryz.prog, fun w => (Go.Lib.TabIs Go.Proofs.Tryz.prog w "internal/strconv.uint64pow10" .u64 Go.Lib.pow10Tab) /\ (∃ m, w.cell? ⟨0, 0, none⟩ = some (.int .i64 m)) /\ (∃ t p, w.var? Go.Proofs.Tryz.prog "strconv.ErrSyntax" = some #[.iface t p]) /\ (∃ t p, w.var? Go.Proofs.Tryz.prog "strconv.ErrRange" = some #[.iface t p]), fun w w' hs hk h => ⟨aOO (show Go.Proofs.Tryz.prog.globalNamed "internal/strconv.uint64pow10" = some 5 by kernel_rfl) w w' hs hk h.1, aMk 0 w w' hk h.2.1, aIU (show Go.Proofs.Tryz.prog.globalNamed "strconv.ErrSyntax" = some 1 by kernel_rfl) w w' hk h.2.2.1, aIU (show Go.Proofs.Tryz.prog.globalNamed "strconv.ErrRange" = some 2 by kernel_rfl) w w' hk h.2.2.2⟩⟩
theorem aXX {w : World} (h : prog.F w) : Go.Lib.TabIs Go.Proofs.Tryz.prog w "internal/strconv.uint64pow10" .u64 Go.Lib.pow10Tab := h.1
theorem aTJ {w:World} (h:prog.F w):∃ m,w.cell? ⟨0,0,none⟩=some (.int .i64 m):=h.2.1
theorem aXm {w : World} (h : prog.F w) : ∃ t p, w.var? Go.Proofs.Tryz.prog "strconv.ErrSyntax" = some #[.iface t p] := h.2.2.1
theorem aW9 {w : World} (h : prog.F w) : ∃ t p, w.var? Go.Proofs.Tryz.prog "strconv.ErrRange" = some #[.iface t p] := h.2.2.2
noncomputable def aY2 : Func := { name := "a", origin := "", params := #[], resultTypes := #[], nfree := 0, ntmps := 0, results := #[], body := some .skip, norace := false, tmpNames := #[] }
noncomputable def dI:Option Program:=some { toTables:=Go.Proofs.Tryz.progTables,funcs:=(List.replicate 295 aY2).toArray }
theorem dJ:e7 prog.P 27=some 5:=by kernel_rfl
theorem mF:e7 prog.P 29=some 3:=by kernel_rfl
theorem eL:e7 prog.P 31=some 8:=by kernel_rfl
theorem mR:e7 prog.P 41=some 2:=by kernel_rfl
theorem gZ:e7 prog.P 92=some 4:=by kernel_rfl
def aVo:List (Nat×List Nat):=[(4,[3,4,10]),(5,[3,4]),(6,[3,4]),(1000005,[1,10,1,0,1,1,1,2,1,3,1,4,1,5,1,6,2,7,2,8,2,9,2,10,0]),(1000006,[1,6,1,0,1,1,1,2,1,3,2,4,2,5,2,6,0])]
def aNQ:MC :=
 (.block 1
 (.seq
 (.reg false [3,4,10] [⟨(some 8),none,false,.mov (.t 4)⟩,
 ⟨(some 9),none,false,.len false (.t 8)⟩,
 ⟨(some 10),none,false,.bin .eql (.t 9) (.k (.d (.int .i64 2)))⟩])
 (.cond (.t 10)
 (.any [10] [3,4] (.q 0 ⟨(some 11),none,false,.ld none (.t 3)⟩ (.q 1 ⟨(some 12),none,false,.mov (.t 4)⟩ (.q 2 ⟨(some 13),none,false,.ia 1 (.t 12) (.k (.d (.int .i64 0)))⟩ (.q 3 ⟨(some 14),none,false,.ld none (.t 13)⟩ (.q 4 ⟨(some 15),none,false,.mov (.t 4)⟩ (.q 5 ⟨(some 16),none,false,.ia 1 (.t 15) (.k (.d (.int .i64 1)))⟩ (.q 6 ⟨(some 17),none,false,.ld none (.t 16)⟩ (.e 7 ⟨(some 18),none,true,.call 223 [(.t 14),(.t 17)]⟩ (.e 8 ⟨(some 19),none,true,.bs 1 1 (.int .i64 0) [(0,(.t 18))]⟩ (.e 9 ⟨(some 20),none,true,.app 1 8 (.t 11) (.t 19)⟩ (.e 10 ⟨none,none,true,.st 1 (.t 3) (.t 20)⟩ .done))))))))))))
 (.any [6] [3,4] (.q 0 ⟨(some 21),none,false,.ld none (.t 3)⟩ (.q 1 ⟨(some 22),none,false,.mov (.t 4)⟩ (.q 2 ⟨(some 23),none,false,.ia 1 (.t 22) (.k (.d (.int .i64 0)))⟩ (.q 3 ⟨(some 24),none,false,.ld none (.t 23)⟩ (.e 4 ⟨(some 25),none,true,.bs 1 1 (.int .i64 0) [(0,(.t 24))]⟩ (.e 5 ⟨(some 26),none,true,.app 1 8 (.t 21) (.t 25)⟩ (.e 6 ⟨none,none,true,.st 1 (.t 3) (.t 26)⟩ .done)))))))))))
theorem aUS:(Go.Proofs.Tryz.f194).body.bind (fun c=>(nP c).bind (comp prog.P (8,(Go.Proofs.Tryz.f194).ntmps) aVo))=some aNQ:=by kernel_rfl
theorem aT5:(Go.Proofs.Tryz.f194).body.bind (fun c=>(nP c).map mX)=some true:=by kernel_rfl
noncomputable def ef3:CM dI prog 3 1 [(0,[0]),(1,[0,12]),(2,[2]),(3,[3,4]),(4,[3,4,5,6]),(5,[3,4,5,6,7,8]),(6,[3,4,5,6,45]),(7,[2]),(8,[3,4,5,6,50]),(9,[2]),(10,[3,4,5,6,9,10]),(11,[2])]:=.mk Go.Proofs.Tryz.func3
noncomputable def ef4:CM dI prog 4 1 [(0,[0]),(1,[0,19]),(2,[2]),(3,[3,4]),(4,[3,4,5,6]),(5,[3,4,5,6,7,8]),(6,[3,4,5,6,7,46]),(7,[2]),(8,[3,4,5,6,7,9]),(9,[3,4,5,6,7,9,50]),(10,[3,4,5,6,7,9]),(11,[3,4,5,6,7,9,61]),(12,[2]),(13,[3,5,6,10]),(14,[3,5,6,10,73]),(15,[2]),(16,[3,5,12,13]),(17,[3,5,12,13,14,15]),(18,[5,12,13,14,15,16,17]),(19,[2])]:=.mk Go.Proofs.Tryz.func4
noncomputable def ef5:CM dI prog 5 1 [(0,[0]),(1,[0,28]),(2,[2]),(3,[0,3,4]),(4,[0,3,4,5,6]),(5,[0,3,5,6,7,8]),(6,[0,3,53]),(7,[2]),(8,[3,10]),(9,[3,10,11,12]),(10,[3,10,11,12,13,14]),(11,[3,10,11,12,77]),(12,[2]),(13,[3,10,11,79]),(14,[2]),(15,[3,11,15]),(16,[3,11,15,17]),(17,[3,11,15,17,88]),(18,[3,11,15,17]),(19,[3,11,15,17]),(20,[3,11,18,19]),(21,[3,11,18,19,20]),(22,[3,11,18,19,22,24]),(23,[11,18,19,22,24,25,26]),(24,[2]),(1000019,[1,9,1,1,1,2,1,3,1,4,2,0,2,5,1,6,1,7,1,8,2,9,0])]:=.mk Go.Proofs.Tryz.func5
noncomputable def ef6:CM dI prog 6 1 [(0,[0]),(1,[2])]:=.mk Go.Proofs.Tryz.func6
noncomputable def ef7:CM dI prog 7 1 [(0,[0,2]),(1,[2,4]),(2,[2,4,5]),(3,[2,4,5,15]),(4,[2,4,5,6]),(5,[2,4,5,6,7]),(6,[2,4,5,6,7,21]),(7,[2,4,5,6,7]),(8,[2,4,5,6,7]),(9,[2,4,5]),(10,[2,4,5,8]),(11,[2,4,5,8,36]),(12,[2,5,8]),(13,[2,3])]:=.mk Go.Proofs.Tryz.func7
noncomputable def ef8:CM dI prog 8 2 [(0,[1,2,4]),(1,[1,2,4,10]),(2,[4,5]),(3,[1,2,4,16]),(4,[4,5]),(5,[1,2,4,23]),(6,[4,5]),(7,[1,4,6]),(8,[1,4,6,7,8,9]),(9,[1,4,6,7,8,41]),(10,[1,4,6,8]),(11,[1,4,6,8]),(12,[1,4,6,8,46]),(13,[1,4,6,8]),(14,[4,6,8]),(15,[4,5]),(1000008,[3,10,11,12,1,0,1,2,3,2,1,3,2,3,3,2,4,1,5,1,6,1,7,1,8,2,9,2,10,2,11,2,12,0,2,9,2,4,1,5,1,6,1,7,1,8,2,10,2,11,2,12,0,2,9,2,3,2,4,1,5,1,6,1,7,1,8,2,10,2,11,2,12,0,3,2,3,3,2,1,3,2,4,1,5,1,6,1,7,1,8,2,9,2,10,2,11,2,12,0,2,9,2,4,1,5,1,6,1,7,1,8,2,10,2,11,2,12,0,2,9,2,1,2,4,1,5,1,6,1,7,1,8,2,10,2,11,2,12,0,2,9,3,2,1,2,3,2,4,1,5,1,6,1,7,1,8,2,10,2,11,2,12,0,2,3,2,1,2,4,1,5,1,6,1,7,1,8,2,10,2,11,2,12,0])]:=.mk Go.Proofs.Tryz.func8
noncomputable def ef9:CM dI prog 9 2 [(0,[1,2,4]),(1,[1,2,4,6]),(2,[1,2,4,6,11]),(3,[4,5]),(4,[1,2,4,6,16]),(5,[4,5]),(6,[1,2,4,6,22]),(7,[4,5]),(8,[1,2,4,6,7,8]),(9,[1,2,4,6,8]),(10,[1,2,4,6,8,38]),(11,[1,2,4,6,8]),(12,[4,6,8]),(13,[4,5])]:=.mk Go.Proofs.Tryz.func9
noncomputable def aXI:CM dI prog 10 2 [(0,[2,3]),(1,[4])]:=.mk Go.Proofs.Tryz.func10
noncomputable def aW1:CM dI prog 11 1 [(0,[1]),(1,[2])]:=.mk Go.Proofs.Tryz.func11
noncomputable def aYH:CM dI prog 12 1 [(0,[1]),(1,[2])]:=.mk Go.Proofs.Tryz.func12
noncomputable def aRf:CM dI prog 13 1 [(0,[1]),(1,[4,5]),(2,[4,12]),(3,[2,3]),(4,[2,3])]:=.mk Go.Proofs.Tryz.func13
noncomputable def aXs:CM dI prog 14 1 [(0,[0,2]),(1,[2,4]),(2,[2,4,5]),(3,[2,4,5,6]),(4,[2,4,5,6,7]),(5,[2,4,5,6,7,20]),(6,[2,4,5,6,7]),(7,[2,4,5,6,7]),(8,[2,4,5,6,30]),(9,[2,4,5,6]),(10,[2,5,6,8]),(11,[2,5,6,8,35]),(12,[2,5,6,8]),(13,[2,5,6,8]),(14,[2,3])]:=.mk Go.Proofs.Tryz.func14
noncomputable def aHX:CM dI prog 15 2 [(0,[1,2]),(1,[1,2,19]),(2,[4,5]),(3,[2,6]),(4,[2,6,24]),(5,[4,5]),(6,[2,6,7]),(7,[2,7,25,26,27]),(8,[2,7,25,26,27,28]),(9,[2,7,9,25,26,27]),(10,[2,7,10,11,25,26,27]),(11,[2,7,11,25,26,27]),(12,[2,7,25,26,27]),(13,[2,7,25,26,27]),(14,[4,5])]:=.mk Go.Proofs.Tryz.func15
noncomputable def aH8:CM dI prog 16 2 [(0,[1,2]),(1,[1,2,6]),(2,[1,2,6,7]),(3,[2,6,7,25]),(4,[4,5]),(5,[2,6,7]),(6,[2,6,7,9]),(7,[2,6,7,9,30]),(8,[2,6,7,9]),(9,[2,6,7,8,9]),(10,[2,6,7,9]),(11,[4,5]),(1000009,[2,9,10,1,1,1,2,1,3,1,4,2,0,2,5,1,6,1,7,1,8,2,9,2,10,0])]:=.mk Go.Proofs.Tryz.func16
noncomputable def aRm:CM dI prog 17 2 [(0,[0,1]),(1,[0,1,13]),(2,[4,5]),(3,[4,5])]:=.mk Go.Proofs.Tryz.func17
noncomputable def aRV:CM dI prog 18 1 [(0,[1]),(1,[1,11]),(2,[2,3]),(3,[1,4]),(4,[1,4,14,15,16]),(5,[1,4,14,15,16,17]),(6,[1,4,6,14,15,16]),(7,[1,4,14,15,16]),(8,[1,4,14,15,16]),(9,[1,4,33,34,35]),(10,[1,4,33,34,35,36]),(11,[1,4,8,33,34,35]),(12,[1,4,33,34,35]),(13,[1,4,33,34,35]),(14,[2,3])]:=.mk Go.Proofs.Tryz.func18
noncomputable def aRE:CM dI prog 19 1 [(0,[1]),(1,[1,10]),(2,[2,3]),(3,[1,4,5]),(4,[1,4,5,6]),(5,[1,4,5,6,17]),(6,[1,4,5,6]),(7,[1,4,5,6]),(8,[1,4,5,7]),(9,[1,4,5,7,42]),(10,[1,4,5,7]),(11,[1,4,5,7]),(12,[2,3]),(1000003,[1,4,1,0,3,2,1,2,2,1,3,2,4,0,2,2,1,3,2,1,2,4,0])]:=.mk Go.Proofs.Tryz.func19
end Go.Pe.Tryz
