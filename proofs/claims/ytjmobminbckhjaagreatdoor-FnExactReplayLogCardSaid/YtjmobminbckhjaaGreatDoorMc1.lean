/-
The compact code of the functions that the law reaches,printed by gen.py,each with the proof that the machine's code is compiled to it.
-/
import Derived.Test.YtjmobminbckhjaaGreatDoorPeD
import Derived.Lib.ItoaNum
import Derived.Lib.LaidTab
import Derived.Test.YtjmobminbckhjaaGreatDoorProg
import Derived.KernelRfl
set_option maxRecDepth 100000
namespace Go.Pe.Tryz
open Go.Pe
theorem aMG {P:Program} {n:String} {k:IntKind} {zs:List Int} {g:Nat} (hg:P.globalNamed n=some g) (w w':World) (_:w.heap.size<=w'.heap.size) (hk:∀ b,b < w.heap.size->w'.heap[b]?=w.heap[b]?) (h:Go.Lib.TabIs P w n k zs):Go.Lib.TabIs P w' n k zs:=by
 unfold Go.Lib.TabIs World.var? at h ⊢
 rw [hg] at h ⊢
 simp only [Option.bind_some] at h ⊢
 by_cases hb:g < w.heap.size
 ·rw [hk g hb]; exact h
 ·rw [Array.getElem?_eq_none (by omega)] at h
  simp at h
theorem aKN (g:Nat) (w w':World) (hk:∀ b,b < w.heap.size->w'.heap[b]?=w.heap[b]?) (h:∃ m,w.cell? ⟨g,0,none⟩=some (.int .i64 m)):∃ m,w'.cell? ⟨g,0,none⟩=some (.int .i64 m):=by
 obtain ⟨m,h⟩:=h
 by_cases hb:g < w.heap.size
 ·refine ⟨m,?_⟩
  unfold World.cell? at h ⊢
  rw [hk g hb]; exact h
 ·have hn:w.heap[g]?=none:=Array.getElem?_eq_none (by omega)
  simp [World.cell?,hn] at h
theorem aFE {P:Program} {n:String} {g:Nat} (hg:P.globalNamed n=some g) (w w':World) (hk:∀ b,b < w.heap.size->w'.heap[b]?=w.heap[b]?) (h:∃ t p,w.var? P n=some #[.iface t p]):∃ t p,w'.var? P n=some #[.iface t p]:=by
 obtain ⟨t,p,h⟩:=h
 refine ⟨t,p,?_⟩
 unfold World.var? at h ⊢
 rw [hg] at h ⊢
 simp only [Option.bind_some] at h ⊢
 by_cases hb:g < w.heap.size
 ·rw [hk g hb]; exact h
 ·rw [Array.getElem?_eq_none (by omega)] at h
  simp at h
noncomputable def prog : PG := ⟨Go.Proofs.Tryz.prog, fun w => (Go.Lib.TabIs Go.Proofs.Tryz.prog w "internal/strconv.uint64pow10" .u64 Go.Lib.pow10Tab) /\ (∃ m, w.cell? ⟨0, 0, none⟩ = some (.int .i64 m)) /\ (∃ t p, w.var? Go.Proofs.Tryz.prog "strconv.ErrSyntax" = some #[.iface t p]) /\ (∃ t p, w.var? Go.Proofs.Tryz.prog "strconv.ErrRange" = some #[.iface t p]), fun w w' hs hk h => ⟨aMG (show Go.Proofs.Tryz.prog.globalNamed "internal/strconv.uint64pow10" = some 5 by kernel_rfl) w w' hs hk h.1, aKN 0 w w' hk h.2.1, aFE (show Go.Proofs.Tryz.prog.globalNamed "strconv.ErrSyntax" = some 1 by kernel_rfl) w w' hk h.2.2.1, aFE (show Go.Proofs.Tryz.prog.globalNamed "strconv.ErrRange" = some 2 by kernel_rfl) w w' hk h.2.2.2⟩⟩
theorem aUQ {w : World} (h : prog.F w) : Go.Lib.TabIs Go.Proofs.Tryz.prog w "internal/strconv.uint64pow10" .u64 Go.Lib.pow10Tab := h.1
theorem aRd {w:World} (h:prog.F w):∃ m,w.cell? ⟨0,0,none⟩=some (.int .i64 m):=h.2.1
theorem aVw {w : World} (h : prog.F w) : ∃ t p, w.var? Go.Proofs.Tryz.prog "strconv.ErrSyntax" = some #[.iface t p] := h.2.2.1
theorem aUB {w : World} (h : prog.F w) : ∃ t p, w.var? Go.Proofs.Tryz.prog "strconv.ErrRange" = some #[.iface t p] := h.2.2.2
theorem aAF:eE prog.P 27=some 3:=by kernel_rfl
theorem dF:eE prog.P 39=some 5:=by kernel_rfl
theorem eR:eE prog.P 41=some 8:=by kernel_rfl
theorem wU:eE prog.P 59=some 2:=by kernel_rfl
theorem aAO:eE prog.P 91=some 4:=by kernel_rfl
def aR5:List (Nat×List Nat):=[(4,[3,4,10]),(5,[3,4]),(6,[3,4]),(1000005,[1,10,1,0,1,1,1,2,1,3,1,4,1,5,1,6,2,7,2,8,2,9,2,10,0]),(1000006,[1,6,1,0,1,1,1,2,1,3,2,4,2,5,2,6,0])]
def aL5:MC :=
 (.block 1
 (.seq
 (.reg false [3,4,10] [⟨(some 8),none,false,.mov (.t 4)⟩,
 ⟨(some 9),none,false,.len false (.t 8)⟩,
 ⟨(some 10),none,false,.bin .eql (.t 9) (.k (.d (.int .i64 2)))⟩])
 (.cond (.t 10)
 (.any [10] [3,4] (.q 0 ⟨(some 11),none,false,.ld none (.t 3)⟩ (.q 1 ⟨(some 12),none,false,.mov (.t 4)⟩ (.q 2 ⟨(some 13),none,false,.ia 1 (.t 12) (.k (.d (.int .i64 0)))⟩ (.q 3 ⟨(some 14),none,false,.ld none (.t 13)⟩ (.q 4 ⟨(some 15),none,false,.mov (.t 4)⟩ (.q 5 ⟨(some 16),none,false,.ia 1 (.t 15) (.k (.d (.int .i64 1)))⟩ (.q 6 ⟨(some 17),none,false,.ld none (.t 16)⟩ (.e 7 ⟨(some 18),none,true,.call 221 [(.t 14),(.t 17)]⟩ (.e 8 ⟨(some 19),none,true,.bs 1 1 (.int .i64 0) [(0,(.t 18))]⟩ (.e 9 ⟨(some 20),none,true,.app 1 8 (.t 11) (.t 19)⟩ (.e 10 ⟨none,none,true,.st 1 (.t 3) (.t 20)⟩ .done))))))))))))
 (.any [6] [3,4] (.q 0 ⟨(some 21),none,false,.ld none (.t 3)⟩ (.q 1 ⟨(some 22),none,false,.mov (.t 4)⟩ (.q 2 ⟨(some 23),none,false,.ia 1 (.t 22) (.k (.d (.int .i64 0)))⟩ (.q 3 ⟨(some 24),none,false,.ld none (.t 23)⟩ (.e 4 ⟨(some 25),none,true,.bs 1 1 (.int .i64 0) [(0,(.t 24))]⟩ (.e 5 ⟨(some 26),none,true,.app 1 8 (.t 21) (.t 25)⟩ (.e 6 ⟨none,none,true,.st 1 (.t 3) (.t 26)⟩ .done)))))))))))
theorem aQY:(Go.Proofs.Tryz.f195).body.bind (fun c=>(lG c).bind (comp prog.P (8,(Go.Proofs.Tryz.f195).ntmps) aR5))=some aL5:=by kernel_rfl
theorem aRP:(Go.Proofs.Tryz.f195).body.bind (fun c=>(lG c).map kT)=some true:=by kernel_rfl
def m3:MC :=
 (.seq
 (rF [0,3] [oX 3 (.box (.t 1)),
 qB 4 false])
 (.seq
 (rF [0,3,5] [qI 5 1048576])
 (.seq
 (rF [0,3,5] [oQ 10 (.ld (some 3) (.t 3)),
 qM 11 5,
 qC 12 6 [10,11],
 qM 5 12])
 (.seq
 (.seq
 (rF [0,3,14] [qM 13 5,
 qJ 14 .lss 13 0])
 (cS 14
 (.seq
 (rF [4] [qB 4 true])
 .ret)))
 (.seq
 (rF [0,3,6,7] [qM 16 0,
 oQ 17 (.ld (some 3) (.t 3)),
 qC 18 8 [17],
 qC 19 7 [16,18],
 qM 15 19,
 qE 20 15 0,
 qE 21 15 1,
 qM 6 20,
 qM 7 21])
 (.seq
 (rF [6,7,8,9] [qM 23 0,
 oQ 24 (.ld (some 3) (.t 3)),
 qC 25 8 [24],
 qC 26 9 [23,25],
 qM 22 26,
 qE 27 22 0,
 qE 28 22 1,
 qM 8 27,
 qM 9 28])
 (.seq
 (.seq
 (rF [36] [qM 29 8,
 qM 30 6,
 qT 31 .neq 29 30,
 qM 32 31,
 gM 33 32 false 9,
 gM 34 32 false 7,
 oG 35 32 false (.bb .neq (.t 33) (.t 34)),
 qO 36 32 35])
 (cS 36
 (.seq
 (rF [4] [qB 4 false])
 .ret)))
 (.seq
 (rF [4] [qB 4 true])
 .ret))))))))
noncomputable def ef3:CM prog 3 2 [(0,[0,3]),(1,[0,3,5]),(2,[0,3,5]),(3,[0,3,14]),(4,[4]),(5,[0,3,6,7]),(6,[6,7,8,9]),(7,[36]),(8,[4]),(9,[4])]:=.mk (m:=m3) Go.Proofs.Tryz.func3 (by kernel_rfl)
def m6:MC :=
 (.seq
 (rF [1,2] [oX 2 (.box (.t 0)),
 qI 4 0])
 (.seq
 (rF [1,2] [qM 5 1,
 qF 6 0 0 2,
 qL 7 6,
 qN 8 true 7,
 qT 9 .sub 5 8,
 qM 1 9])
 (.seq
 (.seq
 (rF [1,2,11] [qM 10 1,
 qJ 11 .lss 10 0])
 (cS 11
 (.seq
 (rF [4] [oQ 4 (.mov (.k (.d (.int .i64 (-1)))))])
 .ret)))
 (.seq
 (rF [1] [qM 12 1,
 qF 13 1 1 2,
 qL 14 13,
 qN 15 true 14,
 qT 16 .sub 12 15,
 qM 1 16])
 (.seq
 (.seq
 (rF [1,18] [qM 17 1,
 qJ 18 .lss 17 0])
 (cS 18
 (.seq
 (rF [4] [oQ 4 (.mov (.k (.d (.int .i64 (-1)))))])
 .ret)))
 (.seq
 (rF [4] [qM 19 1,
 qM 4 19])
 .ret))))))
noncomputable def ef6:CM prog 6 1 [(0,[1,2]),(1,[1,2]),(2,[1,2,11]),(3,[4]),(4,[1]),(5,[1,18]),(6,[4]),(7,[4])]:=.mk (m:=m6) Go.Proofs.Tryz.func6 (by kernel_rfl)
def m7:MC :=
 (.seq
 (rF [0,3] [oX 3 (.box (.t 1)),
 qI 4 0,
 qB 5 false])
 (.seq
 (rF [3,6,7] [qM 13 0,
 qC 14 22 [13],
 qM 12 14,
 qE 15 12 0,
 qE 16 12 1,
 oX 6 (.alloc (.st (.cons (.st (.cons (.int .i64 0) (.cons (.sl true 4 .nil) (.cons (.int .i64 0) (.cons (.int .i64 0) (.cons (.sl true 1 .nil) .nil)))))) (.cons (.st (.cons (.str []) (.cons (.str []) (.cons (.int .i64 0) .nil)))) .nil)))),
 qS 8 6 15,
 qM 7 16])
 (.seq
 (.seq
 (rF [3,6,23] [qM 17 7,
 qU 18 17,
 qM 19 18,
 oG 20 19 false (.ld (some 3) (.t 3)),
 oH 21 19 false (.call 23 [(.t 20)]),
 oG 22 19 false (.un .not (.t 21)),
 qO 23 19 22])
 (cS 23
 (.seq
 (rF [4,5] [qI 4 0,
 qB 5 false])
 .ret)))
 (.seq
 (rF [6,8] [oQ 25 (.ld (some 3) (.t 3)),
 qC 26 24 [25],
 qM 24 26,
 qE 27 24 0,
 qE 28 24 1,
 qM 8 27,
 qM 9 28])
 (.seq
 (rF [6,8] [oQ 10 (.mov (.k (.d (.str []))))])
 (.seq
 (.seq
 (rF [6,8,11] [qI 11 0])
 (.block 0
 (.loop
 (.seq
 (.seq
 (rF [6,8,11,32] [qM 29 11,
 qM 30 8,
 qN 31 false 30,
 qT 32 .lss 29 31])
 (cE 32 0))
 (.seq
 (.block 1
 (.seq
 (.any [10,11] [6,8,10,11] (.q 1 (qM 37 8) (.q 2 (qM 38 11) (.q 3 (qX 39 2 37 38) (.q 4 (qF 40 0 0 39) (.q 5 (qL 41 40) (.e 0 (qV 36 8 6) (.e 6 (qC 42 11 [36,41]) (.q 7 (qM 35 42) (.q 8 (qE 43 35 0) (.q 9 (qE 44 35 1) (.e 10 (qS 8 6 43) (.e 11 (qM 10 44) .done)))))))))))))
 (.seq
 (rF [6,8,11,51] [qM 45 10,
 qM 46 8,
 qM 47 11,
 qX 48 2 46 47,
 qF 49 1 1 48,
 qL 50 49,
 qT 51 .neq 45 50])
 (cS 51
 (.seq
 (rF [4,5] [qM 52 11,
 qM 4 52,
 qB 5 true])
 .ret)))))
 (rF [6,8,11] [qM 33 11,
 qJ 34 .add 33 1,
 qM 11 34]))))))
 (.seq
 (rF [4,5] [qM 53 8,
 qN 54 false 53,
 qM 4 54,
 qB 5 true])
 .ret)))))))
noncomputable def ef7:CM prog 7 2 [(0,[0,3]),(1,[3,6,7]),(2,[3,6,23]),(3,[4,5]),(4,[6,8]),(5,[6,8]),(6,[6,8,11]),(7,[6,8,11,32]),(8,[6,8,11]),(9,[6,8,10,11]),(10,[6,8,11,51]),(11,[4,5]),(12,[4,5]),(1000009,[2,10,11,1,1,1,2,1,3,1,4,1,5,2,0,2,6,1,7,1,8,1,9,2,10,2,11,0])]:=.mk (m:=m7) Go.Proofs.Tryz.func7 (by kernel_rfl)
def m8:MC :=
 (.seq
 (rF [1,2] [oX 1 (.box (.t 0)),
 oX 2 (.alloc (.st (.cons (.str []) (.cons (.str []) (.cons (.int .i64 0) .nil)))))])
 (.seq
 (rF [1,2,3] [oX 3 (.alloc (.st (.cons (.str []) (.cons (.str []) (.cons (.int .i64 0) .nil)))))])
 (.seq
 (rF [1,2,3] [qF 4 0 0 1,
 qL 5 4,
 qF 6 0 0 3,
 qS 1 6 5])
 (.seq
 (rF [1,2,3] [qF 7 1 1 1,
 qL 8 7,
 qF 9 1 1 3,
 qS 1 9 8])
 (.seq
 (rF [2,3] [qF 10 2 2 1,
 qL 11 10,
 qF 12 2 2 3,
 qS 1 12 11])
 (.seq
 (rF [2] [oQ 13 (.ld (some 3) (.t 3)),
 qS 3 2 13])
 .ret))))))
noncomputable def ef8:CM prog 8 1 [(0,[1,2]),(1,[1,2,3]),(2,[1,2,3]),(3,[1,2,3]),(4,[2,3]),(5,[2])]:=.mk (m:=m8) Go.Proofs.Tryz.func8 (by kernel_rfl)
def m9:MC :=
 (.seq
 (rF [0,3] [oX 3 (.box (.t 1)),
 qI 4 0,
 qB 5 false])
 (.seq
 (rF [3,6,7] [qM 15 0,
 qC 16 25 [15],
 qM 14 16,
 qE 17 14 0,
 qE 18 14 1,
 oX 6 (.alloc (.st (.cons (.st (.cons (.int .i64 0) (.cons (.sl true 4 .nil) (.cons (.int .i64 0) (.cons (.int .i64 0) (.cons (.sl true 1 .nil) .nil)))))) (.cons (.st (.cons (.str []) (.cons (.str []) (.cons (.int .i64 0) .nil)))) .nil)))),
 qS 8 6 17,
 qM 7 18])
 (.seq
 (rF [6,7,8,9] [oQ 20 (.ld (some 3) (.t 3)),
 qC 21 26 [20],
 qM 19 21,
 qE 22 19 0,
 qE 23 19 1,
 qM 8 22,
 qM 9 23])
 (.seq
 (.seq
 (rF [6,8,29] [qM 24 7,
 qU 25 24,
 qM 26 25,
 gM 27 26 false 9,
 oG 28 26 false (.un .not (.t 27)),
 qO 29 26 28])
 (cS 29
 (.seq
 (rF [4,5] [qI 4 0,
 qB 5 false])
 .ret)))
 (.seq
 (.seq
 (rF [6,8,30,31,32] [qM 30 8,
 qN 31 false 30,
 qI 32 0])
 (.block 0
 (.loop
 (.seq
 (rF [6,8,30,31,32,33] [qT 33 .lss 32 31])
 (.seq
 (cE 33 0)
 (.seq
 (.block 1
 (.seq
 (rF [6,8,10,11,30,31,32] [qM 34 32,
 qX 35 2 30 32,
 oQ 36 (.ld (some 2) (.t 35)),
 oX 11 (.alloc (.st (.cons (.str []) (.cons (.str []) .nil)))),
 qM 10 34,
 qS 2 11 36])
 (.seq
 (rF [6,8,10,11,12,13,30,31,32] [qV 38 8 6,
 qF 39 0 0 11,
 qL 40 39,
 qC 41 13 [38,40],
 qM 37 41,
 qE 42 37 0,
 qE 43 37 1,
 oX 12 (.alloc (.st (.cons (.st (.cons (.int .i64 0) (.cons (.sl true 4 .nil) (.cons (.int .i64 0) (.cons (.int .i64 0) (.cons (.sl true 1 .nil) .nil)))))) (.cons (.st (.cons (.str []) (.cons (.str []) (.cons (.int .i64 0) .nil)))) .nil)))),
 qS 8 12 42,
 qM 13 43])
 (.seq
 (.seq
 (rF [6,8,10,12,30,31,32,47] [qM 44 13,
 qF 45 1 1 11,
 qL 46 45,
 qT 47 .neq 44 46])
 (cS 47
 (.seq
 (rF [4,5] [qM 48 10,
 qM 4 48,
 qB 5 true])
 .ret)))
 (rF [6,8,30,31,32] [qV 49 8 12,
 qS 8 6 49])))))
 (rF [6,8,30,31,32] [qJ 50 .add 32 1,
 qM 32 50])))))))
 (.seq
 (rF [4,5] [qM 51 8,
 qN 52 false 51,
 qM 4 52,
 qB 5 true])
 .ret))))))
noncomputable def ef9:CM prog 9 2 [(0,[0,3]),(1,[3,6,7]),(2,[6,7,8,9]),(3,[6,8,29]),(4,[4,5]),(5,[6,8,30,31,32]),(6,[6,8,30,31,32,33]),(7,[6,8,10,11,30,31,32]),(8,[6,8,10,11,12,13,30,31,32]),(9,[6,8,10,12,30,31,32,47]),(10,[4,5]),(11,[6,8,30,31,32]),(12,[6,8,30,31,32]),(13,[4,5])]:=.mk (m:=m9) Go.Proofs.Tryz.func9 (by kernel_rfl)
def m11:MC :=
 (.seq
 (rF [1,2,4] [oX 2 (.box (.t 0)),
 oX 4 (.alloc (.st (.cons (.st (.cons (.int .i64 0) (.cons (.sl true 4 .nil) (.cons (.int .i64 0) (.cons (.int .i64 0) (.cons (.sl true 1 .nil) .nil)))))) (.cons (.st (.cons (.str []) (.cons (.str []) (.cons (.int .i64 0) .nil)))) .nil)))),
 oQ 5 (.mov (.k (.d (.str []))))])
 (.seq
 (rF [1,2,4,6] [qV 9 8 2,
 qC 10 28 [9],
 oX 6 (.alloc (.st (.cons (.st (.cons (.int .i64 0) (.cons (.sl true 4 .nil) (.cons (.int .i64 0) (.cons (.int .i64 0) (.cons (.sl true 1 .nil) .nil)))))) (.cons (.st (.cons (.str []) (.cons (.str []) (.cons (.int .i64 0) .nil)))) .nil)))),
 qS 8 6 10])
 (.seq
 (.block 0
 (.seq
 (rF [1,2,4,6,11] [qV 12 8 2,
 qC 13 29 [12],
 qU 14 13,
 qM 11 14])
 (.cond (.t 11)
 (.seq
 (rF [4,5] [qV 15 8 6,
 qS 8 4 15,
 oQ 5 (.mov (.k (.d (.str [110,111]))))])
 .ret)
 (.seq
 (rF [1,2,4,6,16] [qM 17 1,
 oX 18 (.bld (.cons (.str []) (.cons (.str []) .nil)) [(0,(.t 17))]),
 qC 19 30 [18],
 qU 20 19,
 qM 16 20])
 (.cond (.t 16)
 (.seq
 (rF [4,5] [qV 21 8 6,
 qS 8 4 21,
 oQ 5 (.mov (.k (.d (.str [98,97,100]))))])
 .ret)
 (.seq
 (rF [1,2,4,6,22] [qF 23 1 5 2,
 qF 24 2 2 23,
 qL 25 24,
 qJ 26 .eql 25 60,
 qM 22 26])
 (cS 22
 (.seq
 (rF [4,5] [qV 27 8 6,
 qS 8 4 27,
 oQ 5 (.mov (.k (.d (.str [102,117,108,108]))))])
 .ret))))))))
 (.seq
 (rF [1,2,4,6,7,8] [qV 29 8 6,
 qM 30 1,
 qC 31 31 [29,30],
 qM 28 31,
 qE 32 28 0,
 qE 33 28 1,
 oX 7 (.alloc (.st (.cons (.st (.cons (.int .i64 0) (.cons (.sl true 4 .nil) (.cons (.int .i64 0) (.cons (.int .i64 0) (.cons (.sl true 1 .nil) .nil)))))) (.cons (.st (.cons (.str []) (.cons (.str []) (.cons (.int .i64 0) .nil)))) .nil)))),
 qS 8 7 32,
 qM 8 33])
 (.seq
 (rF [1,2,4,6,8] [qV 34 8 7,
 qC 35 28 [34],
 qS 8 6 35])
 (.seq
 (.seq
 (rF [1,2,4,6,8,38] [qM 36 8,
 qN 37 true 36,
 qJ 38 .gtr 37 200])
 (cS 38
 (rF [1,2,4,6,8] [oQ 8 (.mov (.k (.d (.str [108,111,110,103]))))])))
 (.seq
 (rF [4,6,8] [qF 40 1 5 2,
 oQ 41 (.ld (some 3) (.t 40)),
 qM 42 1,
 qM 43 8,
 oX 44 (.bld (.cons (.str []) (.cons (.str []) .nil)) [(0,(.t 42)),(1,(.t 43))]),
 qC 45 32 [41,44],
 qM 39 45,
 qE 46 39 0,
 qE 47 39 1,
 qF 48 1 5 6,
 qS 3 48 46])
 (.seq
 (rF [4,5] [qV 49 8 6,
 qM 50 8,
 qS 8 4 49,
 qM 5 50])
 .ret))))))))
noncomputable def aDb:CM prog 11 2 [(0,[1,2,4]),(1,[1,2,4,6]),(2,[1,2,4,6,11]),(3,[4,5]),(4,[1,2,4,6,16]),(5,[4,5]),(6,[1,2,4,6,22]),(7,[4,5]),(8,[1,2,4,6,7,8]),(9,[1,2,4,6,8]),(10,[1,2,4,6,8,38]),(11,[1,2,4,6,8]),(12,[4,6,8]),(13,[4,5])]:=.mk (m:=m11) Go.Proofs.Tryz.func11 (by kernel_rfl)
def m13:MC :=
 (.seq
 (rF [1,2,4] [oX 2 (.box (.t 0)),
 oX 4 (.alloc (.st (.cons (.st (.cons (.int .i64 0) (.cons (.sl true 4 .nil) (.cons (.int .i64 0) (.cons (.int .i64 0) (.cons (.sl true 1 .nil) .nil)))))) (.cons (.st (.cons (.str []) (.cons (.str []) (.cons (.int .i64 0) .nil)))) .nil)))),
 oQ 5 (.mov (.k (.d (.str []))))])
 (.seq
 (.block 0
 (.seq
 (rF [1,2,4,10] [qV 11 8 2,
 qC 12 34 [11],
 qU 13 12,
 qM 10 13])
 (.cond (.t 10)
 (.seq
 (rF [4,5] [qV 14 8 2,
 qC 15 35 [14],
 qS 8 4 15,
 oQ 5 (.mov (.k (.d (.str [110,111]))))])
 .ret)
 (.seq
 (rF [1,2,4,16] [qM 17 1,
 oX 18 (.bld (.cons (.str []) (.cons (.str []) .nil)) [(0,(.t 17))]),
 qC 19 36 [18],
 qU 20 19,
 qM 16 20])
 (.cond (.t 16)
 (.seq
 (rF [4,5] [qV 21 8 2,
 qC 22 35 [21],
 qS 8 4 22,
 oQ 5 (.mov (.k (.d (.str [98,97,100]))))])
 .ret)
 (.seq
 (rF [1,2,4,23] [qF 24 1 5 2,
 qF 25 2 2 24,
 qL 26 25,
 qJ 27 .eql 26 60,
 qM 23 27])
 (cS 23
 (.seq
 (rF [4,5] [qV 28 8 2,
 qC 29 35 [28],
 qS 8 4 29,
 oQ 5 (.mov (.k (.d (.str [102,117,108,108]))))])
 .ret))))))))
 (.seq
 (rF [1,4,6] [qV 30 8 2,
 qC 31 35 [30],
 oX 6 (.alloc (.st (.cons (.st (.cons (.int .i64 0) (.cons (.sl true 4 .nil) (.cons (.int .i64 0) (.cons (.int .i64 0) (.cons (.sl true 1 .nil) .nil)))))) (.cons (.st (.cons (.str []) (.cons (.str []) (.cons (.int .i64 0) .nil)))) .nil)))),
 qS 8 6 31])
 (.seq
 (.any [10,11,12] [1,4,6,7,8,9] (.q 0 (qF 33 0 0 6) (.q 2 (qM 35 1) (.br (.e 1 (qV 34 5 33) (.br (.e 3 (oX 36 (.call 38 [(.t 35),(.k (.d (.str [32])))])) (.br (.e 4 (qC 37 37 [34,36]) (.q 5 (qM 32 37) (.q 6 (qE 38 32 0) (.q 7 (qE 39 32 1) (.q 8 (qE 40 32 2) (.e 9 (oX 7 (.alloc (.st (.cons (.int .i64 0) (.cons (.sl true 4 .nil) (.cons (.int .i64 0) (.cons (.int .i64 0) (.cons (.sl true 1 .nil) .nil)))))))) (.e 10 (qS 5 7 38) (.e 11 (qM 8 39) (.e 12 (qM 9 40) .done)))))))))
 (.e 9 (oX 7 (.alloc (.st (.cons (.int .i64 0) (.cons (.sl true 4 .nil) (.cons (.int .i64 0) (.cons (.int .i64 0) (.cons (.sl true 1 .nil) .nil)))))))) (.e 4 (qC 37 37 [34,36]) (.q 5 (qM 32 37) (.q 6 (qE 38 32 0) (.q 7 (qE 39 32 1) (.q 8 (qE 40 32 2) (.e 10 (qS 5 7 38) (.e 11 (qM 8 39) (.e 12 (qM 9 40) .done)))))))))))
 (.e 9 (oX 7 (.alloc (.st (.cons (.int .i64 0) (.cons (.sl true 4 .nil) (.cons (.int .i64 0) (.cons (.int .i64 0) (.cons (.sl true 1 .nil) .nil)))))))) (.e 3 (oX 36 (.call 38 [(.t 35),(.k (.d (.str [32])))])) (.e 4 (qC 37 37 [34,36]) (.q 5 (qM 32 37) (.q 6 (qE 38 32 0) (.q 7 (qE 39 32 1) (.q 8 (qE 40 32 2) (.e 10 (qS 5 7 38) (.e 11 (qM 8 39) (.e 12 (qM 9 40) .done))))))))))))
 (.br (.e 3 (oX 36 (.call 38 [(.t 35),(.k (.d (.str [32])))])) (.br (.e 1 (qV 34 5 33) (.br (.e 4 (qC 37 37 [34,36]) (.q 5 (qM 32 37) (.q 6 (qE 38 32 0) (.q 7 (qE 39 32 1) (.q 8 (qE 40 32 2) (.e 9 (oX 7 (.alloc (.st (.cons (.int .i64 0) (.cons (.sl true 4 .nil) (.cons (.int .i64 0) (.cons (.int .i64 0) (.cons (.sl true 1 .nil) .nil)))))))) (.e 10 (qS 5 7 38) (.e 11 (qM 8 39) (.e 12 (qM 9 40) .done)))))))))
 (.e 9 (oX 7 (.alloc (.st (.cons (.int .i64 0) (.cons (.sl true 4 .nil) (.cons (.int .i64 0) (.cons (.int .i64 0) (.cons (.sl true 1 .nil) .nil)))))))) (.e 4 (qC 37 37 [34,36]) (.q 5 (qM 32 37) (.q 6 (qE 38 32 0) (.q 7 (qE 39 32 1) (.q 8 (qE 40 32 2) (.e 10 (qS 5 7 38) (.e 11 (qM 8 39) (.e 12 (qM 9 40) .done)))))))))))
 (.e 9 (oX 7 (.alloc (.st (.cons (.int .i64 0) (.cons (.sl true 4 .nil) (.cons (.int .i64 0) (.cons (.int .i64 0) (.cons (.sl true 1 .nil) .nil)))))))) (.e 1 (qV 34 5 33) (.e 4 (qC 37 37 [34,36]) (.q 5 (qM 32 37) (.q 6 (qE 38 32 0) (.q 7 (qE 39 32 1) (.q 8 (qE 40 32 2) (.e 10 (qS 5 7 38) (.e 11 (qM 8 39) (.e 12 (qM 9 40) .done))))))))))))
 (.e 9 (oX 7 (.alloc (.st (.cons (.int .i64 0) (.cons (.sl true 4 .nil) (.cons (.int .i64 0) (.cons (.int .i64 0) (.cons (.sl true 1 .nil) .nil)))))))) (.br (.e 1 (qV 34 5 33) (.e 3 (oX 36 (.call 38 [(.t 35),(.k (.d (.str [32])))])) (.e 4 (qC 37 37 [34,36]) (.q 5 (qM 32 37) (.q 6 (qE 38 32 0) (.q 7 (qE 39 32 1) (.q 8 (qE 40 32 2) (.e 10 (qS 5 7 38) (.e 11 (qM 8 39) (.e 12 (qM 9 40) .done))))))))))
 (.e 3 (oX 36 (.call 38 [(.t 35),(.k (.d (.str [32])))])) (.e 1 (qV 34 5 33) (.e 4 (qC 37 37 [34,36]) (.q 5 (qM 32 37) (.q 6 (qE 38 32 0) (.q 7 (qE 39 32 1) (.q 8 (qE 40 32 2) (.e 10 (qS 5 7 38) (.e 11 (qM 8 39) (.e 12 (qM 9 40) .done)))))))))))))))))
 (.seq
 (.seq
 (rF [1,4,6,7,8,41] [qM 41 9])
 (.cond (.t 41)
 (rF [1,4,6,8] [qV 42 5 7,
 qF 43 0 0 6,
 qS 5 43 42])
 (rF [1,4,6,8] [oQ 8 (.mov (.k (.d (.str [63]))))])))
 (.seq
 (.seq
 (rF [1,4,6,8,46] [qM 44 8,
 qN 45 true 44,
 qJ 46 .gtr 45 200])
 (cS 46
 (rF [1,4,6,8] [oQ 8 (.mov (.k (.d (.str [108,111,110,103]))))])))
 (.seq
 (rF [4,6,8] [qF 48 1 5 6,
 oQ 49 (.ld (some 3) (.t 48)),
 qM 50 1,
 qM 51 8,
 oX 52 (.bld (.cons (.str []) (.cons (.str []) .nil)) [(0,(.t 50)),(1,(.t 51))]),
 qC 53 39 [49,52],
 qM 47 53,
 qE 54 47 0,
 qE 55 47 1,
 qF 56 1 5 6,
 qS 3 56 54])
 (.seq
 (rF [4,5] [qV 57 8 6,
 qM 58 8,
 qS 8 4 57,
 qM 5 58])
 .ret))))))))
noncomputable def aFq:CM prog 13 2 [(0,[1,2,4]),(1,[1,2,4,10]),(2,[4,5]),(3,[1,2,4,16]),(4,[4,5]),(5,[1,2,4,23]),(6,[4,5]),(7,[1,4,6]),(8,[1,4,6,7,8,9]),(9,[1,4,6,7,8,41]),(10,[1,4,6,8]),(11,[1,4,6,8]),(12,[1,4,6,8,46]),(13,[1,4,6,8]),(14,[4,6,8]),(15,[4,5]),(1000008,[3,10,11,12,1,0,1,2,3,2,1,3,2,3,3,2,4,1,5,1,6,1,7,1,8,2,9,2,10,2,11,2,12,0,2,9,2,4,1,5,1,6,1,7,1,8,2,10,2,11,2,12,0,2,9,2,3,2,4,1,5,1,6,1,7,1,8,2,10,2,11,2,12,0,3,2,3,3,2,1,3,2,4,1,5,1,6,1,7,1,8,2,9,2,10,2,11,2,12,0,2,9,2,4,1,5,1,6,1,7,1,8,2,10,2,11,2,12,0,2,9,2,1,2,4,1,5,1,6,1,7,1,8,2,10,2,11,2,12,0,2,9,3,2,1,2,3,2,4,1,5,1,6,1,7,1,8,2,10,2,11,2,12,0,2,3,2,1,2,4,1,5,1,6,1,7,1,8,2,10,2,11,2,12,0])]:=.mk (m:=m13) Go.Proofs.Tryz.func13 (by kernel_rfl)
def m22:MC :=
 (.seq
 (rF [0,2] [oX 2 (.alloc (.st (.cons (.st (.cons (.int .i64 0) (.cons (.sl true 4 .nil) (.cons (.int .i64 0) (.cons (.int .i64 0) (.cons (.sl true 1 .nil) .nil)))))) (.cons (.st (.cons (.str []) (.cons (.str []) (.cons (.int .i64 0) .nil)))) .nil)))),
 qB 3 false])
 (.seq
 (rF [2,4,5] [qM 7 0,
 qC 8 46 [7],
 qM 6 8,
 qE 9 6 0,
 qE 10 6 1,
 oX 4 (.alloc (.st (.cons (.int .i64 0) (.cons (.sl true 4 .nil) (.cons (.int .i64 0) (.cons (.int .i64 0) (.cons (.sl true 1 .nil) .nil))))))),
 qS 5 4 9,
 qM 5 10])
 (.seq
 (.seq
 (rF [2,4,12] [qM 11 5,
 qU 12 11])
 (cS 12
 (.seq
 (rF [2,3] [oX 13 (.bld (.cons (.st (.cons (.int .i64 0) (.cons (.sl true 4 .nil) (.cons (.int .i64 0) (.cons (.int .i64 0) (.cons (.sl true 1 .nil) .nil)))))) (.cons (.st (.cons (.str []) (.cons (.str []) (.cons (.int .i64 0) .nil)))) .nil)) []),
 qS 8 2 13,
 qB 3 false])
 .ret)))
 (.seq
 (rF [2,3] [qV 14 5 4,
 oX 15 (.bld (.cons (.st (.cons (.int .i64 0) (.cons (.sl true 4 .nil) (.cons (.int .i64 0) (.cons (.int .i64 0) (.cons (.sl true 1 .nil) .nil)))))) (.cons (.st (.cons (.str []) (.cons (.str []) (.cons (.int .i64 0) .nil)))) .nil)) [(0,(.t 14))]),
 qS 8 2 15,
 qB 3 true])
 .ret))))
noncomputable def aVJ:CM prog 22 1 [(0,[0,2]),(1,[2,4,5]),(2,[2,4,12]),(3,[2,3]),(4,[2,3])]:=.mk (m:=m22) Go.Proofs.Tryz.func22 (by kernel_rfl)
def m23:MC :=
 (.seq
 (rF [1] [oX 1 (.box (.t 0)),
 qB 2 false])
 (.seq
 (.seq
 (rF [1,14] [qF 7 0 0 1,
 qL 8 7,
 qN 9 true 8,
 qF 10 1 1 1,
 qL 11 10,
 qN 12 true 11,
 qT 13 .add 9 12,
 qJ 14 .gtr 13 30000])
 (cS 14
 (.seq
 (rF [2] [qB 2 false])
 .ret)))
 (.seq
 (rF [1,3,4] [qF 16 0 0 1,
 qL 17 16,
 qF 18 1 1 1,
 qL 19 18,
 qT 20 .add 17 19,
 qC 21 47 [20],
 qM 15 21,
 qE 22 15 0,
 qE 23 15 1,
 qM 3 22,
 qM 4 23])
 (.seq
 (rF [1,3,4,6] [qF 25 0 0 1,
 qL 26 25,
 qC 27 47 [26],
 qM 24 27,
 qE 28 24 0,
 qE 29 24 1,
 qM 5 28,
 qM 6 29])
 (.seq
 (rF [2] [qM 30 4,
 qF 31 0 0 1,
 qL 32 31,
 qN 33 true 32,
 qF 34 1 1 1,
 qL 35 34,
 qN 36 true 35,
 qT 37 .add 33 36,
 qT 38 .eql 30 37,
 qM 39 38,
 gM 40 39 true 6,
 gF 41 39 true 0 0 1,
 gL 42 39 true 41,
 oG 43 39 true (.len true (.t 42)),
 oG 44 39 true (.bin .eql (.t 40) (.t 43)),
 qA 45 39 44,
 qM 46 45,
 gM 47 46 true 3,
 oG 48 46 true (.len false (.t 47)),
 gF 49 46 true 2 2 1,
 gL 50 46 true 49,
 oG 51 46 true (.bin .eql (.t 48) (.t 50)),
 qA 52 46 51,
 qM 2 52])
 .ret)))))
noncomputable def aVK:CM prog 23 1 [(0,[1]),(1,[1,14]),(2,[2]),(3,[1,3,4]),(4,[1,3,4,6]),(5,[2])]:=.mk (m:=m23) Go.Proofs.Tryz.func23 (by kernel_rfl)
def m24:MC :=
 (.seq
 (rF [1] [oX 1 (.box (.t 0)),
 oQ 2 (.mov (.k .nil)),
 qB 3 false])
 (.seq
 (.seq
 (rF [1,8] [oQ 6 (.ld (some 3) (.t 1)),
 qC 7 23 [6],
 qU 8 7])
 (cS 8
 (.seq
 (rF [2,3] [oX 9 (.bs 2 0 (.st (.cons (.str []) (.cons (.str []) .nil))) []),
 qM 2 9,
 qB 3 false])
 .ret)))
 (.seq
 (rF [4] [qF 11 0 0 1,
 qL 12 11,
 qF 13 1 1 1,
 qL 14 13,
 qT 15 .add 12 14,
 qC 16 47 [15],
 qM 10 16,
 qE 17 10 0,
 qE 18 10 1,
 qM 4 17,
 qM 5 18])
 (.seq
 (rF [2,3] [qM 19 4,
 qM 2 19,
 qB 3 true])
 .ret))))
noncomputable def aPX:CM prog 24 1 [(0,[1]),(1,[1,8]),(2,[2,3]),(3,[4]),(4,[2,3])]:=.mk (m:=m24) Go.Proofs.Tryz.func24 (by kernel_rfl)
def m25:MC :=
 (.seq
 (rF [0,2] [oX 2 (.alloc (.st (.cons (.st (.cons (.int .i64 0) (.cons (.sl true 4 .nil) (.cons (.int .i64 0) (.cons (.int .i64 0) (.cons (.sl true 1 .nil) .nil)))))) (.cons (.st (.cons (.str []) (.cons (.str []) (.cons (.int .i64 0) .nil)))) .nil)))),
 qB 3 false])
 (.seq
 (rF [2,4,5] [qM 7 0,
 qC 8 48 [7],
 qM 6 8,
 qE 9 6 0,
 qE 10 6 1,
 oX 4 (.alloc (.st (.cons (.int .i64 0) (.cons (.sl true 4 .nil) (.cons (.int .i64 0) (.cons (.int .i64 0) (.cons (.sl true 1 .nil) .nil))))))),
 qS 5 4 9,
 qM 5 10])
 (.seq
 (rF [2,3] [qV 11 5 4,
 oX 12 (.bld (.cons (.st (.cons (.int .i64 0) (.cons (.sl true 4 .nil) (.cons (.int .i64 0) (.cons (.int .i64 0) (.cons (.sl true 1 .nil) .nil)))))) (.cons (.st (.cons (.str []) (.cons (.str []) (.cons (.int .i64 0) .nil)))) .nil)) [(0,(.t 11))]),
 qM 13 5,
 qS 8 2 12,
 qM 3 13])
 .ret)))
noncomputable def aVn:CM prog 25 1 [(0,[0,2]),(1,[2,4,5]),(2,[2,3])]:=.mk (m:=m25) Go.Proofs.Tryz.func25 (by kernel_rfl)
def m26:MC :=
 (.seq
 (rF [1] [oX 1 (.box (.t 0)),
 oQ 2 (.mov (.k .nil)),
 qB 3 false])
 (.seq
 (rF [4,5] [oQ 7 (.ld (some 3) (.t 1)),
 qC 8 49 [7],
 qM 6 8,
 qE 9 6 0,
 qE 10 6 1,
 qM 4 9,
 qM 5 10])
 (.seq
 (.seq
 (rF [4,12] [qM 11 5,
 qU 12 11])
 (cS 12
 (.seq
 (rF [2,3] [oQ 2 (.mov (.k .nil)),
 qB 3 false])
 .ret)))
 (.seq
 (rF [2,3] [qM 13 4,
 qM 2 13,
 qB 3 true])
 .ret))))
noncomputable def aQh:CM prog 26 1 [(0,[1]),(1,[4,5]),(2,[4,12]),(3,[2,3]),(4,[2,3])]:=.mk (m:=m26) Go.Proofs.Tryz.func26 (by kernel_rfl)
def m28:MC :=
 (.seq
 (rF [1,2] [oX 1 (.box (.t 0)),
 oX 2 (.alloc (.st (.cons (.st (.cons (.int .i64 0) (.cons (.sl true 4 .nil) (.cons (.int .i64 0) (.cons (.int .i64 0) (.cons (.sl true 1 .nil) .nil)))))) (.cons (.st (.cons (.str []) (.cons (.str []) (.cons (.int .i64 0) .nil)))) .nil))))])
 (.seq
 (.any [6] [2] (.q 0 (qF 3 0 0 1) (.q 3 (qF 6 1 5 1) (.q 4 (oQ 7 (.ld (some 3) (.t 6))) (.e 1 (qV 4 5 3) (.e 2 (qC 5 52 [4]) (.e 5 (oX 8 (.bld (.cons (.st (.cons (.int .i64 0) (.cons (.sl true 4 .nil) (.cons (.int .i64 0) (.cons (.int .i64 0) (.cons (.sl true 1 .nil) .nil)))))) (.cons (.st (.cons (.str []) (.cons (.str []) (.cons (.int .i64 0) .nil)))) .nil)) [(0,(.t 5)),(1,(.t 7))])) (.e 6 (qS 8 2 8) .done))))))))
 .ret))
noncomputable def aTF:CM prog 28 1 [(0,[1,2]),(1,[2]),(1000001,[1,6,1,0,1,3,1,4,2,1,2,2,2,5,2,6,0])]:=.mk (m:=m28) Go.Proofs.Tryz.func28 (by kernel_rfl)
def m29:MC :=
 (.seq
 (rF [1] [oX 1 (.box (.t 0)),
 qB 2 false])
 (.seq
 (rF [2] [qF 3 0 0 1,
 qV 4 5 3,
 qC 5 53 [4],
 qM 6 5,
 gF 7 6 true 1 5 1,
 oG 8 6 true (.ld (some 3) (.t 7)),
 oH 9 6 true (.call 23 [(.t 8)]),
 qA 10 6 9,
 qM 2 10])
 .ret))
noncomputable def aT5:CM prog 29 1 [(0,[1]),(1,[2])]:=.mk (m:=m29) Go.Proofs.Tryz.func29 (by kernel_rfl)
def m30:MC :=
 (.seq
 (rF [1] [oX 1 (.box (.t 0)),
 qB 2 false])
 (.seq
 (rF [2] [qF 3 0 0 1,
 qL 4 3,
 oQ 5 (.bin .neq (.t 4) (.k (.d (.str [])))),
 qM 6 5,
 gF 7 6 true 0 0 1,
 gL 8 6 true 7,
 oH 9 6 true (.call 54 [(.t 8),(kI 160)]),
 qA 10 6 9,
 qM 11 10,
 gF 12 11 true 0 0 1,
 gL 13 11 true 12,
 oH 14 11 true (.call 55 [(.t 13),(.k (.d (.int .u8 64)))]),
 oG 15 11 true (.un .not (.t 14)),
 qA 16 11 15,
 qM 17 16,
 gF 18 17 true 1 1 1,
 gL 19 17 true 18,
 oH 20 17 true (.call 54 [(.t 19),(kI 200)]),
 qA 21 17 20,
 qM 2 21])
 .ret))
noncomputable def aUI:CM prog 30 1 [(0,[1]),(1,[2])]:=.mk (m:=m30) Go.Proofs.Tryz.func30 (by kernel_rfl)
end Go.Pe.Tryz
