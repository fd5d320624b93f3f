/-
The compact code of the functions that the law reaches,printed by gen.py,each with the proof that the machine's code is compiled to it.
-/
import Derived.Test.YtmkmjcgkcpmmpaaGreatDoorMc1
import Derived.Test.YtmkmjcgkcpmmpaaGreatDoorProg
import Derived.KernelRfl
set_option maxRecDepth 100000
namespace Go.Pe.Tryz
open Go.Pe
def aK7:List (Nat×List Nat):=[(0,[0,2]),(1,[0,2,4]),(2,[0]),(3,[0,2]),(4,[0,2,8]),(5,[0,2]),(6,[0,2]),(7,[0,2,14]),(8,[0,2]),(9,[0,2]),(10,[2])]
def aKW:MC :=
 (.seq
 (.reg false [0,2] [oQ 2 (.mov (kI 0))])
 (.seq
 (.seq
 (.reg false [0,2,4] [oQ 3 (.mov (.t 0)),
 oQ 4 (.bin .geq (.t 3) (.k (.d (.int .u64 4294967296))))])
 (.cond (.t 4)
 (.seq
 (.reg false [0] [oQ 5 (.mov (.t 0)),
 oQ 6 (.shr (.t 5) (.k (.d (.int .u64 32)))),
 oQ 0 (.mov (.t 6))])
 (.reg false [0,2] [oQ 2 (.mov (kI 32))]))
 .skip))
 (.seq
 (.seq
 (.reg false [0,2,8] [oQ 7 (.mov (.t 0)),
 oQ 8 (.bin .geq (.t 7) (.k (.d (.int .u64 65536))))])
 (.cond (.t 8)
 (.seq
 (.reg false [0,2] [oQ 9 (.mov (.t 0)),
 oQ 10 (.shr (.t 9) (.k (.d (.int .u64 16)))),
 oQ 0 (.mov (.t 10))])
 (.reg false [0,2] [oQ 11 (.mov (.t 2)),
 oQ 12 (.bin .add (.t 11) (kI 16)),
 oQ 2 (.mov (.t 12))]))
 .skip))
 (.seq
 (.seq
 (.reg false [0,2,14] [oQ 13 (.mov (.t 0)),
 oQ 14 (.bin .geq (.t 13) (.k (.d (.int .u64 256))))])
 (.cond (.t 14)
 (.seq
 (.reg false [0,2] [oQ 15 (.mov (.t 0)),
 oQ 16 (.shr (.t 15) (.k (.d (.int .u64 8)))),
 oQ 0 (.mov (.t 16))])
 (.reg false [0,2] [oQ 17 (.mov (.t 2)),
 oQ 18 (.bin .add (.t 17) (kI 8)),
 oQ 2 (.mov (.t 18))]))
 .skip))
 (.seq
 (.reg false [2] [oQ 19 (.mov (.t 2)),
 oQ 20 (.mov (.t 0)),
 oQ 21 (.conv .u8 (.t 20)),
 oQ 22 (.ix (.k (.d (.str [0,1,2,2,3,3,3,3,4,4,4,4,4,4,4,4,5,5,5,5,5,5,5,5,5,5,5,5,5,5,5,5,6,6,6,6,6,6,6,6,6,6,6,6,6,6,6,6,6,6,6,6,6,6,6,6,6,6,6,6,6,6,6,6,7,7,7,7,7,7,7,7,7,7,7,7,7,7,7,7,7,7,7,7,7,7,7,7,7,7,7,7,7,7,7,7,7,7,7,7,7,7,7,7,7,7,7,7,7,7,7,7,7,7,7,7,7,7,7,7,7,7,7,7,7,7,7,7,8,8,8,8,8,8,8,8,8,8,8,8,8,8,8,8,8,8,8,8,8,8,8,8,8,8,8,8,8,8,8,8,8,8,8,8,8,8,8,8,8,8,8,8,8,8,8,8,8,8,8,8,8,8,8,8,8,8,8,8,8,8,8,8,8,8,8,8,8,8,8,8,8,8,8,8,8,8,8,8,8,8,8,8,8,8,8,8,8,8,8,8,8,8,8,8,8,8,8,8,8,8,8,8,8,8,8,8,8,8,8,8,8,8,8,8,8,8,8,8,8,8,8,8,8,8,8,8]))) (.t 21)),
 oQ 23 (.conv .i64 (.t 22)),
 oQ 24 (.bin .add (.t 19) (.t 23)),
 oQ 2 (.mov (.t 24))])
 .ret)))))
theorem aMn:(Go.Proofs.Tryz.f147).body.bind (comp prog.P (0,(Go.Proofs.Tryz.f147).ntmps) aK7)=some aKW:=by kernel_rfl
theorem aNI:bA prog.P (Go.Proofs.Tryz.f147).results.toList=true:=by kernel_rfl
def aKU:List (Nat×List Nat):=[(0,[0,1]),(1,[0,4])]
def aKV:MC :=
 (.seq
 (.reg false [0,1] [oQ 4 (.mov (kB false))])
 (.seq
 (.reg false [0,4] [oQ 5 (.mov (.t 0)),
 oQ 6 (.mov (.t 1)),
 oQ 7 (.nck (.t 5)),
 oQ 8 (.iar 256 1 (.t 7) (.t 6)),
 oQ 9 (.ld none (.t 8)),
 oQ 4 (.mov (.t 9))])
 .ret))
theorem aMN:(Go.Proofs.Tryz.f148).body.bind (comp prog.P (2,(Go.Proofs.Tryz.f148).ntmps) aKU)=some aKV:=by kernel_rfl
theorem aL5:bA prog.P (Go.Proofs.Tryz.f148).results.toList=true:=by kernel_rfl
def aLr:List (Nat×List Nat):=[(0,[0]),(1,[2])]
def aKG:MC :=
 (.seq
 (.reg false [0] [oQ 2 (.mov (kB false))])
 (.seq
 (.reg false [2] [oQ 3 (.mov (.t 0)),
 oQ 4 (.mov (.t 0)),
 oQ 5 (.bin .neq (.t 3) (.t 4)),
 oQ 2 (.mov (.t 5))])
 .ret))
theorem aMv:(Go.Proofs.Tryz.f161).body.bind (comp prog.P (1,(Go.Proofs.Tryz.f161).ntmps) aLr)=some aKG:=by kernel_rfl
theorem aNf:bA prog.P (Go.Proofs.Tryz.f161).results.toList=true:=by kernel_rfl
end Go.Pe.Tryz
