/-
The compact code of the functions of seat Ytepedloehigedaa, printed by gen.py, each with the proof that the machine's code is compiled to it.
-/
import Derived.Test.YtepedloehigedaaPeC
import Derived.Test.YtepedloehigedaaProg
import Derived.KernelRfl
set_option maxRecDepth 100000
namespace Go.Pe.Try
open Go.Pe

/-- spec.DrawYearsToClear -/
def lv35 : List (Nat × List Nat) := [(0, [0]), (1, [4, 5]), (2, [2, 3])]
def m35 : MC :=
  (.seq
    (.reg false [0] [⟨(some 2), none, false, .mov (.k (.d (.int .i64 0)))⟩,
       ⟨(some 3), none, false, .mov (.k .nil)⟩])
    (.seq
      (.reg false [4, 5] [⟨(some 7), none, false, .mov (.t 0)⟩,
         ⟨(some 8), none, true, .call 54 [(.t 7)]⟩,
         ⟨(some 6), none, false, .mov (.t 8)⟩,
         ⟨(some 9), none, false, .ext (.t 6) 0⟩,
         ⟨(some 10), none, false, .ext (.t 6) 1⟩,
         ⟨(some 4), none, false, .mov (.t 9)⟩,
         ⟨(some 5), none, false, .mov (.t 10)⟩])
      (.seq
        (.reg false [2, 3] [⟨(some 11), none, false, .mov (.t 4)⟩,
           ⟨(some 12), none, false, .mov (.t 5)⟩,
           ⟨(some 2), none, false, .mov (.t 11)⟩,
           ⟨(some 3), none, false, .mov (.t 12)⟩])
        .ret)))
theorem c35 : (Go.Proofs.Try.f35).body.bind (comp (Go.Proofs.Try.prog) (1, (Go.Proofs.Try.f35).ntmps) lv35) = some m35 := by kernel_rfl
theorem r35 : resOK (Go.Proofs.Try.prog) (Go.Proofs.Try.f35).results.toList = true := by kernel_rfl

/-- spec.DrawMissingYears -/
def lv36 : List (Nat × List Nat) := [(0, [0]), (1, [4, 5]), (2, [2, 3])]
def m36 : MC :=
  (.seq
    (.reg false [0] [⟨(some 2), none, false, .mov (.k (.d (.int .i64 0)))⟩,
       ⟨(some 3), none, false, .mov (.k .nil)⟩])
    (.seq
      (.reg false [4, 5] [⟨(some 7), none, false, .mov (.t 0)⟩,
         ⟨(some 8), none, true, .call 54 [(.t 7)]⟩,
         ⟨(some 6), none, false, .mov (.t 8)⟩,
         ⟨(some 9), none, false, .ext (.t 6) 0⟩,
         ⟨(some 10), none, false, .ext (.t 6) 1⟩,
         ⟨(some 4), none, false, .mov (.t 9)⟩,
         ⟨(some 5), none, false, .mov (.t 10)⟩])
      (.seq
        (.reg false [2, 3] [⟨(some 11), none, false, .mov (.t 4)⟩,
           ⟨(some 12), none, false, .mov (.t 5)⟩,
           ⟨(some 2), none, false, .mov (.t 11)⟩,
           ⟨(some 3), none, false, .mov (.t 12)⟩])
        .ret)))
theorem c36 : (Go.Proofs.Try.f36).body.bind (comp (Go.Proofs.Try.prog) (1, (Go.Proofs.Try.f36).ntmps) lv36) = some m36 := by kernel_rfl
theorem r36 : resOK (Go.Proofs.Try.prog) (Go.Proofs.Try.f36).results.toList = true := by kernel_rfl

/-- laws.rInts loops: 0=a 1=b 5=i -/
def lv37 : List (Nat × List Nat) := [(0, [0, 1]), (1, [0, 1, 10]), (2, [4]), (3, [0, 1, 5]), (4, [0, 1, 5, 14]), (5, [0, 1, 5]), (6, [0, 1, 5, 25]), (7, [4]), (8, [4])]
def m37 : MC :=
  (.seq
    (.reg false [0, 1] [⟨(some 4), none, false, .mov (.k (.d (.bool false)))⟩])
    (.seq
      (.seq
        (.reg false [0, 1, 10] [⟨(some 6), none, false, .mov (.t 0)⟩,
           ⟨(some 7), none, false, .len false (.t 6)⟩,
           ⟨(some 8), none, false, .mov (.t 1)⟩,
           ⟨(some 9), none, false, .len false (.t 8)⟩,
           ⟨(some 10), none, false, .bin .neq (.t 7) (.t 9)⟩])
        (.cond (.t 10)
          (.seq
            (.reg false [4] [⟨(some 4), none, false, .mov (.k (.d (.bool false)))⟩])
            .ret)
          .skip))
      (.seq
        (.seq
          (.reg false [0, 1, 5] [⟨(some 5), none, false, .mov (.k (.d (.int .i64 0)))⟩])
          (.block 0
            (.loop
              (.seq
                (.seq
                  (.reg false [0, 1, 5, 14] [⟨(some 11), none, false, .mov (.t 5)⟩,
                     ⟨(some 12), none, false, .mov (.t 0)⟩,
                     ⟨(some 13), none, false, .len false (.t 12)⟩,
                     ⟨(some 14), none, false, .bin .lss (.t 11) (.t 13)⟩])
                  (.cond (.t 14)
                    .skip
                    (.exit 0)))
                (.seq
                  (.block 1
                    (.seq
                      (.reg true [0, 1, 5, 25] [⟨(some 17), none, false, .mov (.t 0)⟩,
                         ⟨(some 18), none, false, .mov (.t 5)⟩,
                         ⟨(some 19), none, false, .ia 1 (.t 17) (.t 18)⟩,
                         ⟨(some 20), none, false, .ld none (.t 19)⟩,
                         ⟨(some 21), none, false, .mov (.t 1)⟩,
                         ⟨(some 22), none, false, .mov (.t 5)⟩,
                         ⟨(some 23), none, false, .ia 1 (.t 21) (.t 22)⟩,
                         ⟨(some 24), none, false, .ld none (.t 23)⟩,
                         ⟨(some 25), none, false, .bin .neq (.t 20) (.t 24)⟩])
                      (.cond (.t 25)
                        (.seq
                          (.reg false [4] [⟨(some 4), none, false, .mov (.k (.d (.bool false)))⟩])
                          .ret)
                        .skip)))
                  (.reg false [0, 1, 5] [⟨(some 15), none, false, .mov (.t 5)⟩,
                     ⟨(some 16), none, false, .bin .add (.t 15) (.k (.d (.int .i64 1)))⟩,
                     ⟨(some 5), none, false, .mov (.t 16)⟩]))))))
        (.seq
          (.reg false [4] [⟨(some 4), none, false, .mov (.k (.d (.bool true)))⟩])
          .ret))))
theorem c37 : (Go.Proofs.Try.f37).body.bind (comp (Go.Proofs.Try.prog) (2, (Go.Proofs.Try.f37).ntmps) lv37) = some m37 := by kernel_rfl
theorem r37 : resOK (Go.Proofs.Try.prog) (Go.Proofs.Try.f37).results.toList = true := by kernel_rfl

/-- laws.rHas loops: 0=list 1=x 5=i -/
def lv38 : List (Nat × List Nat) := [(0, [0, 1]), (1, [0, 1, 5]), (2, [0, 1, 5, 9]), (3, [0, 1, 5]), (4, [0, 1, 5, 17]), (5, [4]), (6, [4])]
def m38 : MC :=
  (.seq
    (.reg false [0, 1] [⟨(some 4), none, false, .mov (.k (.d (.bool false)))⟩])
    (.seq
      (.seq
        (.reg false [0, 1, 5] [⟨(some 5), none, false, .mov (.k (.d (.int .i64 0)))⟩])
        (.block 0
          (.loop
            (.seq
              (.seq
                (.reg false [0, 1, 5, 9] [⟨(some 6), none, false, .mov (.t 5)⟩,
                   ⟨(some 7), none, false, .mov (.t 0)⟩,
                   ⟨(some 8), none, false, .len false (.t 7)⟩,
                   ⟨(some 9), none, false, .bin .lss (.t 6) (.t 8)⟩])
                (.cond (.t 9)
                  .skip
                  (.exit 0)))
              (.seq
                (.block 1
                  (.seq
                    (.reg false [0, 1, 5, 17] [⟨(some 12), none, false, .mov (.t 0)⟩,
                       ⟨(some 13), none, false, .mov (.t 5)⟩,
                       ⟨(some 14), none, false, .ia 1 (.t 12) (.t 13)⟩,
                       ⟨(some 15), none, false, .ld none (.t 14)⟩,
                       ⟨(some 16), none, false, .mov (.t 1)⟩,
                       ⟨(some 17), none, false, .bin .eql (.t 15) (.t 16)⟩])
                    (.cond (.t 17)
                      (.seq
                        (.reg false [4] [⟨(some 4), none, false, .mov (.k (.d (.bool true)))⟩])
                        .ret)
                      .skip)))
                (.reg false [0, 1, 5] [⟨(some 10), none, false, .mov (.t 5)⟩,
                   ⟨(some 11), none, false, .bin .add (.t 10) (.k (.d (.int .i64 1)))⟩,
                   ⟨(some 5), none, false, .mov (.t 11)⟩]))))))
      (.seq
        (.reg false [4] [⟨(some 4), none, false, .mov (.k (.d (.bool false)))⟩])
        .ret)))
theorem c38 : (Go.Proofs.Try.f38).body.bind (comp (Go.Proofs.Try.prog) (2, (Go.Proofs.Try.f38).ntmps) lv38) = some m38 := by kernel_rfl
theorem r38 : resOK (Go.Proofs.Try.prog) (Go.Proofs.Try.f38).results.toList = true := by kernel_rfl

/-- spec.DrawDestroyedShare -/
def lv39 : List (Nat × List Nat) := [(0, [0]), (1, [4, 5]), (2, [2, 3])]
def m39 : MC :=
  (.seq
    (.reg false [0] [⟨(some 2), none, false, .mov (.k (.d (.int .i64 0)))⟩,
       ⟨(some 3), none, false, .mov (.k .nil)⟩])
    (.seq
      (.reg false [4, 5] [⟨(some 7), none, false, .mov (.t 0)⟩,
         ⟨(some 8), none, true, .call 54 [(.t 7)]⟩,
         ⟨(some 6), none, false, .mov (.t 8)⟩,
         ⟨(some 9), none, false, .ext (.t 6) 0⟩,
         ⟨(some 10), none, false, .ext (.t 6) 1⟩,
         ⟨(some 4), none, false, .mov (.t 9)⟩,
         ⟨(some 5), none, false, .mov (.t 10)⟩])
      (.seq
        (.reg false [2, 3] [⟨(some 11), none, false, .mov (.t 4)⟩,
           ⟨(some 12), none, false, .mov (.t 5)⟩,
           ⟨(some 2), none, false, .mov (.t 11)⟩,
           ⟨(some 3), none, false, .mov (.t 12)⟩])
        .ret)))
theorem c39 : (Go.Proofs.Try.f39).body.bind (comp (Go.Proofs.Try.prog) (1, (Go.Proofs.Try.f39).ntmps) lv39) = some m39 := by kernel_rfl
theorem r39 : resOK (Go.Proofs.Try.prog) (Go.Proofs.Try.f39).results.toList = true := by kernel_rfl

/-- spec.l26One -/
def lv40 : List (Nat × List Nat) := [(0, [1]), (1, [2])]
def m40 : MC :=
  (.seq
    (.reg false [1] [⟨(some 1), none, true, .box (.t 0)⟩,
       ⟨(some 2), none, false, .mov (.k (.d (.bool false)))⟩])
    (.seq
      (.reg false [2] [⟨(some 3), none, false, .fa 0 0 (.t 1)⟩,
         ⟨(some 4), none, false, .ld none (.t 3)⟩,
         ⟨(some 5), none, true, .call 55 [(.t 4), (.k (.d (.int .i64 1900))), (.k (.d (.int .i64 2200)))]⟩,
         ⟨(some 6), none, false, .mov (.t 5)⟩,
         ⟨(some 7), (some (6, true)), false, .fa 1 1 (.t 1)⟩,
         ⟨(some 8), (some (6, true)), false, .ld none (.t 7)⟩,
         ⟨(some 9), (some (6, true)), true, .call 56 [(.t 8)]⟩,
         ⟨(some 10), none, false, .pick (.t 6) (.t 9) (.k (.d (.bool false)))⟩,
         ⟨(some 11), none, false, .mov (.t 10)⟩,
         ⟨(some 12), (some (11, true)), false, .fa 2 2 (.t 1)⟩,
         ⟨(some 13), (some (11, true)), false, .ld none (.t 12)⟩,
         ⟨(some 14), (some (11, true)), true, .call 56 [(.t 13)]⟩,
         ⟨(some 15), none, false, .pick (.t 11) (.t 14) (.k (.d (.bool false)))⟩,
         ⟨(some 16), none, false, .mov (.t 15)⟩,
         ⟨(some 17), (some (16, true)), false, .fa 3 3 (.t 1)⟩,
         ⟨(some 18), (some (16, true)), false, .ld none (.t 17)⟩,
         ⟨(some 19), (some (16, true)), true, .call 56 [(.t 18)]⟩,
         ⟨(some 20), none, false, .pick (.t 16) (.t 19) (.k (.d (.bool false)))⟩,
         ⟨(some 21), none, false, .mov (.t 20)⟩,
         ⟨(some 22), (some (21, true)), false, .fa 4 4 (.t 1)⟩,
         ⟨(some 23), (some (21, true)), false, .ld none (.t 22)⟩,
         ⟨(some 24), (some (21, true)), true, .call 56 [(.t 23)]⟩,
         ⟨(some 25), none, false, .pick (.t 21) (.t 24) (.k (.d (.bool false)))⟩,
         ⟨(some 2), none, false, .mov (.t 25)⟩])
      .ret))
theorem c40 : (Go.Proofs.Try.f40).body.bind (comp (Go.Proofs.Try.prog) (1, (Go.Proofs.Try.f40).ntmps) lv40) = some m40 := by kernel_rfl
theorem r40 : resOK (Go.Proofs.Try.prog) (Go.Proofs.Try.f40).results.toList = true := by kernel_rfl

/-- impl.within -/
def lv41 : List (Nat × List Nat) := [(0, [0, 1, 2]), (1, [6])]
def m41 : MC :=
  (.seq
    (.reg false [0, 1, 2] [⟨(some 6), none, false, .mov (.k (.d (.bool false)))⟩])
    (.seq
      (.reg false [6] [⟨(some 7), none, false, .mov (.t 1)⟩,
         ⟨(some 8), none, false, .mov (.t 0)⟩,
         ⟨(some 9), none, false, .bin .leq (.t 7) (.t 8)⟩,
         ⟨(some 10), none, false, .mov (.t 9)⟩,
         ⟨(some 11), (some (10, true)), false, .mov (.t 0)⟩,
         ⟨(some 12), (some (10, true)), false, .mov (.t 2)⟩,
         ⟨(some 13), (some (10, true)), false, .bin .leq (.t 11) (.t 12)⟩,
         ⟨(some 14), none, false, .pick (.t 10) (.t 13) (.k (.d (.bool false)))⟩,
         ⟨(some 6), none, false, .mov (.t 14)⟩])
      .ret))
theorem c41 : (Go.Proofs.Try.f41).body.bind (comp (Go.Proofs.Try.prog) (3, (Go.Proofs.Try.f41).ntmps) lv41) = some m41 := by kernel_rfl
theorem r41 : resOK (Go.Proofs.Try.prog) (Go.Proofs.Try.f41).results.toList = true := by kernel_rfl

/-- impl.isCount -/
def lv42 : List (Nat × List Nat) := [(0, [0]), (1, [2])]
def m42 : MC :=
  (.seq
    (.reg false [0] [⟨(some 2), none, false, .mov (.k (.d (.bool false)))⟩])
    (.seq
      (.reg false [2] [⟨(some 3), none, false, .mov (.t 0)⟩,
         ⟨(some 4), none, true, .call 41 [(.t 3), (.k (.d (.int .i64 0))), (.k (.d (.int .i64 9999)))]⟩,
         ⟨(some 2), none, false, .mov (.t 4)⟩])
      .ret))
theorem c42 : (Go.Proofs.Try.f42).body.bind (comp (Go.Proofs.Try.prog) (1, (Go.Proofs.Try.f42).ntmps) lv42) = some m42 := by kernel_rfl
theorem r42 : resOK (Go.Proofs.Try.prog) (Go.Proofs.Try.f42).results.toList = true := by kernel_rfl

/-- spec.l26Good loops: 0=stock 1=list 5=rest 6=i -/
def lv43 : List (Nat × List Nat) := [(0, [0, 1]), (1, [0, 1, 5]), (2, [0, 1, 5, 6]), (3, [0, 1, 5, 6, 11]), (4, [0, 1, 5, 6]), (5, [0, 1, 5, 6, 37]), (6, [4]), (7, [0, 1, 5, 6]), (8, [0, 1, 5, 6, 52]), (9, [4]), (10, [4])]
def m43 : MC :=
  (.seq
    (.reg false [0, 1] [⟨(some 4), none, false, .mov (.k (.d (.bool false)))⟩])
    (.seq
      (.reg false [0, 1, 5] [⟨(some 7), none, false, .mov (.t 0)⟩,
         ⟨(some 5), none, false, .mov (.t 7)⟩])
      (.seq
        (.seq
          (.reg false [0, 1, 5, 6] [⟨(some 6), none, false, .mov (.k (.d (.int .i64 0)))⟩])
          (.block 0
            (.loop
              (.seq
                (.seq
                  (.reg false [0, 1, 5, 6, 11] [⟨(some 8), none, false, .mov (.t 6)⟩,
                     ⟨(some 9), none, false, .mov (.t 1)⟩,
                     ⟨(some 10), none, false, .len false (.t 9)⟩,
                     ⟨(some 11), none, false, .bin .lss (.t 8) (.t 10)⟩])
                  (.cond (.t 11)
                    .skip
                    (.exit 0)))
                (.seq
                  (.block 1
                    (.seq
                      (.seq
                        (.reg true [0, 1, 5, 6, 37] [⟨(some 14), none, false, .mov (.t 1)⟩,
                           ⟨(some 15), none, false, .mov (.t 6)⟩,
                           ⟨(some 16), none, false, .ia 5 (.t 14) (.t 15)⟩,
                           ⟨(some 17), none, false, .ld (some 5) (.t 16)⟩,
                           ⟨(some 18), none, false, .callP 40 [(.t 17)]⟩,
                           ⟨(some 19), none, false, .un .not (.t 18)⟩,
                           ⟨(some 20), none, false, .mov (.t 19)⟩,
                           ⟨(some 21), (some (20, false)), false, .mov (.t 6)⟩,
                           ⟨(some 22), (some (20, false)), false, .bin .gtr (.t 21) (.k (.d (.int .i64 0)))⟩,
                           ⟨(some 23), (some (20, false)), false, .mov (.t 22)⟩,
                           ⟨(some 24), (some (23, true)), false, .mov (.t 1)⟩,
                           ⟨(some 25), (some (23, true)), false, .mov (.t 6)⟩,
                           ⟨(some 26), (some (23, true)), false, .bin .sub (.t 25) (.k (.d (.int .i64 1)))⟩,
                           ⟨(some 27), (some (23, true)), false, .ia 5 (.t 24) (.t 26)⟩,
                           ⟨(some 28), (some (23, true)), false, .fa 0 0 (.t 27)⟩,
                           ⟨(some 29), (some (23, true)), false, .ld none (.t 28)⟩,
                           ⟨(some 30), (some (23, true)), false, .mov (.t 1)⟩,
                           ⟨(some 31), (some (23, true)), false, .mov (.t 6)⟩,
                           ⟨(some 32), (some (23, true)), false, .ia 5 (.t 30) (.t 31)⟩,
                           ⟨(some 33), (some (23, true)), false, .fa 0 0 (.t 32)⟩,
                           ⟨(some 34), (some (23, true)), false, .ld none (.t 33)⟩,
                           ⟨(some 35), (some (23, true)), false, .bin .geq (.t 29) (.t 34)⟩,
                           ⟨(some 36), (some (20, false)), false, .pick (.t 23) (.t 35) (.k (.d (.bool false)))⟩,
                           ⟨(some 37), none, false, .pick (.t 20) (.k (.d (.bool true))) (.t 36)⟩])
                        (.cond (.t 37)
                          (.seq
                            (.reg false [4] [⟨(some 4), none, false, .mov (.k (.d (.bool false)))⟩])
                            .ret)
                          .skip))
                      (.seq
                        (.reg true [0, 1, 5, 6] [⟨(some 38), none, false, .mov (.t 5)⟩,
                           ⟨(some 39), none, false, .mov (.t 1)⟩,
                           ⟨(some 40), none, false, .mov (.t 6)⟩,
                           ⟨(some 41), none, false, .ia 5 (.t 39) (.t 40)⟩,
                           ⟨(some 42), none, false, .fa 1 1 (.t 41)⟩,
                           ⟨(some 43), none, false, .ld none (.t 42)⟩,
                           ⟨(some 44), none, false, .bin .add (.t 38) (.t 43)⟩,
                           ⟨(some 45), none, false, .mov (.t 1)⟩,
                           ⟨(some 46), none, false, .mov (.t 6)⟩,
                           ⟨(some 47), none, false, .ia 5 (.t 45) (.t 46)⟩,
                           ⟨(some 48), none, false, .ld (some 5) (.t 47)⟩,
                           ⟨(some 49), none, false, .callP 47 [(.t 48)]⟩,
                           ⟨(some 50), none, false, .bin .sub (.t 44) (.t 49)⟩,
                           ⟨(some 5), none, false, .mov (.t 50)⟩])
                        (.seq
                          (.reg false [0, 1, 5, 6, 52] [⟨(some 51), none, false, .mov (.t 5)⟩,
                             ⟨(some 52), none, false, .bin .lss (.t 51) (.k (.d (.int .i64 0)))⟩])
                          (.cond (.t 52)
                            (.seq
                              (.reg false [4] [⟨(some 4), none, false, .mov (.k (.d (.bool false)))⟩])
                              .ret)
                            .skip)))))
                  (.reg false [0, 1, 5, 6] [⟨(some 12), none, false, .mov (.t 6)⟩,
                     ⟨(some 13), none, false, .bin .add (.t 12) (.k (.d (.int .i64 1)))⟩,
                     ⟨(some 6), none, false, .mov (.t 13)⟩]))))))
        (.seq
          (.reg false [4] [⟨(some 53), none, false, .mov (.t 0)⟩,
             ⟨(some 54), none, true, .call 56 [(.t 53)]⟩,
             ⟨(some 55), none, false, .mov (.t 54)⟩,
             ⟨(some 56), (some (55, true)), false, .mov (.t 1)⟩,
             ⟨(some 57), (some (55, true)), false, .len false (.t 56)⟩,
             ⟨(some 58), (some (55, true)), false, .bin .leq (.t 57) (.k (.d (.int .i64 10)))⟩,
             ⟨(some 59), none, false, .pick (.t 55) (.t 58) (.k (.d (.bool false)))⟩,
             ⟨(some 4), none, false, .mov (.t 59)⟩])
          .ret))))
theorem c43 : (Go.Proofs.Try.f43).body.bind (comp (Go.Proofs.Try.prog) (2, (Go.Proofs.Try.f43).ntmps) lv43) = some m43 := by kernel_rfl
theorem r43 : resOK (Go.Proofs.Try.prog) (Go.Proofs.Try.f43).results.toList = true := by kernel_rfl

/-- impl.restsAfter loops: 0=stock 1=list 6=rests 17= 18= 19= -/
def lv44 : List (Nat × List Nat) := [(0, [0, 1]), (1, [0, 1, 16]), (2, [4, 5]), (3, [0, 1, 6]), (4, [0, 1, 6, 17, 18, 19]), (5, [0, 1, 6, 17, 18, 19, 20]), (6, [0, 1, 6, 7, 8, 17, 18, 19]), (7, [0, 1, 6, 8, 17, 18, 19, 41]), (8, [4, 5]), (9, [0, 1, 6, 17, 18, 19]), (10, [0, 1, 6, 17, 18, 19, 50]), (11, [4, 5]), (12, [0, 1, 6, 17, 18, 19]), (13, [0, 1, 6, 17, 18, 19]), (14, [4, 5])]
def m44 : MC :=
  (.seq
    (.reg false [0, 1] [⟨(some 4), none, false, .mov (.k .nil)⟩,
       ⟨(some 5), none, false, .mov (.k (.d (.bool false)))⟩])
    (.seq
      (.seq
        (.reg false [0, 1, 16] [⟨(some 9), none, false, .mov (.t 0)⟩,
           ⟨(some 10), none, true, .call 42 [(.t 9)]⟩,
           ⟨(some 11), none, false, .un .not (.t 10)⟩,
           ⟨(some 12), none, false, .mov (.t 11)⟩,
           ⟨(some 13), (some (12, false)), false, .mov (.t 1)⟩,
           ⟨(some 14), (some (12, false)), false, .len false (.t 13)⟩,
           ⟨(some 15), (some (12, false)), false, .bin .gtr (.t 14) (.k (.d (.int .i64 10)))⟩,
           ⟨(some 16), none, false, .pick (.t 12) (.k (.d (.bool true))) (.t 15)⟩])
        (.cond (.t 16)
          (.seq
            (.reg false [4, 5] [⟨(some 4), none, false, .mov (.k .nil)⟩,
               ⟨(some 5), none, false, .mov (.k (.d (.bool false)))⟩])
            .ret)
          .skip))
      (.seq
        (.reg false [0, 1, 6] [⟨(some 6), none, false, .mov (.k .nil)⟩])
        (.seq
          (.seq
            (.reg false [0, 1, 6, 17, 18, 19] [⟨(some 17), none, false, .mov (.t 1)⟩,
               ⟨(some 18), none, false, .len false (.t 17)⟩,
               ⟨(some 19), none, false, .mov (.k (.d (.int .i64 0)))⟩])
            (.block 0
              (.loop
                (.seq
                  (.reg false [0, 1, 6, 17, 18, 19, 20] [⟨(some 20), none, false, .bin .lss (.t 19) (.t 18)⟩])
                  (.seq
                    (.cond (.t 20)
                      .skip
                      (.exit 0))
                    (.seq
                      (.block 1
                        (.seq
                          (.reg false [0, 1, 6, 7, 8, 17, 18, 19] [⟨(some 21), none, false, .mov (.t 19)⟩,
                             ⟨(some 22), none, false, .ia 5 (.t 17) (.t 19)⟩,
                             ⟨(some 23), none, false, .ld (some 5) (.t 22)⟩,
                             ⟨(some 8), none, true, .alloc (.st (.cons (.int .i64 0) (.cons (.int .i64 0) (.cons (.int .i64 0) (.cons (.int .i64 0) (.cons (.int .i64 0) .nil))))))⟩,
                             ⟨(some 7), none, false, .mov (.t 21)⟩,
                             ⟨none, none, true, .st 5 (.t 8) (.t 23)⟩])
                          (.seq
                            (.seq
                              (.reg true [0, 1, 6, 8, 17, 18, 19, 41] [⟨(some 24), none, false, .ld (some 5) (.t 8)⟩,
                                 ⟨(some 25), none, false, .callP 13 [(.t 24)]⟩,
                                 ⟨(some 26), none, false, .un .not (.t 25)⟩,
                                 ⟨(some 27), none, false, .mov (.t 26)⟩,
                                 ⟨(some 28), (some (27, false)), false, .mov (.t 7)⟩,
                                 ⟨(some 29), (some (27, false)), false, .bin .gtr (.t 28) (.k (.d (.int .i64 0)))⟩,
                                 ⟨(some 30), (some (27, false)), false, .mov (.t 29)⟩,
                                 ⟨(some 31), (some (30, true)), false, .mov (.t 1)⟩,
                                 ⟨(some 32), (some (30, true)), false, .mov (.t 7)⟩,
                                 ⟨(some 33), (some (30, true)), false, .bin .sub (.t 32) (.k (.d (.int .i64 1)))⟩,
                                 ⟨(some 34), (some (30, true)), false, .ia 5 (.t 31) (.t 33)⟩,
                                 ⟨(some 35), (some (30, true)), false, .fa 0 0 (.t 34)⟩,
                                 ⟨(some 36), (some (30, true)), false, .ld none (.t 35)⟩,
                                 ⟨(some 37), (some (30, true)), false, .fa 0 0 (.t 8)⟩,
                                 ⟨(some 38), (some (30, true)), false, .ld none (.t 37)⟩,
                                 ⟨(some 39), (some (30, true)), false, .bin .geq (.t 36) (.t 38)⟩,
                                 ⟨(some 40), (some (27, false)), false, .pick (.t 30) (.t 39) (.k (.d (.bool false)))⟩,
                                 ⟨(some 41), none, false, .pick (.t 27) (.k (.d (.bool true))) (.t 40)⟩])
                              (.cond (.t 41)
                                (.seq
                                  (.reg false [4, 5] [⟨(some 4), none, false, .mov (.k .nil)⟩,
                                     ⟨(some 5), none, false, .mov (.k (.d (.bool false)))⟩])
                                  .ret)
                                .skip))
                            (.seq
                              (.reg true [0, 1, 6, 17, 18, 19] [⟨(some 42), none, false, .mov (.t 0)⟩,
                                 ⟨(some 43), none, false, .fa 1 1 (.t 8)⟩,
                                 ⟨(some 44), none, false, .ld none (.t 43)⟩,
                                 ⟨(some 45), none, false, .ld (some 5) (.t 8)⟩,
                                 ⟨(some 46), none, false, .callP 48 [(.t 45)]⟩,
                                 ⟨(some 47), none, false, .bin .sub (.t 44) (.t 46)⟩,
                                 ⟨(some 48), none, false, .bin .add (.t 42) (.t 47)⟩,
                                 ⟨(some 0), none, false, .mov (.t 48)⟩])
                              (.seq
                                (.seq
                                  (.reg false [0, 1, 6, 17, 18, 19, 50] [⟨(some 49), none, false, .mov (.t 0)⟩,
                                     ⟨(some 50), none, false, .bin .lss (.t 49) (.k (.d (.int .i64 0)))⟩])
                                  (.cond (.t 50)
                                    (.seq
                                      (.reg false [4, 5] [⟨(some 4), none, false, .mov (.k .nil)⟩,
                                         ⟨(some 5), none, false, .mov (.k (.d (.bool false)))⟩])
                                      .ret)
                                    .skip))
                                (.reg false [0, 1, 6, 17, 18, 19] [⟨(some 51), none, false, .mov (.t 6)⟩,
                                   ⟨(some 52), none, false, .mov (.t 0)⟩,
                                   ⟨(some 53), none, true, .bs 1 1 (.int .i64 0) [(0, (.t 52))]⟩,
                                   ⟨(some 54), none, true, .app 1 8 (.t 51) (.t 53)⟩,
                                   ⟨(some 6), none, false, .mov (.t 54)⟩]))))))
                      (.reg false [0, 1, 6, 17, 18, 19] [⟨(some 55), none, false, .bin .add (.t 19) (.k (.d (.int .i64 1)))⟩,
                         ⟨(some 19), none, false, .mov (.t 55)⟩])))))))
          (.seq
            (.reg false [4, 5] [⟨(some 56), none, false, .mov (.t 6)⟩,
               ⟨(some 4), none, false, .mov (.t 56)⟩,
               ⟨(some 5), none, false, .mov (.k (.d (.bool true)))⟩])
            .ret)))))
theorem c44 : (Go.Proofs.Try.f44).body.bind (comp (Go.Proofs.Try.prog) (0, (Go.Proofs.Try.f44).ntmps) lv44) = some m44 := by kernel_rfl
theorem r44 : resOK (Go.Proofs.Try.prog) (Go.Proofs.Try.f44).results.toList = true := by kernel_rfl

/-- laws.eqYearRow -/
def lv45 : List (Nat × List Nat) := [(0, [2, 3]), (1, [2, 3, 9]), (2, [4]), (3, [2, 3, 14]), (4, [4]), (5, [2, 3, 19]), (6, [4]), (7, [2, 3, 24]), (8, [4]), (9, [29]), (10, [4]), (11, [4])]
def m45 : MC :=
  (.seq
    (.reg false [2, 3] [⟨(some 2), none, true, .box (.t 0)⟩,
       ⟨(some 3), none, true, .box (.t 1)⟩,
       ⟨(some 4), none, false, .mov (.k (.d (.bool false)))⟩])
    (.seq
      (.seq
        (.reg false [2, 3, 9] [⟨(some 5), none, false, .fa 0 0 (.t 2)⟩,
           ⟨(some 6), none, false, .ld none (.t 5)⟩,
           ⟨(some 7), none, false, .fa 0 0 (.t 3)⟩,
           ⟨(some 8), none, false, .ld none (.t 7)⟩,
           ⟨(some 9), none, false, .bin .neq (.t 6) (.t 8)⟩])
        (.cond (.t 9)
          (.seq
            (.reg false [4] [⟨(some 4), none, false, .mov (.k (.d (.bool false)))⟩])
            .ret)
          .skip))
      (.seq
        (.seq
          (.reg false [2, 3, 14] [⟨(some 10), none, false, .fa 1 1 (.t 2)⟩,
             ⟨(some 11), none, false, .ld none (.t 10)⟩,
             ⟨(some 12), none, false, .fa 1 1 (.t 3)⟩,
             ⟨(some 13), none, false, .ld none (.t 12)⟩,
             ⟨(some 14), none, false, .bin .neq (.t 11) (.t 13)⟩])
          (.cond (.t 14)
            (.seq
              (.reg false [4] [⟨(some 4), none, false, .mov (.k (.d (.bool false)))⟩])
              .ret)
            .skip))
        (.seq
          (.seq
            (.reg false [2, 3, 19] [⟨(some 15), none, false, .fa 2 2 (.t 2)⟩,
               ⟨(some 16), none, false, .ld none (.t 15)⟩,
               ⟨(some 17), none, false, .fa 2 2 (.t 3)⟩,
               ⟨(some 18), none, false, .ld none (.t 17)⟩,
               ⟨(some 19), none, false, .bin .neq (.t 16) (.t 18)⟩])
            (.cond (.t 19)
              (.seq
                (.reg false [4] [⟨(some 4), none, false, .mov (.k (.d (.bool false)))⟩])
                .ret)
              .skip))
          (.seq
            (.seq
              (.reg false [2, 3, 24] [⟨(some 20), none, false, .fa 3 3 (.t 2)⟩,
                 ⟨(some 21), none, false, .ld none (.t 20)⟩,
                 ⟨(some 22), none, false, .fa 3 3 (.t 3)⟩,
                 ⟨(some 23), none, false, .ld none (.t 22)⟩,
                 ⟨(some 24), none, false, .bin .neq (.t 21) (.t 23)⟩])
              (.cond (.t 24)
                (.seq
                  (.reg false [4] [⟨(some 4), none, false, .mov (.k (.d (.bool false)))⟩])
                  .ret)
                .skip))
            (.seq
              (.seq
                (.reg false [29] [⟨(some 25), none, false, .fa 4 4 (.t 2)⟩,
                   ⟨(some 26), none, false, .ld none (.t 25)⟩,
                   ⟨(some 27), none, false, .fa 4 4 (.t 3)⟩,
                   ⟨(some 28), none, false, .ld none (.t 27)⟩,
                   ⟨(some 29), none, false, .bin .neq (.t 26) (.t 28)⟩])
                (.cond (.t 29)
                  (.seq
                    (.reg false [4] [⟨(some 4), none, false, .mov (.k (.d (.bool false)))⟩])
                    .ret)
                  .skip))
              (.seq
                (.reg false [4] [⟨(some 4), none, false, .mov (.k (.d (.bool true)))⟩])
                .ret)))))))
theorem c45 : (Go.Proofs.Try.f45).body.bind (comp (Go.Proofs.Try.prog) (2, (Go.Proofs.Try.f45).ntmps) lv45) = some m45 := by kernel_rfl
theorem r45 : resOK (Go.Proofs.Try.prog) (Go.Proofs.Try.f45).results.toList = true := by kernel_rfl

/-- spec.l26Rests loops: 0=stock 1=list 5=out 6=i -/
def lv46 : List (Nat × List Nat) := [(0, [0, 1]), (1, [0, 1, 5]), (2, [0, 1, 5, 6]), (3, [0, 1, 5, 6, 11]), (4, [0, 1, 5, 6]), (5, [0, 1, 5, 6]), (6, [0, 1, 5, 6]), (7, [4])]
def m46 : MC :=
  (.seq
    (.reg false [0, 1] [⟨(some 4), none, false, .mov (.k .nil)⟩])
    (.seq
      (.reg false [0, 1, 5] [⟨(some 7), none, true, .bs 1 0 (.int .i64 0) []⟩,
         ⟨(some 5), none, false, .mov (.t 7)⟩])
      (.seq
        (.seq
          (.reg false [0, 1, 5, 6] [⟨(some 6), none, false, .mov (.k (.d (.int .i64 0)))⟩])
          (.block 0
            (.loop
              (.seq
                (.seq
                  (.reg false [0, 1, 5, 6, 11] [⟨(some 8), none, false, .mov (.t 6)⟩,
                     ⟨(some 9), none, false, .mov (.t 1)⟩,
                     ⟨(some 10), none, false, .len false (.t 9)⟩,
                     ⟨(some 11), none, false, .bin .lss (.t 8) (.t 10)⟩])
                  (.cond (.t 11)
                    .skip
                    (.exit 0)))
                (.seq
                  (.block 1
                    (.seq
                      (.reg true [0, 1, 5, 6] [⟨(some 14), none, false, .mov (.t 0)⟩,
                         ⟨(some 15), none, false, .mov (.t 1)⟩,
                         ⟨(some 16), none, false, .mov (.t 6)⟩,
                         ⟨(some 17), none, false, .ia 5 (.t 15) (.t 16)⟩,
                         ⟨(some 18), none, false, .fa 1 1 (.t 17)⟩,
                         ⟨(some 19), none, false, .ld none (.t 18)⟩,
                         ⟨(some 20), none, false, .bin .add (.t 14) (.t 19)⟩,
                         ⟨(some 21), none, false, .mov (.t 1)⟩,
                         ⟨(some 22), none, false, .mov (.t 6)⟩,
                         ⟨(some 23), none, false, .ia 5 (.t 21) (.t 22)⟩,
                         ⟨(some 24), none, false, .ld (some 5) (.t 23)⟩,
                         ⟨(some 25), none, false, .callP 47 [(.t 24)]⟩,
                         ⟨(some 26), none, false, .bin .sub (.t 20) (.t 25)⟩,
                         ⟨(some 0), none, false, .mov (.t 26)⟩])
                      (.reg false [0, 1, 5, 6] [⟨(some 27), none, false, .mov (.t 5)⟩,
                         ⟨(some 28), none, false, .mov (.t 0)⟩,
                         ⟨(some 29), none, true, .bs 1 1 (.int .i64 0) [(0, (.t 28))]⟩,
                         ⟨(some 30), none, true, .app 1 8 (.t 27) (.t 29)⟩,
                         ⟨(some 5), none, false, .mov (.t 30)⟩])))
                  (.reg false [0, 1, 5, 6] [⟨(some 12), none, false, .mov (.t 6)⟩,
                     ⟨(some 13), none, false, .bin .add (.t 12) (.k (.d (.int .i64 1)))⟩,
                     ⟨(some 6), none, false, .mov (.t 13)⟩]))))))
        (.seq
          (.reg false [4] [⟨(some 31), none, false, .mov (.t 5)⟩,
             ⟨(some 4), none, false, .mov (.t 31)⟩])
          .ret))))
theorem c46 : (Go.Proofs.Try.f46).body.bind (comp (Go.Proofs.Try.prog) (0, (Go.Proofs.Try.f46).ntmps) lv46) = some m46 := by kernel_rfl
theorem r46 : resOK (Go.Proofs.Try.prog) (Go.Proofs.Try.f46).results.toList = true := by kernel_rfl

/-- spec.l26Gone -/
def lv47 : List (Nat × List Nat) := [(0, [1]), (1, [2])]
def m47 : MC :=
  (.seq
    (.reg false [1] [⟨(some 1), none, true, .box (.t 0)⟩,
       ⟨(some 2), none, false, .mov (.k (.d (.int .i64 0)))⟩])
    (.seq
      (.reg false [2] [⟨(some 3), none, false, .fa 2 2 (.t 1)⟩,
         ⟨(some 4), none, false, .ld none (.t 3)⟩,
         ⟨(some 5), none, false, .fa 3 3 (.t 1)⟩,
         ⟨(some 6), none, false, .ld none (.t 5)⟩,
         ⟨(some 7), none, false, .bin .add (.t 4) (.t 6)⟩,
         ⟨(some 8), none, false, .fa 4 4 (.t 1)⟩,
         ⟨(some 9), none, false, .ld none (.t 8)⟩,
         ⟨(some 10), none, false, .bin .add (.t 7) (.t 9)⟩,
         ⟨(some 2), none, false, .mov (.t 10)⟩])
      .ret))
theorem c47 : (Go.Proofs.Try.f47).body.bind (comp (Go.Proofs.Try.prog) (1, (Go.Proofs.Try.f47).ntmps) lv47) = some m47 := by kernel_rfl
theorem r47 : resOK (Go.Proofs.Try.prog) (Go.Proofs.Try.f47).results.toList = true := by kernel_rfl

/-- impl.YearRow).gone -/
def lv48 : List (Nat × List Nat) := [(0, [1]), (1, [2])]
def m48 : MC :=
  (.seq
    (.reg false [1] [⟨(some 1), none, true, .box (.t 0)⟩,
       ⟨(some 2), none, false, .mov (.k (.d (.int .i64 0)))⟩])
    (.seq
      (.reg false [2] [⟨(some 3), none, false, .fa 2 2 (.t 1)⟩,
         ⟨(some 4), none, false, .ld none (.t 3)⟩,
         ⟨(some 5), none, false, .fa 3 3 (.t 1)⟩,
         ⟨(some 6), none, false, .ld none (.t 5)⟩,
         ⟨(some 7), none, false, .bin .add (.t 4) (.t 6)⟩,
         ⟨(some 8), none, false, .fa 4 4 (.t 1)⟩,
         ⟨(some 9), none, false, .ld none (.t 8)⟩,
         ⟨(some 10), none, false, .bin .add (.t 7) (.t 9)⟩,
         ⟨(some 2), none, false, .mov (.t 10)⟩])
      .ret))
theorem c48 : (Go.Proofs.Try.f48).body.bind (comp (Go.Proofs.Try.prog) (1, (Go.Proofs.Try.f48).ntmps) lv48) = some m48 := by kernel_rfl
theorem r48 : resOK (Go.Proofs.Try.prog) (Go.Proofs.Try.f48).results.toList = true := by kernel_rfl

/-- impl.ceilDiv -/
def lv49 : List (Nat × List Nat) := [(0, [0, 1]), (1, [4])]
def m49 : MC :=
  (.seq
    (.reg false [0, 1] [⟨(some 4), none, false, .mov (.k (.d (.int .i64 0)))⟩])
    (.seq
      (.reg false [4] [⟨(some 5), none, false, .mov (.t 0)⟩,
         ⟨(some 6), none, false, .mov (.t 1)⟩,
         ⟨(some 7), none, false, .bin .add (.t 5) (.t 6)⟩,
         ⟨(some 8), none, false, .bin .sub (.t 7) (.k (.d (.int .i64 1)))⟩,
         ⟨(some 9), none, false, .mov (.t 1)⟩,
         ⟨(some 10), none, false, .bin .quo (.t 8) (.t 9)⟩,
         ⟨(some 4), none, false, .mov (.t 10)⟩])
      .ret))
theorem c49 : (Go.Proofs.Try.f49).body.bind (comp (Go.Proofs.Try.prog) (2, (Go.Proofs.Try.f49).ntmps) lv49) = some m49 := by kernel_rfl
theorem r49 : resOK (Go.Proofs.Try.prog) (Go.Proofs.Try.f49).results.toList = true := by kernel_rfl

/-- slices.Max[[]int,int] loops: 0=x 3=m 4=i -/
def lv50 : List (Nat × List Nat) := [(0, [0]), (1, [0, 7]), (2, [0]), (3, [0, 3]), (4, [0, 3, 4]), (5, [0, 3, 4, 15]), (6, [0, 3, 4]), (7, [0, 3, 4]), (8, [2])]
def m50 : MC :=
  (.seq
    (.reg false [0] [⟨(some 2), none, false, .mov (.k (.d (.int .i64 0)))⟩])
    (.seq
      (.seq
        (.reg false [0, 7] [⟨(some 5), none, false, .mov (.t 0)⟩,
           ⟨(some 6), none, false, .len false (.t 5)⟩,
           ⟨(some 7), none, false, .bin .lss (.t 6) (.k (.d (.int .i64 1)))⟩])
        (.cond (.t 7)
          .hole
          .skip))
      (.seq
        (.reg false [0, 3] [⟨(some 9), none, false, .mov (.t 0)⟩,
           ⟨(some 10), none, false, .ia 1 (.t 9) (.k (.d (.int .i64 0)))⟩,
           ⟨(some 11), none, false, .ld none (.t 10)⟩,
           ⟨(some 3), none, false, .mov (.t 11)⟩])
        (.seq
          (.seq
            (.reg false [0, 3, 4] [⟨(some 4), none, false, .mov (.k (.d (.int .i64 1)))⟩])
            (.block 0
              (.loop
                (.seq
                  (.seq
                    (.reg false [0, 3, 4, 15] [⟨(some 12), none, false, .mov (.t 4)⟩,
                       ⟨(some 13), none, false, .mov (.t 0)⟩,
                       ⟨(some 14), none, false, .len false (.t 13)⟩,
                       ⟨(some 15), none, false, .bin .lss (.t 12) (.t 14)⟩])
                    (.cond (.t 15)
                      .skip
                      (.exit 0)))
                  (.seq
                    (.block 1
                      (.reg false [0, 3, 4] [⟨(some 18), none, false, .mov (.t 3)⟩,
                         ⟨(some 19), none, false, .mov (.t 0)⟩,
                         ⟨(some 20), none, false, .mov (.t 4)⟩,
                         ⟨(some 21), none, false, .ia 1 (.t 19) (.t 20)⟩,
                         ⟨(some 22), none, false, .ld none (.t 21)⟩,
                         ⟨(some 23), none, false, .mx true (.t 18) (.t 22)⟩,
                         ⟨(some 3), none, false, .mov (.t 23)⟩]))
                    (.reg false [0, 3, 4] [⟨(some 16), none, false, .mov (.t 4)⟩,
                       ⟨(some 17), none, false, .bin .add (.t 16) (.k (.d (.int .i64 1)))⟩,
                       ⟨(some 4), none, false, .mov (.t 17)⟩]))))))
          (.seq
            (.reg false [2] [⟨(some 24), none, false, .mov (.t 3)⟩,
               ⟨(some 2), none, false, .mov (.t 24)⟩])
            .ret)))))
theorem c50 : (Go.Proofs.Try.f50).body.bind (comp (Go.Proofs.Try.prog) (1, (Go.Proofs.Try.f50).ntmps) lv50) = some m50 := by kernel_rfl
theorem r50 : resOK (Go.Proofs.Try.prog) (Go.Proofs.Try.f50).results.toList = true := by kernel_rfl

end Go.Pe.Try
