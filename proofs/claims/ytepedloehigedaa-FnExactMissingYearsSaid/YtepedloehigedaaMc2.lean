/-
The compact code of the functions of seat Ytepedloehigedaa, printed by gen.py, each with the proof that the machine's code is compiled to it.
-/
import Derived.Test.YtepedloehigedaaPeC
import Derived.Test.YtepedloehigedaaProg
import Derived.KernelRfl
set_option maxRecDepth 100000
namespace Go.Pe.Try
open Go.Pe

/-- spec.YearsToClear -/
def lv19 : List (Nat × List Nat) := [(0, [0, 1]), (1, [0, 1, 6]), (2, [0, 1, 6, 18]), (3, [4, 5]), (4, [7, 8]), (5, [7, 8, 33]), (6, [4, 5]), (7, [4, 5])]
def m19 : MC :=
  (.seq
    (.reg false [0, 1] [⟨(some 4), none, false, .mov (.k (.d (.int .i64 0)))⟩,
       ⟨(some 5), none, false, .mov (.k (.d (.bool false)))⟩])
    (.seq
      (.reg false [0, 1, 6] [⟨(some 9), none, false, .mov (.t 1)⟩,
         ⟨(some 10), none, false, .len false (.t 9)⟩,
         ⟨(some 6), none, false, .mov (.t 10)⟩])
      (.seq
        (.seq
          (.reg false [0, 1, 6, 18] [⟨(some 11), none, false, .mov (.t 0)⟩,
             ⟨(some 12), none, false, .mov (.t 1)⟩,
             ⟨(some 13), none, true, .call 43 [(.t 11), (.t 12)]⟩,
             ⟨(some 14), none, false, .un .not (.t 13)⟩,
             ⟨(some 15), none, false, .mov (.t 14)⟩,
             ⟨(some 16), (some (15, false)), false, .mov (.t 6)⟩,
             ⟨(some 17), (some (15, false)), false, .bin .eql (.t 16) (.k (.d (.int .i64 0)))⟩,
             ⟨(some 18), none, false, .pick (.t 15) (.k (.d (.bool true))) (.t 17)⟩])
          (.cond (.t 18)
            (.seq
              (.reg false [4, 5] [⟨(some 4), none, false, .mov (.k (.d (.int .i64 0)))⟩,
                 ⟨(some 5), none, false, .mov (.k (.d (.bool false)))⟩])
              .ret)
            .skip))
        (.seq
          (.reg true [7, 8] [⟨(some 19), none, false, .mov (.t 0)⟩,
             ⟨(some 20), none, false, .mov (.t 1)⟩,
             ⟨(some 21), none, false, .callP 46 [(.t 19), (.t 20)]⟩,
             ⟨(some 22), none, false, .mov (.t 6)⟩,
             ⟨(some 23), none, false, .bin .sub (.t 22) (.k (.d (.int .i64 1)))⟩,
             ⟨(some 24), none, false, .ia 1 (.t 21) (.t 23)⟩,
             ⟨(some 25), none, false, .ld none (.t 24)⟩,
             ⟨(some 26), none, false, .mov (.t 1)⟩,
             ⟨(some 27), none, false, .mov (.t 6)⟩,
             ⟨(some 28), none, false, .bin .sub (.t 27) (.k (.d (.int .i64 1)))⟩,
             ⟨(some 29), none, false, .ia 5 (.t 26) (.t 28)⟩,
             ⟨(some 30), none, false, .ld (some 5) (.t 29)⟩,
             ⟨(some 31), none, false, .callP 47 [(.t 30)]⟩,
             ⟨(some 7), none, false, .mov (.t 25)⟩,
             ⟨(some 8), none, false, .mov (.t 31)⟩])
          (.seq
            (.seq
              (.reg false [7, 8, 33] [⟨(some 32), none, false, .mov (.t 8)⟩,
                 ⟨(some 33), none, false, .bin .eql (.t 32) (.k (.d (.int .i64 0)))⟩])
              (.cond (.t 33)
                (.seq
                  (.reg false [4, 5] [⟨(some 34), none, false, .mov (.t 7)⟩,
                     ⟨(some 35), none, false, .bin .eql (.t 34) (.k (.d (.int .i64 0)))⟩,
                     ⟨(some 4), none, false, .mov (.k (.d (.int .i64 0)))⟩,
                     ⟨(some 5), none, false, .mov (.t 35)⟩])
                  .ret)
                .skip))
            (.seq
              (.reg false [4, 5] [⟨(some 36), none, false, .mov (.t 7)⟩,
                 ⟨(some 37), none, false, .mov (.t 8)⟩,
                 ⟨(some 38), none, false, .bin .add (.t 36) (.t 37)⟩,
                 ⟨(some 39), none, false, .bin .sub (.t 38) (.k (.d (.int .i64 1)))⟩,
                 ⟨(some 40), none, false, .mov (.t 8)⟩,
                 ⟨(some 41), none, false, .bin .quo (.t 39) (.t 40)⟩,
                 ⟨(some 4), none, false, .mov (.t 41)⟩,
                 ⟨(some 5), none, false, .mov (.k (.d (.bool true)))⟩])
              .ret))))))
theorem c19 : (Go.Proofs.Try.f19).body.bind (comp (Go.Proofs.Try.prog) (2, (Go.Proofs.Try.f19).ntmps) lv19) = some m19 := by kernel_rfl
theorem r19 : resOK (Go.Proofs.Try.prog) (Go.Proofs.Try.f19).results.toList = true := by kernel_rfl

/-- impl.YearsToClear -/
def lv20 : List (Nat × List Nat) := [(0, [0, 1]), (1, [1, 6, 7]), (2, [1, 6, 22]), (3, [4, 5]), (4, [8, 9]), (5, [8, 9, 36]), (6, [4, 5]), (7, [8, 9, 39]), (8, [4, 5]), (9, [4, 5])]
def m20 : MC :=
  (.seq
    (.reg false [0, 1] [⟨(some 4), none, false, .mov (.k (.d (.int .i64 0)))⟩,
       ⟨(some 5), none, false, .mov (.k (.d (.bool false)))⟩])
    (.seq
      (.reg false [1, 6, 7] [⟨(some 11), none, false, .mov (.t 0)⟩,
         ⟨(some 12), none, false, .mov (.t 1)⟩,
         ⟨(some 13), none, true, .call 44 [(.t 11), (.t 12)]⟩,
         ⟨(some 10), none, false, .mov (.t 13)⟩,
         ⟨(some 14), none, false, .ext (.t 10) 0⟩,
         ⟨(some 15), none, false, .ext (.t 10) 1⟩,
         ⟨(some 6), none, false, .mov (.t 14)⟩,
         ⟨(some 7), none, false, .mov (.t 15)⟩])
      (.seq
        (.seq
          (.reg false [1, 6, 22] [⟨(some 16), none, false, .mov (.t 7)⟩,
             ⟨(some 17), none, false, .un .not (.t 16)⟩,
             ⟨(some 18), none, false, .mov (.t 17)⟩,
             ⟨(some 19), (some (18, false)), false, .mov (.t 6)⟩,
             ⟨(some 20), (some (18, false)), false, .len false (.t 19)⟩,
             ⟨(some 21), (some (18, false)), false, .bin .eql (.t 20) (.k (.d (.int .i64 0)))⟩,
             ⟨(some 22), none, false, .pick (.t 18) (.k (.d (.bool true))) (.t 21)⟩])
          (.cond (.t 22)
            (.seq
              (.reg false [4, 5] [⟨(some 4), none, false, .mov (.k (.d (.int .i64 0)))⟩,
                 ⟨(some 5), none, false, .mov (.k (.d (.bool false)))⟩])
              .ret)
            .skip))
        (.seq
          (.reg true [8, 9] [⟨(some 23), none, false, .mov (.t 6)⟩,
             ⟨(some 24), none, false, .mov (.t 6)⟩,
             ⟨(some 25), none, false, .len false (.t 24)⟩,
             ⟨(some 26), none, false, .bin .sub (.t 25) (.k (.d (.int .i64 1)))⟩,
             ⟨(some 27), none, false, .ia 1 (.t 23) (.t 26)⟩,
             ⟨(some 28), none, false, .ld none (.t 27)⟩,
             ⟨(some 29), none, false, .mov (.t 1)⟩,
             ⟨(some 30), none, false, .mov (.t 1)⟩,
             ⟨(some 31), none, false, .len false (.t 30)⟩,
             ⟨(some 32), none, false, .bin .sub (.t 31) (.k (.d (.int .i64 1)))⟩,
             ⟨(some 33), none, false, .ia 5 (.t 29) (.t 32)⟩,
             ⟨(some 34), none, false, .ld (some 5) (.t 33)⟩,
             ⟨(some 35), none, false, .callP 48 [(.t 34)]⟩,
             ⟨(some 8), none, false, .mov (.t 28)⟩,
             ⟨(some 9), none, false, .mov (.t 35)⟩])
          (.seq
            (.block 0
              (.seq
                (.reg false [8, 9, 36] [⟨(some 37), none, false, .mov (.t 8)⟩,
                   ⟨(some 38), none, false, .bin .eql (.t 37) (.k (.d (.int .i64 0)))⟩,
                   ⟨(some 36), none, false, .mov (.t 38)⟩])
                (.cond (.t 36)
                  (.seq
                    (.reg false [4, 5] [⟨(some 4), none, false, .mov (.k (.d (.int .i64 0)))⟩,
                       ⟨(some 5), none, false, .mov (.k (.d (.bool true)))⟩])
                    .ret)
                  (.seq
                    (.reg false [8, 9, 39] [⟨(some 40), none, false, .mov (.t 9)⟩,
                       ⟨(some 41), none, false, .bin .eql (.t 40) (.k (.d (.int .i64 0)))⟩,
                       ⟨(some 39), none, false, .mov (.t 41)⟩])
                    (.cond (.t 39)
                      (.seq
                        (.reg false [4, 5] [⟨(some 4), none, false, .mov (.k (.d (.int .i64 0)))⟩,
                           ⟨(some 5), none, false, .mov (.k (.d (.bool false)))⟩])
                        .ret)
                      .skip)))))
            (.seq
              (.reg false [4, 5] [⟨(some 42), none, false, .mov (.t 8)⟩,
                 ⟨(some 43), none, false, .mov (.t 9)⟩,
                 ⟨(some 44), none, true, .call 49 [(.t 42), (.t 43)]⟩,
                 ⟨(some 4), none, false, .mov (.t 44)⟩,
                 ⟨(some 5), none, false, .mov (.k (.d (.bool true)))⟩])
              .ret))))))
theorem c20 : (Go.Proofs.Try.f20).body.bind (comp (Go.Proofs.Try.prog) (2, (Go.Proofs.Try.f20).ntmps) lv20) = some m20 := by kernel_rfl
theorem r20 : resOK (Go.Proofs.Try.prog) (Go.Proofs.Try.f20).results.toList = true := by kernel_rfl

/-- spec.LargestRest loops: 1=list 7=rests 8=best 9=i -/
def lv21 : List (Nat × List Nat) := [(0, [0, 1]), (1, [0, 1, 18]), (2, [4, 5, 6]), (3, [1, 7]), (4, [1, 7, 8]), (5, [1, 7, 8, 9]), (6, [1, 7, 8, 9, 25]), (7, [1, 7, 8, 9]), (8, [1, 7, 8, 9, 36]), (9, [1, 7, 8, 9]), (10, [4, 5, 6])]
def m21 : MC :=
  (.seq
    (.reg false [0, 1] [⟨(some 4), none, false, .mov (.k (.d (.int .i64 0)))⟩,
       ⟨(some 5), none, false, .mov (.k (.d (.int .i64 0)))⟩,
       ⟨(some 6), none, false, .mov (.k (.d (.bool false)))⟩])
    (.seq
      (.seq
        (.reg false [0, 1, 18] [⟨(some 10), none, false, .mov (.t 0)⟩,
           ⟨(some 11), none, false, .mov (.t 1)⟩,
           ⟨(some 12), none, true, .call 43 [(.t 10), (.t 11)]⟩,
           ⟨(some 13), none, false, .un .not (.t 12)⟩,
           ⟨(some 14), none, false, .mov (.t 13)⟩,
           ⟨(some 15), (some (14, false)), false, .mov (.t 1)⟩,
           ⟨(some 16), (some (14, false)), false, .len false (.t 15)⟩,
           ⟨(some 17), (some (14, false)), false, .bin .eql (.t 16) (.k (.d (.int .i64 0)))⟩,
           ⟨(some 18), none, false, .pick (.t 14) (.k (.d (.bool true))) (.t 17)⟩])
        (.cond (.t 18)
          (.seq
            (.reg false [4, 5, 6] [⟨(some 4), none, false, .mov (.k (.d (.int .i64 0)))⟩,
               ⟨(some 5), none, false, .mov (.k (.d (.int .i64 0)))⟩,
               ⟨(some 6), none, false, .mov (.k (.d (.bool false)))⟩])
            .ret)
          .skip))
      (.seq
        (.reg false [1, 7] [⟨(some 19), none, false, .mov (.t 0)⟩,
           ⟨(some 20), none, false, .mov (.t 1)⟩,
           ⟨(some 21), none, true, .call 46 [(.t 19), (.t 20)]⟩,
           ⟨(some 7), none, false, .mov (.t 21)⟩])
        (.seq
          (.reg false [1, 7, 8] [⟨(some 8), none, false, .mov (.k (.d (.int .i64 0)))⟩])
          (.seq
            (.seq
              (.reg false [1, 7, 8, 9] [⟨(some 9), none, false, .mov (.k (.d (.int .i64 1)))⟩])
              (.block 0
                (.loop
                  (.seq
                    (.seq
                      (.reg false [1, 7, 8, 9, 25] [⟨(some 22), none, false, .mov (.t 9)⟩,
                         ⟨(some 23), none, false, .mov (.t 7)⟩,
                         ⟨(some 24), none, false, .len false (.t 23)⟩,
                         ⟨(some 25), none, false, .bin .lss (.t 22) (.t 24)⟩])
                      (.cond (.t 25)
                        .skip
                        (.exit 0)))
                    (.seq
                      (.block 1
                        (.seq
                          (.reg true [1, 7, 8, 9, 36] [⟨(some 28), none, false, .mov (.t 7)⟩,
                             ⟨(some 29), none, false, .mov (.t 9)⟩,
                             ⟨(some 30), none, false, .ia 1 (.t 28) (.t 29)⟩,
                             ⟨(some 31), none, false, .ld none (.t 30)⟩,
                             ⟨(some 32), none, false, .mov (.t 7)⟩,
                             ⟨(some 33), none, false, .mov (.t 8)⟩,
                             ⟨(some 34), none, false, .ia 1 (.t 32) (.t 33)⟩,
                             ⟨(some 35), none, false, .ld none (.t 34)⟩,
                             ⟨(some 36), none, false, .bin .gtr (.t 31) (.t 35)⟩])
                          (.cond (.t 36)
                            (.reg false [1, 7, 8, 9] [⟨(some 37), none, false, .mov (.t 9)⟩,
                               ⟨(some 8), none, false, .mov (.t 37)⟩])
                            .skip)))
                      (.reg false [1, 7, 8, 9] [⟨(some 26), none, false, .mov (.t 9)⟩,
                         ⟨(some 27), none, false, .bin .add (.t 26) (.k (.d (.int .i64 1)))⟩,
                         ⟨(some 9), none, false, .mov (.t 27)⟩]))))))
            (.seq
              (.reg true [4, 5, 6] [⟨(some 38), none, false, .mov (.t 1)⟩,
                 ⟨(some 39), none, false, .mov (.t 8)⟩,
                 ⟨(some 40), none, false, .ia 5 (.t 38) (.t 39)⟩,
                 ⟨(some 41), none, false, .fa 0 0 (.t 40)⟩,
                 ⟨(some 42), none, false, .ld none (.t 41)⟩,
                 ⟨(some 43), none, false, .mov (.t 7)⟩,
                 ⟨(some 44), none, false, .mov (.t 8)⟩,
                 ⟨(some 45), none, false, .ia 1 (.t 43) (.t 44)⟩,
                 ⟨(some 46), none, false, .ld none (.t 45)⟩,
                 ⟨(some 4), none, false, .mov (.t 42)⟩,
                 ⟨(some 5), none, false, .mov (.t 46)⟩,
                 ⟨(some 6), none, false, .mov (.k (.d (.bool true)))⟩])
              .ret))))))
theorem c21 : (Go.Proofs.Try.f21).body.bind (comp (Go.Proofs.Try.prog) (2, (Go.Proofs.Try.f21).ntmps) lv21) = some m21 := by kernel_rfl
theorem r21 : resOK (Go.Proofs.Try.prog) (Go.Proofs.Try.f21).results.toList = true := by kernel_rfl

/-- impl.LargestRest -/
def lv22 : List (Nat × List Nat) := [(0, [0, 1]), (1, [1, 7, 8]), (2, [1, 7, 22]), (3, [4, 5, 6]), (4, [1, 7, 9]), (5, [4, 5, 6])]
def m22 : MC :=
  (.seq
    (.reg false [0, 1] [⟨(some 4), none, false, .mov (.k (.d (.int .i64 0)))⟩,
       ⟨(some 5), none, false, .mov (.k (.d (.int .i64 0)))⟩,
       ⟨(some 6), none, false, .mov (.k (.d (.bool false)))⟩])
    (.seq
      (.reg false [1, 7, 8] [⟨(some 11), none, false, .mov (.t 0)⟩,
         ⟨(some 12), none, false, .mov (.t 1)⟩,
         ⟨(some 13), none, true, .call 44 [(.t 11), (.t 12)]⟩,
         ⟨(some 10), none, false, .mov (.t 13)⟩,
         ⟨(some 14), none, false, .ext (.t 10) 0⟩,
         ⟨(some 15), none, false, .ext (.t 10) 1⟩,
         ⟨(some 7), none, false, .mov (.t 14)⟩,
         ⟨(some 8), none, false, .mov (.t 15)⟩])
      (.seq
        (.seq
          (.reg false [1, 7, 22] [⟨(some 16), none, false, .mov (.t 8)⟩,
             ⟨(some 17), none, false, .un .not (.t 16)⟩,
             ⟨(some 18), none, false, .mov (.t 17)⟩,
             ⟨(some 19), (some (18, false)), false, .mov (.t 7)⟩,
             ⟨(some 20), (some (18, false)), false, .len false (.t 19)⟩,
             ⟨(some 21), (some (18, false)), false, .bin .eql (.t 20) (.k (.d (.int .i64 0)))⟩,
             ⟨(some 22), none, false, .pick (.t 18) (.k (.d (.bool true))) (.t 21)⟩])
          (.cond (.t 22)
            (.seq
              (.reg false [4, 5, 6] [⟨(some 4), none, false, .mov (.k (.d (.int .i64 0)))⟩,
                 ⟨(some 5), none, false, .mov (.k (.d (.int .i64 0)))⟩,
                 ⟨(some 6), none, false, .mov (.k (.d (.bool false)))⟩])
              .ret)
            .skip))
        (.seq
          (.reg false [1, 7, 9] [⟨(some 23), none, false, .mov (.t 7)⟩,
             ⟨(some 24), none, true, .call 50 [(.t 23)]⟩,
             ⟨(some 9), none, false, .mov (.t 24)⟩])
          (.seq
            (.reg false [4, 5, 6] [⟨(some 25), none, false, .mov (.t 1)⟩,
               ⟨(some 26), none, false, .mov (.t 7)⟩,
               ⟨(some 27), none, false, .mov (.t 9)⟩,
               ⟨(some 28), none, true, .call 51 [(.t 26), (.t 27)]⟩,
               ⟨(some 29), none, false, .ia 5 (.t 25) (.t 28)⟩,
               ⟨(some 30), none, false, .fa 0 0 (.t 29)⟩,
               ⟨(some 31), none, false, .ld none (.t 30)⟩,
               ⟨(some 32), none, false, .mov (.t 9)⟩,
               ⟨(some 4), none, false, .mov (.t 31)⟩,
               ⟨(some 5), none, false, .mov (.t 32)⟩,
               ⟨(some 6), none, false, .mov (.k (.d (.bool true)))⟩])
            .ret)))))
theorem c22 : (Go.Proofs.Try.f22).body.bind (comp (Go.Proofs.Try.prog) (2, (Go.Proofs.Try.f22).ntmps) lv22) = some m22 := by kernel_rfl
theorem r22 : resOK (Go.Proofs.Try.prog) (Go.Proofs.Try.f22).results.toList = true := by kernel_rfl

/-- spec.RestsAfter -/
def lv23 : List (Nat × List Nat) := [(0, [0, 1]), (1, [0, 1, 9]), (2, [4, 5]), (3, [4, 5])]
def m23 : MC :=
  (.seq
    (.reg false [0, 1] [⟨(some 4), none, false, .mov (.k .nil)⟩,
       ⟨(some 5), none, false, .mov (.k (.d (.bool false)))⟩])
    (.seq
      (.seq
        (.reg false [0, 1, 9] [⟨(some 6), none, false, .mov (.t 0)⟩,
           ⟨(some 7), none, false, .mov (.t 1)⟩,
           ⟨(some 8), none, true, .call 43 [(.t 6), (.t 7)]⟩,
           ⟨(some 9), none, false, .un .not (.t 8)⟩])
        (.cond (.t 9)
          (.seq
            (.reg false [4, 5] [⟨(some 10), none, true, .bs 1 0 (.int .i64 0) []⟩,
               ⟨(some 4), none, false, .mov (.t 10)⟩,
               ⟨(some 5), none, false, .mov (.k (.d (.bool false)))⟩])
            .ret)
          .skip))
      (.seq
        (.reg false [4, 5] [⟨(some 11), none, false, .mov (.t 0)⟩,
           ⟨(some 12), none, false, .mov (.t 1)⟩,
           ⟨(some 13), none, true, .call 46 [(.t 11), (.t 12)]⟩,
           ⟨(some 4), none, false, .mov (.t 13)⟩,
           ⟨(some 5), none, false, .mov (.k (.d (.bool true)))⟩])
        .ret)))
theorem c23 : (Go.Proofs.Try.f23).body.bind (comp (Go.Proofs.Try.prog) (2, (Go.Proofs.Try.f23).ntmps) lv23) = some m23 := by kernel_rfl
theorem r23 : resOK (Go.Proofs.Try.prog) (Go.Proofs.Try.f23).results.toList = true := by kernel_rfl

/-- impl.RestsAfter -/
def lv24 : List (Nat × List Nat) := [(0, [0, 1]), (1, [4, 5])]
def m24 : MC :=
  (.seq
    (.reg false [0, 1] [⟨(some 4), none, false, .mov (.k .nil)⟩,
       ⟨(some 5), none, false, .mov (.k (.d (.bool false)))⟩])
    (.seq
      (.reg false [4, 5] [⟨(some 6), none, false, .mov (.t 0)⟩,
         ⟨(some 7), none, false, .mov (.t 1)⟩,
         ⟨(some 8), none, true, .call 44 [(.t 6), (.t 7)]⟩,
         ⟨(some 9), none, false, .ext (.t 8) 0⟩,
         ⟨(some 10), none, false, .ext (.t 8) 1⟩,
         ⟨(some 4), none, false, .mov (.t 9)⟩,
         ⟨(some 5), none, false, .mov (.t 10)⟩])
      .ret))
theorem c24 : (Go.Proofs.Try.f24).body.bind (comp (Go.Proofs.Try.prog) (2, (Go.Proofs.Try.f24).ntmps) lv24) = some m24 := by kernel_rfl
theorem r24 : resOK (Go.Proofs.Try.prog) (Go.Proofs.Try.f24).results.toList = true := by kernel_rfl

/-- laws.eqIntS loops: 0=a 1=b 5=i -/
def lv25 : List (Nat × List Nat) := [(0, [0, 1]), (1, [0, 1, 10]), (2, [4]), (3, [0, 1, 5]), (4, [0, 1, 5, 14]), (5, [0, 1, 5]), (6, [0, 1, 5, 25]), (7, [4]), (8, [4])]
def m25 : MC :=
  (.seq
    (.reg false [0, 1] [⟨(some 4), none, false, .mov (.k (.d (.bool false)))⟩])
    (.seq
      (.seq
        (.reg false [0, 1, 10] [⟨(some 6), none, false, .mov (.t 0)⟩,
           ⟨(some 7), none, false, .len false (.t 6)⟩,
           ⟨(some 8), none, false, .mov (.t 1)⟩,
           ⟨(some 9), none, false, .len false (.t 8)⟩,
           ⟨(some 10), none, false, .bin .neq (.t 7) (.t 9)⟩])
        (.cond (.t 10)
          (.seq
            (.reg false [4] [⟨(some 4), none, false, .mov (.k (.d (.bool false)))⟩])
            .ret)
          .skip))
      (.seq
        (.seq
          (.reg false [0, 1, 5] [⟨(some 5), none, false, .mov (.k (.d (.int .i64 0)))⟩])
          (.block 0
            (.loop
              (.seq
                (.seq
                  (.reg false [0, 1, 5, 14] [⟨(some 11), none, false, .mov (.t 5)⟩,
                     ⟨(some 12), none, false, .mov (.t 0)⟩,
                     ⟨(some 13), none, false, .len false (.t 12)⟩,
                     ⟨(some 14), none, false, .bin .lss (.t 11) (.t 13)⟩])
                  (.cond (.t 14)
                    .skip
                    (.exit 0)))
                (.seq
                  (.block 1
                    (.seq
                      (.reg true [0, 1, 5, 25] [⟨(some 17), none, false, .mov (.t 0)⟩,
                         ⟨(some 18), none, false, .mov (.t 5)⟩,
                         ⟨(some 19), none, false, .ia 1 (.t 17) (.t 18)⟩,
                         ⟨(some 20), none, false, .ld none (.t 19)⟩,
                         ⟨(some 21), none, false, .mov (.t 1)⟩,
                         ⟨(some 22), none, false, .mov (.t 5)⟩,
                         ⟨(some 23), none, false, .ia 1 (.t 21) (.t 22)⟩,
                         ⟨(some 24), none, false, .ld none (.t 23)⟩,
                         ⟨(some 25), none, false, .bin .neq (.t 20) (.t 24)⟩])
                      (.cond (.t 25)
                        (.seq
                          (.reg false [4] [⟨(some 4), none, false, .mov (.k (.d (.bool false)))⟩])
                          .ret)
                        .skip)))
                  (.reg false [0, 1, 5] [⟨(some 15), none, false, .mov (.t 5)⟩,
                     ⟨(some 16), none, false, .bin .add (.t 15) (.k (.d (.int .i64 1)))⟩,
                     ⟨(some 5), none, false, .mov (.t 16)⟩]))))))
        (.seq
          (.reg false [4] [⟨(some 4), none, false, .mov (.k (.d (.bool true)))⟩])
          .ret))))
theorem c25 : (Go.Proofs.Try.f25).body.bind (comp (Go.Proofs.Try.prog) (2, (Go.Proofs.Try.f25).ntmps) lv25) = some m25 := by kernel_rfl
theorem r25 : resOK (Go.Proofs.Try.prog) (Go.Proofs.Try.f25).results.toList = true := by kernel_rfl

/-- laws.markYearRowS loops: 0=a 1=k 5=i -/
def lv26 : List (Nat × List Nat) := [(0, [0, 1]), (1, [0, 1, 5]), (2, [0, 1, 5, 9]), (3, [0, 1, 5]), (4, [0, 1, 5]), (5, [0, 1, 5]), (6, [0, 1, 5]), (7, [0, 1, 5]), (8, [0, 1, 5]), (9, [0, 1, 5]), (10, [0, 1, 5]), (11, [0, 1, 5]), (12, [0, 1, 5]), (13, [0, 1, 5]), (14, [0, 4])]
def m26 : MC :=
  (.seq
    (.reg false [0, 1] [⟨(some 4), none, false, .mov (.k (.d (.int .i64 0)))⟩])
    (.seq
      (.seq
        (.reg false [0, 1, 5] [⟨(some 5), none, false, .mov (.k (.d (.int .i64 0)))⟩])
        (.block 0
          (.loop
            (.seq
              (.seq
                (.reg false [0, 1, 5, 9] [⟨(some 6), none, false, .mov (.t 5)⟩,
                   ⟨(some 7), none, false, .mov (.t 0)⟩,
                   ⟨(some 8), none, false, .len false (.t 7)⟩,
                   ⟨(some 9), none, false, .bin .lss (.t 6) (.t 8)⟩])
                (.cond (.t 9)
                  .skip
                  (.exit 0)))
              (.seq
                (.block 1
                  (.seq
                    (.reg false [0, 1, 5] [⟨(some 12), none, false, .mov (.t 0)⟩,
                       ⟨(some 13), none, false, .mov (.t 5)⟩,
                       ⟨(some 14), none, false, .mov (.t 1)⟩,
                       ⟨(some 15), none, false, .ia 5 (.t 12) (.t 13)⟩,
                       ⟨(some 16), none, false, .fa 0 0 (.t 15)⟩,
                       ⟨none, none, true, .st 1 (.t 16) (.t 14)⟩])
                    (.seq
                      (.reg false [0, 1, 5] [⟨(some 17), none, false, .mov (.t 1)⟩,
                         ⟨(some 18), none, false, .bin .add (.t 17) (.k (.d (.int .i64 1)))⟩,
                         ⟨(some 1), none, false, .mov (.t 18)⟩])
                      (.seq
                        (.reg false [0, 1, 5] [⟨(some 19), none, false, .mov (.t 0)⟩,
                           ⟨(some 20), none, false, .mov (.t 5)⟩,
                           ⟨(some 21), none, false, .mov (.t 1)⟩,
                           ⟨(some 22), none, false, .ia 5 (.t 19) (.t 20)⟩,
                           ⟨(some 23), none, false, .fa 1 1 (.t 22)⟩,
                           ⟨none, none, true, .st 1 (.t 23) (.t 21)⟩])
                        (.seq
                          (.reg false [0, 1, 5] [⟨(some 24), none, false, .mov (.t 1)⟩,
                             ⟨(some 25), none, false, .bin .add (.t 24) (.k (.d (.int .i64 1)))⟩,
                             ⟨(some 1), none, false, .mov (.t 25)⟩])
                          (.seq
                            (.reg false [0, 1, 5] [⟨(some 26), none, false, .mov (.t 0)⟩,
                               ⟨(some 27), none, false, .mov (.t 5)⟩,
                               ⟨(some 28), none, false, .mov (.t 1)⟩,
                               ⟨(some 29), none, false, .ia 5 (.t 26) (.t 27)⟩,
                               ⟨(some 30), none, false, .fa 2 2 (.t 29)⟩,
                               ⟨none, none, true, .st 1 (.t 30) (.t 28)⟩])
                            (.seq
                              (.reg false [0, 1, 5] [⟨(some 31), none, false, .mov (.t 1)⟩,
                                 ⟨(some 32), none, false, .bin .add (.t 31) (.k (.d (.int .i64 1)))⟩,
                                 ⟨(some 1), none, false, .mov (.t 32)⟩])
                              (.seq
                                (.reg false [0, 1, 5] [⟨(some 33), none, false, .mov (.t 0)⟩,
                                   ⟨(some 34), none, false, .mov (.t 5)⟩,
                                   ⟨(some 35), none, false, .mov (.t 1)⟩,
                                   ⟨(some 36), none, false, .ia 5 (.t 33) (.t 34)⟩,
                                   ⟨(some 37), none, false, .fa 3 3 (.t 36)⟩,
                                   ⟨none, none, true, .st 1 (.t 37) (.t 35)⟩])
                                (.seq
                                  (.reg false [0, 1, 5] [⟨(some 38), none, false, .mov (.t 1)⟩,
                                     ⟨(some 39), none, false, .bin .add (.t 38) (.k (.d (.int .i64 1)))⟩,
                                     ⟨(some 1), none, false, .mov (.t 39)⟩])
                                  (.seq
                                    (.reg false [0, 1, 5] [⟨(some 40), none, false, .mov (.t 0)⟩,
                                       ⟨(some 41), none, false, .mov (.t 5)⟩,
                                       ⟨(some 42), none, false, .mov (.t 1)⟩,
                                       ⟨(some 43), none, false, .ia 5 (.t 40) (.t 41)⟩,
                                       ⟨(some 44), none, false, .fa 4 4 (.t 43)⟩,
                                       ⟨none, none, true, .st 1 (.t 44) (.t 42)⟩])
                                    (.reg false [0, 1, 5] [⟨(some 45), none, false, .mov (.t 1)⟩,
                                       ⟨(some 46), none, false, .bin .add (.t 45) (.k (.d (.int .i64 1)))⟩,
                                       ⟨(some 1), none, false, .mov (.t 46)⟩])))))))))))
                (.reg false [0, 1, 5] [⟨(some 10), none, false, .mov (.t 5)⟩,
                   ⟨(some 11), none, false, .bin .add (.t 10) (.k (.d (.int .i64 1)))⟩,
                   ⟨(some 5), none, false, .mov (.t 11)⟩]))))))
      (.seq
        (.reg false [0, 4] [⟨(some 47), none, false, .mov (.t 1)⟩,
           ⟨(some 4), none, false, .mov (.t 47)⟩])
        .ret)))
theorem c26 : (Go.Proofs.Try.f26).body.bind (comp (Go.Proofs.Try.prog) (1, (Go.Proofs.Try.f26).ntmps) lv26) = some m26 := by kernel_rfl
theorem r26 : resOK (Go.Proofs.Try.prog) (Go.Proofs.Try.f26).results.toList = true := by kernel_rfl

/-- laws.markIntS loops: 0=a 1=k 5=i -/
def lv27 : List (Nat × List Nat) := [(0, [0, 1]), (1, [0, 1, 5]), (2, [0, 1, 5, 9]), (3, [0, 1, 5]), (4, [0, 1, 5]), (5, [0, 1, 5]), (6, [0, 4])]
def m27 : MC :=
  (.seq
    (.reg false [0, 1] [⟨(some 4), none, false, .mov (.k (.d (.int .i64 0)))⟩])
    (.seq
      (.seq
        (.reg false [0, 1, 5] [⟨(some 5), none, false, .mov (.k (.d (.int .i64 0)))⟩])
        (.block 0
          (.loop
            (.seq
              (.seq
                (.reg false [0, 1, 5, 9] [⟨(some 6), none, false, .mov (.t 5)⟩,
                   ⟨(some 7), none, false, .mov (.t 0)⟩,
                   ⟨(some 8), none, false, .len false (.t 7)⟩,
                   ⟨(some 9), none, false, .bin .lss (.t 6) (.t 8)⟩])
                (.cond (.t 9)
                  .skip
                  (.exit 0)))
              (.seq
                (.block 1
                  (.seq
                    (.reg false [0, 1, 5] [⟨(some 12), none, false, .mov (.t 0)⟩,
                       ⟨(some 13), none, false, .mov (.t 5)⟩,
                       ⟨(some 14), none, false, .mov (.t 1)⟩,
                       ⟨(some 15), none, false, .ia 1 (.t 12) (.t 13)⟩,
                       ⟨none, none, true, .st 1 (.t 15) (.t 14)⟩])
                    (.reg false [0, 1, 5] [⟨(some 16), none, false, .mov (.t 1)⟩,
                       ⟨(some 17), none, false, .bin .add (.t 16) (.k (.d (.int .i64 1)))⟩,
                       ⟨(some 1), none, false, .mov (.t 17)⟩])))
                (.reg false [0, 1, 5] [⟨(some 10), none, false, .mov (.t 5)⟩,
                   ⟨(some 11), none, false, .bin .add (.t 10) (.k (.d (.int .i64 1)))⟩,
                   ⟨(some 5), none, false, .mov (.t 11)⟩]))))))
      (.seq
        (.reg false [0, 4] [⟨(some 18), none, false, .mov (.t 1)⟩,
           ⟨(some 4), none, false, .mov (.t 18)⟩])
        .ret)))
theorem c27 : (Go.Proofs.Try.f27).body.bind (comp (Go.Proofs.Try.prog) (1, (Go.Proofs.Try.f27).ntmps) lv27) = some m27 := by kernel_rfl
theorem r27 : resOK (Go.Proofs.Try.prog) (Go.Proofs.Try.f27).results.toList = true := by kernel_rfl

/-- laws.heldIntS loops: 0=a 1=k 5=i -/
def lv28 : List (Nat × List Nat) := [(0, [0, 1]), (1, [0, 1, 5]), (2, [0, 1, 5, 9]), (3, [0, 1, 5]), (4, [0, 1, 5, 17]), (5, [4]), (6, [0, 1, 5]), (7, [4])]
def m28 : MC :=
  (.seq
    (.reg false [0, 1] [⟨(some 4), none, false, .mov (.k (.d (.int .i64 0)))⟩])
    (.seq
      (.seq
        (.reg false [0, 1, 5] [⟨(some 5), none, false, .mov (.k (.d (.int .i64 0)))⟩])
        (.block 0
          (.loop
            (.seq
              (.seq
                (.reg false [0, 1, 5, 9] [⟨(some 6), none, false, .mov (.t 5)⟩,
                   ⟨(some 7), none, false, .mov (.t 0)⟩,
                   ⟨(some 8), none, false, .len false (.t 7)⟩,
                   ⟨(some 9), none, false, .bin .lss (.t 6) (.t 8)⟩])
                (.cond (.t 9)
                  .skip
                  (.exit 0)))
              (.seq
                (.block 1
                  (.seq
                    (.seq
                      (.reg false [0, 1, 5, 17] [⟨(some 12), none, false, .mov (.t 0)⟩,
                         ⟨(some 13), none, false, .mov (.t 5)⟩,
                         ⟨(some 14), none, false, .ia 1 (.t 12) (.t 13)⟩,
                         ⟨(some 15), none, false, .ld none (.t 14)⟩,
                         ⟨(some 16), none, false, .mov (.t 1)⟩,
                         ⟨(some 17), none, false, .bin .neq (.t 15) (.t 16)⟩])
                      (.cond (.t 17)
                        (.seq
                          (.reg false [4] [⟨(some 4), none, false, .mov (.k (.d (.int .i64 (-1))))⟩])
                          .ret)
                        .skip))
                    (.reg false [0, 1, 5] [⟨(some 18), none, false, .mov (.t 1)⟩,
                       ⟨(some 19), none, false, .bin .add (.t 18) (.k (.d (.int .i64 1)))⟩,
                       ⟨(some 1), none, false, .mov (.t 19)⟩])))
                (.reg false [0, 1, 5] [⟨(some 10), none, false, .mov (.t 5)⟩,
                   ⟨(some 11), none, false, .bin .add (.t 10) (.k (.d (.int .i64 1)))⟩,
                   ⟨(some 5), none, false, .mov (.t 11)⟩]))))))
      (.seq
        (.reg false [4] [⟨(some 20), none, false, .mov (.t 1)⟩,
           ⟨(some 4), none, false, .mov (.t 20)⟩])
        .ret)))
theorem c28 : (Go.Proofs.Try.f28).body.bind (comp (Go.Proofs.Try.prog) (1, (Go.Proofs.Try.f28).ntmps) lv28) = some m28 := by kernel_rfl
theorem r28 : resOK (Go.Proofs.Try.prog) (Go.Proofs.Try.f28).results.toList = true := by kernel_rfl

/-- spec.DestroyedShare loops: 1=list 7=destroyed 8=gone 9=i -/
def lv29 : List (Nat × List Nat) := [(0, [0, 1]), (1, [0, 1, 7, 8]), (2, [1, 7, 8, 14]), (3, [1, 7, 8, 9]), (4, [1, 7, 8, 9, 18]), (5, [1, 7, 8, 9]), (6, [1, 7, 8, 9]), (7, [1, 7, 8, 9]), (8, [7, 8, 36]), (9, [4, 5, 6]), (10, [10, 11]), (11, [4, 5, 6])]
def m29 : MC :=
  (.seq
    (.reg false [0, 1] [⟨(some 4), none, false, .mov (.k (.d (.int .i64 0)))⟩,
       ⟨(some 5), none, false, .mov (.k (.d (.int .i64 0)))⟩,
       ⟨(some 6), none, false, .mov (.k (.d (.bool false)))⟩])
    (.seq
      (.reg false [0, 1, 7, 8] [⟨(some 7), none, false, .mov (.k (.d (.int .i64 0)))⟩,
         ⟨(some 8), none, false, .mov (.k (.d (.int .i64 0)))⟩])
      (.seq
        (.seq
          (.reg false [1, 7, 8, 14] [⟨(some 12), none, false, .mov (.t 0)⟩,
             ⟨(some 13), none, false, .mov (.t 1)⟩,
             ⟨(some 14), none, true, .call 43 [(.t 12), (.t 13)]⟩])
          (.cond (.t 14)
            (.seq
              (.reg false [1, 7, 8, 9] [⟨(some 9), none, false, .mov (.k (.d (.int .i64 0)))⟩])
              (.block 0
                (.loop
                  (.seq
                    (.seq
                      (.reg false [1, 7, 8, 9, 18] [⟨(some 15), none, false, .mov (.t 9)⟩,
                         ⟨(some 16), none, false, .mov (.t 1)⟩,
                         ⟨(some 17), none, false, .len false (.t 16)⟩,
                         ⟨(some 18), none, false, .bin .lss (.t 15) (.t 17)⟩])
                      (.cond (.t 18)
                        .skip
                        (.exit 0)))
                    (.seq
                      (.block 1
                        (.seq
                          (.reg false [1, 7, 8, 9] [⟨(some 21), none, false, .mov (.t 7)⟩,
                             ⟨(some 22), none, false, .mov (.t 1)⟩,
                             ⟨(some 23), none, false, .mov (.t 9)⟩,
                             ⟨(some 24), none, false, .ia 5 (.t 22) (.t 23)⟩,
                             ⟨(some 25), none, false, .fa 3 3 (.t 24)⟩,
                             ⟨(some 26), none, false, .ld none (.t 25)⟩,
                             ⟨(some 27), none, false, .bin .add (.t 21) (.t 26)⟩,
                             ⟨(some 7), none, false, .mov (.t 27)⟩])
                          (.reg false [1, 7, 8, 9] [⟨(some 28), none, false, .mov (.t 8)⟩,
                             ⟨(some 29), none, false, .mov (.t 1)⟩,
                             ⟨(some 30), none, false, .mov (.t 9)⟩,
                             ⟨(some 31), none, false, .ia 5 (.t 29) (.t 30)⟩,
                             ⟨(some 32), none, false, .ld (some 5) (.t 31)⟩,
                             ⟨(some 33), none, true, .call 47 [(.t 32)]⟩,
                             ⟨(some 34), none, false, .bin .add (.t 28) (.t 33)⟩,
                             ⟨(some 8), none, false, .mov (.t 34)⟩])))
                      (.reg false [1, 7, 8, 9] [⟨(some 19), none, false, .mov (.t 9)⟩,
                         ⟨(some 20), none, false, .bin .add (.t 19) (.k (.d (.int .i64 1)))⟩,
                         ⟨(some 9), none, false, .mov (.t 20)⟩]))))))
            .skip))
        (.seq
          (.seq
            (.reg false [7, 8, 36] [⟨(some 35), none, false, .mov (.t 8)⟩,
               ⟨(some 36), none, false, .bin .eql (.t 35) (.k (.d (.int .i64 0)))⟩])
            (.cond (.t 36)
              (.seq
                (.reg false [4, 5, 6] [⟨(some 4), none, false, .mov (.k (.d (.int .i64 0)))⟩,
                   ⟨(some 5), none, false, .mov (.k (.d (.int .i64 0)))⟩,
                   ⟨(some 6), none, false, .mov (.k (.d (.bool false)))⟩])
                .ret)
              .skip))
          (.seq
            (.reg false [10, 11] [⟨(some 38), none, false, .mov (.t 7)⟩,
               ⟨(some 39), none, false, .mov (.t 8)⟩,
               ⟨(some 40), none, true, .call 52 [(.t 38), (.t 39)]⟩,
               ⟨(some 37), none, false, .mov (.t 40)⟩,
               ⟨(some 41), none, false, .ext (.t 37) 0⟩,
               ⟨(some 42), none, false, .ext (.t 37) 1⟩,
               ⟨(some 10), none, false, .mov (.t 41)⟩,
               ⟨(some 11), none, false, .mov (.t 42)⟩])
            (.seq
              (.reg false [4, 5, 6] [⟨(some 43), none, false, .mov (.t 10)⟩,
                 ⟨(some 44), none, false, .mov (.t 11)⟩,
                 ⟨(some 4), none, false, .mov (.t 43)⟩,
                 ⟨(some 5), none, false, .mov (.t 44)⟩,
                 ⟨(some 6), none, false, .mov (.k (.d (.bool true)))⟩])
              .ret))))))
theorem c29 : (Go.Proofs.Try.f29).body.bind (comp (Go.Proofs.Try.prog) (2, (Go.Proofs.Try.f29).ntmps) lv29) = some m29 := by kernel_rfl
theorem r29 : resOK (Go.Proofs.Try.prog) (Go.Proofs.Try.f29).results.toList = true := by kernel_rfl

/-- impl.DestroyedShare loops: 7=destroyed 8=gone 17= 18= 19= -/
def lv30 : List (Nat × List Nat) := [(0, [0, 1]), (1, [1, 16]), (2, [4, 5, 6]), (3, [1, 7, 8]), (4, [7, 8, 17, 18, 19]), (5, [7, 8, 17, 18, 19, 20]), (6, [7, 8, 10, 17, 18, 19]), (7, [7, 8, 10, 17, 18, 19]), (8, [7, 8, 17, 18, 19]), (9, [7, 8, 17, 18, 19]), (10, [7, 8, 33]), (11, [4, 5, 6]), (12, [11, 12]), (13, [4, 5, 6])]
def m30 : MC :=
  (.seq
    (.reg false [0, 1] [⟨(some 4), none, false, .mov (.k (.d (.int .i64 0)))⟩,
       ⟨(some 5), none, false, .mov (.k (.d (.int .i64 0)))⟩,
       ⟨(some 6), none, false, .mov (.k (.d (.bool false)))⟩])
    (.seq
      (.seq
        (.reg false [1, 16] [⟨(some 13), none, false, .mov (.t 0)⟩,
           ⟨(some 14), none, false, .mov (.t 1)⟩,
           ⟨(some 15), none, true, .call 17 [(.t 13), (.t 14)]⟩,
           ⟨(some 16), none, false, .un .not (.t 15)⟩])
        (.cond (.t 16)
          (.seq
            (.reg false [4, 5, 6] [⟨(some 4), none, false, .mov (.k (.d (.int .i64 0)))⟩,
               ⟨(some 5), none, false, .mov (.k (.d (.int .i64 0)))⟩,
               ⟨(some 6), none, false, .mov (.k (.d (.bool false)))⟩])
            .ret)
          .skip))
      (.seq
        (.reg false [1, 7, 8] [⟨(some 7), none, false, .mov (.k (.d (.int .i64 0)))⟩,
           ⟨(some 8), none, false, .mov (.k (.d (.int .i64 0)))⟩])
        (.seq
          (.seq
            (.reg false [7, 8, 17, 18, 19] [⟨(some 17), none, false, .mov (.t 1)⟩,
               ⟨(some 18), none, false, .len false (.t 17)⟩,
               ⟨(some 19), none, false, .mov (.k (.d (.int .i64 0)))⟩])
            (.block 0
              (.loop
                (.seq
                  (.reg false [7, 8, 17, 18, 19, 20] [⟨(some 20), none, false, .bin .lss (.t 19) (.t 18)⟩])
                  (.seq
                    (.cond (.t 20)
                      .skip
                      (.exit 0))
                    (.seq
                      (.block 1
                        (.seq
                          (.reg false [7, 8, 10, 17, 18, 19] [⟨(some 21), none, false, .ia 5 (.t 17) (.t 19)⟩,
                             ⟨(some 22), none, false, .ld (some 5) (.t 21)⟩,
                             ⟨(some 10), none, true, .alloc (.st (.cons (.int .i64 0) (.cons (.int .i64 0) (.cons (.int .i64 0) (.cons (.int .i64 0) (.cons (.int .i64 0) .nil))))))⟩,
                             ⟨none, none, true, .st 5 (.t 10) (.t 22)⟩])
                          (.seq
                            (.reg false [7, 8, 10, 17, 18, 19] [⟨(some 23), none, false, .mov (.t 7)⟩,
                               ⟨(some 24), none, false, .fa 3 3 (.t 10)⟩,
                               ⟨(some 25), none, false, .ld none (.t 24)⟩,
                               ⟨(some 26), none, false, .bin .add (.t 23) (.t 25)⟩,
                               ⟨(some 7), none, false, .mov (.t 26)⟩])
                            (.reg false [7, 8, 17, 18, 19] [⟨(some 27), none, false, .mov (.t 8)⟩,
                               ⟨(some 28), none, false, .ld (some 5) (.t 10)⟩,
                               ⟨(some 29), none, true, .call 48 [(.t 28)]⟩,
                               ⟨(some 30), none, false, .bin .add (.t 27) (.t 29)⟩,
                               ⟨(some 8), none, false, .mov (.t 30)⟩]))))
                      (.reg false [7, 8, 17, 18, 19] [⟨(some 31), none, false, .bin .add (.t 19) (.k (.d (.int .i64 1)))⟩,
                         ⟨(some 19), none, false, .mov (.t 31)⟩])))))))
          (.seq
            (.seq
              (.reg false [7, 8, 33] [⟨(some 32), none, false, .mov (.t 8)⟩,
                 ⟨(some 33), none, false, .bin .eql (.t 32) (.k (.d (.int .i64 0)))⟩])
              (.cond (.t 33)
                (.seq
                  (.reg false [4, 5, 6] [⟨(some 4), none, false, .mov (.k (.d (.int .i64 0)))⟩,
                     ⟨(some 5), none, false, .mov (.k (.d (.int .i64 0)))⟩,
                     ⟨(some 6), none, false, .mov (.k (.d (.bool false)))⟩])
                  .ret)
                .skip))
            (.seq
              (.reg false [11, 12] [⟨(some 35), none, false, .mov (.t 7)⟩,
                 ⟨(some 36), none, false, .mov (.t 8)⟩,
                 ⟨(some 37), none, true, .call 53 [(.t 35), (.t 36)]⟩,
                 ⟨(some 34), none, false, .mov (.t 37)⟩,
                 ⟨(some 38), none, false, .ext (.t 34) 0⟩,
                 ⟨(some 39), none, false, .ext (.t 34) 1⟩,
                 ⟨(some 11), none, false, .mov (.t 38)⟩,
                 ⟨(some 12), none, false, .mov (.t 39)⟩])
              (.seq
                (.reg false [4, 5, 6] [⟨(some 40), none, false, .mov (.t 11)⟩,
                   ⟨(some 41), none, false, .mov (.t 12)⟩,
                   ⟨(some 4), none, false, .mov (.t 40)⟩,
                   ⟨(some 5), none, false, .mov (.t 41)⟩,
                   ⟨(some 6), none, false, .mov (.k (.d (.bool true)))⟩])
                .ret)))))))
theorem c30 : (Go.Proofs.Try.f30).body.bind (comp (Go.Proofs.Try.prog) (2, (Go.Proofs.Try.f30).ntmps) lv30) = some m30 := by kernel_rfl
theorem r30 : resOK (Go.Proofs.Try.prog) (Go.Proofs.Try.f30).results.toList = true := by kernel_rfl

/-- spec.MissingYears loops: 1=list 6=out 7=i 8=year; 1=list 6=out 7=i 8=year; 1=list 6=out 7=i -/
def lv31 : List (Nat × List Nat) := [(0, [0, 1]), (1, [0, 1, 6]), (2, [1, 6, 13]), (3, [4, 5]), (4, [1, 6, 7]), (5, [1, 6, 7, 18]), (6, [1, 6, 7]), (7, [1, 6, 7, 8]), (8, [1, 6, 7, 8, 34]), (9, [1, 6, 7, 8]), (10, [1, 6, 7, 8]), (11, [4, 5])]
def m31 : MC :=
  (.seq
    (.reg false [0, 1] [⟨(some 4), none, false, .mov (.k .nil)⟩,
       ⟨(some 5), none, false, .mov (.k (.d (.bool false)))⟩])
    (.seq
      (.reg false [0, 1, 6] [⟨(some 9), none, true, .bs 1 0 (.int .i64 0) []⟩,
         ⟨(some 6), none, false, .mov (.t 9)⟩])
      (.seq
        (.seq
          (.reg false [1, 6, 13] [⟨(some 10), none, false, .mov (.t 0)⟩,
             ⟨(some 11), none, false, .mov (.t 1)⟩,
             ⟨(some 12), none, true, .call 43 [(.t 10), (.t 11)]⟩,
             ⟨(some 13), none, false, .un .not (.t 12)⟩])
          (.cond (.t 13)
            (.seq
              (.reg false [4, 5] [⟨(some 14), none, false, .mov (.t 6)⟩,
                 ⟨(some 4), none, false, .mov (.t 14)⟩,
                 ⟨(some 5), none, false, .mov (.k (.d (.bool false)))⟩])
              .ret)
            .skip))
        (.seq
          (.seq
            (.reg false [1, 6, 7] [⟨(some 7), none, false, .mov (.k (.d (.int .i64 1)))⟩])
            (.block 0
              (.loop
                (.seq
                  (.seq
                    (.reg false [1, 6, 7, 18] [⟨(some 15), none, false, .mov (.t 7)⟩,
                       ⟨(some 16), none, false, .mov (.t 1)⟩,
                       ⟨(some 17), none, false, .len false (.t 16)⟩,
                       ⟨(some 18), none, false, .bin .lss (.t 15) (.t 17)⟩])
                    (.cond (.t 18)
                      .skip
                      (.exit 0)))
                  (.seq
                    (.block 1
                      (.seq
                        (.reg false [1, 6, 7, 8] [⟨(some 21), none, false, .mov (.t 1)⟩,
                           ⟨(some 22), none, false, .mov (.t 7)⟩,
                           ⟨(some 23), none, false, .bin .sub (.t 22) (.k (.d (.int .i64 1)))⟩,
                           ⟨(some 24), none, false, .ia 5 (.t 21) (.t 23)⟩,
                           ⟨(some 25), none, false, .fa 0 0 (.t 24)⟩,
                           ⟨(some 26), none, false, .ld none (.t 25)⟩,
                           ⟨(some 27), none, false, .bin .add (.t 26) (.k (.d (.int .i64 1)))⟩,
                           ⟨(some 8), none, false, .mov (.t 27)⟩])
                        (.block 2
                          (.loop
                            (.seq
                              (.seq
                                (.reg false [1, 6, 7, 8, 34] [⟨(some 28), none, false, .mov (.t 8)⟩,
                                   ⟨(some 29), none, false, .mov (.t 1)⟩,
                                   ⟨(some 30), none, false, .mov (.t 7)⟩,
                                   ⟨(some 31), none, false, .ia 5 (.t 29) (.t 30)⟩,
                                   ⟨(some 32), none, false, .fa 0 0 (.t 31)⟩,
                                   ⟨(some 33), none, false, .ld none (.t 32)⟩,
                                   ⟨(some 34), none, false, .bin .lss (.t 28) (.t 33)⟩])
                                (.cond (.t 34)
                                  .skip
                                  (.exit 2)))
                              (.seq
                                (.block 3
                                  (.reg false [1, 6, 7, 8] [⟨(some 37), none, false, .mov (.t 6)⟩,
                                     ⟨(some 38), none, false, .mov (.t 8)⟩,
                                     ⟨(some 39), none, true, .bs 1 1 (.int .i64 0) [(0, (.t 38))]⟩,
                                     ⟨(some 40), none, true, .app 1 8 (.t 37) (.t 39)⟩,
                                     ⟨(some 6), none, false, .mov (.t 40)⟩]))
                                (.reg false [1, 6, 7, 8] [⟨(some 35), none, false, .mov (.t 8)⟩,
                                   ⟨(some 36), none, false, .bin .add (.t 35) (.k (.d (.int .i64 1)))⟩,
                                   ⟨(some 8), none, false, .mov (.t 36)⟩])))))))
                    (.reg false [1, 6, 7] [⟨(some 19), none, false, .mov (.t 7)⟩,
                       ⟨(some 20), none, false, .bin .add (.t 19) (.k (.d (.int .i64 1)))⟩,
                       ⟨(some 7), none, false, .mov (.t 20)⟩]))))))
          (.seq
            (.reg false [4, 5] [⟨(some 41), none, false, .mov (.t 6)⟩,
               ⟨(some 4), none, false, .mov (.t 41)⟩,
               ⟨(some 5), none, false, .mov (.k (.d (.bool true)))⟩])
            .ret)))))
theorem c31 : (Go.Proofs.Try.f31).body.bind (comp (Go.Proofs.Try.prog) (2, (Go.Proofs.Try.f31).ntmps) lv31) = some m31 := by kernel_rfl
theorem r31 : resOK (Go.Proofs.Try.prog) (Go.Proofs.Try.f31).results.toList = true := by kernel_rfl

/-- impl.MissingYears loops: 1=list 6=years 7=i 8=year; 1=list 6=years 7=i 8=year; 1=list 6=years 7=i -/
def lv32 : List (Nat × List Nat) := [(0, [0, 1]), (1, [1, 12]), (2, [4, 5]), (3, [1, 6]), (4, [1, 6, 7]), (5, [1, 6, 7, 16]), (6, [1, 6, 7]), (7, [1, 6, 7, 8]), (8, [1, 6, 7, 8, 32]), (9, [1, 6, 7, 8]), (10, [1, 6, 7, 8]), (11, [4, 5])]
def m32 : MC :=
  (.seq
    (.reg false [0, 1] [⟨(some 4), none, false, .mov (.k .nil)⟩,
       ⟨(some 5), none, false, .mov (.k (.d (.bool false)))⟩])
    (.seq
      (.seq
        (.reg false [1, 12] [⟨(some 9), none, false, .mov (.t 0)⟩,
           ⟨(some 10), none, false, .mov (.t 1)⟩,
           ⟨(some 11), none, true, .call 17 [(.t 9), (.t 10)]⟩,
           ⟨(some 12), none, false, .un .not (.t 11)⟩])
        (.cond (.t 12)
          (.seq
            (.reg false [4, 5] [⟨(some 4), none, false, .mov (.k .nil)⟩,
               ⟨(some 5), none, false, .mov (.k (.d (.bool false)))⟩])
            .ret)
          .skip))
      (.seq
        (.reg false [1, 6] [⟨(some 6), none, false, .mov (.k .nil)⟩])
        (.seq
          (.seq
            (.reg false [1, 6, 7] [⟨(some 7), none, false, .mov (.k (.d (.int .i64 1)))⟩])
            (.block 0
              (.loop
                (.seq
                  (.seq
                    (.reg false [1, 6, 7, 16] [⟨(some 13), none, false, .mov (.t 7)⟩,
                       ⟨(some 14), none, false, .mov (.t 1)⟩,
                       ⟨(some 15), none, false, .len false (.t 14)⟩,
                       ⟨(some 16), none, false, .bin .lss (.t 13) (.t 15)⟩])
                    (.cond (.t 16)
                      .skip
                      (.exit 0)))
                  (.seq
                    (.block 1
                      (.seq
                        (.reg false [1, 6, 7, 8] [⟨(some 19), none, false, .mov (.t 1)⟩,
                           ⟨(some 20), none, false, .mov (.t 7)⟩,
                           ⟨(some 21), none, false, .bin .sub (.t 20) (.k (.d (.int .i64 1)))⟩,
                           ⟨(some 22), none, false, .ia 5 (.t 19) (.t 21)⟩,
                           ⟨(some 23), none, false, .fa 0 0 (.t 22)⟩,
                           ⟨(some 24), none, false, .ld none (.t 23)⟩,
                           ⟨(some 25), none, false, .bin .add (.t 24) (.k (.d (.int .i64 1)))⟩,
                           ⟨(some 8), none, false, .mov (.t 25)⟩])
                        (.block 2
                          (.loop
                            (.seq
                              (.seq
                                (.reg false [1, 6, 7, 8, 32] [⟨(some 26), none, false, .mov (.t 8)⟩,
                                   ⟨(some 27), none, false, .mov (.t 1)⟩,
                                   ⟨(some 28), none, false, .mov (.t 7)⟩,
                                   ⟨(some 29), none, false, .ia 5 (.t 27) (.t 28)⟩,
                                   ⟨(some 30), none, false, .fa 0 0 (.t 29)⟩,
                                   ⟨(some 31), none, false, .ld none (.t 30)⟩,
                                   ⟨(some 32), none, false, .bin .lss (.t 26) (.t 31)⟩])
                                (.cond (.t 32)
                                  .skip
                                  (.exit 2)))
                              (.seq
                                (.block 3
                                  (.reg false [1, 6, 7, 8] [⟨(some 35), none, false, .mov (.t 6)⟩,
                                     ⟨(some 36), none, false, .mov (.t 8)⟩,
                                     ⟨(some 37), none, true, .bs 1 1 (.int .i64 0) [(0, (.t 36))]⟩,
                                     ⟨(some 38), none, true, .app 1 8 (.t 35) (.t 37)⟩,
                                     ⟨(some 6), none, false, .mov (.t 38)⟩]))
                                (.reg false [1, 6, 7, 8] [⟨(some 33), none, false, .mov (.t 8)⟩,
                                   ⟨(some 34), none, false, .bin .add (.t 33) (.k (.d (.int .i64 1)))⟩,
                                   ⟨(some 8), none, false, .mov (.t 34)⟩])))))))
                    (.reg false [1, 6, 7] [⟨(some 17), none, false, .mov (.t 7)⟩,
                       ⟨(some 18), none, false, .bin .add (.t 17) (.k (.d (.int .i64 1)))⟩,
                       ⟨(some 7), none, false, .mov (.t 18)⟩]))))))
          (.seq
            (.reg false [4, 5] [⟨(some 39), none, false, .mov (.t 6)⟩,
               ⟨(some 4), none, false, .mov (.t 39)⟩,
               ⟨(some 5), none, false, .mov (.k (.d (.bool true)))⟩])
            .ret)))))
theorem c32 : (Go.Proofs.Try.f32).body.bind (comp (Go.Proofs.Try.prog) (2, (Go.Proofs.Try.f32).ntmps) lv32) = some m32 := by kernel_rfl
theorem r32 : resOK (Go.Proofs.Try.prog) (Go.Proofs.Try.f32).results.toList = true := by kernel_rfl

/-- laws.rBig -/
def lv33 : List (Nat × List Nat) := [(0, [0]), (1, [2])]
def m33 : MC :=
  (.seq
    (.reg false [0] [⟨(some 2), none, false, .mov (.k (.d (.bool false)))⟩])
    (.seq
      (.reg false [2] [⟨(some 3), none, false, .mov (.t 0)⟩,
         ⟨(some 4), none, false, .len false (.t 3)⟩,
         ⟨(some 5), none, false, .bin .gtr (.t 4) (.k (.d (.int .i64 65536)))⟩,
         ⟨(some 2), none, false, .mov (.t 5)⟩])
      .ret))
theorem c33 : (Go.Proofs.Try.f33).body.bind (comp (Go.Proofs.Try.prog) (1, (Go.Proofs.Try.f33).ntmps) lv33) = some m33 := by kernel_rfl
theorem r33 : resOK (Go.Proofs.Try.prog) (Go.Proofs.Try.f33).results.toList = true := by kernel_rfl

/-- spec.DrawLargestRest -/
def lv34 : List (Nat × List Nat) := [(0, [0]), (1, [4, 5]), (2, [2, 3])]
def m34 : MC :=
  (.seq
    (.reg false [0] [⟨(some 2), none, false, .mov (.k (.d (.int .i64 0)))⟩,
       ⟨(some 3), none, false, .mov (.k .nil)⟩])
    (.seq
      (.reg false [4, 5] [⟨(some 7), none, false, .mov (.t 0)⟩,
         ⟨(some 8), none, true, .call 54 [(.t 7)]⟩,
         ⟨(some 6), none, false, .mov (.t 8)⟩,
         ⟨(some 9), none, false, .ext (.t 6) 0⟩,
         ⟨(some 10), none, false, .ext (.t 6) 1⟩,
         ⟨(some 4), none, false, .mov (.t 9)⟩,
         ⟨(some 5), none, false, .mov (.t 10)⟩])
      (.seq
        (.reg false [2, 3] [⟨(some 11), none, false, .mov (.t 4)⟩,
           ⟨(some 12), none, false, .mov (.t 5)⟩,
           ⟨(some 2), none, false, .mov (.t 11)⟩,
           ⟨(some 3), none, false, .mov (.t 12)⟩])
        .ret)))
theorem c34 : (Go.Proofs.Try.f34).body.bind (comp (Go.Proofs.Try.prog) (1, (Go.Proofs.Try.f34).ntmps) lv34) = some m34 := by kernel_rfl
theorem r34 : resOK (Go.Proofs.Try.prog) (Go.Proofs.Try.f34).results.toList = true := by kernel_rfl

end Go.Pe.Try
