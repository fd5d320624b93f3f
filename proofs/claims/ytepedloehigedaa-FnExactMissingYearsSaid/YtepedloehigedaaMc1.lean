/-
The compact code of the functions of seat Ytepedloehigedaa, printed by gen.py, each with the proof that the machine's code is compiled to it.
-/
import Derived.Test.YtepedloehigedaaPeC
import Derived.Test.YtepedloehigedaaProg
import Derived.KernelRfl
set_option maxRecDepth 100000
namespace Go.Pe.Try
open Go.Pe

theorem sz25 : sizeOfT Go.Proofs.Try.prog 25 = some 5 := by kernel_rfl

/-- laws.FnExactIsYearRow -/
def lv3 : List (Nat × List Nat) := [(0, [1]), (1, [1, 3]), (2, [3, 4]), (3, [13]), (4, [2]), (5, [2])]
def m3 : MC :=
  (.seq
    (.reg false [1] [⟨(some 1), none, true, .box (.t 0)⟩,
       ⟨(some 2), none, false, .mov (.k (.d (.bool false)))⟩])
    (.seq
      (.reg false [1, 3] [⟨(some 5), none, false, .ld (some 5) (.t 1)⟩,
         ⟨(some 6), none, true, .call 12 [(.t 5)]⟩,
         ⟨(some 7), none, true, .call 11 [(.t 6)]⟩,
         ⟨(some 3), none, false, .mov (.t 7)⟩])
      (.seq
        (.reg false [3, 4] [⟨(some 8), none, false, .ld (some 5) (.t 1)⟩,
           ⟨(some 9), none, true, .call 12 [(.t 8)]⟩,
           ⟨(some 10), none, true, .call 13 [(.t 9)]⟩,
           ⟨(some 4), none, false, .mov (.t 10)⟩])
        (.seq
          (.seq
            (.reg false [13] [⟨(some 11), none, false, .mov (.t 4)⟩,
               ⟨(some 12), none, false, .mov (.t 3)⟩,
               ⟨(some 13), none, false, .bb .neq (.t 11) (.t 12)⟩])
            (.cond (.t 13)
              (.seq
                (.reg false [2] [⟨(some 2), none, false, .mov (.k (.d (.bool false)))⟩])
                .ret)
              .skip))
          (.seq
            (.reg false [2] [⟨(some 2), none, false, .mov (.k (.d (.bool true)))⟩])
            .ret)))))
theorem c3 : (Go.Proofs.Try.f3).body.bind (comp (Go.Proofs.Try.prog) (1, (Go.Proofs.Try.f3).ntmps) lv3) = some m3 := by kernel_rfl
theorem r3 : resOK (Go.Proofs.Try.prog) (Go.Proofs.Try.f3).results.toList = true := by kernel_rfl

/-- laws.FnExactAreYearRows -/
def lv4 : List (Nat × List Nat) := [(0, [0, 1]), (1, [0, 1, 5]), (2, [0, 1, 5]), (3, [0, 1, 13]), (4, [4]), (5, [0, 1, 6]), (6, [0, 1, 6, 7]), (7, [1, 6, 7, 8]), (8, [1, 7, 25]), (9, [4]), (10, [30]), (11, [4]), (12, [4])]
def m4 : MC :=
  (.seq
    (.reg false [0, 1] [⟨(some 4), none, false, .mov (.k (.d (.bool false)))⟩])
    (.seq
      (.reg false [0, 1, 5] [⟨(some 5), none, false, .mov (.k (.d (.int .i64 1048576)))⟩])
      (.seq
        (.reg false [0, 1, 5] [⟨(some 9), none, false, .mov (.t 1)⟩,
           ⟨(some 10), none, false, .mov (.t 5)⟩,
           ⟨(some 11), none, true, .call 14 [(.t 9), (.t 10)]⟩,
           ⟨(some 5), none, false, .mov (.t 11)⟩])
        (.seq
          (.seq
            (.reg false [0, 1, 13] [⟨(some 12), none, false, .mov (.t 5)⟩,
               ⟨(some 13), none, false, .bin .lss (.t 12) (.k (.d (.int .i64 0)))⟩])
            (.cond (.t 13)
              (.seq
                (.reg false [4] [⟨(some 4), none, false, .mov (.k (.d (.bool true)))⟩])
                .ret)
              .skip))
          (.seq
            (.reg false [0, 1, 6] [⟨(some 14), none, false, .mov (.t 0)⟩,
               ⟨(some 15), none, false, .mov (.t 1)⟩,
               ⟨(some 16), none, true, .call 16 [(.t 15)]⟩,
               ⟨(some 17), none, true, .call 15 [(.t 14), (.t 16)]⟩,
               ⟨(some 6), none, false, .mov (.t 17)⟩])
            (.seq
              (.reg false [0, 1, 6, 7] [⟨(some 18), none, false, .mov (.t 1)⟩,
                 ⟨(some 19), none, true, .call 16 [(.t 18)]⟩,
                 ⟨(some 7), none, false, .mov (.t 19)⟩])
              (.seq
                (.reg false [1, 6, 7, 8] [⟨(some 20), none, false, .mov (.t 0)⟩,
                   ⟨(some 21), none, false, .mov (.t 7)⟩,
                   ⟨(some 22), none, true, .call 17 [(.t 20), (.t 21)]⟩,
                   ⟨(some 8), none, false, .mov (.t 22)⟩])
                (.seq
                  (.seq
                    (.reg false [1, 7, 25] [⟨(some 23), none, false, .mov (.t 8)⟩,
                       ⟨(some 24), none, false, .mov (.t 6)⟩,
                       ⟨(some 25), none, false, .bb .neq (.t 23) (.t 24)⟩])
                    (.cond (.t 25)
                      (.seq
                        (.reg false [4] [⟨(some 4), none, false, .mov (.k (.d (.bool false)))⟩])
                        .ret)
                      .skip))
                  (.seq
                    (.seq
                      (.reg false [30] [⟨(some 26), none, false, .mov (.t 7)⟩,
                         ⟨(some 27), none, false, .mov (.t 1)⟩,
                         ⟨(some 28), none, true, .call 16 [(.t 27)]⟩,
                         ⟨(some 29), none, true, .call 18 [(.t 26), (.t 28)]⟩,
                         ⟨(some 30), none, false, .un .not (.t 29)⟩])
                      (.cond (.t 30)
                        (.seq
                          (.reg false [4] [⟨(some 4), none, false, .mov (.k (.d (.bool false)))⟩])
                          .ret)
                        .skip))
                    (.seq
                      (.reg false [4] [⟨(some 4), none, false, .mov (.k (.d (.bool true)))⟩])
                      .ret))))))))))
theorem c4 : (Go.Proofs.Try.f4).body.bind (comp (Go.Proofs.Try.prog) (2, (Go.Proofs.Try.f4).ntmps) lv4) = some m4 := by kernel_rfl
theorem r4 : resOK (Go.Proofs.Try.prog) (Go.Proofs.Try.f4).results.toList = true := by kernel_rfl

/-- laws.FnExactYearsToClear -/
def lv5 : List (Nat × List Nat) := [(0, [0, 1]), (1, [0, 1, 5]), (2, [0, 1, 5]), (3, [0, 1, 15]), (4, [4]), (5, [0, 1, 6, 7]), (6, [0, 1, 6, 7, 8]), (7, [1, 6, 7, 8, 9, 10]), (8, [1, 8, 38]), (9, [4]), (10, [43]), (11, [4]), (12, [4])]
def m5 : MC :=
  (.seq
    (.reg false [0, 1] [⟨(some 4), none, false, .mov (.k (.d (.bool false)))⟩])
    (.seq
      (.reg false [0, 1, 5] [⟨(some 5), none, false, .mov (.k (.d (.int .i64 1048576)))⟩])
      (.seq
        (.reg false [0, 1, 5] [⟨(some 11), none, false, .mov (.t 1)⟩,
           ⟨(some 12), none, false, .mov (.t 5)⟩,
           ⟨(some 13), none, true, .call 14 [(.t 11), (.t 12)]⟩,
           ⟨(some 5), none, false, .mov (.t 13)⟩])
        (.seq
          (.seq
            (.reg false [0, 1, 15] [⟨(some 14), none, false, .mov (.t 5)⟩,
               ⟨(some 15), none, false, .bin .lss (.t 14) (.k (.d (.int .i64 0)))⟩])
            (.cond (.t 15)
              (.seq
                (.reg false [4] [⟨(some 4), none, false, .mov (.k (.d (.bool true)))⟩])
                .ret)
              .skip))
          (.seq
            (.reg false [0, 1, 6, 7] [⟨(some 17), none, false, .mov (.t 0)⟩,
               ⟨(some 18), none, false, .mov (.t 1)⟩,
               ⟨(some 19), none, true, .call 16 [(.t 18)]⟩,
               ⟨(some 20), none, true, .call 19 [(.t 17), (.t 19)]⟩,
               ⟨(some 16), none, false, .mov (.t 20)⟩,
               ⟨(some 21), none, false, .ext (.t 16) 0⟩,
               ⟨(some 22), none, false, .ext (.t 16) 1⟩,
               ⟨(some 6), none, false, .mov (.t 21)⟩,
               ⟨(some 7), none, false, .mov (.t 22)⟩])
            (.seq
              (.reg false [0, 1, 6, 7, 8] [⟨(some 23), none, false, .mov (.t 1)⟩,
                 ⟨(some 24), none, true, .call 16 [(.t 23)]⟩,
                 ⟨(some 8), none, false, .mov (.t 24)⟩])
              (.seq
                (.reg false [1, 6, 7, 8, 9, 10] [⟨(some 26), none, false, .mov (.t 0)⟩,
                   ⟨(some 27), none, false, .mov (.t 8)⟩,
                   ⟨(some 28), none, true, .call 20 [(.t 26), (.t 27)]⟩,
                   ⟨(some 25), none, false, .mov (.t 28)⟩,
                   ⟨(some 29), none, false, .ext (.t 25) 0⟩,
                   ⟨(some 30), none, false, .ext (.t 25) 1⟩,
                   ⟨(some 9), none, false, .mov (.t 29)⟩,
                   ⟨(some 10), none, false, .mov (.t 30)⟩])
                (.seq
                  (.seq
                    (.reg false [1, 8, 38] [⟨(some 31), none, false, .mov (.t 9)⟩,
                       ⟨(some 32), none, false, .mov (.t 6)⟩,
                       ⟨(some 33), none, false, .bin .neq (.t 31) (.t 32)⟩,
                       ⟨(some 34), none, false, .mov (.t 33)⟩,
                       ⟨(some 35), (some (34, false)), false, .mov (.t 10)⟩,
                       ⟨(some 36), (some (34, false)), false, .mov (.t 7)⟩,
                       ⟨(some 37), (some (34, false)), false, .bb .neq (.t 35) (.t 36)⟩,
                       ⟨(some 38), none, false, .pick (.t 34) (.k (.d (.bool true))) (.t 37)⟩])
                    (.cond (.t 38)
                      (.seq
                        (.reg false [4] [⟨(some 4), none, false, .mov (.k (.d (.bool false)))⟩])
                        .ret)
                      .skip))
                  (.seq
                    (.seq
                      (.reg false [43] [⟨(some 39), none, false, .mov (.t 8)⟩,
                         ⟨(some 40), none, false, .mov (.t 1)⟩,
                         ⟨(some 41), none, true, .call 16 [(.t 40)]⟩,
                         ⟨(some 42), none, true, .call 18 [(.t 39), (.t 41)]⟩,
                         ⟨(some 43), none, false, .un .not (.t 42)⟩])
                      (.cond (.t 43)
                        (.seq
                          (.reg false [4] [⟨(some 4), none, false, .mov (.k (.d (.bool false)))⟩])
                          .ret)
                        .skip))
                    (.seq
                      (.reg false [4] [⟨(some 4), none, false, .mov (.k (.d (.bool true)))⟩])
                      .ret))))))))))
theorem c5 : (Go.Proofs.Try.f5).body.bind (comp (Go.Proofs.Try.prog) (2, (Go.Proofs.Try.f5).ntmps) lv5) = some m5 := by kernel_rfl
theorem r5 : resOK (Go.Proofs.Try.prog) (Go.Proofs.Try.f5).results.toList = true := by kernel_rfl

/-- laws.FnExactLargestRest -/
def lv6 : List (Nat × List Nat) := [(0, [0, 1]), (1, [0, 1, 5]), (2, [0, 1, 5]), (3, [0, 1, 17]), (4, [4]), (5, [0, 1, 6, 7, 8]), (6, [0, 1, 6, 7, 8, 9]), (7, [1, 6, 7, 8, 9, 10, 11, 12]), (8, [1, 9, 47]), (9, [4]), (10, [52]), (11, [4]), (12, [4])]
def m6 : MC :=
  (.seq
    (.reg false [0, 1] [⟨(some 4), none, false, .mov (.k (.d (.bool false)))⟩])
    (.seq
      (.reg false [0, 1, 5] [⟨(some 5), none, false, .mov (.k (.d (.int .i64 1048576)))⟩])
      (.seq
        (.reg false [0, 1, 5] [⟨(some 13), none, false, .mov (.t 1)⟩,
           ⟨(some 14), none, false, .mov (.t 5)⟩,
           ⟨(some 15), none, true, .call 14 [(.t 13), (.t 14)]⟩,
           ⟨(some 5), none, false, .mov (.t 15)⟩])
        (.seq
          (.seq
            (.reg false [0, 1, 17] [⟨(some 16), none, false, .mov (.t 5)⟩,
               ⟨(some 17), none, false, .bin .lss (.t 16) (.k (.d (.int .i64 0)))⟩])
            (.cond (.t 17)
              (.seq
                (.reg false [4] [⟨(some 4), none, false, .mov (.k (.d (.bool true)))⟩])
                .ret)
              .skip))
          (.seq
            (.reg false [0, 1, 6, 7, 8] [⟨(some 19), none, false, .mov (.t 0)⟩,
               ⟨(some 20), none, false, .mov (.t 1)⟩,
               ⟨(some 21), none, true, .call 16 [(.t 20)]⟩,
               ⟨(some 22), none, true, .call 21 [(.t 19), (.t 21)]⟩,
               ⟨(some 18), none, false, .mov (.t 22)⟩,
               ⟨(some 23), none, false, .ext (.t 18) 0⟩,
               ⟨(some 24), none, false, .ext (.t 18) 1⟩,
               ⟨(some 25), none, false, .ext (.t 18) 2⟩,
               ⟨(some 6), none, false, .mov (.t 23)⟩,
               ⟨(some 7), none, false, .mov (.t 24)⟩,
               ⟨(some 8), none, false, .mov (.t 25)⟩])
            (.seq
              (.reg false [0, 1, 6, 7, 8, 9] [⟨(some 26), none, false, .mov (.t 1)⟩,
                 ⟨(some 27), none, true, .call 16 [(.t 26)]⟩,
                 ⟨(some 9), none, false, .mov (.t 27)⟩])
              (.seq
                (.reg false [1, 6, 7, 8, 9, 10, 11, 12] [⟨(some 29), none, false, .mov (.t 0)⟩,
                   ⟨(some 30), none, false, .mov (.t 9)⟩,
                   ⟨(some 31), none, true, .call 22 [(.t 29), (.t 30)]⟩,
                   ⟨(some 28), none, false, .mov (.t 31)⟩,
                   ⟨(some 32), none, false, .ext (.t 28) 0⟩,
                   ⟨(some 33), none, false, .ext (.t 28) 1⟩,
                   ⟨(some 34), none, false, .ext (.t 28) 2⟩,
                   ⟨(some 10), none, false, .mov (.t 32)⟩,
                   ⟨(some 11), none, false, .mov (.t 33)⟩,
                   ⟨(some 12), none, false, .mov (.t 34)⟩])
                (.seq
                  (.seq
                    (.reg false [1, 9, 47] [⟨(some 35), none, false, .mov (.t 10)⟩,
                       ⟨(some 36), none, false, .mov (.t 6)⟩,
                       ⟨(some 37), none, false, .bin .neq (.t 35) (.t 36)⟩,
                       ⟨(some 38), none, false, .mov (.t 37)⟩,
                       ⟨(some 39), (some (38, false)), false, .mov (.t 11)⟩,
                       ⟨(some 40), (some (38, false)), false, .mov (.t 7)⟩,
                       ⟨(some 41), (some (38, false)), false, .bin .neq (.t 39) (.t 40)⟩,
                       ⟨(some 42), none, false, .pick (.t 38) (.k (.d (.bool true))) (.t 41)⟩,
                       ⟨(some 43), none, false, .mov (.t 42)⟩,
                       ⟨(some 44), (some (43, false)), false, .mov (.t 12)⟩,
                       ⟨(some 45), (some (43, false)), false, .mov (.t 8)⟩,
                       ⟨(some 46), (some (43, false)), false, .bb .neq (.t 44) (.t 45)⟩,
                       ⟨(some 47), none, false, .pick (.t 43) (.k (.d (.bool true))) (.t 46)⟩])
                    (.cond (.t 47)
                      (.seq
                        (.reg false [4] [⟨(some 4), none, false, .mov (.k (.d (.bool false)))⟩])
                        .ret)
                      .skip))
                  (.seq
                    (.seq
                      (.reg false [52] [⟨(some 48), none, false, .mov (.t 9)⟩,
                         ⟨(some 49), none, false, .mov (.t 1)⟩,
                         ⟨(some 50), none, true, .call 16 [(.t 49)]⟩,
                         ⟨(some 51), none, true, .call 18 [(.t 48), (.t 50)]⟩,
                         ⟨(some 52), none, false, .un .not (.t 51)⟩])
                      (.cond (.t 52)
                        (.seq
                          (.reg false [4] [⟨(some 4), none, false, .mov (.k (.d (.bool false)))⟩])
                          .ret)
                        .skip))
                    (.seq
                      (.reg false [4] [⟨(some 4), none, false, .mov (.k (.d (.bool true)))⟩])
                      .ret))))))))))
theorem c6 : (Go.Proofs.Try.f6).body.bind (comp (Go.Proofs.Try.prog) (2, (Go.Proofs.Try.f6).ntmps) lv6) = some m6 := by kernel_rfl
theorem r6 : resOK (Go.Proofs.Try.prog) (Go.Proofs.Try.f6).results.toList = true := by kernel_rfl

/-- laws.FnExactRestsAfter -/
def lv7 : List (Nat × List Nat) := [(0, [0, 1]), (1, [0, 1, 5]), (2, [0, 1, 5]), (3, [0, 1, 20]), (4, [4]), (5, [0, 1, 6, 7]), (6, [0, 1, 6, 7, 8]), (7, [0, 1, 6, 7, 8, 9, 10]), (8, [0, 1, 6, 7, 8, 9, 10, 44]), (9, [4]), (10, [0, 1, 6, 7, 8, 9, 10, 49]), (11, [4]), (12, [0, 1, 6, 7, 8, 9, 10, 11]), (13, [0, 1, 6, 7, 9, 10, 11]), (14, [0, 1, 6, 7, 9, 65]), (15, [4]), (16, [0, 1, 6, 7, 9, 12]), (17, [0, 1, 6, 7, 9, 12]), (18, [0, 1, 6, 7, 9, 12, 13]), (19, [0, 1, 6, 7, 9, 12, 13]), (20, [0, 1, 6, 7, 9, 12, 13, 73]), (21, [4]), (22, [0, 1, 6, 7, 9, 12, 76]), (23, [4]), (24, [6, 7, 9, 12, 14, 15]), (25, [9, 12, 92]), (26, [4]), (27, [9, 12, 13]), (28, [12, 13]), (29, [12, 13, 97]), (30, [4]), (31, [100]), (32, [4]), (33, [4])]
def m7 : MC :=
  (.seq
    (.reg false [0, 1] [⟨(some 4), none, false, .mov (.k (.d (.bool false)))⟩])
    (.seq
      (.reg false [0, 1, 5] [⟨(some 5), none, false, .mov (.k (.d (.int .i64 1048576)))⟩])
      (.seq
        (.reg false [0, 1, 5] [⟨(some 16), none, false, .mov (.t 1)⟩,
           ⟨(some 17), none, false, .mov (.t 5)⟩,
           ⟨(some 18), none, true, .call 14 [(.t 16), (.t 17)]⟩,
           ⟨(some 5), none, false, .mov (.t 18)⟩])
        (.seq
          (.seq
            (.reg false [0, 1, 20] [⟨(some 19), none, false, .mov (.t 5)⟩,
               ⟨(some 20), none, false, .bin .lss (.t 19) (.k (.d (.int .i64 0)))⟩])
            (.cond (.t 20)
              (.seq
                (.reg false [4] [⟨(some 4), none, false, .mov (.k (.d (.bool true)))⟩])
                .ret)
              .skip))
          (.seq
            (.reg false [0, 1, 6, 7] [⟨(some 22), none, false, .mov (.t 0)⟩,
               ⟨(some 23), none, false, .mov (.t 1)⟩,
               ⟨(some 24), none, true, .call 16 [(.t 23)]⟩,
               ⟨(some 25), none, true, .call 23 [(.t 22), (.t 24)]⟩,
               ⟨(some 21), none, false, .mov (.t 25)⟩,
               ⟨(some 26), none, false, .ext (.t 21) 0⟩,
               ⟨(some 27), none, false, .ext (.t 21) 1⟩,
               ⟨(some 6), none, false, .mov (.t 26)⟩,
               ⟨(some 7), none, false, .mov (.t 27)⟩])
            (.seq
              (.reg false [0, 1, 6, 7, 8] [⟨(some 28), none, false, .mov (.t 1)⟩,
                 ⟨(some 29), none, true, .call 16 [(.t 28)]⟩,
                 ⟨(some 8), none, false, .mov (.t 29)⟩])
              (.seq
                (.reg false [0, 1, 6, 7, 8, 9, 10] [⟨(some 31), none, false, .mov (.t 0)⟩,
                   ⟨(some 32), none, false, .mov (.t 8)⟩,
                   ⟨(some 33), none, true, .call 24 [(.t 31), (.t 32)]⟩,
                   ⟨(some 30), none, false, .mov (.t 33)⟩,
                   ⟨(some 34), none, false, .ext (.t 30) 0⟩,
                   ⟨(some 35), none, false, .ext (.t 30) 1⟩,
                   ⟨(some 9), none, false, .mov (.t 34)⟩,
                   ⟨(some 10), none, false, .mov (.t 35)⟩])
                (.seq
                  (.seq
                    (.reg false [0, 1, 6, 7, 8, 9, 10, 44] [⟨(some 36), none, false, .mov (.t 9)⟩,
                       ⟨(some 37), none, false, .mov (.t 6)⟩,
                       ⟨(some 38), none, true, .call 25 [(.t 36), (.t 37)]⟩,
                       ⟨(some 39), none, false, .un .not (.t 38)⟩,
                       ⟨(some 40), none, false, .mov (.t 39)⟩,
                       ⟨(some 41), (some (40, false)), false, .mov (.t 10)⟩,
                       ⟨(some 42), (some (40, false)), false, .mov (.t 7)⟩,
                       ⟨(some 43), (some (40, false)), false, .bb .neq (.t 41) (.t 42)⟩,
                       ⟨(some 44), none, false, .pick (.t 40) (.k (.d (.bool true))) (.t 43)⟩])
                    (.cond (.t 44)
                      (.seq
                        (.reg false [4] [⟨(some 4), none, false, .mov (.k (.d (.bool false)))⟩])
                        .ret)
                      .skip))
                  (.seq
                    (.seq
                      (.reg false [0, 1, 6, 7, 8, 9, 10, 49] [⟨(some 45), none, false, .mov (.t 8)⟩,
                         ⟨(some 46), none, false, .mov (.t 1)⟩,
                         ⟨(some 47), none, true, .call 16 [(.t 46)]⟩,
                         ⟨(some 48), none, true, .call 18 [(.t 45), (.t 47)]⟩,
                         ⟨(some 49), none, false, .un .not (.t 48)⟩])
                      (.cond (.t 49)
                        (.seq
                          (.reg false [4] [⟨(some 4), none, false, .mov (.k (.d (.bool false)))⟩])
                          .ret)
                        .skip))
                    (.seq
                      (.reg false [0, 1, 6, 7, 8, 9, 10, 11] [⟨(some 11), none, false, .mov (.k (.d (.int .i64 1)))⟩])
                      (.seq
                        (.reg false [0, 1, 6, 7, 9, 10, 11] [⟨(some 50), none, false, .mov (.t 8)⟩,
                           ⟨(some 51), none, false, .mov (.t 11)⟩,
                           ⟨(some 52), none, true, .call 26 [(.t 50), (.t 51)]⟩,
                           ⟨(some 11), none, false, .mov (.t 52)⟩])
                        (.seq
                          (.seq
                            (.reg false [0, 1, 6, 7, 9, 65] [⟨(some 53), none, false, .mov (.t 11)⟩,
                               ⟨(some 54), none, false, .bin .lss (.t 53) (.k (.d (.int .i64 0)))⟩,
                               ⟨(some 55), none, false, .mov (.t 54)⟩,
                               ⟨(some 56), (some (55, false)), false, .mov (.t 9)⟩,
                               ⟨(some 57), (some (55, false)), false, .mov (.t 6)⟩,
                               ⟨(some 58), (some (55, false)), true, .call 25 [(.t 56), (.t 57)]⟩,
                               ⟨(some 59), (some (55, false)), false, .un .not (.t 58)⟩,
                               ⟨(some 60), none, false, .pick (.t 55) (.k (.d (.bool true))) (.t 59)⟩,
                               ⟨(some 61), none, false, .mov (.t 60)⟩,
                               ⟨(some 62), (some (61, false)), false, .mov (.t 10)⟩,
                               ⟨(some 63), (some (61, false)), false, .mov (.t 7)⟩,
                               ⟨(some 64), (some (61, false)), false, .bb .neq (.t 62) (.t 63)⟩,
                               ⟨(some 65), none, false, .pick (.t 61) (.k (.d (.bool true))) (.t 64)⟩])
                            (.cond (.t 65)
                              (.seq
                                (.reg false [4] [⟨(some 4), none, false, .mov (.k (.d (.bool false)))⟩])
                                .ret)
                              .skip))
                          (.seq
                            (.reg false [0, 1, 6, 7, 9, 12] [⟨(some 12), none, false, .mov (.k (.d (.int .i64 1)))⟩])
                            (.seq
                              (.reg false [0, 1, 6, 7, 9, 12] [⟨(some 66), none, false, .mov (.t 9)⟩,
                                 ⟨(some 67), none, false, .mov (.t 12)⟩,
                                 ⟨(some 68), none, true, .call 27 [(.t 66), (.t 67)]⟩,
                                 ⟨(some 12), none, false, .mov (.t 68)⟩])
                              (.seq
                                (.reg false [0, 1, 6, 7, 9, 12, 13] [⟨(some 13), none, false, .mov (.k (.d (.int .i64 1)))⟩])
                                (.seq
                                  (.reg false [0, 1, 6, 7, 9, 12, 13] [⟨(some 69), none, false, .mov (.t 9)⟩,
                                     ⟨(some 70), none, false, .mov (.t 13)⟩,
                                     ⟨(some 71), none, true, .call 28 [(.t 69), (.t 70)]⟩,
                                     ⟨(some 13), none, false, .mov (.t 71)⟩])
                                  (.seq
                                    (.seq
                                      (.reg false [0, 1, 6, 7, 9, 12, 13, 73] [⟨(some 72), none, false, .mov (.t 13)⟩,
                                         ⟨(some 73), none, false, .bin .lss (.t 72) (.k (.d (.int .i64 0)))⟩])
                                      (.cond (.t 73)
                                        (.seq
                                          (.reg false [4] [⟨(some 4), none, false, .mov (.k (.d (.bool false)))⟩])
                                          .ret)
                                        .skip))
                                    (.seq
                                      (.seq
                                        (.reg false [0, 1, 6, 7, 9, 12, 76] [⟨(some 74), none, false, .mov (.t 13)⟩,
                                           ⟨(some 75), none, false, .mov (.t 12)⟩,
                                           ⟨(some 76), none, false, .bin .neq (.t 74) (.t 75)⟩])
                                        (.cond (.t 76)
                                          (.seq
                                            (.reg false [4] [⟨(some 4), none, false, .mov (.k (.d (.bool false)))⟩])
                                            .ret)
                                          .skip))
                                      (.seq
                                        (.reg false [6, 7, 9, 12, 14, 15] [⟨(some 78), none, false, .mov (.t 0)⟩,
                                           ⟨(some 79), none, false, .mov (.t 1)⟩,
                                           ⟨(some 80), none, true, .call 16 [(.t 79)]⟩,
                                           ⟨(some 81), none, true, .call 24 [(.t 78), (.t 80)]⟩,
                                           ⟨(some 77), none, false, .mov (.t 81)⟩,
                                           ⟨(some 82), none, false, .ext (.t 77) 0⟩,
                                           ⟨(some 83), none, false, .ext (.t 77) 1⟩,
                                           ⟨(some 14), none, false, .mov (.t 82)⟩,
                                           ⟨(some 15), none, false, .mov (.t 83)⟩])
                                        (.seq
                                          (.seq
                                            (.reg false [9, 12, 92] [⟨(some 84), none, false, .mov (.t 14)⟩,
                                               ⟨(some 85), none, false, .mov (.t 6)⟩,
                                               ⟨(some 86), none, true, .call 25 [(.t 84), (.t 85)]⟩,
                                               ⟨(some 87), none, false, .un .not (.t 86)⟩,
                                               ⟨(some 88), none, false, .mov (.t 87)⟩,
                                               ⟨(some 89), (some (88, false)), false, .mov (.t 15)⟩,
                                               ⟨(some 90), (some (88, false)), false, .mov (.t 7)⟩,
                                               ⟨(some 91), (some (88, false)), false, .bb .neq (.t 89) (.t 90)⟩,
                                               ⟨(some 92), none, false, .pick (.t 88) (.k (.d (.bool true))) (.t 91)⟩])
                                            (.cond (.t 92)
                                              (.seq
                                                (.reg false [4] [⟨(some 4), none, false, .mov (.k (.d (.bool false)))⟩])
                                                .ret)
                                              .skip))
                                          (.seq
                                            (.reg false [9, 12, 13] [⟨(some 13), none, false, .mov (.k (.d (.int .i64 1)))⟩])
                                            (.seq
                                              (.reg false [12, 13] [⟨(some 93), none, false, .mov (.t 9)⟩,
                                                 ⟨(some 94), none, false, .mov (.t 13)⟩,
                                                 ⟨(some 95), none, true, .call 28 [(.t 93), (.t 94)]⟩,
                                                 ⟨(some 13), none, false, .mov (.t 95)⟩])
                                              (.seq
                                                (.seq
                                                  (.reg false [12, 13, 97] [⟨(some 96), none, false, .mov (.t 13)⟩,
                                                     ⟨(some 97), none, false, .bin .lss (.t 96) (.k (.d (.int .i64 0)))⟩])
                                                  (.cond (.t 97)
                                                    (.seq
                                                      (.reg false [4] [⟨(some 4), none, false, .mov (.k (.d (.bool false)))⟩])
                                                      .ret)
                                                    .skip))
                                                (.seq
                                                  (.seq
                                                    (.reg false [100] [⟨(some 98), none, false, .mov (.t 13)⟩,
                                                       ⟨(some 99), none, false, .mov (.t 12)⟩,
                                                       ⟨(some 100), none, false, .bin .neq (.t 98) (.t 99)⟩])
                                                    (.cond (.t 100)
                                                      (.seq
                                                        (.reg false [4] [⟨(some 4), none, false, .mov (.k (.d (.bool false)))⟩])
                                                        .ret)
                                                      .skip))
                                                  (.seq
                                                    (.reg false [4] [⟨(some 4), none, false, .mov (.k (.d (.bool true)))⟩])
                                                    .ret)))))))))))))))))))))))))
theorem c7 : (Go.Proofs.Try.f7).body.bind (comp (Go.Proofs.Try.prog) (2, (Go.Proofs.Try.f7).ntmps) lv7) = some m7 := by kernel_rfl
theorem r7 : resOK (Go.Proofs.Try.prog) (Go.Proofs.Try.f7).results.toList = true := by kernel_rfl

/-- laws.FnExactDestroyedShare -/
def lv8 : List (Nat × List Nat) := [(0, [0, 1]), (1, [0, 1, 5]), (2, [0, 1, 5]), (3, [0, 1, 17]), (4, [4]), (5, [0, 1, 6, 7, 8]), (6, [0, 1, 6, 7, 8, 9]), (7, [1, 6, 7, 8, 9, 10, 11, 12]), (8, [1, 9, 47]), (9, [4]), (10, [52]), (11, [4]), (12, [4])]
def m8 : MC :=
  (.seq
    (.reg false [0, 1] [⟨(some 4), none, false, .mov (.k (.d (.bool false)))⟩])
    (.seq
      (.reg false [0, 1, 5] [⟨(some 5), none, false, .mov (.k (.d (.int .i64 1048576)))⟩])
      (.seq
        (.reg false [0, 1, 5] [⟨(some 13), none, false, .mov (.t 1)⟩,
           ⟨(some 14), none, false, .mov (.t 5)⟩,
           ⟨(some 15), none, true, .call 14 [(.t 13), (.t 14)]⟩,
           ⟨(some 5), none, false, .mov (.t 15)⟩])
        (.seq
          (.seq
            (.reg false [0, 1, 17] [⟨(some 16), none, false, .mov (.t 5)⟩,
               ⟨(some 17), none, false, .bin .lss (.t 16) (.k (.d (.int .i64 0)))⟩])
            (.cond (.t 17)
              (.seq
                (.reg false [4] [⟨(some 4), none, false, .mov (.k (.d (.bool true)))⟩])
                .ret)
              .skip))
          (.seq
            (.reg false [0, 1, 6, 7, 8] [⟨(some 19), none, false, .mov (.t 0)⟩,
               ⟨(some 20), none, false, .mov (.t 1)⟩,
               ⟨(some 21), none, true, .call 16 [(.t 20)]⟩,
               ⟨(some 22), none, true, .call 29 [(.t 19), (.t 21)]⟩,
               ⟨(some 18), none, false, .mov (.t 22)⟩,
               ⟨(some 23), none, false, .ext (.t 18) 0⟩,
               ⟨(some 24), none, false, .ext (.t 18) 1⟩,
               ⟨(some 25), none, false, .ext (.t 18) 2⟩,
               ⟨(some 6), none, false, .mov (.t 23)⟩,
               ⟨(some 7), none, false, .mov (.t 24)⟩,
               ⟨(some 8), none, false, .mov (.t 25)⟩])
            (.seq
              (.reg false [0, 1, 6, 7, 8, 9] [⟨(some 26), none, false, .mov (.t 1)⟩,
                 ⟨(some 27), none, true, .call 16 [(.t 26)]⟩,
                 ⟨(some 9), none, false, .mov (.t 27)⟩])
              (.seq
                (.reg false [1, 6, 7, 8, 9, 10, 11, 12] [⟨(some 29), none, false, .mov (.t 0)⟩,
                   ⟨(some 30), none, false, .mov (.t 9)⟩,
                   ⟨(some 31), none, true, .call 30 [(.t 29), (.t 30)]⟩,
                   ⟨(some 28), none, false, .mov (.t 31)⟩,
                   ⟨(some 32), none, false, .ext (.t 28) 0⟩,
                   ⟨(some 33), none, false, .ext (.t 28) 1⟩,
                   ⟨(some 34), none, false, .ext (.t 28) 2⟩,
                   ⟨(some 10), none, false, .mov (.t 32)⟩,
                   ⟨(some 11), none, false, .mov (.t 33)⟩,
                   ⟨(some 12), none, false, .mov (.t 34)⟩])
                (.seq
                  (.seq
                    (.reg false [1, 9, 47] [⟨(some 35), none, false, .mov (.t 10)⟩,
                       ⟨(some 36), none, false, .mov (.t 6)⟩,
                       ⟨(some 37), none, false, .bin .neq (.t 35) (.t 36)⟩,
                       ⟨(some 38), none, false, .mov (.t 37)⟩,
                       ⟨(some 39), (some (38, false)), false, .mov (.t 11)⟩,
                       ⟨(some 40), (some (38, false)), false, .mov (.t 7)⟩,
                       ⟨(some 41), (some (38, false)), false, .bin .neq (.t 39) (.t 40)⟩,
                       ⟨(some 42), none, false, .pick (.t 38) (.k (.d (.bool true))) (.t 41)⟩,
                       ⟨(some 43), none, false, .mov (.t 42)⟩,
                       ⟨(some 44), (some (43, false)), false, .mov (.t 12)⟩,
                       ⟨(some 45), (some (43, false)), false, .mov (.t 8)⟩,
                       ⟨(some 46), (some (43, false)), false, .bb .neq (.t 44) (.t 45)⟩,
                       ⟨(some 47), none, false, .pick (.t 43) (.k (.d (.bool true))) (.t 46)⟩])
                    (.cond (.t 47)
                      (.seq
                        (.reg false [4] [⟨(some 4), none, false, .mov (.k (.d (.bool false)))⟩])
                        .ret)
                      .skip))
                  (.seq
                    (.seq
                      (.reg false [52] [⟨(some 48), none, false, .mov (.t 9)⟩,
                         ⟨(some 49), none, false, .mov (.t 1)⟩,
                         ⟨(some 50), none, true, .call 16 [(.t 49)]⟩,
                         ⟨(some 51), none, true, .call 18 [(.t 48), (.t 50)]⟩,
                         ⟨(some 52), none, false, .un .not (.t 51)⟩])
                      (.cond (.t 52)
                        (.seq
                          (.reg false [4] [⟨(some 4), none, false, .mov (.k (.d (.bool false)))⟩])
                          .ret)
                        .skip))
                    (.seq
                      (.reg false [4] [⟨(some 4), none, false, .mov (.k (.d (.bool true)))⟩])
                      .ret))))))))))
theorem c8 : (Go.Proofs.Try.f8).body.bind (comp (Go.Proofs.Try.prog) (2, (Go.Proofs.Try.f8).ntmps) lv8) = some m8 := by kernel_rfl
theorem r8 : resOK (Go.Proofs.Try.prog) (Go.Proofs.Try.f8).results.toList = true := by kernel_rfl

/-- laws.FnExactMissingYears -/
def lv9 : List (Nat × List Nat) := [(0, [0, 1]), (1, [0, 1, 5]), (2, [0, 1, 5]), (3, [0, 1, 20]), (4, [4]), (5, [0, 1, 6, 7]), (6, [0, 1, 6, 7, 8]), (7, [0, 1, 6, 7, 8, 9, 10]), (8, [0, 1, 6, 7, 8, 9, 10, 44]), (9, [4]), (10, [0, 1, 6, 7, 8, 9, 10, 49]), (11, [4]), (12, [0, 1, 6, 7, 8, 9, 10, 11]), (13, [0, 1, 6, 7, 9, 10, 11]), (14, [0, 1, 6, 7, 9, 65]), (15, [4]), (16, [0, 1, 6, 7, 9, 12]), (17, [0, 1, 6, 7, 9, 12]), (18, [0, 1, 6, 7, 9, 12, 13]), (19, [0, 1, 6, 7, 9, 12, 13]), (20, [0, 1, 6, 7, 9, 12, 13, 73]), (21, [4]), (22, [0, 1, 6, 7, 9, 12, 76]), (23, [4]), (24, [6, 7, 9, 12, 14, 15]), (25, [9, 12, 92]), (26, [4]), (27, [9, 12, 13]), (28, [12, 13]), (29, [12, 13, 97]), (30, [4]), (31, [100]), (32, [4]), (33, [4])]
def m9 : MC :=
  (.seq
    (.reg false [0, 1] [⟨(some 4), none, false, .mov (.k (.d (.bool false)))⟩])
    (.seq
      (.reg false [0, 1, 5] [⟨(some 5), none, false, .mov (.k (.d (.int .i64 1048576)))⟩])
      (.seq
        (.reg false [0, 1, 5] [⟨(some 16), none, false, .mov (.t 1)⟩,
           ⟨(some 17), none, false, .mov (.t 5)⟩,
           ⟨(some 18), none, true, .call 14 [(.t 16), (.t 17)]⟩,
           ⟨(some 5), none, false, .mov (.t 18)⟩])
        (.seq
          (.seq
            (.reg false [0, 1, 20] [⟨(some 19), none, false, .mov (.t 5)⟩,
               ⟨(some 20), none, false, .bin .lss (.t 19) (.k (.d (.int .i64 0)))⟩])
            (.cond (.t 20)
              (.seq
                (.reg false [4] [⟨(some 4), none, false, .mov (.k (.d (.bool true)))⟩])
                .ret)
              .skip))
          (.seq
            (.reg false [0, 1, 6, 7] [⟨(some 22), none, false, .mov (.t 0)⟩,
               ⟨(some 23), none, false, .mov (.t 1)⟩,
               ⟨(some 24), none, true, .call 16 [(.t 23)]⟩,
               ⟨(some 25), none, true, .call 31 [(.t 22), (.t 24)]⟩,
               ⟨(some 21), none, false, .mov (.t 25)⟩,
               ⟨(some 26), none, false, .ext (.t 21) 0⟩,
               ⟨(some 27), none, false, .ext (.t 21) 1⟩,
               ⟨(some 6), none, false, .mov (.t 26)⟩,
               ⟨(some 7), none, false, .mov (.t 27)⟩])
            (.seq
              (.reg false [0, 1, 6, 7, 8] [⟨(some 28), none, false, .mov (.t 1)⟩,
                 ⟨(some 29), none, true, .call 16 [(.t 28)]⟩,
                 ⟨(some 8), none, false, .mov (.t 29)⟩])
              (.seq
                (.reg false [0, 1, 6, 7, 8, 9, 10] [⟨(some 31), none, false, .mov (.t 0)⟩,
                   ⟨(some 32), none, false, .mov (.t 8)⟩,
                   ⟨(some 33), none, true, .call 32 [(.t 31), (.t 32)]⟩,
                   ⟨(some 30), none, false, .mov (.t 33)⟩,
                   ⟨(some 34), none, false, .ext (.t 30) 0⟩,
                   ⟨(some 35), none, false, .ext (.t 30) 1⟩,
                   ⟨(some 9), none, false, .mov (.t 34)⟩,
                   ⟨(some 10), none, false, .mov (.t 35)⟩])
                (.seq
                  (.seq
                    (.reg false [0, 1, 6, 7, 8, 9, 10, 44] [⟨(some 36), none, false, .mov (.t 9)⟩,
                       ⟨(some 37), none, false, .mov (.t 6)⟩,
                       ⟨(some 38), none, true, .call 25 [(.t 36), (.t 37)]⟩,
                       ⟨(some 39), none, false, .un .not (.t 38)⟩,
                       ⟨(some 40), none, false, .mov (.t 39)⟩,
                       ⟨(some 41), (some (40, false)), false, .mov (.t 10)⟩,
                       ⟨(some 42), (some (40, false)), false, .mov (.t 7)⟩,
                       ⟨(some 43), (some (40, false)), false, .bb .neq (.t 41) (.t 42)⟩,
                       ⟨(some 44), none, false, .pick (.t 40) (.k (.d (.bool true))) (.t 43)⟩])
                    (.cond (.t 44)
                      (.seq
                        (.reg false [4] [⟨(some 4), none, false, .mov (.k (.d (.bool false)))⟩])
                        .ret)
                      .skip))
                  (.seq
                    (.seq
                      (.reg false [0, 1, 6, 7, 8, 9, 10, 49] [⟨(some 45), none, false, .mov (.t 8)⟩,
                         ⟨(some 46), none, false, .mov (.t 1)⟩,
                         ⟨(some 47), none, true, .call 16 [(.t 46)]⟩,
                         ⟨(some 48), none, true, .call 18 [(.t 45), (.t 47)]⟩,
                         ⟨(some 49), none, false, .un .not (.t 48)⟩])
                      (.cond (.t 49)
                        (.seq
                          (.reg false [4] [⟨(some 4), none, false, .mov (.k (.d (.bool false)))⟩])
                          .ret)
                        .skip))
                    (.seq
                      (.reg false [0, 1, 6, 7, 8, 9, 10, 11] [⟨(some 11), none, false, .mov (.k (.d (.int .i64 1)))⟩])
                      (.seq
                        (.reg false [0, 1, 6, 7, 9, 10, 11] [⟨(some 50), none, false, .mov (.t 8)⟩,
                           ⟨(some 51), none, false, .mov (.t 11)⟩,
                           ⟨(some 52), none, true, .call 26 [(.t 50), (.t 51)]⟩,
                           ⟨(some 11), none, false, .mov (.t 52)⟩])
                        (.seq
                          (.seq
                            (.reg false [0, 1, 6, 7, 9, 65] [⟨(some 53), none, false, .mov (.t 11)⟩,
                               ⟨(some 54), none, false, .bin .lss (.t 53) (.k (.d (.int .i64 0)))⟩,
                               ⟨(some 55), none, false, .mov (.t 54)⟩,
                               ⟨(some 56), (some (55, false)), false, .mov (.t 9)⟩,
                               ⟨(some 57), (some (55, false)), false, .mov (.t 6)⟩,
                               ⟨(some 58), (some (55, false)), true, .call 25 [(.t 56), (.t 57)]⟩,
                               ⟨(some 59), (some (55, false)), false, .un .not (.t 58)⟩,
                               ⟨(some 60), none, false, .pick (.t 55) (.k (.d (.bool true))) (.t 59)⟩,
                               ⟨(some 61), none, false, .mov (.t 60)⟩,
                               ⟨(some 62), (some (61, false)), false, .mov (.t 10)⟩,
                               ⟨(some 63), (some (61, false)), false, .mov (.t 7)⟩,
                               ⟨(some 64), (some (61, false)), false, .bb .neq (.t 62) (.t 63)⟩,
                               ⟨(some 65), none, false, .pick (.t 61) (.k (.d (.bool true))) (.t 64)⟩])
                            (.cond (.t 65)
                              (.seq
                                (.reg false [4] [⟨(some 4), none, false, .mov (.k (.d (.bool false)))⟩])
                                .ret)
                              .skip))
                          (.seq
                            (.reg false [0, 1, 6, 7, 9, 12] [⟨(some 12), none, false, .mov (.k (.d (.int .i64 1)))⟩])
                            (.seq
                              (.reg false [0, 1, 6, 7, 9, 12] [⟨(some 66), none, false, .mov (.t 9)⟩,
                                 ⟨(some 67), none, false, .mov (.t 12)⟩,
                                 ⟨(some 68), none, true, .call 27 [(.t 66), (.t 67)]⟩,
                                 ⟨(some 12), none, false, .mov (.t 68)⟩])
                              (.seq
                                (.reg false [0, 1, 6, 7, 9, 12, 13] [⟨(some 13), none, false, .mov (.k (.d (.int .i64 1)))⟩])
                                (.seq
                                  (.reg false [0, 1, 6, 7, 9, 12, 13] [⟨(some 69), none, false, .mov (.t 9)⟩,
                                     ⟨(some 70), none, false, .mov (.t 13)⟩,
                                     ⟨(some 71), none, true, .call 28 [(.t 69), (.t 70)]⟩,
                                     ⟨(some 13), none, false, .mov (.t 71)⟩])
                                  (.seq
                                    (.seq
                                      (.reg false [0, 1, 6, 7, 9, 12, 13, 73] [⟨(some 72), none, false, .mov (.t 13)⟩,
                                         ⟨(some 73), none, false, .bin .lss (.t 72) (.k (.d (.int .i64 0)))⟩])
                                      (.cond (.t 73)
                                        (.seq
                                          (.reg false [4] [⟨(some 4), none, false, .mov (.k (.d (.bool false)))⟩])
                                          .ret)
                                        .skip))
                                    (.seq
                                      (.seq
                                        (.reg false [0, 1, 6, 7, 9, 12, 76] [⟨(some 74), none, false, .mov (.t 13)⟩,
                                           ⟨(some 75), none, false, .mov (.t 12)⟩,
                                           ⟨(some 76), none, false, .bin .neq (.t 74) (.t 75)⟩])
                                        (.cond (.t 76)
                                          (.seq
                                            (.reg false [4] [⟨(some 4), none, false, .mov (.k (.d (.bool false)))⟩])
                                            .ret)
                                          .skip))
                                      (.seq
                                        (.reg false [6, 7, 9, 12, 14, 15] [⟨(some 78), none, false, .mov (.t 0)⟩,
                                           ⟨(some 79), none, false, .mov (.t 1)⟩,
                                           ⟨(some 80), none, true, .call 16 [(.t 79)]⟩,
                                           ⟨(some 81), none, true, .call 32 [(.t 78), (.t 80)]⟩,
                                           ⟨(some 77), none, false, .mov (.t 81)⟩,
                                           ⟨(some 82), none, false, .ext (.t 77) 0⟩,
                                           ⟨(some 83), none, false, .ext (.t 77) 1⟩,
                                           ⟨(some 14), none, false, .mov (.t 82)⟩,
                                           ⟨(some 15), none, false, .mov (.t 83)⟩])
                                        (.seq
                                          (.seq
                                            (.reg false [9, 12, 92] [⟨(some 84), none, false, .mov (.t 14)⟩,
                                               ⟨(some 85), none, false, .mov (.t 6)⟩,
                                               ⟨(some 86), none, true, .call 25 [(.t 84), (.t 85)]⟩,
                                               ⟨(some 87), none, false, .un .not (.t 86)⟩,
                                               ⟨(some 88), none, false, .mov (.t 87)⟩,
                                               ⟨(some 89), (some (88, false)), false, .mov (.t 15)⟩,
                                               ⟨(some 90), (some (88, false)), false, .mov (.t 7)⟩,
                                               ⟨(some 91), (some (88, false)), false, .bb .neq (.t 89) (.t 90)⟩,
                                               ⟨(some 92), none, false, .pick (.t 88) (.k (.d (.bool true))) (.t 91)⟩])
                                            (.cond (.t 92)
                                              (.seq
                                                (.reg false [4] [⟨(some 4), none, false, .mov (.k (.d (.bool false)))⟩])
                                                .ret)
                                              .skip))
                                          (.seq
                                            (.reg false [9, 12, 13] [⟨(some 13), none, false, .mov (.k (.d (.int .i64 1)))⟩])
                                            (.seq
                                              (.reg false [12, 13] [⟨(some 93), none, false, .mov (.t 9)⟩,
                                                 ⟨(some 94), none, false, .mov (.t 13)⟩,
                                                 ⟨(some 95), none, true, .call 28 [(.t 93), (.t 94)]⟩,
                                                 ⟨(some 13), none, false, .mov (.t 95)⟩])
                                              (.seq
                                                (.seq
                                                  (.reg false [12, 13, 97] [⟨(some 96), none, false, .mov (.t 13)⟩,
                                                     ⟨(some 97), none, false, .bin .lss (.t 96) (.k (.d (.int .i64 0)))⟩])
                                                  (.cond (.t 97)
                                                    (.seq
                                                      (.reg false [4] [⟨(some 4), none, false, .mov (.k (.d (.bool false)))⟩])
                                                      .ret)
                                                    .skip))
                                                (.seq
                                                  (.seq
                                                    (.reg false [100] [⟨(some 98), none, false, .mov (.t 13)⟩,
                                                       ⟨(some 99), none, false, .mov (.t 12)⟩,
                                                       ⟨(some 100), none, false, .bin .neq (.t 98) (.t 99)⟩])
                                                    (.cond (.t 100)
                                                      (.seq
                                                        (.reg false [4] [⟨(some 4), none, false, .mov (.k (.d (.bool false)))⟩])
                                                        .ret)
                                                      .skip))
                                                  (.seq
                                                    (.reg false [4] [⟨(some 4), none, false, .mov (.k (.d (.bool true)))⟩])
                                                    .ret)))))))))))))))))))))))))
theorem c9 : (Go.Proofs.Try.f9).body.bind (comp (Go.Proofs.Try.prog) (2, (Go.Proofs.Try.f9).ntmps) lv9) = some m9 := by kernel_rfl
theorem r9 : resOK (Go.Proofs.Try.prog) (Go.Proofs.Try.f9).results.toList = true := by kernel_rfl

/-- laws.FnClearing loops: 0=? 26=? 27=? 31=?; 0=? 6=? 7=? 11=? 12=? 13=? -/
def lv10 : List (Nat × List Nat) := [(0, [0]), (1, [0, 41]), (2, [2]), (3, [0, 3, 4]), (4, [0, 3, 4, 5, 6, 7]), (5, [0, 3, 4, 5, 6, 7, 8, 9, 10]), (6, [0, 3, 4, 6, 7, 73]), (7, [2]), (8, [0, 6, 7, 11, 12]), (9, [0, 6, 7, 11, 12, 13]), (10, [0, 6, 7, 11, 12, 13, 86]), (11, [0, 6, 7, 11, 12, 13]), (12, [0, 6, 7, 11, 12, 13, 98]), (13, [2]), (14, [0, 14, 15]), (15, [0, 14, 15, 16, 17]), (16, [0, 14, 15, 16, 17, 18, 19]), (17, [0, 14, 15, 16, 17, 123]), (18, [2]), (19, [0, 15, 16, 17, 20, 21]), (20, [0, 15, 16, 17, 20, 21, 22]), (21, [0, 15, 16, 20, 21, 22, 132]), (22, [0, 15, 16, 20, 22, 144]), (23, [2]), (24, [0, 16, 20, 22, 23]), (25, [0, 16, 20, 22, 24]), (26, [0, 182]), (27, [2]), (28, [0, 25, 26]), (29, [0, 25, 26, 27, 28]), (30, [0, 26, 27, 28, 29, 30]), (31, [0, 26, 27, 208]), (32, [2]), (33, [0, 26, 27, 31]), (34, [0, 26, 27, 31, 212]), (35, [0, 26, 27, 31]), (36, [0, 26, 27, 31, 221]), (37, [2]), (38, [32, 33]), (39, [32, 33, 34, 35, 36]), (40, [34, 35, 36, 37, 38, 39]), (41, [2])]
def m10 : MC :=
  (.seq
    (.reg false [0] [⟨(some 2), none, false, .mov (.k (.d (.bool false)))⟩])
    (.seq
      (.seq
        (.reg false [0, 41] [⟨(some 40), none, false, .mov (.t 0)⟩,
           ⟨(some 41), none, true, .call 33 [(.t 40)]⟩])
        (.cond (.t 41)
          (.seq
            (.reg false [2] [⟨(some 2), none, false, .mov (.k (.d (.bool true)))⟩])
            .ret)
          .skip))
      (.seq
        (.reg false [0, 3, 4] [⟨(some 43), none, false, .mov (.t 0)⟩,
           ⟨(some 44), none, true, .call 34 [(.t 43)]⟩,
           ⟨(some 42), none, false, .mov (.t 44)⟩,
           ⟨(some 45), none, false, .ext (.t 42) 0⟩,
           ⟨(some 46), none, false, .ext (.t 42) 1⟩,
           ⟨(some 3), none, false, .mov (.t 45)⟩,
           ⟨(some 4), none, false, .mov (.t 46)⟩])
        (.seq
          (.reg false [0, 3, 4, 5, 6, 7] [⟨(some 48), none, false, .mov (.t 3)⟩,
             ⟨(some 49), none, false, .mov (.t 4)⟩,
             ⟨(some 50), none, true, .call 22 [(.t 48), (.t 49)]⟩,
             ⟨(some 47), none, false, .mov (.t 50)⟩,
             ⟨(some 51), none, false, .ext (.t 47) 0⟩,
             ⟨(some 52), none, false, .ext (.t 47) 1⟩,
             ⟨(some 53), none, false, .ext (.t 47) 2⟩,
             ⟨(some 5), none, false, .mov (.t 51)⟩,
             ⟨(some 6), none, false, .mov (.t 52)⟩,
             ⟨(some 7), none, false, .mov (.t 53)⟩])
          (.seq
            (.seq
              (.reg false [0, 3, 4, 5, 6, 7, 8, 9, 10] [⟨(some 55), none, false, .mov (.t 3)⟩,
                 ⟨(some 56), none, false, .mov (.t 4)⟩,
                 ⟨(some 57), none, true, .call 21 [(.t 55), (.t 56)]⟩,
                 ⟨(some 54), none, false, .mov (.t 57)⟩,
                 ⟨(some 58), none, false, .ext (.t 54) 0⟩,
                 ⟨(some 59), none, false, .ext (.t 54) 1⟩,
                 ⟨(some 60), none, false, .ext (.t 54) 2⟩,
                 ⟨(some 8), none, false, .mov (.t 58)⟩,
                 ⟨(some 9), none, false, .mov (.t 59)⟩,
                 ⟨(some 10), none, false, .mov (.t 60)⟩])
              (.seq
                (.reg false [0, 3, 4, 6, 7, 73] [⟨(some 61), none, false, .mov (.t 5)⟩,
                   ⟨(some 62), none, false, .mov (.t 8)⟩,
                   ⟨(some 63), none, false, .bin .neq (.t 61) (.t 62)⟩,
                   ⟨(some 64), none, false, .mov (.t 63)⟩,
                   ⟨(some 65), (some (64, false)), false, .mov (.t 6)⟩,
                   ⟨(some 66), (some (64, false)), false, .mov (.t 9)⟩,
                   ⟨(some 67), (some (64, false)), false, .bin .neq (.t 65) (.t 66)⟩,
                   ⟨(some 68), none, false, .pick (.t 64) (.k (.d (.bool true))) (.t 67)⟩,
                   ⟨(some 69), none, false, .mov (.t 68)⟩,
                   ⟨(some 70), (some (69, false)), false, .mov (.t 7)⟩,
                   ⟨(some 71), (some (69, false)), false, .mov (.t 10)⟩,
                   ⟨(some 72), (some (69, false)), false, .bb .neq (.t 70) (.t 71)⟩,
                   ⟨(some 73), none, false, .pick (.t 69) (.k (.d (.bool true))) (.t 72)⟩])
                (.cond (.t 73)
                  (.seq
                    (.reg false [2] [⟨(some 2), none, false, .mov (.k (.d (.bool false)))⟩])
                    .ret)
                  .skip)))
            (.seq
              (.reg false [0, 6, 7, 11, 12] [⟨(some 75), none, false, .mov (.t 3)⟩,
                 ⟨(some 76), none, false, .mov (.t 4)⟩,
                 ⟨(some 77), none, true, .call 24 [(.t 75), (.t 76)]⟩,
                 ⟨(some 74), none, false, .mov (.t 77)⟩,
                 ⟨(some 78), none, false, .ext (.t 74) 0⟩,
                 ⟨(some 79), none, false, .ext (.t 74) 1⟩,
                 ⟨(some 11), none, false, .mov (.t 78)⟩,
                 ⟨(some 12), none, false, .mov (.t 79)⟩])
              (.seq
                (.seq
                  (.reg false [0, 6, 7, 11, 12, 13] [⟨(some 13), none, false, .mov (.k (.d (.int .i64 0)))⟩])
                  (.block 0
                    (.loop
                      (.seq
                        (.seq
                          (.reg false [0, 6, 7, 11, 12, 13, 86] [⟨(some 80), none, false, .mov (.t 13)⟩,
                             ⟨(some 81), none, false, .mov (.t 11)⟩,
                             ⟨(some 82), none, false, .len false (.t 81)⟩,
                             ⟨(some 83), none, false, .bin .lss (.t 80) (.t 82)⟩,
                             ⟨(some 84), none, false, .mov (.t 83)⟩,
                             ⟨(some 85), (some (84, true)), false, .mov (.t 7)⟩,
                             ⟨(some 86), none, false, .pick (.t 84) (.t 85) (.k (.d (.bool false)))⟩])
                          (.cond (.t 86)
                            .skip
                            (.exit 0)))
                        (.seq
                          (.block 1
                            (.seq
                              (.reg false [0, 6, 7, 11, 12, 13, 98] [⟨(some 89), none, false, .mov (.t 12)⟩,
                                 ⟨(some 90), none, false, .un .not (.t 89)⟩,
                                 ⟨(some 91), none, false, .mov (.t 90)⟩,
                                 ⟨(some 92), (some (91, false)), false, .mov (.t 11)⟩,
                                 ⟨(some 93), (some (91, false)), false, .mov (.t 13)⟩,
                                 ⟨(some 94), (some (91, false)), false, .ia 1 (.t 92) (.t 93)⟩,
                                 ⟨(some 95), (some (91, false)), false, .ld none (.t 94)⟩,
                                 ⟨(some 96), (some (91, false)), false, .mov (.t 6)⟩,
                                 ⟨(some 97), (some (91, false)), false, .bin .gtr (.t 95) (.t 96)⟩,
                                 ⟨(some 98), none, false, .pick (.t 91) (.k (.d (.bool true))) (.t 97)⟩])
                              (.cond (.t 98)
                                (.seq
                                  (.reg false [2] [⟨(some 2), none, false, .mov (.k (.d (.bool false)))⟩])
                                  .ret)
                                .skip)))
                          (.reg false [0, 6, 7, 11, 12, 13] [⟨(some 87), none, false, .mov (.t 13)⟩,
                             ⟨(some 88), none, false, .bin .add (.t 87) (.k (.d (.int .i64 1)))⟩,
                             ⟨(some 13), none, false, .mov (.t 88)⟩]))))))
                (.seq
                  (.reg false [0, 14, 15] [⟨(some 100), none, false, .mov (.t 0)⟩,
                     ⟨(some 101), none, true, .call 35 [(.t 100)]⟩,
                     ⟨(some 99), none, false, .mov (.t 101)⟩,
                     ⟨(some 102), none, false, .ext (.t 99) 0⟩,
                     ⟨(some 103), none, false, .ext (.t 99) 1⟩,
                     ⟨(some 14), none, false, .mov (.t 102)⟩,
                     ⟨(some 15), none, false, .mov (.t 103)⟩])
                  (.seq
                    (.reg false [0, 14, 15, 16, 17] [⟨(some 105), none, false, .mov (.t 14)⟩,
                       ⟨(some 106), none, false, .mov (.t 15)⟩,
                       ⟨(some 107), none, true, .call 20 [(.t 105), (.t 106)]⟩,
                       ⟨(some 104), none, false, .mov (.t 107)⟩,
                       ⟨(some 108), none, false, .ext (.t 104) 0⟩,
                       ⟨(some 109), none, false, .ext (.t 104) 1⟩,
                       ⟨(some 16), none, false, .mov (.t 108)⟩,
                       ⟨(some 17), none, false, .mov (.t 109)⟩])
                    (.seq
                      (.seq
                        (.reg false [0, 14, 15, 16, 17, 18, 19] [⟨(some 111), none, false, .mov (.t 14)⟩,
                           ⟨(some 112), none, false, .mov (.t 15)⟩,
                           ⟨(some 113), none, true, .call 19 [(.t 111), (.t 112)]⟩,
                           ⟨(some 110), none, false, .mov (.t 113)⟩,
                           ⟨(some 114), none, false, .ext (.t 110) 0⟩,
                           ⟨(some 115), none, false, .ext (.t 110) 1⟩,
                           ⟨(some 18), none, false, .mov (.t 114)⟩,
                           ⟨(some 19), none, false, .mov (.t 115)⟩])
                        (.seq
                          (.reg false [0, 14, 15, 16, 17, 123] [⟨(some 116), none, false, .mov (.t 16)⟩,
                             ⟨(some 117), none, false, .mov (.t 18)⟩,
                             ⟨(some 118), none, false, .bin .neq (.t 116) (.t 117)⟩,
                             ⟨(some 119), none, false, .mov (.t 118)⟩,
                             ⟨(some 120), (some (119, false)), false, .mov (.t 17)⟩,
                             ⟨(some 121), (some (119, false)), false, .mov (.t 19)⟩,
                             ⟨(some 122), (some (119, false)), false, .bb .neq (.t 120) (.t 121)⟩,
                             ⟨(some 123), none, false, .pick (.t 119) (.k (.d (.bool true))) (.t 122)⟩])
                          (.cond (.t 123)
                            (.seq
                              (.reg false [2] [⟨(some 2), none, false, .mov (.k (.d (.bool false)))⟩])
                              .ret)
                            .skip)))
                      (.seq
                        (.reg false [0, 15, 16, 17, 20, 21] [⟨(some 125), none, false, .mov (.t 14)⟩,
                           ⟨(some 126), none, false, .mov (.t 15)⟩,
                           ⟨(some 127), none, true, .call 24 [(.t 125), (.t 126)]⟩,
                           ⟨(some 124), none, false, .mov (.t 127)⟩,
                           ⟨(some 128), none, false, .ext (.t 124) 0⟩,
                           ⟨(some 129), none, false, .ext (.t 124) 1⟩,
                           ⟨(some 20), none, false, .mov (.t 128)⟩,
                           ⟨(some 21), none, false, .mov (.t 129)⟩])
                        (.seq
                          (.seq
                            (.reg false [0, 15, 16, 17, 20, 21, 22] [⟨(some 130), none, false, .mov (.t 20)⟩,
                               ⟨(some 131), none, false, .len false (.t 130)⟩,
                               ⟨(some 22), none, false, .mov (.t 131)⟩])
                            (.seq
                              (.reg false [0, 15, 16, 20, 21, 22, 132] [⟨(some 132), none, false, .mov (.t 17)⟩])
                              (.cond (.t 132)
                                (.seq
                                  (.seq
                                    (.reg false [0, 15, 16, 20, 22, 144] [⟨(some 133), none, false, .mov (.t 21)⟩,
                                       ⟨(some 134), none, false, .un .not (.t 133)⟩,
                                       ⟨(some 135), none, false, .mov (.t 134)⟩,
                                       ⟨(some 136), (some (135, false)), false, .mov (.t 22)⟩,
                                       ⟨(some 137), (some (135, false)), false, .bin .eql (.t 136) (.k (.d (.int .i64 0)))⟩,
                                       ⟨(some 138), none, false, .pick (.t 135) (.k (.d (.bool true))) (.t 137)⟩,
                                       ⟨(some 139), none, false, .mov (.t 138)⟩,
                                       ⟨(some 140), (some (139, false)), false, .mov (.t 22)⟩,
                                       ⟨(some 141), (some (139, false)), false, .mov (.t 15)⟩,
                                       ⟨(some 142), (some (139, false)), false, .len false (.t 141)⟩,
                                       ⟨(some 143), (some (139, false)), false, .bin .neq (.t 140) (.t 142)⟩,
                                       ⟨(some 144), none, false, .pick (.t 139) (.k (.d (.bool true))) (.t 143)⟩])
                                    (.cond (.t 144)
                                      (.seq
                                        (.reg false [2] [⟨(some 2), none, false, .mov (.k (.d (.bool false)))⟩])
                                        .ret)
                                      .skip))
                                  (.seq
                                    (.reg false [0, 16, 20, 22, 23] [⟨(some 145), none, false, .mov (.t 15)⟩,
                                       ⟨(some 146), none, false, .mov (.t 22)⟩,
                                       ⟨(some 147), none, false, .bin .sub (.t 146) (.k (.d (.int .i64 1)))⟩,
                                       ⟨(some 148), none, false, .ia 5 (.t 145) (.t 147)⟩,
                                       ⟨(some 149), none, false, .ld (some 5) (.t 148)⟩,
                                       ⟨(some 23), none, true, .alloc (.st (.cons (.int .i64 0) (.cons (.int .i64 0) (.cons (.int .i64 0) (.cons (.int .i64 0) (.cons (.int .i64 0) .nil))))))⟩,
                                       ⟨none, none, true, .st 5 (.t 23) (.t 149)⟩])
                                    (.seq
                                      (.reg false [0, 16, 20, 22, 24] [⟨(some 150), none, false, .fa 2 2 (.t 23)⟩,
                                         ⟨(some 151), none, false, .ld none (.t 150)⟩,
                                         ⟨(some 152), none, false, .fa 3 3 (.t 23)⟩,
                                         ⟨(some 153), none, false, .ld none (.t 152)⟩,
                                         ⟨(some 154), none, false, .bin .add (.t 151) (.t 153)⟩,
                                         ⟨(some 155), none, false, .fa 4 4 (.t 23)⟩,
                                         ⟨(some 156), none, false, .ld none (.t 155)⟩,
                                         ⟨(some 157), none, false, .bin .add (.t 154) (.t 156)⟩,
                                         ⟨(some 24), none, false, .mov (.t 157)⟩])
                                      (.seq
                                        (.reg false [0, 182] [⟨(some 158), none, false, .mov (.t 16)⟩,
                                           ⟨(some 159), none, false, .mov (.t 24)⟩,
                                           ⟨(some 160), none, false, .bin .mul (.t 158) (.t 159)⟩,
                                           ⟨(some 161), none, false, .mov (.t 20)⟩,
                                           ⟨(some 162), none, false, .mov (.t 22)⟩,
                                           ⟨(some 163), none, false, .bin .sub (.t 162) (.k (.d (.int .i64 1)))⟩,
                                           ⟨(some 164), none, false, .ia 1 (.t 161) (.t 163)⟩,
                                           ⟨(some 165), none, false, .ld none (.t 164)⟩,
                                           ⟨(some 166), none, false, .bin .lss (.t 160) (.t 165)⟩,
                                           ⟨(some 167), none, false, .mov (.t 166)⟩,
                                           ⟨(some 168), (some (167, false)), false, .mov (.t 16)⟩,
                                           ⟨(some 169), (some (167, false)), false, .bin .gtr (.t 168) (.k (.d (.int .i64 0)))⟩,
                                           ⟨(some 170), (some (167, false)), false, .mov (.t 169)⟩,
                                           ⟨(some 171), (some (170, true)), false, .mov (.t 16)⟩,
                                           ⟨(some 172), (some (170, true)), false, .bin .sub (.t 171) (.k (.d (.int .i64 1)))⟩,
                                           ⟨(some 173), (some (170, true)), false, .mov (.t 24)⟩,
                                           ⟨(some 174), (some (170, true)), false, .bin .mul (.t 172) (.t 173)⟩,
                                           ⟨(some 175), (some (170, true)), false, .mov (.t 20)⟩,
                                           ⟨(some 176), (some (170, true)), false, .mov (.t 22)⟩,
                                           ⟨(some 177), (some (170, true)), false, .bin .sub (.t 176) (.k (.d (.int .i64 1)))⟩,
                                           ⟨(some 178), (some (170, true)), false, .ia 1 (.t 175) (.t 177)⟩,
                                           ⟨(some 179), (some (170, true)), false, .ld none (.t 178)⟩,
                                           ⟨(some 180), (some (170, true)), false, .bin .geq (.t 174) (.t 179)⟩,
                                           ⟨(some 181), (some (167, false)), false, .pick (.t 170) (.t 180) (.k (.d (.bool false)))⟩,
                                           ⟨(some 182), none, false, .pick (.t 167) (.k (.d (.bool true))) (.t 181)⟩])
                                        (.cond (.t 182)
                                          (.seq
                                            (.reg false [2] [⟨(some 2), none, false, .mov (.k (.d (.bool false)))⟩])
                                            .ret)
                                          .skip)))))
                                .skip)))
                          (.seq
                            (.reg false [0, 25, 26] [⟨(some 184), none, false, .mov (.t 0)⟩,
                               ⟨(some 185), none, true, .call 36 [(.t 184)]⟩,
                               ⟨(some 183), none, false, .mov (.t 185)⟩,
                               ⟨(some 186), none, false, .ext (.t 183) 0⟩,
                               ⟨(some 187), none, false, .ext (.t 183) 1⟩,
                               ⟨(some 25), none, false, .mov (.t 186)⟩,
                               ⟨(some 26), none, false, .mov (.t 187)⟩])
                            (.seq
                              (.reg false [0, 25, 26, 27, 28] [⟨(some 189), none, false, .mov (.t 25)⟩,
                                 ⟨(some 190), none, false, .mov (.t 26)⟩,
                                 ⟨(some 191), none, true, .call 32 [(.t 189), (.t 190)]⟩,
                                 ⟨(some 188), none, false, .mov (.t 191)⟩,
                                 ⟨(some 192), none, false, .ext (.t 188) 0⟩,
                                 ⟨(some 193), none, false, .ext (.t 188) 1⟩,
                                 ⟨(some 27), none, false, .mov (.t 192)⟩,
                                 ⟨(some 28), none, false, .mov (.t 193)⟩])
                              (.seq
                                (.seq
                                  (.reg false [0, 26, 27, 28, 29, 30] [⟨(some 195), none, false, .mov (.t 25)⟩,
                                     ⟨(some 196), none, false, .mov (.t 26)⟩,
                                     ⟨(some 197), none, true, .call 31 [(.t 195), (.t 196)]⟩,
                                     ⟨(some 194), none, false, .mov (.t 197)⟩,
                                     ⟨(some 198), none, false, .ext (.t 194) 0⟩,
                                     ⟨(some 199), none, false, .ext (.t 194) 1⟩,
                                     ⟨(some 29), none, false, .mov (.t 198)⟩,
                                     ⟨(some 30), none, false, .mov (.t 199)⟩])
                                  (.seq
                                    (.reg false [0, 26, 27, 208] [⟨(some 200), none, false, .mov (.t 28)⟩,
                                       ⟨(some 201), none, false, .mov (.t 30)⟩,
                                       ⟨(some 202), none, false, .bb .neq (.t 200) (.t 201)⟩,
                                       ⟨(some 203), none, false, .mov (.t 202)⟩,
                                       ⟨(some 204), (some (203, false)), false, .mov (.t 27)⟩,
                                       ⟨(some 205), (some (203, false)), false, .mov (.t 29)⟩,
                                       ⟨(some 206), (some (203, false)), true, .call 37 [(.t 204), (.t 205)]⟩,
                                       ⟨(some 207), (some (203, false)), false, .un .not (.t 206)⟩,
                                       ⟨(some 208), none, false, .pick (.t 203) (.k (.d (.bool true))) (.t 207)⟩])
                                    (.cond (.t 208)
                                      (.seq
                                        (.reg false [2] [⟨(some 2), none, false, .mov (.k (.d (.bool false)))⟩])
                                        .ret)
                                      .skip)))
                                (.seq
                                  (.seq
                                    (.reg false [0, 26, 27, 31] [⟨(some 31), none, false, .mov (.k (.d (.int .i64 0)))⟩])
                                    (.block 2
                                      (.loop
                                        (.seq
                                          (.seq
                                            (.reg false [0, 26, 27, 31, 212] [⟨(some 209), none, false, .mov (.t 31)⟩,
                                               ⟨(some 210), none, false, .mov (.t 26)⟩,
                                               ⟨(some 211), none, false, .len false (.t 210)⟩,
                                               ⟨(some 212), none, false, .bin .lss (.t 209) (.t 211)⟩])
                                            (.cond (.t 212)
                                              .skip
                                              (.exit 2)))
                                          (.seq
                                            (.block 3
                                              (.seq
                                                (.reg false [0, 26, 27, 31, 221] [⟨(some 215), none, false, .mov (.t 27)⟩,
                                                   ⟨(some 216), none, false, .mov (.t 26)⟩,
                                                   ⟨(some 217), none, false, .mov (.t 31)⟩,
                                                   ⟨(some 218), none, false, .ia 5 (.t 216) (.t 217)⟩,
                                                   ⟨(some 219), none, false, .fa 0 0 (.t 218)⟩,
                                                   ⟨(some 220), none, false, .ld none (.t 219)⟩,
                                                   ⟨(some 221), none, true, .call 38 [(.t 215), (.t 220)]⟩])
                                                (.cond (.t 221)
                                                  (.seq
                                                    (.reg false [2] [⟨(some 2), none, false, .mov (.k (.d (.bool false)))⟩])
                                                    .ret)
                                                  .skip)))
                                            (.reg false [0, 26, 27, 31] [⟨(some 213), none, false, .mov (.t 31)⟩,
                                               ⟨(some 214), none, false, .bin .add (.t 213) (.k (.d (.int .i64 1)))⟩,
                                               ⟨(some 31), none, false, .mov (.t 214)⟩]))))))
                                  (.seq
                                    (.reg false [32, 33] [⟨(some 223), none, false, .mov (.t 0)⟩,
                                       ⟨(some 224), none, true, .call 39 [(.t 223)]⟩,
                                       ⟨(some 222), none, false, .mov (.t 224)⟩,
                                       ⟨(some 225), none, false, .ext (.t 222) 0⟩,
                                       ⟨(some 226), none, false, .ext (.t 222) 1⟩,
                                       ⟨(some 32), none, false, .mov (.t 225)⟩,
                                       ⟨(some 33), none, false, .mov (.t 226)⟩])
                                    (.seq
                                      (.reg false [32, 33, 34, 35, 36] [⟨(some 228), none, false, .mov (.t 32)⟩,
                                         ⟨(some 229), none, false, .mov (.t 33)⟩,
                                         ⟨(some 230), none, true, .call 30 [(.t 228), (.t 229)]⟩,
                                         ⟨(some 227), none, false, .mov (.t 230)⟩,
                                         ⟨(some 231), none, false, .ext (.t 227) 0⟩,
                                         ⟨(some 232), none, false, .ext (.t 227) 1⟩,
                                         ⟨(some 233), none, false, .ext (.t 227) 2⟩,
                                         ⟨(some 34), none, false, .mov (.t 231)⟩,
                                         ⟨(some 35), none, false, .mov (.t 232)⟩,
                                         ⟨(some 36), none, false, .mov (.t 233)⟩])
                                      (.seq
                                        (.reg false [34, 35, 36, 37, 38, 39] [⟨(some 235), none, false, .mov (.t 32)⟩,
                                           ⟨(some 236), none, false, .mov (.t 33)⟩,
                                           ⟨(some 237), none, true, .call 29 [(.t 235), (.t 236)]⟩,
                                           ⟨(some 234), none, false, .mov (.t 237)⟩,
                                           ⟨(some 238), none, false, .ext (.t 234) 0⟩,
                                           ⟨(some 239), none, false, .ext (.t 234) 1⟩,
                                           ⟨(some 240), none, false, .ext (.t 234) 2⟩,
                                           ⟨(some 37), none, false, .mov (.t 238)⟩,
                                           ⟨(some 38), none, false, .mov (.t 239)⟩,
                                           ⟨(some 39), none, false, .mov (.t 240)⟩])
                                        (.seq
                                          (.reg false [2] [⟨(some 241), none, false, .mov (.t 34)⟩,
                                             ⟨(some 242), none, false, .mov (.t 37)⟩,
                                             ⟨(some 243), none, false, .bin .eql (.t 241) (.t 242)⟩,
                                             ⟨(some 244), none, false, .mov (.t 243)⟩,
                                             ⟨(some 245), (some (244, true)), false, .mov (.t 35)⟩,
                                             ⟨(some 246), (some (244, true)), false, .mov (.t 38)⟩,
                                             ⟨(some 247), (some (244, true)), false, .bin .eql (.t 245) (.t 246)⟩,
                                             ⟨(some 248), none, false, .pick (.t 244) (.t 247) (.k (.d (.bool false)))⟩,
                                             ⟨(some 249), none, false, .mov (.t 248)⟩,
                                             ⟨(some 250), (some (249, true)), false, .mov (.t 36)⟩,
                                             ⟨(some 251), (some (249, true)), false, .mov (.t 39)⟩,
                                             ⟨(some 252), (some (249, true)), false, .bb .eql (.t 250) (.t 251)⟩,
                                             ⟨(some 253), none, false, .pick (.t 249) (.t 252) (.k (.d (.bool false)))⟩,
                                             ⟨(some 254), none, false, .mov (.t 253)⟩,
                                             ⟨(some 255), (some (254, true)), false, .mov (.t 36)⟩,
                                             ⟨(some 256), (some (254, true)), false, .un .not (.t 255)⟩,
                                             ⟨(some 257), (some (254, true)), false, .mov (.t 256)⟩,
                                             ⟨(some 258), (some (257, false)), false, .mov (.t 34)⟩,
                                             ⟨(some 259), (some (257, false)), false, .mov (.t 35)⟩,
                                             ⟨(some 260), (some (257, false)), false, .bin .leq (.t 258) (.t 259)⟩,
                                             ⟨(some 261), (some (254, true)), false, .pick (.t 257) (.k (.d (.bool true))) (.t 260)⟩,
                                             ⟨(some 262), none, false, .pick (.t 254) (.t 261) (.k (.d (.bool false)))⟩,
                                             ⟨(some 2), none, false, .mov (.t 262)⟩])
                                          .ret))))))))))))))))))))
theorem c10 : (Go.Proofs.Try.f10).body.bind (comp (Go.Proofs.Try.prog) (1, (Go.Proofs.Try.f10).ntmps) lv10) = some m10 := by kernel_rfl
theorem r10 : resOK (Go.Proofs.Try.prog) (Go.Proofs.Try.f10).results.toList = true := by kernel_rfl

/-- spec.IsYearRow -/
def lv11 : List (Nat × List Nat) := [(0, [1]), (1, [2])]
def m11 : MC :=
  (.seq
    (.reg false [1] [⟨(some 1), none, true, .box (.t 0)⟩,
       ⟨(some 2), none, false, .mov (.k (.d (.bool false)))⟩])
    (.seq
      (.reg false [2] [⟨(some 3), none, false, .ld (some 5) (.t 1)⟩,
         ⟨(some 4), none, true, .call 40 [(.t 3)]⟩,
         ⟨(some 2), none, false, .mov (.t 4)⟩])
      .ret))
theorem c11 : (Go.Proofs.Try.f11).body.bind (comp (Go.Proofs.Try.prog) (1, (Go.Proofs.Try.f11).ntmps) lv11) = some m11 := by kernel_rfl
theorem r11 : resOK (Go.Proofs.Try.prog) (Go.Proofs.Try.f11).results.toList = true := by kernel_rfl

/-- laws.toYearRow -/
def lv12 : List (Nat × List Nat) := [(0, [1, 2]), (1, [1, 2, 3]), (2, [1, 2, 3]), (3, [1, 2, 3]), (4, [1, 2, 3]), (5, [1, 2, 3]), (6, [2, 3]), (7, [2])]
def m12 : MC :=
  (.seq
    (.reg false [1, 2] [⟨(some 1), none, true, .box (.t 0)⟩,
       ⟨(some 2), none, true, .alloc (.st (.cons (.int .i64 0) (.cons (.int .i64 0) (.cons (.int .i64 0) (.cons (.int .i64 0) (.cons (.int .i64 0) .nil))))))⟩])
    (.seq
      (.reg false [1, 2, 3] [⟨(some 3), none, true, .alloc (.st (.cons (.int .i64 0) (.cons (.int .i64 0) (.cons (.int .i64 0) (.cons (.int .i64 0) (.cons (.int .i64 0) .nil))))))⟩])
      (.seq
        (.reg false [1, 2, 3] [⟨(some 4), none, false, .fa 0 0 (.t 1)⟩,
           ⟨(some 5), none, false, .ld none (.t 4)⟩,
           ⟨(some 6), none, false, .fa 0 0 (.t 3)⟩,
           ⟨none, none, true, .st 1 (.t 6) (.t 5)⟩])
        (.seq
          (.reg false [1, 2, 3] [⟨(some 7), none, false, .fa 1 1 (.t 1)⟩,
             ⟨(some 8), none, false, .ld none (.t 7)⟩,
             ⟨(some 9), none, false, .fa 1 1 (.t 3)⟩,
             ⟨none, none, true, .st 1 (.t 9) (.t 8)⟩])
          (.seq
            (.reg false [1, 2, 3] [⟨(some 10), none, false, .fa 2 2 (.t 1)⟩,
               ⟨(some 11), none, false, .ld none (.t 10)⟩,
               ⟨(some 12), none, false, .fa 2 2 (.t 3)⟩,
               ⟨none, none, true, .st 1 (.t 12) (.t 11)⟩])
            (.seq
              (.reg false [1, 2, 3] [⟨(some 13), none, false, .fa 3 3 (.t 1)⟩,
                 ⟨(some 14), none, false, .ld none (.t 13)⟩,
                 ⟨(some 15), none, false, .fa 3 3 (.t 3)⟩,
                 ⟨none, none, true, .st 1 (.t 15) (.t 14)⟩])
              (.seq
                (.reg false [2, 3] [⟨(some 16), none, false, .fa 4 4 (.t 1)⟩,
                   ⟨(some 17), none, false, .ld none (.t 16)⟩,
                   ⟨(some 18), none, false, .fa 4 4 (.t 3)⟩,
                   ⟨none, none, true, .st 1 (.t 18) (.t 17)⟩])
                (.seq
                  (.reg false [2] [⟨(some 19), none, false, .ld (some 5) (.t 3)⟩,
                     ⟨none, none, true, .st 5 (.t 2) (.t 19)⟩])
                  .ret))))))))
theorem c12 : (Go.Proofs.Try.f12).body.bind (comp (Go.Proofs.Try.prog) (1, (Go.Proofs.Try.f12).ntmps) lv12) = some m12 := by kernel_rfl
theorem r12 : resOK (Go.Proofs.Try.prog) (Go.Proofs.Try.f12).results.toList = true := by kernel_rfl

/-- impl.IsYearRow -/
def lv13 : List (Nat × List Nat) := [(0, [1]), (1, [2])]
def m13 : MC :=
  (.seq
    (.reg false [1] [⟨(some 1), none, true, .box (.t 0)⟩,
       ⟨(some 2), none, false, .mov (.k (.d (.bool false)))⟩])
    (.seq
      (.reg false [2] [⟨(some 3), none, false, .fa 0 0 (.t 1)⟩,
         ⟨(some 4), none, false, .ld none (.t 3)⟩,
         ⟨(some 5), none, true, .call 41 [(.t 4), (.k (.d (.int .i64 1900))), (.k (.d (.int .i64 2200)))]⟩,
         ⟨(some 6), none, false, .mov (.t 5)⟩,
         ⟨(some 7), (some (6, true)), false, .fa 1 1 (.t 1)⟩,
         ⟨(some 8), (some (6, true)), false, .ld none (.t 7)⟩,
         ⟨(some 9), (some (6, true)), true, .call 42 [(.t 8)]⟩,
         ⟨(some 10), none, false, .pick (.t 6) (.t 9) (.k (.d (.bool false)))⟩,
         ⟨(some 11), none, false, .mov (.t 10)⟩,
         ⟨(some 12), (some (11, true)), false, .fa 2 2 (.t 1)⟩,
         ⟨(some 13), (some (11, true)), false, .ld none (.t 12)⟩,
         ⟨(some 14), (some (11, true)), true, .call 42 [(.t 13)]⟩,
         ⟨(some 15), none, false, .pick (.t 11) (.t 14) (.k (.d (.bool false)))⟩,
         ⟨(some 16), none, false, .mov (.t 15)⟩,
         ⟨(some 17), (some (16, true)), false, .fa 3 3 (.t 1)⟩,
         ⟨(some 18), (some (16, true)), false, .ld none (.t 17)⟩,
         ⟨(some 19), (some (16, true)), true, .call 42 [(.t 18)]⟩,
         ⟨(some 20), none, false, .pick (.t 16) (.t 19) (.k (.d (.bool false)))⟩,
         ⟨(some 21), none, false, .mov (.t 20)⟩,
         ⟨(some 22), (some (21, true)), false, .fa 4 4 (.t 1)⟩,
         ⟨(some 23), (some (21, true)), false, .ld none (.t 22)⟩,
         ⟨(some 24), (some (21, true)), true, .call 42 [(.t 23)]⟩,
         ⟨(some 25), none, false, .pick (.t 21) (.t 24) (.k (.d (.bool false)))⟩,
         ⟨(some 2), none, false, .mov (.t 25)⟩])
      .ret))
theorem c13 : (Go.Proofs.Try.f13).body.bind (comp (Go.Proofs.Try.prog) (1, (Go.Proofs.Try.f13).ntmps) lv13) = some m13 := by kernel_rfl
theorem r13 : resOK (Go.Proofs.Try.prog) (Go.Proofs.Try.f13).results.toList = true := by kernel_rfl

/-- laws.szYearRowS -/
def lv14 : List (Nat × List Nat) := [(0, [0, 1]), (1, [1]), (2, [1, 10]), (3, [4]), (4, [4])]
def m14 : MC :=
  (.seq
    (.reg false [0, 1] [⟨(some 4), none, false, .mov (.k (.d (.int .i64 0)))⟩])
    (.seq
      (.reg false [1] [⟨(some 5), none, false, .mov (.t 1)⟩,
         ⟨(some 6), none, false, .mov (.t 0)⟩,
         ⟨(some 7), none, false, .len false (.t 6)⟩,
         ⟨(some 8), none, false, .bin .sub (.t 5) (.t 7)⟩,
         ⟨(some 1), none, false, .mov (.t 8)⟩])
      (.seq
        (.seq
          (.reg false [1, 10] [⟨(some 9), none, false, .mov (.t 1)⟩,
             ⟨(some 10), none, false, .bin .lss (.t 9) (.k (.d (.int .i64 0)))⟩])
          (.cond (.t 10)
            (.seq
              (.reg false [4] [⟨(some 4), none, false, .mov (.k (.d (.int .i64 (-1))))⟩])
              .ret)
            .skip))
        (.seq
          (.reg false [4] [⟨(some 11), none, false, .mov (.t 1)⟩,
             ⟨(some 4), none, false, .mov (.t 11)⟩])
          .ret))))
theorem c14 : (Go.Proofs.Try.f14).body.bind (comp (Go.Proofs.Try.prog) (1, (Go.Proofs.Try.f14).ntmps) lv14) = some m14 := by kernel_rfl
theorem r14 : resOK (Go.Proofs.Try.prog) (Go.Proofs.Try.f14).results.toList = true := by kernel_rfl

/-- spec.AreYearRows -/
def lv15 : List (Nat × List Nat) := [(0, [0, 1]), (1, [4])]
def m15 : MC :=
  (.seq
    (.reg false [0, 1] [⟨(some 4), none, false, .mov (.k (.d (.bool false)))⟩])
    (.seq
      (.reg false [4] [⟨(some 5), none, false, .mov (.t 0)⟩,
         ⟨(some 6), none, false, .mov (.t 1)⟩,
         ⟨(some 7), none, true, .call 43 [(.t 5), (.t 6)]⟩,
         ⟨(some 4), none, false, .mov (.t 7)⟩])
      .ret))
theorem c15 : (Go.Proofs.Try.f15).body.bind (comp (Go.Proofs.Try.prog) (2, (Go.Proofs.Try.f15).ntmps) lv15) = some m15 := by kernel_rfl
theorem r15 : resOK (Go.Proofs.Try.prog) (Go.Proofs.Try.f15).results.toList = true := by kernel_rfl

/-- laws.toYearRowS loops: 0=a 3=out 4=i -/
def lv16 : List (Nat × List Nat) := [(0, [0]), (1, [0, 3]), (2, [0, 3, 4]), (3, [0, 3, 4, 11]), (4, [0, 3, 4]), (5, [0, 3, 4]), (6, [2])]
def m16 : MC :=
  (.seq
    (.reg false [0] [⟨(some 2), none, false, .mov (.k .nil)⟩])
    (.seq
      (.reg false [0, 3] [⟨(some 5), none, false, .mov (.t 0)⟩,
         ⟨(some 6), none, false, .len false (.t 5)⟩,
         ⟨(some 7), none, true, .mk 5 40 (.st (.cons (.int .i64 0) (.cons (.int .i64 0) (.cons (.int .i64 0) (.cons (.int .i64 0) (.cons (.int .i64 0) .nil)))))) (.t 6)⟩,
         ⟨(some 3), none, false, .mov (.t 7)⟩])
      (.seq
        (.seq
          (.reg false [0, 3, 4] [⟨(some 4), none, false, .mov (.k (.d (.int .i64 0)))⟩])
          (.block 0
            (.loop
              (.seq
                (.seq
                  (.reg false [0, 3, 4, 11] [⟨(some 8), none, false, .mov (.t 4)⟩,
                     ⟨(some 9), none, false, .mov (.t 0)⟩,
                     ⟨(some 10), none, false, .len false (.t 9)⟩,
                     ⟨(some 11), none, false, .bin .lss (.t 8) (.t 10)⟩])
                  (.cond (.t 11)
                    .skip
                    (.exit 0)))
                (.seq
                  (.block 1
                    (.reg false [0, 3, 4] [⟨(some 14), none, false, .mov (.t 3)⟩,
                       ⟨(some 15), none, false, .mov (.t 4)⟩,
                       ⟨(some 16), none, false, .mov (.t 0)⟩,
                       ⟨(some 17), none, false, .mov (.t 4)⟩,
                       ⟨(some 18), none, false, .ia 5 (.t 16) (.t 17)⟩,
                       ⟨(some 19), none, false, .ld (some 5) (.t 18)⟩,
                       ⟨(some 20), none, true, .call 12 [(.t 19)]⟩,
                       ⟨(some 21), none, false, .ia 5 (.t 14) (.t 15)⟩,
                       ⟨none, none, true, .st 5 (.t 21) (.t 20)⟩]))
                  (.reg false [0, 3, 4] [⟨(some 12), none, false, .mov (.t 4)⟩,
                     ⟨(some 13), none, false, .bin .add (.t 12) (.k (.d (.int .i64 1)))⟩,
                     ⟨(some 4), none, false, .mov (.t 13)⟩]))))))
        (.seq
          (.reg false [2] [⟨(some 22), none, false, .mov (.t 3)⟩,
             ⟨(some 2), none, false, .mov (.t 22)⟩])
          .ret))))
theorem c16 : (Go.Proofs.Try.f16).body.bind (comp (Go.Proofs.Try.prog) (1, (Go.Proofs.Try.f16).ntmps) lv16) = some m16 := by kernel_rfl
theorem r16 : resOK (Go.Proofs.Try.prog) (Go.Proofs.Try.f16).results.toList = true := by kernel_rfl

/-- impl.AreYearRows -/
def lv17 : List (Nat × List Nat) := [(0, [0, 1]), (1, [6]), (2, [4])]
def m17 : MC :=
  (.seq
    (.reg false [0, 1] [⟨(some 4), none, false, .mov (.k (.d (.bool false)))⟩])
    (.seq
      (.reg false [6] [⟨(some 8), none, false, .mov (.t 0)⟩,
         ⟨(some 9), none, false, .mov (.t 1)⟩,
         ⟨(some 10), none, true, .call 44 [(.t 8), (.t 9)]⟩,
         ⟨(some 7), none, false, .mov (.t 10)⟩,
         ⟨(some 11), none, false, .ext (.t 7) 0⟩,
         ⟨(some 12), none, false, .ext (.t 7) 1⟩,
         ⟨(some 5), none, false, .mov (.t 11)⟩,
         ⟨(some 6), none, false, .mov (.t 12)⟩])
      (.seq
        (.reg false [4] [⟨(some 13), none, false, .mov (.t 6)⟩,
           ⟨(some 4), none, false, .mov (.t 13)⟩])
        .ret)))
theorem c17 : (Go.Proofs.Try.f17).body.bind (comp (Go.Proofs.Try.prog) (2, (Go.Proofs.Try.f17).ntmps) lv17) = some m17 := by kernel_rfl
theorem r17 : resOK (Go.Proofs.Try.prog) (Go.Proofs.Try.f17).results.toList = true := by kernel_rfl

/-- laws.eqYearRowS loops: 0=a 1=b 5=i -/
def lv18 : List (Nat × List Nat) := [(0, [0, 1]), (1, [0, 1, 10]), (2, [4]), (3, [0, 1, 5]), (4, [0, 1, 5, 14]), (5, [0, 1, 5]), (6, [0, 1, 5, 26]), (7, [4]), (8, [4])]
def m18 : MC :=
  (.seq
    (.reg false [0, 1] [⟨(some 4), none, false, .mov (.k (.d (.bool false)))⟩])
    (.seq
      (.seq
        (.reg false [0, 1, 10] [⟨(some 6), none, false, .mov (.t 0)⟩,
           ⟨(some 7), none, false, .len false (.t 6)⟩,
           ⟨(some 8), none, false, .mov (.t 1)⟩,
           ⟨(some 9), none, false, .len false (.t 8)⟩,
           ⟨(some 10), none, false, .bin .neq (.t 7) (.t 9)⟩])
        (.cond (.t 10)
          (.seq
            (.reg false [4] [⟨(some 4), none, false, .mov (.k (.d (.bool false)))⟩])
            .ret)
          .skip))
      (.seq
        (.seq
          (.reg false [0, 1, 5] [⟨(some 5), none, false, .mov (.k (.d (.int .i64 0)))⟩])
          (.block 0
            (.loop
              (.seq
                (.seq
                  (.reg false [0, 1, 5, 14] [⟨(some 11), none, false, .mov (.t 5)⟩,
                     ⟨(some 12), none, false, .mov (.t 0)⟩,
                     ⟨(some 13), none, false, .len false (.t 12)⟩,
                     ⟨(some 14), none, false, .bin .lss (.t 11) (.t 13)⟩])
                  (.cond (.t 14)
                    .skip
                    (.exit 0)))
                (.seq
                  (.block 1
                    (.seq
                      (.reg true [0, 1, 5, 26] [⟨(some 17), none, false, .mov (.t 0)⟩,
                         ⟨(some 18), none, false, .mov (.t 5)⟩,
                         ⟨(some 19), none, false, .ia 5 (.t 17) (.t 18)⟩,
                         ⟨(some 20), none, false, .ld (some 5) (.t 19)⟩,
                         ⟨(some 21), none, false, .mov (.t 1)⟩,
                         ⟨(some 22), none, false, .mov (.t 5)⟩,
                         ⟨(some 23), none, false, .ia 5 (.t 21) (.t 22)⟩,
                         ⟨(some 24), none, false, .ld (some 5) (.t 23)⟩,
                         ⟨(some 25), none, false, .callP 45 [(.t 20), (.t 24)]⟩,
                         ⟨(some 26), none, false, .un .not (.t 25)⟩])
                      (.cond (.t 26)
                        (.seq
                          (.reg false [4] [⟨(some 4), none, false, .mov (.k (.d (.bool false)))⟩])
                          .ret)
                        .skip)))
                  (.reg false [0, 1, 5] [⟨(some 15), none, false, .mov (.t 5)⟩,
                     ⟨(some 16), none, false, .bin .add (.t 15) (.k (.d (.int .i64 1)))⟩,
                     ⟨(some 5), none, false, .mov (.t 16)⟩]))))))
        (.seq
          (.reg false [4] [⟨(some 4), none, false, .mov (.k (.d (.bool true)))⟩])
          .ret))))
theorem c18 : (Go.Proofs.Try.f18).body.bind (comp (Go.Proofs.Try.prog) (2, (Go.Proofs.Try.f18).ntmps) lv18) = some m18 := by kernel_rfl
theorem r18 : resOK (Go.Proofs.Try.prog) (Go.Proofs.Try.f18).results.toList = true := by kernel_rfl

end Go.Pe.Try
