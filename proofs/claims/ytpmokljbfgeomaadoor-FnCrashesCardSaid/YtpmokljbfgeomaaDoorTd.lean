/- What is proved here: the translation of each function of this seat to the executor's code, as the kernel evaluates it; no condition. -/
import Derived.Test.YtpmokljbfgeomaaDoorAx3
import Derived.Test.YtpmokljbfgeomaaDoorProg
import Derived.KernelRfl
set_option linter.unusedSimpArgs false
set_option linter.unusedVariables false
namespace Go.Proofs.T
open Go Go.AX Go.Proofs
/-- loop.example/g01194/laws.FnExactSyncLog -/
def d3 : FD := ⟨[.t 2],
 (.seq
  (.ops 1 [⟨(some 1), none, (.m .box 0 [.t 0])⟩,
    ⟨(some 2), none, (.p .mv [.c (.bool false)])⟩] [1])
  (.seq
   (.ops 0 [⟨(some 3), none, (.p .mv [.c (.int .i64 1048576)])⟩] [1, 3])
   (.seq
    (.ops 2 [⟨(some 8), none, (.m (.load true 3) 0 [.t 1])⟩,
      ⟨(some 9), none, (.p .mv [.t 3])⟩,
      ⟨(some 10), none, (.call (.c (.fn 9 [] [])) [.t 8, .t 9] 0 2)⟩,
      ⟨(some 3), none, (.p .mv [.t 10])⟩] [1, 3])
    (.seq
     (.seq
      (.ops 0 [⟨(some 11), none, (.p .mv [.t 3])⟩,
        ⟨(some 12), none, (.p (.bin .lss .int) [.t 11, .c (.int .i64 0)])⟩] [1, 12])
      (.cond (.t 12)
       (.seq
        (.ops 0 [⟨(some 2), none, (.p .mv [.c (.bool true)])⟩] [2])
        .ret)
       .skip))
     (.seq
      (.ops 5 [⟨(some 14), none, (.m (.load true 3) 0 [.t 1])⟩,
        ⟨(some 15), none, (.call (.c (.fn 11 [] [])) [.t 14] 0 2)⟩,
        ⟨(some 16), none, (.call (.c (.fn 10 [] [])) [.t 15] 2 2)⟩,
        ⟨(some 13), none, (.p .mv [.t 16])⟩,
        ⟨(some 17), none, (.p (.extract 0) [.t 13])⟩,
        ⟨(some 18), none, (.p (.extract 1) [.t 13])⟩,
        ⟨(some 4), none, (.m (.alloc [.str [], .str [], .int .i64 0]) 4 [])⟩,
        ⟨none, none, (.m (.store 3) 0 [.t 4, .t 17])⟩,
        ⟨(some 5), none, (.p .mv [.t 18])⟩] [1, 4, 5])
      (.seq
       (.ops 5 [⟨(some 20), none, (.m (.load true 3) 0 [.t 1])⟩,
         ⟨(some 21), none, (.call (.c (.fn 11 [] [])) [.t 20] 0 2)⟩,
         ⟨(some 22), none, (.call (.c (.fn 12 [] [])) [.t 21] 2 2)⟩,
         ⟨(some 19), none, (.p .mv [.t 22])⟩,
         ⟨(some 23), none, (.p (.extract 0) [.t 19])⟩,
         ⟨(some 24), none, (.p (.extract 1) [.t 19])⟩,
         ⟨(some 6), none, (.m (.alloc [.str [], .str [], .int .i64 0]) 4 [])⟩,
         ⟨none, none, (.m (.store 3) 0 [.t 6, .t 23])⟩,
         ⟨(some 7), none, (.p .mv [.t 24])⟩] [4, 5, 6, 7])
       (.seq
        (.seq
         (.ops 2 [⟨(some 25), none, (.m (.load true 3) 0 [.t 6])⟩,
           ⟨(some 26), none, (.m (.load true 3) 0 [.t 4])⟩,
           ⟨(some 27), none, (.call (.c (.fn 13 [] [])) [.t 25, .t 26] 0 2)⟩,
           ⟨(some 28), none, (.p .not [.t 27])⟩,
           ⟨(some 29), none, (.p .mv [.t 28])⟩,
           ⟨(some 30), (some (29, false)), (.p .mv [.t 7])⟩,
           ⟨(some 31), (some (29, false)), (.p .mv [.t 5])⟩,
           ⟨(some 32), (some (29, false)), (.p (.bin .neq .bool) [.t 30, .t 31])⟩,
           ⟨(some 33), none, (.p .pick [.t 29, .c (.bool true), .t 32])⟩] [33])
         (.cond (.t 33)
          (.seq
           (.ops 0 [⟨(some 2), none, (.p .mv [.c (.bool false)])⟩] [2])
           .ret)
          .skip))
        (.seq
         (.ops 0 [⟨(some 2), none, (.p .mv [.c (.bool true)])⟩] [2])
         .ret))))))))⟩
theorem t3 : trF Tryd.prog Tryd.f3 [[1], [1, 3], [1, 3], [1, 12], [2], [1, 4, 5], [4, 5, 6, 7], [33], [2], [2]] = some d3 := by kernel_rfl
/-- loop.example/g01194/laws.FnExactAppendRecord -/
def d4 : FD := ⟨[.t 4],
 (.seq
  (.ops 2 [⟨(some 2), none, (.m .box 0 [.t 0])⟩,
    ⟨(some 3), none, (.m .box 1 [.t 1])⟩,
    ⟨(some 4), none, (.p .mv [.c (.bool false)])⟩] [2, 3])
  (.seq
   (.ops 0 [⟨(some 5), none, (.p .mv [.c (.int .i64 1048576)])⟩] [2, 3, 5])
   (.seq
    (.ops 2 [⟨(some 10), none, (.m (.load true 3) 0 [.t 2])⟩,
      ⟨(some 11), none, (.p .mv [.t 5])⟩,
      ⟨(some 12), none, (.call (.c (.fn 9 [] [])) [.t 10, .t 11] 0 2)⟩,
      ⟨(some 5), none, (.p .mv [.t 12])⟩] [2, 3, 5])
    (.seq
     (.seq
      (.ops 0 [⟨(some 13), none, (.p .mv [.t 5])⟩,
        ⟨(some 14), none, (.p (.bin .lss .int) [.t 13, .c (.int .i64 0)])⟩] [2, 3, 5, 14])
      (.cond (.t 14)
       (.seq
        (.ops 0 [⟨(some 4), none, (.p .mv [.c (.bool true)])⟩] [4])
        .ret)
       .skip))
     (.seq
      (.ops 2 [⟨(some 15), none, (.m (.load true 2) 0 [.t 3])⟩,
        ⟨(some 16), none, (.p .mv [.t 5])⟩,
        ⟨(some 17), none, (.call (.c (.fn 14 [] [])) [.t 15, .t 16] 0 2)⟩,
        ⟨(some 5), none, (.p .mv [.t 17])⟩] [2, 3, 5])
      (.seq
       (.seq
        (.ops 0 [⟨(some 18), none, (.p .mv [.t 5])⟩,
          ⟨(some 19), none, (.p (.bin .lss .int) [.t 18, .c (.int .i64 0)])⟩] [2, 3, 19])
        (.cond (.t 19)
         (.seq
          (.ops 0 [⟨(some 4), none, (.p .mv [.c (.bool true)])⟩] [4])
          .ret)
         .skip))
       (.seq
        (.draw 7 [(1, 2), (0, 8), (1, 8), (2, 8), (3, 8), (4, 8)] [⟨(some 21), none, (.m (.load true 3) 0 [.t 2])⟩,
          ⟨(some 22), none, (.call (.c (.fn 11 [] [])) [.t 21] 0 2)⟩,
          ⟨(some 23), none, (.m (.load true 2) 0 [.t 3])⟩,
          ⟨(some 24), none, (.call (.c (.fn 16 [] [])) [.t 23] 2 2)⟩,
          ⟨(some 25), none, (.call (.c (.fn 15 [] [])) [.t 22, .t 24] 4 2)⟩,
          ⟨(some 20), none, (.p .mv [.t 25])⟩,
          ⟨(some 26), none, (.p (.extract 0) [.t 20])⟩,
          ⟨(some 27), none, (.p (.extract 1) [.t 20])⟩,
          ⟨(some 6), none, (.m (.alloc [.str [], .str [], .int .i64 0]) 6 [])⟩,
          ⟨none, none, (.m (.store 3) 0 [.t 6, .t 26])⟩,
          ⟨(some 7), none, (.p .mv [.t 27])⟩] [2, 3, 6, 7])
        (.seq
         (.draw 7 [(1, 2), (0, 8), (1, 8), (2, 8), (3, 8), (4, 8)] [⟨(some 29), none, (.m (.load true 3) 0 [.t 2])⟩,
           ⟨(some 30), none, (.call (.c (.fn 11 [] [])) [.t 29] 0 2)⟩,
           ⟨(some 31), none, (.m (.load true 2) 0 [.t 3])⟩,
           ⟨(some 32), none, (.call (.c (.fn 16 [] [])) [.t 31] 2 2)⟩,
           ⟨(some 33), none, (.call (.c (.fn 17 [] [])) [.t 30, .t 32] 4 2)⟩,
           ⟨(some 28), none, (.p .mv [.t 33])⟩,
           ⟨(some 34), none, (.p (.extract 0) [.t 28])⟩,
           ⟨(some 35), none, (.p (.extract 1) [.t 28])⟩,
           ⟨(some 8), none, (.m (.alloc [.str [], .str [], .int .i64 0]) 6 [])⟩,
           ⟨none, none, (.m (.store 3) 0 [.t 8, .t 34])⟩,
           ⟨(some 9), none, (.p .mv [.t 35])⟩] [6, 7, 8, 9])
         (.seq
          (.seq
           (.ops 2 [⟨(some 36), none, (.m (.load true 3) 0 [.t 8])⟩,
             ⟨(some 37), none, (.m (.load true 3) 0 [.t 6])⟩,
             ⟨(some 38), none, (.call (.c (.fn 13 [] [])) [.t 36, .t 37] 0 2)⟩,
             ⟨(some 39), none, (.p .not [.t 38])⟩,
             ⟨(some 40), none, (.p .mv [.t 39])⟩,
             ⟨(some 41), (some (40, false)), (.p .mv [.t 9])⟩,
             ⟨(some 42), (some (40, false)), (.p .mv [.t 7])⟩,
             ⟨(some 43), (some (40, false)), (.p (.bin .neq .int) [.t 41, .t 42])⟩,
             ⟨(some 44), none, (.p .pick [.t 40, .c (.bool true), .t 43])⟩] [44])
           (.cond (.t 44)
            (.seq
             (.ops 0 [⟨(some 4), none, (.p .mv [.c (.bool false)])⟩] [4])
             .ret)
            .skip))
          (.seq
           (.ops 0 [⟨(some 4), none, (.p .mv [.c (.bool true)])⟩] [4])
           .ret))))))))))⟩
theorem t4 : trF Tryd.prog Tryd.f4 [[2, 3], [2, 3, 5], [2, 3, 5], [2, 3, 5, 14], [4], [2, 3, 5], [2, 3, 19], [4], [2, 3, 6, 7], [6, 7, 8, 9], [44], [4], [4]] = some d4 := by kernel_rfl
/-- loop.example/g01194/laws.FnExactLogRecords -/
def d5 : FD := ⟨[.t 2],
 (.seq
  (.ops 1 [⟨(some 1), none, (.m .box 0 [.t 0])⟩,
    ⟨(some 2), none, (.p .mv [.c (.bool false)])⟩] [1])
  (.seq
   (.ops 0 [⟨(some 3), none, (.p .mv [.c (.int .i64 1048576)])⟩] [1, 3])
   (.seq
    (.ops 2 [⟨(some 12), none, (.m (.load true 3) 0 [.t 1])⟩,
      ⟨(some 13), none, (.p .mv [.t 3])⟩,
      ⟨(some 14), none, (.call (.c (.fn 9 [] [])) [.t 12, .t 13] 0 2)⟩,
      ⟨(some 3), none, (.p .mv [.t 14])⟩] [1, 3])
    (.seq
     (.seq
      (.ops 0 [⟨(some 15), none, (.p .mv [.t 3])⟩,
        ⟨(some 16), none, (.p (.bin .lss .int) [.t 15, .c (.int .i64 0)])⟩] [1, 16])
      (.cond (.t 16)
       (.seq
        (.ops 0 [⟨(some 2), none, (.p .mv [.c (.bool true)])⟩] [2])
        .ret)
       .skip))
     (.seq
      (.ops 4 [⟨(some 18), none, (.m (.load true 3) 0 [.t 1])⟩,
        ⟨(some 19), none, (.call (.c (.fn 11 [] [])) [.t 18] 0 2)⟩,
        ⟨(some 20), none, (.call (.c (.fn 18 [] [])) [.t 19] 2 2)⟩,
        ⟨(some 17), none, (.p .mv [.t 20])⟩,
        ⟨(some 21), none, (.p (.extract 0) [.t 17])⟩,
        ⟨(some 22), none, (.p (.extract 1) [.t 17])⟩,
        ⟨(some 4), none, (.p .mv [.t 21])⟩,
        ⟨(some 5), none, (.p .mv [.t 22])⟩] [1, 4, 5])
      (.seq
       (.ops 4 [⟨(some 24), none, (.m (.load true 3) 0 [.t 1])⟩,
         ⟨(some 25), none, (.call (.c (.fn 11 [] [])) [.t 24] 0 2)⟩,
         ⟨(some 26), none, (.call (.c (.fn 19 [] [])) [.t 25] 2 2)⟩,
         ⟨(some 23), none, (.p .mv [.t 26])⟩,
         ⟨(some 27), none, (.p (.extract 0) [.t 23])⟩,
         ⟨(some 28), none, (.p (.extract 1) [.t 23])⟩,
         ⟨(some 6), none, (.p .mv [.t 27])⟩,
         ⟨(some 7), none, (.p .mv [.t 28])⟩] [1, 4, 5, 6, 7])
       (.seq
        (.seq
         (.ops 2 [⟨(some 29), none, (.p .mv [.t 6])⟩,
           ⟨(some 30), none, (.p .mv [.t 4])⟩,
           ⟨(some 31), none, (.call (.c (.fn 20 [] [])) [.t 29, .t 30] 0 2)⟩,
           ⟨(some 32), none, (.p .not [.t 31])⟩,
           ⟨(some 33), none, (.p .mv [.t 32])⟩,
           ⟨(some 34), (some (33, false)), (.p .mv [.t 7])⟩,
           ⟨(some 35), (some (33, false)), (.p .mv [.t 5])⟩,
           ⟨(some 36), (some (33, false)), (.p (.bin .neq .bool) [.t 34, .t 35])⟩,
           ⟨(some 37), none, (.p .pick [.t 33, .c (.bool true), .t 36])⟩] [1, 4, 5, 6, 37])
         (.cond (.t 37)
          (.seq
           (.ops 0 [⟨(some 2), none, (.p .mv [.c (.bool false)])⟩] [2])
           .ret)
          .skip))
        (.seq
         (.ops 0 [⟨(some 8), none, (.p .mv [.c (.int .i64 1)])⟩] [1, 4, 5, 6, 8])
         (.seq
          (.ops 2 [⟨(some 38), none, (.p .mv [.t 6])⟩,
            ⟨(some 39), none, (.p .mv [.t 8])⟩,
            ⟨(some 40), none, (.call (.c (.fn 21 [] [])) [.t 38, .t 39] 0 2)⟩,
            ⟨(some 8), none, (.p .mv [.t 40])⟩] [1, 4, 5, 6, 8])
          (.seq
           (.ops 0 [⟨(some 9), none, (.p .mv [.c (.int .i64 1)])⟩] [1, 4, 5, 6, 8, 9])
           (.seq
            (.ops 2 [⟨(some 41), none, (.p .mv [.t 6])⟩,
              ⟨(some 42), none, (.p .mv [.t 9])⟩,
              ⟨(some 43), none, (.call (.c (.fn 22 [] [])) [.t 41, .t 42] 0 2)⟩,
              ⟨(some 9), none, (.p .mv [.t 43])⟩] [1, 4, 5, 6, 8, 9])
            (.seq
             (.seq
              (.ops 0 [⟨(some 44), none, (.p .mv [.t 9])⟩,
                ⟨(some 45), none, (.p (.bin .lss .int) [.t 44, .c (.int .i64 0)])⟩] [1, 4, 5, 6, 8, 9, 45])
              (.cond (.t 45)
               (.seq
                (.ops 0 [⟨(some 2), none, (.p .mv [.c (.bool false)])⟩] [2])
                .ret)
               .skip))
             (.seq
              (.seq
               (.ops 0 [⟨(some 46), none, (.p .mv [.t 9])⟩,
                 ⟨(some 47), none, (.p .mv [.t 8])⟩,
                 ⟨(some 48), none, (.p (.bin .neq .int) [.t 46, .t 47])⟩] [1, 4, 5, 6, 8, 48])
               (.cond (.t 48)
                (.seq
                 (.ops 0 [⟨(some 2), none, (.p .mv [.c (.bool false)])⟩] [2])
                 .ret)
                .skip))
              (.seq
               (.ops 4 [⟨(some 50), none, (.m (.load true 3) 0 [.t 1])⟩,
                 ⟨(some 51), none, (.call (.c (.fn 11 [] [])) [.t 50] 0 2)⟩,
                 ⟨(some 52), none, (.call (.c (.fn 19 [] [])) [.t 51] 2 2)⟩,
                 ⟨(some 49), none, (.p .mv [.t 52])⟩,
                 ⟨(some 53), none, (.p (.extract 0) [.t 49])⟩,
                 ⟨(some 54), none, (.p (.extract 1) [.t 49])⟩,
                 ⟨(some 10), none, (.p .mv [.t 53])⟩,
                 ⟨(some 11), none, (.p .mv [.t 54])⟩] [4, 5, 6, 8, 10, 11])
               (.seq
                (.seq
                 (.ops 2 [⟨(some 55), none, (.p .mv [.t 10])⟩,
                   ⟨(some 56), none, (.p .mv [.t 4])⟩,
                   ⟨(some 57), none, (.call (.c (.fn 20 [] [])) [.t 55, .t 56] 0 2)⟩,
                   ⟨(some 58), none, (.p .not [.t 57])⟩,
                   ⟨(some 59), none, (.p .mv [.t 58])⟩,
                   ⟨(some 60), (some (59, false)), (.p .mv [.t 11])⟩,
                   ⟨(some 61), (some (59, false)), (.p .mv [.t 5])⟩,
                   ⟨(some 62), (some (59, false)), (.p (.bin .neq .bool) [.t 60, .t 61])⟩,
                   ⟨(some 63), none, (.p .pick [.t 59, .c (.bool true), .t 62])⟩] [6, 8, 63])
                 (.cond (.t 63)
                  (.seq
                   (.ops 0 [⟨(some 2), none, (.p .mv [.c (.bool false)])⟩] [2])
                   .ret)
                  .skip))
                (.seq
                 (.ops 0 [⟨(some 9), none, (.p .mv [.c (.int .i64 1)])⟩] [6, 8, 9])
                 (.seq
                  (.ops 2 [⟨(some 64), none, (.p .mv [.t 6])⟩,
                    ⟨(some 65), none, (.p .mv [.t 9])⟩,
                    ⟨(some 66), none, (.call (.c (.fn 22 [] [])) [.t 64, .t 65] 0 2)⟩,
                    ⟨(some 9), none, (.p .mv [.t 66])⟩] [8, 9])
                  (.seq
                   (.seq
                    (.ops 0 [⟨(some 67), none, (.p .mv [.t 9])⟩,
                      ⟨(some 68), none, (.p (.bin .lss .int) [.t 67, .c (.int .i64 0)])⟩] [8, 9, 68])
                    (.cond (.t 68)
                     (.seq
                      (.ops 0 [⟨(some 2), none, (.p .mv [.c (.bool false)])⟩] [2])
                      .ret)
                     .skip))
                   (.seq
                    (.seq
                     (.ops 0 [⟨(some 69), none, (.p .mv [.t 9])⟩,
                       ⟨(some 70), none, (.p .mv [.t 8])⟩,
                       ⟨(some 71), none, (.p (.bin .neq .int) [.t 69, .t 70])⟩] [71])
                     (.cond (.t 71)
                      (.seq
                       (.ops 0 [⟨(some 2), none, (.p .mv [.c (.bool false)])⟩] [2])
                       .ret)
                      .skip))
                    (.seq
                     (.ops 0 [⟨(some 2), none, (.p .mv [.c (.bool true)])⟩] [2])
                     .ret))))))))))))))))))))⟩
theorem t5 : trF Tryd.prog Tryd.f5 [[1], [1, 3], [1, 3], [1, 16], [2], [1, 4, 5], [1, 4, 5, 6, 7], [1, 4, 5, 6, 37], [2], [1, 4, 5, 6, 8], [1, 4, 5, 6, 8], [1, 4, 5, 6, 8, 9], [1, 4, 5, 6, 8, 9], [1, 4, 5, 6, 8, 9, 45], [2], [1, 4, 5, 6, 8, 48], [2], [4, 5, 6, 8, 10, 11], [6, 8, 63], [2], [6, 8, 9], [8, 9], [8, 9, 68], [2], [71], [2], [2]] = some d5 := by kernel_rfl
/-- loop.example/g01194/laws.FnExactIsValidConsole -/
def d6 : FD := ⟨[.t 2],
 (.seq
  (.ops 1 [⟨(some 1), none, (.m .box 0 [.t 0])⟩,
    ⟨(some 2), none, (.p .mv [.c (.bool false)])⟩] [1])
  (.seq
   (.ops 0 [⟨(some 3), none, (.p .mv [.c (.int .i64 1048576)])⟩] [1, 3])
   (.seq
    (.ops 2 [⟨(some 6), none, (.m (.load true 21) 0 [.t 1])⟩,
      ⟨(some 7), none, (.p .mv [.t 3])⟩,
      ⟨(some 8), none, (.call (.c (.fn 23 [] [])) [.t 6, .t 7] 0 2)⟩,
      ⟨(some 3), none, (.p .mv [.t 8])⟩] [1, 3])
    (.seq
     (.seq
      (.ops 0 [⟨(some 9), none, (.p .mv [.t 3])⟩,
        ⟨(some 10), none, (.p (.bin .lss .int) [.t 9, .c (.int .i64 0)])⟩] [1, 10])
      (.cond (.t 10)
       (.seq
        (.ops 0 [⟨(some 2), none, (.p .mv [.c (.bool true)])⟩] [2])
        .ret)
       .skip))
     (.seq
      (.ops 4 [⟨(some 11), none, (.m (.load true 21) 0 [.t 1])⟩,
        ⟨(some 12), none, (.call (.c (.fn 25 [] [])) [.t 11] 0 2)⟩,
        ⟨(some 13), none, (.call (.c (.fn 24 [] [])) [.t 12] 2 2)⟩,
        ⟨(some 4), none, (.p .mv [.t 13])⟩] [1, 4])
      (.seq
       (.ops 4 [⟨(some 14), none, (.m (.load true 21) 0 [.t 1])⟩,
         ⟨(some 15), none, (.call (.c (.fn 25 [] [])) [.t 14] 0 2)⟩,
         ⟨(some 16), none, (.call (.c (.fn 26 [] [])) [.t 15] 2 2)⟩,
         ⟨(some 5), none, (.p .mv [.t 16])⟩] [4, 5])
       (.seq
        (.seq
         (.ops 0 [⟨(some 17), none, (.p .mv [.t 5])⟩,
           ⟨(some 18), none, (.p .mv [.t 4])⟩,
           ⟨(some 19), none, (.p (.bin .neq .bool) [.t 17, .t 18])⟩] [19])
         (.cond (.t 19)
          (.seq
           (.ops 0 [⟨(some 2), none, (.p .mv [.c (.bool false)])⟩] [2])
           .ret)
          .skip))
        (.seq
         (.ops 0 [⟨(some 2), none, (.p .mv [.c (.bool true)])⟩] [2])
         .ret))))))))⟩
theorem t6 : trF Tryd.prog Tryd.f6 [[1], [1, 3], [1, 3], [1, 10], [2], [1, 4], [4, 5], [19], [2], [2]] = some d6 := by kernel_rfl
/-- loop.example/g01194/laws.FnLogs -/
def d7 : FD := ⟨[.t 2],
 (.seq
  (.ops 0 [⟨(some 2), none, (.p .mv [.c (.bool false)])⟩] [0])
  (.seq
   (.seq
    (.ops 2 [⟨(some 29), none, (.p .mv [.t 0])⟩,
      ⟨(some 30), none, (.call (.c (.fn 27 [] [])) [.t 29] 0 2)⟩] [0, 30])
    (.cond (.t 30)
     (.seq
      (.ops 0 [⟨(some 2), none, (.p .mv [.c (.bool true)])⟩] [2])
      .ret)
     .skip))
   (.seq
    (.ops 3 [⟨(some 31), none, (.p .mv [.t 0])⟩,
      ⟨(some 32), none, (.call (.c (.fn 28 [] [])) [.t 31] 0 2)⟩,
      ⟨(some 3), none, (.m (.alloc [.str [], .str []]) 2 [])⟩,
      ⟨none, none, (.m (.store 2) 0 [.t 3, .t 32])⟩] [0, 3])
    (.seq
     (.ops 5 [⟨(some 34), none, (.p .mv [.t 0])⟩,
       ⟨(some 35), none, (.call (.c (.fn 30 [] [])) [.t 34, .c (.int .i64 1)] 0 2)⟩,
       ⟨(some 36), none, (.call (.c (.fn 29 [] [])) [.t 35] 2 2)⟩,
       ⟨(some 33), none, (.p .mv [.t 36])⟩,
       ⟨(some 37), none, (.p (.extract 0) [.t 33])⟩,
       ⟨(some 38), none, (.p (.extract 1) [.t 33])⟩,
       ⟨(some 5), none, (.m (.alloc [.str [], .str []]) 4 [])⟩,
       ⟨(some 4), none, (.p .mv [.t 37])⟩,
       ⟨none, none, (.m (.store 2) 0 [.t 5, .t 38])⟩] [0, 3, 4, 5])
     (.seq
      (.ops 2 [⟨(some 40), none, (.p .mv [.t 4])⟩,
        ⟨(some 41), none, (.m (.load true 2) 0 [.t 5])⟩,
        ⟨(some 42), none, (.call (.c (.fn 31 [] [])) [.t 40, .t 41] 0 2)⟩,
        ⟨(some 39), none, (.p .mv [.t 42])⟩,
        ⟨(some 43), none, (.p (.extract 0) [.t 39])⟩,
        ⟨(some 44), none, (.p (.extract 1) [.t 39])⟩,
        ⟨(some 6), none, (.p .mv [.t 43])⟩,
        ⟨(some 7), none, (.p .mv [.t 44])⟩] [0, 3, 4, 5, 6, 7])
      (.seq
       (.ops 2 [⟨(some 46), none, (.p .mv [.t 4])⟩,
         ⟨(some 47), none, (.m (.load true 2) 0 [.t 5])⟩,
         ⟨(some 48), none, (.call (.c (.fn 32 [] [])) [.t 46, .t 47] 0 2)⟩,
         ⟨(some 45), none, (.p .mv [.t 48])⟩,
         ⟨(some 49), none, (.p (.extract 0) [.t 45])⟩,
         ⟨(some 50), none, (.p (.extract 1) [.t 45])⟩,
         ⟨(some 8), none, (.p .mv [.t 49])⟩,
         ⟨(some 9), none, (.p .mv [.t 50])⟩] [0, 3, 6, 7, 8, 9])
       (.seq
        (.ops 5 [⟨(some 51), none, (.p .mv [.t 0])⟩,
          ⟨(some 52), none, (.call (.c (.fn 30 [] [])) [.t 51, .c (.int .i64 2)] 0 2)⟩,
          ⟨(some 53), none, (.call (.c (.fn 33 [] [])) [.t 52] 2 2)⟩,
          ⟨(some 10), none, (.m (.alloc [.str [], .str [], .int .i64 0]) 4 [])⟩,
          ⟨none, none, (.m (.store 3) 0 [.t 10, .t 53])⟩] [0, 3, 6, 7, 8, 9, 10])
        (.seq
         (.ops 6 [⟨(some 55), none, (.p .mv [.t 0])⟩,
           ⟨(some 56), none, (.call (.c (.fn 30 [] [])) [.t 55, .c (.int .i64 3)] 0 2)⟩,
           ⟨(some 57), none, (.call (.c (.fn 34 [] [])) [.t 56] 2 2)⟩,
           ⟨(some 54), none, (.p .mv [.t 57])⟩,
           ⟨(some 58), none, (.p (.extract 0) [.t 54])⟩,
           ⟨(some 59), none, (.p (.extract 1) [.t 54])⟩,
           ⟨(some 11), none, (.m (.alloc [.str [], .str [], .int .i64 0]) 4 [])⟩,
           ⟨(some 12), none, (.m (.alloc [.str [], .str []]) 5 [])⟩,
           ⟨none, none, (.m (.store 3) 0 [.t 11, .t 58])⟩,
           ⟨none, none, (.m (.store 2) 0 [.t 12, .t 59])⟩] [3, 6, 7, 8, 9, 10, 11, 12])
         (.seq
          (.ops 3 [⟨(some 61), none, (.m (.load true 3) 0 [.t 11])⟩,
            ⟨(some 62), none, (.m (.load true 2) 0 [.t 12])⟩,
            ⟨(some 63), none, (.call (.c (.fn 17 [] [])) [.t 61, .t 62] 0 2)⟩,
            ⟨(some 60), none, (.p .mv [.t 63])⟩,
            ⟨(some 64), none, (.p (.extract 0) [.t 60])⟩,
            ⟨(some 65), none, (.p (.extract 1) [.t 60])⟩,
            ⟨(some 13), none, (.m (.alloc [.str [], .str [], .int .i64 0]) 2 [])⟩,
            ⟨none, none, (.m (.store 3) 0 [.t 13, .t 64])⟩,
            ⟨(some 14), none, (.p .mv [.t 65])⟩] [3, 6, 7, 8, 9, 10, 11, 12, 13, 14])
          (.seq
           (.ops 3 [⟨(some 67), none, (.m (.load true 3) 0 [.t 11])⟩,
             ⟨(some 68), none, (.m (.load true 2) 0 [.t 12])⟩,
             ⟨(some 69), none, (.call (.c (.fn 15 [] [])) [.t 67, .t 68] 0 2)⟩,
             ⟨(some 66), none, (.p .mv [.t 69])⟩,
             ⟨(some 70), none, (.p (.extract 0) [.t 66])⟩,
             ⟨(some 71), none, (.p (.extract 1) [.t 66])⟩,
             ⟨(some 15), none, (.m (.alloc [.str [], .str [], .int .i64 0]) 2 [])⟩,
             ⟨none, none, (.m (.store 3) 0 [.t 15, .t 70])⟩,
             ⟨(some 16), none, (.p .mv [.t 71])⟩] [3, 6, 7, 8, 9, 10, 11, 12, 13, 14, 15, 16])
           (.seq
            (.seq
             (.draw 8 [(1, 2), (17, 18)] [⟨(some 72), none, (.m (.load true 2) 0 [.t 3])⟩,
               ⟨(some 73), none, (.call (.c (.fn 35 [] [])) [.t 72] 0 2)⟩,
               ⟨(some 74), none, (.m (.load true 2) 0 [.t 3])⟩,
               ⟨(some 75), none, (.call (.c (.fn 36 [] [])) [.t 74] 2 2)⟩,
               ⟨(some 76), none, (.p (.bin .neq .bool) [.t 73, .t 75])⟩,
               ⟨(some 77), none, (.p .mv [.t 76])⟩,
               ⟨(some 78), (some (77, false)), (.p .mv [.t 6])⟩,
               ⟨(some 79), (some (77, false)), (.p .mv [.t 8])⟩,
               ⟨(some 80), (some (77, false)), (.p (.bin .neq .str) [.t 78, .t 79])⟩,
               ⟨(some 81), none, (.p .pick [.t 77, .c (.bool true), .t 80])⟩,
               ⟨(some 82), none, (.p .mv [.t 81])⟩,
               ⟨(some 83), (some (82, false)), (.p .mv [.t 7])⟩,
               ⟨(some 84), (some (82, false)), (.p .mv [.t 9])⟩,
               ⟨(some 85), (some (82, false)), (.p (.bin .neq .bool) [.t 83, .t 84])⟩,
               ⟨(some 86), none, (.p .pick [.t 82, .c (.bool true), .t 85])⟩,
               ⟨(some 87), none, (.p .mv [.t 86])⟩,
               ⟨(some 88), (some (87, false)), (.m (.load true 3) 0 [.t 10])⟩,
               ⟨(some 89), (some (87, false)), (.call (.c (.fn 37 [] [])) [.t 88] 4 2)⟩,
               ⟨(some 90), (some (87, false)), (.m (.load true 3) 0 [.t 10])⟩,
               ⟨(some 91), (some (87, false)), (.call (.c (.fn 38 [] [])) [.t 90] 6 2)⟩,
               ⟨(some 92), (some (87, false)), (.p (.bin .neq .bool) [.t 89, .t 91])⟩,
               ⟨(some 93), none, (.p .pick [.t 87, .c (.bool true), .t 92])⟩,
               ⟨(some 94), none, (.p .mv [.t 93])⟩,
               ⟨(some 95), (some (94, false)), (.m (.load true 3) 0 [.t 13])⟩,
               ⟨(some 96), (some (94, false)), (.m (.load true 3) 0 [.t 15])⟩,
               ⟨(some 97), (some (94, false)), (.p (.bin .neq (.agg [.str, .str, .int .i64])) [.t 95, .t 96])⟩,
               ⟨(some 98), none, (.p .pick [.t 94, .c (.bool true), .t 97])⟩,
               ⟨(some 99), none, (.p .mv [.t 98])⟩,
               ⟨(some 100), (some (99, false)), (.p .mv [.t 14])⟩,
               ⟨(some 101), (some (99, false)), (.p .mv [.t 16])⟩,
               ⟨(some 102), (some (99, false)), (.p (.bin .neq .int) [.t 100, .t 101])⟩,
               ⟨(some 103), none, (.p .pick [.t 99, .c (.bool true), .t 102])⟩] [11, 12, 13, 14, 103])
             (.cond (.t 103)
              (.seq
               (.ops 0 [⟨(some 2), none, (.p .mv [.c (.bool false)])⟩] [2])
               .ret)
              .skip))
            (.seq
             (.ops 3 [⟨(some 105), none, (.m (.load true 3) 0 [.t 11])⟩,
               ⟨(some 106), none, (.call (.c (.fn 12 [] [])) [.t 105] 0 2)⟩,
               ⟨(some 104), none, (.p .mv [.t 106])⟩,
               ⟨(some 107), none, (.p (.extract 0) [.t 104])⟩,
               ⟨(some 108), none, (.p (.extract 1) [.t 104])⟩,
               ⟨(some 17), none, (.m (.alloc [.str [], .str [], .int .i64 0]) 2 [])⟩,
               ⟨none, none, (.m (.store 3) 0 [.t 17, .t 107])⟩,
               ⟨(some 18), none, (.p .mv [.t 108])⟩] [11, 12, 13, 14, 17, 18])
             (.seq
              (.ops 3 [⟨(some 110), none, (.m (.load true 3) 0 [.t 11])⟩,
                ⟨(some 111), none, (.call (.c (.fn 10 [] [])) [.t 110] 0 2)⟩,
                ⟨(some 109), none, (.p .mv [.t 111])⟩,
                ⟨(some 112), none, (.p (.extract 0) [.t 109])⟩,
                ⟨(some 113), none, (.p (.extract 1) [.t 109])⟩,
                ⟨(some 19), none, (.m (.alloc [.str [], .str [], .int .i64 0]) 2 [])⟩,
                ⟨none, none, (.m (.store 3) 0 [.t 19, .t 112])⟩,
                ⟨(some 20), none, (.p .mv [.t 113])⟩] [11, 12, 13, 14, 17, 18, 19, 20])
              (.seq
               (.ops 2 [⟨(some 115), none, (.m (.load true 3) 0 [.t 11])⟩,
                 ⟨(some 116), none, (.call (.c (.fn 19 [] [])) [.t 115] 0 2)⟩,
                 ⟨(some 114), none, (.p .mv [.t 116])⟩,
                 ⟨(some 117), none, (.p (.extract 0) [.t 114])⟩,
                 ⟨(some 118), none, (.p (.extract 1) [.t 114])⟩,
                 ⟨(some 21), none, (.p .mv [.t 117])⟩,
                 ⟨(some 22), none, (.p .mv [.t 118])⟩] [11, 12, 13, 14, 17, 18, 19, 20, 21, 22])
               (.seq
                (.ops 2 [⟨(some 120), none, (.m (.load true 3) 0 [.t 11])⟩,
                  ⟨(some 121), none, (.call (.c (.fn 18 [] [])) [.t 120] 0 2)⟩,
                  ⟨(some 119), none, (.p .mv [.t 121])⟩,
                  ⟨(some 122), none, (.p (.extract 0) [.t 119])⟩,
                  ⟨(some 123), none, (.p (.extract 1) [.t 119])⟩,
                  ⟨(some 23), none, (.p .mv [.t 122])⟩,
                  ⟨(some 24), none, (.p .mv [.t 123])⟩] [11, 12, 13, 14, 17, 18, 19, 20, 21, 22, 23, 24])
                (.seq
                 (.seq
                  (.ops 2 [⟨(some 124), none, (.m (.load true 3) 0 [.t 17])⟩,
                    ⟨(some 125), none, (.m (.load true 3) 0 [.t 19])⟩,
                    ⟨(some 126), none, (.p (.bin .neq (.agg [.str, .str, .int .i64])) [.t 124, .t 125])⟩,
                    ⟨(some 127), none, (.p .mv [.t 126])⟩,
                    ⟨(some 128), (some (127, false)), (.p .mv [.t 18])⟩,
                    ⟨(some 129), (some (127, false)), (.p .mv [.t 20])⟩,
                    ⟨(some 130), (some (127, false)), (.p (.bin .neq .bool) [.t 128, .t 129])⟩,
                    ⟨(some 131), none, (.p .pick [.t 127, .c (.bool true), .t 130])⟩,
                    ⟨(some 132), none, (.p .mv [.t 131])⟩,
                    ⟨(some 133), (some (132, false)), (.p .mv [.t 22])⟩,
                    ⟨(some 134), (some (132, false)), (.p .mv [.t 24])⟩,
                    ⟨(some 135), (some (132, false)), (.p (.bin .neq .bool) [.t 133, .t 134])⟩,
                    ⟨(some 136), none, (.p .pick [.t 132, .c (.bool true), .t 135])⟩,
                    ⟨(some 137), none, (.p .mv [.t 136])⟩,
                    ⟨(some 138), (some (137, false)), (.p .mv [.t 21])⟩,
                    ⟨(some 139), (some (137, false)), (.p .mv [.t 23])⟩,
                    ⟨(some 140), (some (137, false)), (.call (.c (.fn 39 [] [])) [.t 138, .t 139] 0 2)⟩,
                    ⟨(some 141), (some (137, false)), (.p .not [.t 140])⟩,
                    ⟨(some 142), none, (.p .pick [.t 137, .c (.bool true), .t 141])⟩] [11, 12, 13, 14, 17, 18, 21, 142])
                  (.cond (.t 142)
                   (.seq
                    (.ops 0 [⟨(some 2), none, (.p .mv [.c (.bool false)])⟩] [2])
                    .ret)
                   .skip))
                 (.seq
                  (.ops 2 [⟨(some 144), none, (.m (.load true 3) 0 [.t 17])⟩,
                    ⟨(some 145), none, (.call (.c (.fn 19 [] [])) [.t 144] 0 2)⟩,
                    ⟨(some 143), none, (.p .mv [.t 145])⟩,
                    ⟨(some 146), none, (.p (.extract 0) [.t 143])⟩,
                    ⟨(some 147), none, (.p (.extract 1) [.t 143])⟩,
                    ⟨(some 25), none, (.p .mv [.t 146])⟩,
                    ⟨(some 26), none, (.p .mv [.t 147])⟩] [11, 12, 13, 14, 18, 21, 25])
                  (.seq
                   (.seq
                    (.ops 2 [⟨(some 148), none, (.p .mv [.t 18])⟩,
                      ⟨(some 149), none, (.p .mv [.t 148])⟩,
                      ⟨(some 150), (some (149, true)), (.p .mv [.t 25])⟩,
                      ⟨(some 151), (some (149, true)), (.p .mv [.t 21])⟩,
                      ⟨(some 152), (some (149, true)), (.call (.c (.fn 39 [] [])) [.t 150, .t 151] 0 2)⟩,
                      ⟨(some 153), (some (149, true)), (.p .not [.t 152])⟩,
                      ⟨(some 154), none, (.p .pick [.t 149, .t 153, .c (.bool false)])⟩] [11, 12, 13, 14, 21, 154])
                    (.cond (.t 154)
                     (.seq
                      (.ops 0 [⟨(some 2), none, (.p .mv [.c (.bool false)])⟩] [2])
                      .ret)
                     .skip))
                   (.seq
                    (.seq
                     (.ops 0 [⟨(some 155), none, (.p .mv [.t 14])⟩,
                       ⟨(some 156), none, (.p (.bin .neq .int) [.t 155, .c (.int .i64 0)])⟩] [11, 12, 13, 21, 156])
                     (.cond (.t 156)
                      (.seq
                       (.ops 0 [⟨(some 157), none, (.m (.load true 3) 0 [.t 13])⟩,
                         ⟨(some 158), none, (.m (.load true 3) 0 [.t 11])⟩,
                         ⟨(some 159), none, (.p (.bin .eql (.agg [.str, .str, .int .i64])) [.t 157, .t 158])⟩,
                         ⟨(some 2), none, (.p .mv [.t 159])⟩] [2])
                       .ret)
                      .skip))
                    (.seq
                     (.ops 2 [⟨(some 161), none, (.m (.load true 3) 0 [.t 13])⟩,
                       ⟨(some 162), none, (.call (.c (.fn 19 [] [])) [.t 161] 0 2)⟩,
                       ⟨(some 160), none, (.p .mv [.t 162])⟩,
                       ⟨(some 163), none, (.p (.extract 0) [.t 160])⟩,
                       ⟨(some 164), none, (.p (.extract 1) [.t 160])⟩,
                       ⟨(some 27), none, (.p .mv [.t 163])⟩,
                       ⟨(some 28), none, (.p .mv [.t 164])⟩] [12, 13, 21, 27])
                     (.seq
                      (.draw 4 [] [⟨(some 165), none, (.m (.load true 3) 0 [.t 13])⟩,
                        ⟨(some 166), none, (.call (.c (.fn 37 [] [])) [.t 165] 0 2)⟩,
                        ⟨(some 167), none, (.p .mv [.t 166])⟩,
                        ⟨(some 168), (some (167, true)), (.p .mv [.t 27])⟩,
                        ⟨(some 169), (some (167, true)), (.p .lenSl [.t 168])⟩,
                        ⟨(some 170), (some (167, true)), (.p .mv [.t 21])⟩,
                        ⟨(some 171), (some (167, true)), (.p .lenSl [.t 170])⟩,
                        ⟨(some 172), (some (167, true)), (.p (.bin .add .int) [.t 171, .c (.int .i64 1)])⟩,
                        ⟨(some 173), (some (167, true)), (.p (.bin .eql .int) [.t 169, .t 172])⟩,
                        ⟨(some 174), none, (.p .pick [.t 167, .t 173, .c (.bool false)])⟩,
                        ⟨(some 175), none, (.p .mv [.t 174])⟩,
                        ⟨(some 176), (some (175, true)), (.p .mv [.t 27])⟩,
                        ⟨(some 177), (some (175, true)), (.p .mv [.t 21])⟩,
                        ⟨(some 178), (some (175, true)), (.p .lenSl [.t 177])⟩,
                        ⟨(some 179), (some (175, true)), (.p (.sliceSl 2 false true) [.t 176, .t 178])⟩,
                        ⟨(some 180), (some (175, true)), (.p .mv [.t 21])⟩,
                        ⟨(some 181), (some (175, true)), (.call (.c (.fn 39 [] [])) [.t 179, .t 180] 2 2)⟩,
                        ⟨(some 182), none, (.p .pick [.t 175, .t 181, .c (.bool false)])⟩,
                        ⟨(some 183), none, (.p .mv [.t 182])⟩,
                        ⟨(some 184), (some (183, true)), (.p .mv [.t 27])⟩,
                        ⟨(some 185), (some (183, true)), (.p .mv [.t 21])⟩,
                        ⟨(some 186), (some (183, true)), (.p .lenSl [.t 185])⟩,
                        ⟨(some 187), (some (183, true)), (.p (.indexSl 2) [.t 184, .t 186])⟩,
                        ⟨(some 188), (some (183, true)), (.m (.load true 2) 0 [.t 187])⟩,
                        ⟨(some 189), (some (183, true)), (.m (.load true 2) 0 [.t 12])⟩,
                        ⟨(some 190), (some (183, true)), (.p (.bin .eql (.agg [.str, .str])) [.t 188, .t 189])⟩,
                        ⟨(some 191), none, (.p .pick [.t 183, .t 190, .c (.bool false)])⟩,
                        ⟨(some 2), none, (.p .mv [.t 191])⟩] [2])
                      .ret)))))))))))))))))))))⟩
theorem t7 : trF Tryd.prog Tryd.f7 [[0], [0, 30], [2], [0, 3], [0, 3, 4, 5], [0, 3, 4, 5, 6, 7], [0, 3, 6, 7, 8, 9], [0, 3, 6, 7, 8, 9, 10], [3, 6, 7, 8, 9, 10, 11, 12], [3, 6, 7, 8, 9, 10, 11, 12, 13, 14], [3, 6, 7, 8, 9, 10, 11, 12, 13, 14, 15, 16], [11, 12, 13, 14, 103], [2], [11, 12, 13, 14, 17, 18], [11, 12, 13, 14, 17, 18, 19, 20], [11, 12, 13, 14, 17, 18, 19, 20, 21, 22], [11, 12, 13, 14, 17, 18, 19, 20, 21, 22, 23, 24], [11, 12, 13, 14, 17, 18, 21, 142], [2], [11, 12, 13, 14, 18, 21, 25], [11, 12, 13, 14, 21, 154], [2], [11, 12, 13, 21, 156], [2], [12, 13, 21, 27], [2]] = some d7 := by kernel_rfl
/-- loop.example/g01194/laws.FnCrashes -/
def d8 : FD := ⟨[.t 2],
 (.seq
  (.ops 0 [⟨(some 2), none, (.p .mv [.c (.bool false)])⟩] [0])
  (.seq
   (.seq
    (.ops 2 [⟨(some 24), none, (.p .mv [.t 0])⟩,
      ⟨(some 25), none, (.call (.c (.fn 27 [] [])) [.t 24] 0 2)⟩] [0, 25])
    (.cond (.t 25)
     (.seq
      (.ops 0 [⟨(some 2), none, (.p .mv [.c (.bool true)])⟩] [2])
      .ret)
     .skip))
   (.seq
    (.ops 3 [⟨(some 27), none, (.p .mv [.t 0])⟩,
      ⟨(some 28), none, (.call (.c (.fn 40 [] [])) [.t 27] 0 2)⟩,
      ⟨(some 26), none, (.p .mv [.t 28])⟩,
      ⟨(some 29), none, (.p (.extract 0) [.t 26])⟩,
      ⟨(some 30), none, (.p (.extract 1) [.t 26])⟩,
      ⟨(some 31), none, (.p (.extract 2) [.t 26])⟩,
      ⟨(some 3), none, (.m (.alloc [.str [], .str [], .int .i64 0]) 2 [])⟩,
      ⟨none, none, (.m (.store 3) 0 [.t 3, .t 29])⟩,
      ⟨(some 4), none, (.p .mv [.t 30])⟩,
      ⟨(some 5), none, (.p .mv [.t 31])⟩] [0, 3, 4, 5])
    (.seq
     (.ops 2 [⟨(some 33), none, (.m (.load true 3) 0 [.t 3])⟩,
       ⟨(some 34), none, (.p .mv [.t 4])⟩,
       ⟨(some 35), none, (.p .mv [.t 5])⟩,
       ⟨(some 36), none, (.call (.c (.fn 41 [] [])) [.t 33, .t 34, .t 35] 0 2)⟩,
       ⟨(some 32), none, (.p .mv [.t 36])⟩,
       ⟨(some 37), none, (.p (.extract 0) [.t 32])⟩,
       ⟨(some 38), none, (.p (.extract 1) [.t 32])⟩,
       ⟨(some 6), none, (.p .mv [.t 37])⟩,
       ⟨(some 7), none, (.p .mv [.t 38])⟩] [0, 3, 4, 5, 6, 7])
     (.seq
      (.ops 2 [⟨(some 40), none, (.m (.load true 3) 0 [.t 3])⟩,
        ⟨(some 41), none, (.p .mv [.t 4])⟩,
        ⟨(some 42), none, (.p .mv [.t 5])⟩,
        ⟨(some 43), none, (.call (.c (.fn 42 [] [])) [.t 40, .t 41, .t 42] 0 2)⟩,
        ⟨(some 39), none, (.p .mv [.t 43])⟩,
        ⟨(some 44), none, (.p (.extract 0) [.t 39])⟩,
        ⟨(some 45), none, (.p (.extract 1) [.t 39])⟩,
        ⟨(some 8), none, (.p .mv [.t 44])⟩,
        ⟨(some 9), none, (.p .mv [.t 45])⟩] [0, 3, 4, 5, 6, 7, 8, 9])
      (.seq
       (.ops 4 [⟨(some 46), none, (.p .mv [.t 0])⟩,
         ⟨(some 47), none, (.call (.c (.fn 30 [] [])) [.t 46, .c (.int .i64 1)] 0 2)⟩,
         ⟨(some 48), none, (.call (.c (.fn 43 [] [])) [.t 47] 2 2)⟩,
         ⟨(some 10), none, (.p .mv [.t 48])⟩] [3, 4, 5, 6, 7, 8, 9, 10])
       (.seq
        (.ops 3 [⟨(some 50), none, (.p .mv [.t 10])⟩,
          ⟨(some 51), none, (.call (.c (.fn 44 [] [])) [.t 50] 0 2)⟩,
          ⟨(some 49), none, (.p .mv [.t 51])⟩,
          ⟨(some 52), none, (.p (.extract 0) [.t 49])⟩,
          ⟨(some 53), none, (.p (.extract 1) [.t 49])⟩,
          ⟨(some 54), none, (.p (.extract 2) [.t 49])⟩,
          ⟨(some 11), none, (.m (.alloc [.str [], .str [], .int .i64 0]) 2 [])⟩,
          ⟨none, none, (.m (.store 3) 0 [.t 11, .t 52])⟩,
          ⟨(some 12), none, (.p .mv [.t 53])⟩,
          ⟨(some 13), none, (.p .mv [.t 54])⟩] [3, 4, 5, 6, 7, 8, 9, 10, 11, 12, 13])
        (.seq
         (.ops 3 [⟨(some 56), none, (.p .mv [.t 10])⟩,
           ⟨(some 57), none, (.call (.c (.fn 45 [] [])) [.t 56] 0 2)⟩,
           ⟨(some 55), none, (.p .mv [.t 57])⟩,
           ⟨(some 58), none, (.p (.extract 0) [.t 55])⟩,
           ⟨(some 59), none, (.p (.extract 1) [.t 55])⟩,
           ⟨(some 60), none, (.p (.extract 2) [.t 55])⟩,
           ⟨(some 14), none, (.m (.alloc [.str [], .str [], .int .i64 0]) 2 [])⟩,
           ⟨none, none, (.m (.store 3) 0 [.t 14, .t 58])⟩,
           ⟨(some 15), none, (.p .mv [.t 59])⟩,
           ⟨(some 16), none, (.p .mv [.t 60])⟩] [3, 4, 5, 6, 7, 8, 9, 11, 12, 13, 14, 15, 16])
         (.seq
          (.seq
           (.ops 0 [⟨(some 61), none, (.p .mv [.t 6])⟩,
             ⟨(some 62), none, (.p .mv [.t 8])⟩,
             ⟨(some 63), none, (.p (.bin .neq .str) [.t 61, .t 62])⟩,
             ⟨(some 64), none, (.p .mv [.t 63])⟩,
             ⟨(some 65), (some (64, false)), (.p .mv [.t 7])⟩,
             ⟨(some 66), (some (64, false)), (.p .mv [.t 9])⟩,
             ⟨(some 67), (some (64, false)), (.p (.bin .neq .bool) [.t 65, .t 66])⟩,
             ⟨(some 68), none, (.p .pick [.t 64, .c (.bool true), .t 67])⟩,
             ⟨(some 69), none, (.p .mv [.t 68])⟩,
             ⟨(some 70), (some (69, false)), (.m (.load true 3) 0 [.t 11])⟩,
             ⟨(some 71), (some (69, false)), (.m (.load true 3) 0 [.t 14])⟩,
             ⟨(some 72), (some (69, false)), (.p (.bin .neq (.agg [.str, .str, .int .i64])) [.t 70, .t 71])⟩,
             ⟨(some 73), none, (.p .pick [.t 69, .c (.bool true), .t 72])⟩,
             ⟨(some 74), none, (.p .mv [.t 73])⟩,
             ⟨(some 75), (some (74, false)), (.p .mv [.t 12])⟩,
             ⟨(some 76), (some (74, false)), (.p .mv [.t 15])⟩,
             ⟨(some 77), (some (74, false)), (.p (.bin .neq .int) [.t 75, .t 76])⟩,
             ⟨(some 78), none, (.p .pick [.t 74, .c (.bool true), .t 77])⟩,
             ⟨(some 79), none, (.p .mv [.t 78])⟩,
             ⟨(some 80), (some (79, false)), (.p .mv [.t 13])⟩,
             ⟨(some 81), (some (79, false)), (.p .mv [.t 16])⟩,
             ⟨(some 82), (some (79, false)), (.p (.bin .neq .bool) [.t 80, .t 81])⟩,
             ⟨(some 83), none, (.p .pick [.t 79, .c (.bool true), .t 82])⟩] [3, 4, 5, 6, 7, 83])
           (.cond (.t 83)
            (.seq
             (.ops 0 [⟨(some 2), none, (.p .mv [.c (.bool false)])⟩] [2])
             .ret)
            .skip))
          (.seq
           (.seq
            (.ops 0 [⟨(some 84), none, (.p .mv [.t 7])⟩,
              ⟨(some 85), none, (.p .not [.t 84])⟩] [3, 4, 5, 6, 85])
            (.cond (.t 85)
             (.seq
              (.ops 0 [⟨(some 2), none, (.p .mv [.c (.bool true)])⟩] [2])
              .ret)
             .skip))
           (.seq
            (.ops 3 [⟨(some 87), none, (.p .mv [.t 6])⟩,
              ⟨(some 88), none, (.call (.c (.fn 44 [] [])) [.t 87] 0 2)⟩,
              ⟨(some 86), none, (.p .mv [.t 88])⟩,
              ⟨(some 89), none, (.p (.extract 0) [.t 86])⟩,
              ⟨(some 90), none, (.p (.extract 1) [.t 86])⟩,
              ⟨(some 91), none, (.p (.extract 2) [.t 86])⟩,
              ⟨(some 17), none, (.m (.alloc [.str [], .str [], .int .i64 0]) 2 [])⟩,
              ⟨none, none, (.m (.store 3) 0 [.t 17, .t 89])⟩,
              ⟨(some 18), none, (.p .mv [.t 90])⟩,
              ⟨(some 19), none, (.p .mv [.t 91])⟩] [3, 4, 5, 17, 18, 19])
            (.seq
             (.seq
              (.ops 2 [⟨(some 92), none, (.p .mv [.t 19])⟩,
                ⟨(some 93), none, (.p .not [.t 92])⟩,
                ⟨(some 94), none, (.p .mv [.t 93])⟩,
                ⟨(some 95), (some (94, false)), (.m (.load true 3) 0 [.t 17])⟩,
                ⟨(some 96), (some (94, false)), (.call (.c (.fn 37 [] [])) [.t 95] 0 2)⟩,
                ⟨(some 97), (some (94, false)), (.p .not [.t 96])⟩,
                ⟨(some 98), none, (.p .pick [.t 94, .c (.bool true), .t 97])⟩,
                ⟨(some 99), none, (.p .mv [.t 98])⟩,
                ⟨(some 100), (some (99, false)), (.p .mv [.t 18])⟩,
                ⟨(some 101), (some (99, false)), (.p (.fieldAddr 0) [.t 3])⟩,
                ⟨(some 102), (some (99, false)), (.m (.load false 1) 0 [.t 101])⟩,
                ⟨(some 103), (some (99, false)), (.p .lenStr [.t 102])⟩,
                ⟨(some 104), (some (99, false)), (.p (.bin .lss .int) [.t 100, .t 103])⟩,
                ⟨(some 105), none, (.p .pick [.t 99, .c (.bool true), .t 104])⟩,
                ⟨(some 106), none, (.p .mv [.t 105])⟩,
                ⟨(some 107), (some (106, false)), (.p (.fieldAddr 0) [.t 17])⟩,
                ⟨(some 108), (some (106, false)), (.m (.load false 1) 0 [.t 107])⟩,
                ⟨(some 109), (some (106, false)), (.p .lenStr [.t 108])⟩,
                ⟨(some 110), (some (106, false)), (.p .mv [.t 18])⟩,
                ⟨(some 111), (some (106, false)), (.p (.bin .neq .int) [.t 109, .t 110])⟩,
                ⟨(some 112), none, (.p .pick [.t 106, .c (.bool true), .t 111])⟩] [3, 4, 5, 17, 112])
              (.cond (.t 112)
               (.seq
                (.ops 0 [⟨(some 2), none, (.p .mv [.c (.bool false)])⟩] [2])
                .ret)
               .skip))
             (.seq
              (.ops 2 [⟨(some 114), none, (.m (.load true 3) 0 [.t 3])⟩,
                ⟨(some 115), none, (.call (.c (.fn 19 [] [])) [.t 114] 0 2)⟩,
                ⟨(some 113), none, (.p .mv [.t 115])⟩,
                ⟨(some 116), none, (.p (.extract 0) [.t 113])⟩,
                ⟨(some 117), none, (.p (.extract 1) [.t 113])⟩,
                ⟨(some 20), none, (.p .mv [.t 116])⟩,
                ⟨(some 21), none, (.p .mv [.t 117])⟩] [3, 4, 5, 17, 20])
              (.seq
               (.ops 2 [⟨(some 119), none, (.m (.load true 3) 0 [.t 17])⟩,
                 ⟨(some 120), none, (.call (.c (.fn 19 [] [])) [.t 119] 0 2)⟩,
                 ⟨(some 118), none, (.p .mv [.t 120])⟩,
                 ⟨(some 121), none, (.p (.extract 0) [.t 118])⟩,
                 ⟨(some 122), none, (.p (.extract 1) [.t 118])⟩,
                 ⟨(some 22), none, (.p .mv [.t 121])⟩,
                 ⟨(some 23), none, (.p .mv [.t 122])⟩] [3, 4, 5, 20, 22])
               (.seq
                (.ops 2 [⟨(some 123), none, (.p .mv [.t 22])⟩,
                  ⟨(some 124), none, (.p .lenSl [.t 123])⟩,
                  ⟨(some 125), none, (.p .mv [.t 20])⟩,
                  ⟨(some 126), none, (.p .lenSl [.t 125])⟩,
                  ⟨(some 127), none, (.p (.bin .leq .int) [.t 124, .t 126])⟩,
                  ⟨(some 128), none, (.p .mv [.t 127])⟩,
                  ⟨(some 129), (some (128, true)), (.p .mv [.t 22])⟩,
                  ⟨(some 130), (some (128, true)), (.p .mv [.t 20])⟩,
                  ⟨(some 131), (some (128, true)), (.p .mv [.t 22])⟩,
                  ⟨(some 132), (some (128, true)), (.p .lenSl [.t 131])⟩,
                  ⟨(some 133), (some (128, true)), (.p (.sliceSl 2 false true) [.t 130, .t 132])⟩,
                  ⟨(some 134), (some (128, true)), (.call (.c (.fn 39 [] [])) [.t 129, .t 133] 0 2)⟩,
                  ⟨(some 135), none, (.p .pick [.t 128, .t 134, .c (.bool false)])⟩,
                  ⟨(some 136), none, (.p .mv [.t 135])⟩,
                  ⟨(some 137), (some (136, true)), (.p .mv [.t 5])⟩,
                  ⟨(some 138), (some (136, true)), (.p .mv [.t 137])⟩,
                  ⟨(some 139), (some (138, false)), (.p .mv [.t 4])⟩,
                  ⟨(some 140), (some (138, false)), (.p (.fieldAddr 1) [.t 3])⟩,
                  ⟨(some 141), (some (138, false)), (.m (.load false 1) 0 [.t 140])⟩,
                  ⟨(some 142), (some (138, false)), (.p .lenStr [.t 141])⟩,
                  ⟨(some 143), (some (138, false)), (.p (.bin .lss .int) [.t 139, .t 142])⟩,
                  ⟨(some 144), (some (136, true)), (.p .pick [.t 138, .c (.bool true), .t 143])⟩,
                  ⟨(some 145), (some (136, true)), (.p .mv [.t 144])⟩,
                  ⟨(some 146), (some (145, false)), (.p .mv [.t 22])⟩,
                  ⟨(some 147), (some (145, false)), (.p .lenSl [.t 146])⟩,
                  ⟨(some 148), (some (145, false)), (.p .mv [.t 20])⟩,
                  ⟨(some 149), (some (145, false)), (.p .lenSl [.t 148])⟩,
                  ⟨(some 150), (some (145, false)), (.p (.bin .eql .int) [.t 147, .t 149])⟩,
                  ⟨(some 151), (some (136, true)), (.p .pick [.t 145, .c (.bool true), .t 150])⟩,
                  ⟨(some 152), none, (.p .pick [.t 136, .t 151, .c (.bool false)])⟩,
                  ⟨(some 2), none, (.p .mv [.t 152])⟩] [2])
                .ret)))))))))))))))⟩
theorem t8 : trF Tryd.prog Tryd.f8 [[0], [0, 25], [2], [0, 3, 4, 5], [0, 3, 4, 5, 6, 7], [0, 3, 4, 5, 6, 7, 8, 9], [3, 4, 5, 6, 7, 8, 9, 10], [3, 4, 5, 6, 7, 8, 9, 10, 11, 12, 13], [3, 4, 5, 6, 7, 8, 9, 11, 12, 13, 14, 15, 16], [3, 4, 5, 6, 7, 83], [2], [3, 4, 5, 6, 85], [2], [3, 4, 5, 17, 18, 19], [3, 4, 5, 17, 112], [2], [3, 4, 5, 17, 20], [3, 4, 5, 20, 22], [2]] = some d8 := by kernel_rfl
/-- loop.example/g01194/laws.szLog -/
def d9 : FD := ⟨[.t 4],
 (.seq
  (.ops 1 [⟨(some 2), none, (.m .box 0 [.t 0])⟩,
    ⟨(some 4), none, (.p .mv [.c (.int .i64 0)])⟩] [1, 2])
  (.seq
   (.ops 0 [⟨(some 5), none, (.p .mv [.t 1])⟩,
     ⟨(some 6), none, (.p (.fieldAddr 0) [.t 2])⟩,
     ⟨(some 7), none, (.m (.load false 1) 0 [.t 6])⟩,
     ⟨(some 8), none, (.p .lenStr [.t 7])⟩,
     ⟨(some 9), none, (.p (.bin .sub .int) [.t 5, .t 8])⟩,
     ⟨(some 1), none, (.p .mv [.t 9])⟩] [1, 2])
   (.seq
    (.seq
     (.ops 0 [⟨(some 10), none, (.p .mv [.t 1])⟩,
       ⟨(some 11), none, (.p (.bin .lss .int) [.t 10, .c (.int .i64 0)])⟩] [1, 2, 11])
     (.cond (.t 11)
      (.seq
       (.ops 0 [⟨(some 4), none, (.p .mv [.c (.int .i64 (-1))])⟩] [4])
       .ret)
      .skip))
    (.seq
     (.ops 0 [⟨(some 12), none, (.p .mv [.t 1])⟩,
       ⟨(some 13), none, (.p (.fieldAddr 1) [.t 2])⟩,
       ⟨(some 14), none, (.m (.load false 1) 0 [.t 13])⟩,
       ⟨(some 15), none, (.p .lenStr [.t 14])⟩,
       ⟨(some 16), none, (.p (.bin .sub .int) [.t 12, .t 15])⟩,
       ⟨(some 1), none, (.p .mv [.t 16])⟩] [1])
     (.seq
      (.seq
       (.ops 0 [⟨(some 17), none, (.p .mv [.t 1])⟩,
         ⟨(some 18), none, (.p (.bin .lss .int) [.t 17, .c (.int .i64 0)])⟩] [1, 18])
       (.cond (.t 18)
        (.seq
         (.ops 0 [⟨(some 4), none, (.p .mv [.c (.int .i64 (-1))])⟩] [4])
         .ret)
        .skip))
      (.seq
       (.ops 0 [⟨(some 19), none, (.p .mv [.t 1])⟩,
         ⟨(some 4), none, (.p .mv [.t 19])⟩] [4])
       .ret))))))⟩
theorem t9 : trF Tryd.prog Tryd.f9 [[1, 2], [1, 2], [1, 2, 11], [4], [1], [1, 18], [4], [4]] = some d9 := by kernel_rfl
/-- loop.example/g01194/spec.SyncLog -/
def d10 : FD := ⟨[.cell 2 true 3, .t 3],
 (.seq
  (.ops 2 [⟨(some 1), none, (.m .box 0 [.t 0])⟩,
    ⟨(some 2), none, (.m (.alloc [.str [], .str [], .int .i64 0]) 1 [])⟩,
    ⟨(some 3), none, (.p .mv [.c (.bool false)])⟩] [1, 2])
  (.seq
   (.seq
    (.ops 2 [⟨(some 4), none, (.m (.load true 3) 0 [.t 1])⟩,
      ⟨(some 5), none, (.call (.c (.fn 46 [] [])) [.t 4] 0 2)⟩,
      ⟨(some 6), none, (.p .not [.t 5])⟩] [1, 2, 6])
    (.cond (.t 6)
     (.seq
      (.ops 0 [⟨(some 7), none, (.p (.build [.str [], .str [], .int .i64 0] []) [])⟩,
        ⟨none, none, (.m (.store 3) 0 [.t 2, .t 7])⟩,
        ⟨(some 3), none, (.p .mv [.c (.bool false)])⟩] [2, 3])
      .ret)
     .skip))
   (.seq
    (.ops 0 [⟨(some 8), none, (.p (.fieldAddr 0) [.t 1])⟩,
      ⟨(some 9), none, (.m (.load false 1) 0 [.t 8])⟩,
      ⟨(some 10), none, (.p (.fieldAddr 1) [.t 1])⟩,
      ⟨(some 11), none, (.m (.load false 1) 0 [.t 10])⟩,
      ⟨(some 12), none, (.p (.bin .add .str) [.t 9, .t 11])⟩,
      ⟨(some 13), none, (.p (.fieldAddr 2) [.t 1])⟩,
      ⟨(some 14), none, (.m (.load false 1) 0 [.t 13])⟩,
      ⟨(some 15), none, (.p (.build [.str [], .str [], .int .i64 0] [(0, 1), (2, 1)]) [.t 12, .t 14])⟩,
      ⟨none, none, (.m (.store 3) 0 [.t 2, .t 15])⟩,
      ⟨(some 3), none, (.p .mv [.c (.bool true)])⟩] [2, 3])
    .ret)))⟩
theorem t10 : trF Tryd.prog Tryd.f10 [[1, 2], [1, 2, 6], [2, 3], [2, 3]] = some d10 := by kernel_rfl
/-- loop.example/g01194/laws.toLog -/
def d11 : FD := ⟨[.cell 2 true 3],
 (.seq
  (.ops 2 [⟨(some 1), none, (.m .box 0 [.t 0])⟩,
    ⟨(some 2), none, (.m (.alloc [.str [], .str [], .int .i64 0]) 1 [])⟩] [1, 2])
  (.seq
   (.ops 1 [⟨(some 3), none, (.m (.alloc [.str [], .str [], .int .i64 0]) 0 [])⟩] [1, 2, 3])
   (.seq
    (.ops 0 [⟨(some 4), none, (.p (.fieldAddr 0) [.t 1])⟩,
      ⟨(some 5), none, (.m (.load false 1) 0 [.t 4])⟩,
      ⟨(some 6), none, (.p (.fieldAddr 0) [.t 3])⟩,
      ⟨none, none, (.m (.store 1) 0 [.t 6, .t 5])⟩] [1, 2, 3])
    (.seq
     (.ops 0 [⟨(some 7), none, (.p (.fieldAddr 1) [.t 1])⟩,
       ⟨(some 8), none, (.m (.load false 1) 0 [.t 7])⟩,
       ⟨(some 9), none, (.p (.fieldAddr 1) [.t 3])⟩,
       ⟨none, none, (.m (.store 1) 0 [.t 9, .t 8])⟩] [1, 2, 3])
     (.seq
      (.ops 0 [⟨(some 10), none, (.p (.fieldAddr 2) [.t 1])⟩,
        ⟨(some 11), none, (.m (.load false 1) 0 [.t 10])⟩,
        ⟨(some 12), none, (.p (.fieldAddr 2) [.t 3])⟩,
        ⟨none, none, (.m (.store 1) 0 [.t 12, .t 11])⟩] [2, 3])
      (.seq
       (.ops 0 [⟨(some 13), none, (.m (.load true 3) 0 [.t 3])⟩,
         ⟨none, none, (.m (.store 3) 0 [.t 2, .t 13])⟩] [2])
       .ret))))))⟩
theorem t11 : trF Tryd.prog Tryd.f11 [[1, 2], [1, 2, 3], [1, 2, 3], [1, 2, 3], [2, 3], [2]] = some d11 := by kernel_rfl
/-- loop.example/g01194/impl.SyncLog -/
def d12 : FD := ⟨[.cell 2 true 3, .t 3],
 (.seq
  (.ops 2 [⟨(some 1), none, (.m .box 0 [.t 0])⟩,
    ⟨(some 2), none, (.m (.alloc [.str [], .str [], .int .i64 0]) 1 [])⟩,
    ⟨(some 3), none, (.p .mv [.c (.bool false)])⟩] [1, 2])
  (.seq
   (.seq
    (.ops 2 [⟨(some 4), none, (.m (.load true 3) 0 [.t 1])⟩,
      ⟨(some 5), none, (.call (.c (.fn 37 [] [])) [.t 4] 0 2)⟩,
      ⟨(some 6), none, (.p .not [.t 5])⟩] [1, 2, 6])
    (.cond (.t 6)
     (.seq
      (.ops 0 [⟨(some 7), none, (.p (.build [.str [], .str [], .int .i64 0] []) [])⟩,
        ⟨none, none, (.m (.store 3) 0 [.t 2, .t 7])⟩,
        ⟨(some 3), none, (.p .mv [.c (.bool false)])⟩] [2, 3])
      .ret)
     .skip))
   (.seq
    (.ops 0 [⟨(some 8), none, (.p (.fieldAddr 0) [.t 1])⟩,
      ⟨(some 9), none, (.m (.load false 1) 0 [.t 8])⟩,
      ⟨(some 10), none, (.p (.fieldAddr 1) [.t 1])⟩,
      ⟨(some 11), none, (.m (.load false 1) 0 [.t 10])⟩,
      ⟨(some 12), none, (.p (.bin .add .str) [.t 9, .t 11])⟩,
      ⟨(some 13), none, (.p (.fieldAddr 2) [.t 1])⟩,
      ⟨(some 14), none, (.m (.load false 1) 0 [.t 13])⟩,
      ⟨(some 15), none, (.p (.build [.str [], .str [], .int .i64 0] [(0, 1), (2, 1)]) [.t 12, .t 14])⟩,
      ⟨none, none, (.m (.store 3) 0 [.t 2, .t 15])⟩,
      ⟨(some 3), none, (.p .mv [.c (.bool true)])⟩] [2, 3])
    .ret)))⟩
theorem t12 : trF Tryd.prog Tryd.f12 [[1, 2], [1, 2, 6], [2, 3], [2, 3]] = some d12 := by kernel_rfl
/-- loop.example/g01194/laws.eqLog -/
def d13 : FD := ⟨[.t 4],
 (.seq
  (.ops 2 [⟨(some 2), none, (.m .box 0 [.t 0])⟩,
    ⟨(some 3), none, (.m .box 1 [.t 1])⟩,
    ⟨(some 4), none, (.p .mv [.c (.bool false)])⟩] [2, 3])
  (.seq
   (.seq
    (.ops 0 [⟨(some 5), none, (.p (.fieldAddr 0) [.t 2])⟩,
      ⟨(some 6), none, (.m (.load false 1) 0 [.t 5])⟩,
      ⟨(some 7), none, (.p (.fieldAddr 0) [.t 3])⟩,
      ⟨(some 8), none, (.m (.load false 1) 0 [.t 7])⟩,
      ⟨(some 9), none, (.p (.bin .neq .str) [.t 6, .t 8])⟩] [2, 3, 9])
    (.cond (.t 9)
     (.seq
      (.ops 0 [⟨(some 4), none, (.p .mv [.c (.bool false)])⟩] [4])
      .ret)
     .skip))
   (.seq
    (.seq
     (.ops 0 [⟨(some 10), none, (.p (.fieldAddr 1) [.t 2])⟩,
       ⟨(some 11), none, (.m (.load false 1) 0 [.t 10])⟩,
       ⟨(some 12), none, (.p (.fieldAddr 1) [.t 3])⟩,
       ⟨(some 13), none, (.m (.load false 1) 0 [.t 12])⟩,
       ⟨(some 14), none, (.p (.bin .neq .str) [.t 11, .t 13])⟩] [2, 3, 14])
     (.cond (.t 14)
      (.seq
       (.ops 0 [⟨(some 4), none, (.p .mv [.c (.bool false)])⟩] [4])
       .ret)
      .skip))
    (.seq
     (.seq
      (.ops 0 [⟨(some 15), none, (.p (.fieldAddr 2) [.t 2])⟩,
        ⟨(some 16), none, (.m (.load false 1) 0 [.t 15])⟩,
        ⟨(some 17), none, (.p (.fieldAddr 2) [.t 3])⟩,
        ⟨(some 18), none, (.m (.load false 1) 0 [.t 17])⟩,
        ⟨(some 19), none, (.p (.bin .neq .int) [.t 16, .t 18])⟩] [19])
      (.cond (.t 19)
       (.seq
        (.ops 0 [⟨(some 4), none, (.p .mv [.c (.bool false)])⟩] [4])
        .ret)
       .skip))
     (.seq
      (.ops 0 [⟨(some 4), none, (.p .mv [.c (.bool true)])⟩] [4])
      .ret)))))⟩
theorem t13 : trF Tryd.prog Tryd.f13 [[2, 3], [2, 3, 9], [4], [2, 3, 14], [4], [19], [4], [4]] = some d13 := by kernel_rfl
/-- loop.example/g01194/laws.szLogRecord -/
def d14 : FD := ⟨[.t 4],
 (.seq
  (.ops 1 [⟨(some 2), none, (.m .box 0 [.t 0])⟩,
    ⟨(some 4), none, (.p .mv [.c (.int .i64 0)])⟩] [1, 2])
  (.seq
   (.ops 0 [⟨(some 5), none, (.p .mv [.t 1])⟩,
     ⟨(some 6), none, (.p (.fieldAddr 0) [.t 2])⟩,
     ⟨(some 7), none, (.m (.load false 1) 0 [.t 6])⟩,
     ⟨(some 8), none, (.p .lenStr [.t 7])⟩,
     ⟨(some 9), none, (.p (.bin .sub .int) [.t 5, .t 8])⟩,
     ⟨(some 1), none, (.p .mv [.t 9])⟩] [1, 2])
   (.seq
    (.seq
     (.ops 0 [⟨(some 10), none, (.p .mv [.t 1])⟩,
       ⟨(some 11), none, (.p (.bin .lss .int) [.t 10, .c (.int .i64 0)])⟩] [1, 2, 11])
     (.cond (.t 11)
      (.seq
       (.ops 0 [⟨(some 4), none, (.p .mv [.c (.int .i64 (-1))])⟩] [4])
       .ret)
      .skip))
    (.seq
     (.ops 0 [⟨(some 12), none, (.p .mv [.t 1])⟩,
       ⟨(some 13), none, (.p (.fieldAddr 1) [.t 2])⟩,
       ⟨(some 14), none, (.m (.load false 1) 0 [.t 13])⟩,
       ⟨(some 15), none, (.p .lenStr [.t 14])⟩,
       ⟨(some 16), none, (.p (.bin .sub .int) [.t 12, .t 15])⟩,
       ⟨(some 1), none, (.p .mv [.t 16])⟩] [1])
     (.seq
      (.seq
       (.ops 0 [⟨(some 17), none, (.p .mv [.t 1])⟩,
         ⟨(some 18), none, (.p (.bin .lss .int) [.t 17, .c (.int .i64 0)])⟩] [1, 18])
       (.cond (.t 18)
        (.seq
         (.ops 0 [⟨(some 4), none, (.p .mv [.c (.int .i64 (-1))])⟩] [4])
         .ret)
        .skip))
      (.seq
       (.ops 0 [⟨(some 19), none, (.p .mv [.t 1])⟩,
         ⟨(some 4), none, (.p .mv [.t 19])⟩] [4])
       .ret))))))⟩
theorem t14 : trF Tryd.prog Tryd.f14 [[1, 2], [1, 2], [1, 2, 11], [4], [1], [1, 18], [4], [4]] = some d14 := by kernel_rfl
/-- loop.example/g01194/spec.AppendRecord -/
def d15 : FD := ⟨[.cell 4 true 3, .t 5],
 (.seq
  (.ops 3 [⟨(some 2), none, (.m .box 0 [.t 0])⟩,
    ⟨(some 3), none, (.m .box 1 [.t 1])⟩,
    ⟨(some 4), none, (.m (.alloc [.str [], .str [], .int .i64 0]) 2 [])⟩,
    ⟨(some 5), none, (.p .mv [.c (.int .i64 0)])⟩] [2, 3, 4])
  (.seq
   (.seq
    (.ops 4 [⟨(some 6), none, (.m (.load true 3) 0 [.t 2])⟩,
      ⟨(some 7), none, (.call (.c (.fn 46 [] [])) [.t 6] 0 2)⟩,
      ⟨(some 8), none, (.p .not [.t 7])⟩,
      ⟨(some 9), none, (.p .mv [.t 8])⟩,
      ⟨(some 10), (some (9, false)), (.m (.load true 2) 0 [.t 3])⟩,
      ⟨(some 11), (some (9, false)), (.call (.c (.fn 47 [] [])) [.t 10] 2 2)⟩,
      ⟨(some 12), (some (9, false)), (.p .not [.t 11])⟩,
      ⟨(some 13), none, (.p .pick [.t 9, .c (.bool true), .t 12])⟩] [2, 3, 4, 13])
    (.cond (.t 13)
     (.seq
      (.ops 0 [⟨(some 14), none, (.m (.load true 3) 0 [.t 2])⟩,
        ⟨none, none, (.m (.store 3) 0 [.t 4, .t 14])⟩,
        ⟨(some 5), none, (.p .mv [.c (.int .i64 1)])⟩] [4, 5])
      .ret)
     .skip))
   (.seq
    (.seq
     (.ops 0 [⟨(some 15), none, (.p (.fieldAddr 2) [.t 2])⟩,
       ⟨(some 16), none, (.m (.load false 1) 0 [.t 15])⟩,
       ⟨(some 17), none, (.p (.bin .eql .int) [.t 16, .c (.int .i64 60)])⟩] [2, 3, 4, 17])
     (.cond (.t 17)
      (.seq
       (.ops 0 [⟨(some 18), none, (.m (.load true 3) 0 [.t 2])⟩,
         ⟨none, none, (.m (.store 3) 0 [.t 4, .t 18])⟩,
         ⟨(some 5), none, (.p .mv [.c (.int .i64 2)])⟩] [4, 5])
       .ret)
      .skip))
    (.seq
     (.draw 2 [(1, 5)] [⟨(some 19), none, (.p (.fieldAddr 1) [.t 2])⟩,
       ⟨(some 20), none, (.m (.load false 1) 0 [.t 19])⟩,
       ⟨(some 21), none, (.p (.fieldAddr 2) [.t 2])⟩,
       ⟨(some 22), none, (.m (.load false 1) 0 [.t 21])⟩,
       ⟨(some 23), none, (.m (.load true 2) 0 [.t 3])⟩,
       ⟨(some 24), none, (.call (.c (.fn 48 [] [])) [.t 22, .t 23] 0 2)⟩,
       ⟨(some 25), none, (.p (.bin .add .str) [.t 20, .t 24])⟩,
       ⟨(some 26), none, (.p (.fieldAddr 1) [.t 2])⟩,
       ⟨none, none, (.m (.store 1) 0 [.t 26, .t 25])⟩] [2, 4])
     (.seq
      (.ops 0 [⟨(some 27), none, (.p (.fieldAddr 2) [.t 2])⟩,
        ⟨(some 28), none, (.m (.load false 1) 0 [.t 27])⟩,
        ⟨(some 29), none, (.p (.bin .add .int) [.t 28, .c (.int .i64 1)])⟩,
        ⟨(some 30), none, (.p (.fieldAddr 2) [.t 2])⟩,
        ⟨none, none, (.m (.store 1) 0 [.t 30, .t 29])⟩] [2, 4])
      (.seq
       (.ops 0 [⟨(some 31), none, (.m (.load true 3) 0 [.t 2])⟩,
         ⟨none, none, (.m (.store 3) 0 [.t 4, .t 31])⟩,
         ⟨(some 5), none, (.p .mv [.c (.int .i64 0)])⟩] [4, 5])
       .ret))))))⟩
theorem t15 : trF Tryd.prog Tryd.f15 [[2, 3, 4], [2, 3, 4, 13], [4, 5], [2, 3, 4, 17], [4, 5], [2, 4], [2, 4], [4, 5]] = some d15 := by kernel_rfl
/-- loop.example/g01194/laws.toLogRecord -/
def d16 : FD := ⟨[.cell 2 true 2],
 (.seq
  (.ops 2 [⟨(some 1), none, (.m .box 0 [.t 0])⟩,
    ⟨(some 2), none, (.m (.alloc [.str [], .str []]) 1 [])⟩] [1, 2])
  (.seq
   (.ops 1 [⟨(some 3), none, (.m (.alloc [.str [], .str []]) 0 [])⟩] [1, 2, 3])
   (.seq
    (.ops 0 [⟨(some 4), none, (.p (.fieldAddr 0) [.t 1])⟩,
      ⟨(some 5), none, (.m (.load false 1) 0 [.t 4])⟩,
      ⟨(some 6), none, (.p (.fieldAddr 0) [.t 3])⟩,
      ⟨none, none, (.m (.store 1) 0 [.t 6, .t 5])⟩] [1, 2, 3])
    (.seq
     (.ops 0 [⟨(some 7), none, (.p (.fieldAddr 1) [.t 1])⟩,
       ⟨(some 8), none, (.m (.load false 1) 0 [.t 7])⟩,
       ⟨(some 9), none, (.p (.fieldAddr 1) [.t 3])⟩,
       ⟨none, none, (.m (.store 1) 0 [.t 9, .t 8])⟩] [2, 3])
     (.seq
      (.ops 0 [⟨(some 10), none, (.m (.load true 2) 0 [.t 3])⟩,
        ⟨none, none, (.m (.store 2) 0 [.t 2, .t 10])⟩] [2])
      .ret)))))⟩
theorem t16 : trF Tryd.prog Tryd.f16 [[1, 2], [1, 2, 3], [1, 2, 3], [2, 3], [2]] = some d16 := by kernel_rfl
/-- loop.example/g01194/impl.AppendRecord -/
def d17 : FD := ⟨[.cell 4 true 3, .t 5],
 (.seq
  (.ops 3 [⟨(some 2), none, (.m .box 0 [.t 0])⟩,
    ⟨(some 3), none, (.m .box 1 [.t 1])⟩,
    ⟨(some 4), none, (.m (.alloc [.str [], .str [], .int .i64 0]) 2 [])⟩,
    ⟨(some 5), none, (.p .mv [.c (.int .i64 0)])⟩] [2, 3, 4])
  (.seq
   (.block 0 [2, 3, 4]
    (.seq
     (.ops 4 [⟨(some 9), none, (.m (.load true 3) 0 [.t 2])⟩,
       ⟨(some 10), none, (.call (.c (.fn 37 [] [])) [.t 9] 0 2)⟩,
       ⟨(some 11), none, (.p .not [.t 10])⟩,
       ⟨(some 12), none, (.p .mv [.t 11])⟩,
       ⟨(some 13), (some (12, false)), (.m (.load true 2) 0 [.t 3])⟩,
       ⟨(some 14), (some (12, false)), (.call (.c (.fn 35 [] [])) [.t 13] 2 2)⟩,
       ⟨(some 15), (some (12, false)), (.p .not [.t 14])⟩,
       ⟨(some 16), none, (.p .pick [.t 12, .c (.bool true), .t 15])⟩,
       ⟨(some 8), none, (.p .mv [.t 16])⟩] [2, 3, 4, 8])
     (.cond (.t 8)
      (.seq
       (.ops 0 [⟨(some 17), none, (.m (.load true 3) 0 [.t 2])⟩,
         ⟨none, none, (.m (.store 3) 0 [.t 4, .t 17])⟩,
         ⟨(some 5), none, (.p .mv [.c (.int .i64 1)])⟩] [4, 5])
       .ret)
      (.seq
       (.ops 0 [⟨(some 19), none, (.p (.fieldAddr 2) [.t 2])⟩,
         ⟨(some 20), none, (.m (.load false 1) 0 [.t 19])⟩,
         ⟨(some 21), none, (.p (.bin .eql .int) [.t 20, .c (.int .i64 60)])⟩,
         ⟨(some 18), none, (.p .mv [.t 21])⟩] [2, 3, 4, 18])
       (.cond (.t 18)
        (.seq
         (.ops 0 [⟨(some 22), none, (.m (.load true 3) 0 [.t 2])⟩,
           ⟨none, none, (.m (.store 3) 0 [.t 4, .t 22])⟩,
           ⟨(some 5), none, (.p .mv [.c (.int .i64 2)])⟩] [4, 5])
         .ret)
        .skip)))))
   (.seq
    (.ops 2 [⟨(some 24), none, (.p (.fieldAddr 2) [.t 2])⟩,
      ⟨(some 25), none, (.m (.load false 1) 0 [.t 24])⟩,
      ⟨(some 26), none, (.m (.load true 2) 0 [.t 3])⟩,
      ⟨(some 27), none, (.call (.c (.fn 31 [] [])) [.t 25, .t 26] 0 2)⟩,
      ⟨(some 23), none, (.p .mv [.t 27])⟩,
      ⟨(some 28), none, (.p (.extract 0) [.t 23])⟩,
      ⟨(some 29), none, (.p (.extract 1) [.t 23])⟩,
      ⟨(some 6), none, (.p .mv [.t 28])⟩,
      ⟨(some 7), none, (.p .mv [.t 29])⟩] [2, 4, 6])
    (.seq
     (.ops 0 [⟨(some 30), none, (.p (.fieldAddr 0) [.t 2])⟩,
       ⟨(some 31), none, (.m (.load false 1) 0 [.t 30])⟩,
       ⟨(some 32), none, (.p (.fieldAddr 1) [.t 2])⟩,
       ⟨(some 33), none, (.m (.load false 1) 0 [.t 32])⟩,
       ⟨(some 34), none, (.p .mv [.t 6])⟩,
       ⟨(some 35), none, (.p (.bin .add .str) [.t 33, .t 34])⟩,
       ⟨(some 36), none, (.p (.fieldAddr 2) [.t 2])⟩,
       ⟨(some 37), none, (.m (.load false 1) 0 [.t 36])⟩,
       ⟨(some 38), none, (.p (.bin .add .int) [.t 37, .c (.int .i64 1)])⟩,
       ⟨(some 39), none, (.p (.build [.str [], .str [], .int .i64 0] [(0, 1), (1, 1), (2, 1)]) [.t 31, .t 35, .t 38])⟩,
       ⟨none, none, (.m (.store 3) 0 [.t 4, .t 39])⟩,
       ⟨(some 5), none, (.p .mv [.c (.int .i64 0)])⟩] [4, 5])
     .ret))))⟩
theorem t17 : trF Tryd.prog Tryd.f17 [[2, 3, 4], [2, 3, 4], [2, 3, 4, 8], [4, 5], [2, 3, 4, 18], [4, 5], [2, 4, 6], [4, 5]] = some d17 := by kernel_rfl
/-- loop.example/g01194/spec.LogRecords -/
def d18 : FD := ⟨[.t 2, .t 3],
 (.seq
  (.ops 1 [⟨(some 1), none, (.m .box 0 [.t 0])⟩,
    ⟨(some 2), none, (.p .mv [.c (.nilsl)])⟩,
    ⟨(some 3), none, (.p .mv [.c (.bool false)])⟩] [1])
  (.seq
   (.seq
    (.ops 2 [⟨(some 6), none, (.m (.load true 3) 0 [.t 1])⟩,
      ⟨(some 7), none, (.call (.c (.fn 46 [] [])) [.t 6] 0 2)⟩,
      ⟨(some 8), none, (.p .not [.t 7])⟩] [1, 8])
    (.cond (.t 8)
     (.seq
      (.ops 1 [⟨(some 9), none, (.m (.buildSlice 36 2 0 [] []) 0 [])⟩,
        ⟨(some 2), none, (.p .mv [.t 9])⟩,
        ⟨(some 3), none, (.p .mv [.c (.bool false)])⟩] [2, 3])
      .ret)
     .skip))
   (.seq
    (.ops 2 [⟨(some 11), none, (.p (.fieldAddr 0) [.t 1])⟩,
      ⟨(some 12), none, (.m (.load false 1) 0 [.t 11])⟩,
      ⟨(some 13), none, (.p (.fieldAddr 1) [.t 1])⟩,
      ⟨(some 14), none, (.m (.load false 1) 0 [.t 13])⟩,
      ⟨(some 15), none, (.p (.bin .add .str) [.t 12, .t 14])⟩,
      ⟨(some 16), none, (.call (.c (.fn 49 [] [])) [.t 15] 0 2)⟩,
      ⟨(some 10), none, (.p .mv [.t 16])⟩,
      ⟨(some 17), none, (.p (.extract 0) [.t 10])⟩,
      ⟨(some 18), none, (.p (.extract 1) [.t 10])⟩,
      ⟨(some 4), none, (.p .mv [.t 17])⟩,
      ⟨(some 5), none, (.p .mv [.t 18])⟩] [4])
    (.seq
     (.ops 0 [⟨(some 19), none, (.p .mv [.t 4])⟩,
       ⟨(some 2), none, (.p .mv [.t 19])⟩,
       ⟨(some 3), none, (.p .mv [.c (.bool true)])⟩] [2, 3])
     .ret))))⟩
theorem t18 : trF Tryd.prog Tryd.f18 [[1], [1, 8], [2, 3], [4], [2, 3]] = some d18 := by kernel_rfl
/-- loop.example/g01194/impl.LogRecords -/
def d19 : FD := ⟨[.t 2, .t 3],
 (.seq
  (.ops 1 [⟨(some 1), none, (.m .box 0 [.t 0])⟩,
    ⟨(some 2), none, (.p .mv [.c (.nilsl)])⟩,
    ⟨(some 3), none, (.p .mv [.c (.bool false)])⟩] [1])
  (.seq
   (.ops 2 [⟨(some 7), none, (.m (.load true 3) 0 [.t 1])⟩,
     ⟨(some 8), none, (.call (.c (.fn 50 [] [])) [.t 7] 0 2)⟩,
     ⟨(some 6), none, (.p .mv [.t 8])⟩,
     ⟨(some 9), none, (.p (.extract 0) [.t 6])⟩,
     ⟨(some 10), none, (.p (.extract 1) [.t 6])⟩,
     ⟨(some 4), none, (.p .mv [.t 9])⟩,
     ⟨(some 5), none, (.p .mv [.t 10])⟩] [4, 5])
   (.seq
    (.seq
     (.ops 0 [⟨(some 11), none, (.p .mv [.t 5])⟩,
       ⟨(some 12), none, (.p .not [.t 11])⟩] [4, 12])
     (.cond (.t 12)
      (.seq
       (.ops 0 [⟨(some 2), none, (.p .mv [.c (.nilsl)])⟩,
         ⟨(some 3), none, (.p .mv [.c (.bool false)])⟩] [2, 3])
       .ret)
      .skip))
    (.seq
     (.ops 0 [⟨(some 13), none, (.p .mv [.t 4])⟩,
       ⟨(some 2), none, (.p .mv [.t 13])⟩,
       ⟨(some 3), none, (.p .mv [.c (.bool true)])⟩] [2, 3])
     .ret))))⟩
theorem t19 : trF Tryd.prog Tryd.f19 [[1], [4, 5], [4, 12], [2, 3], [2, 3]] = some d19 := by kernel_rfl
/-- loop.example/g01194/laws.eqLogRecordS -/
def b20_0 : Cd :=
 (.seq
  (.seq
   (.ops 0 [⟨(some 11), none, (.p .mv [.t 5])⟩,
     ⟨(some 12), none, (.p .mv [.t 0])⟩,
     ⟨(some 13), none, (.p .lenSl [.t 12])⟩,
     ⟨(some 14), none, (.p (.bin .lss .int) [.t 11, .t 13])⟩] [0, 1, 5, 14])
   (.cond (.t 14)
    .skip
    (.exit 0)))
  (.seq
   (.block 1 [0, 1, 5]
    (.seq
     (.draw 2 [] [⟨(some 17), none, (.p .mv [.t 0])⟩,
       ⟨(some 18), none, (.p .mv [.t 5])⟩,
       ⟨(some 19), none, (.p (.indexSl 2) [.t 17, .t 18])⟩,
       ⟨(some 20), none, (.m (.load true 2) 0 [.t 19])⟩,
       ⟨(some 21), none, (.p .mv [.t 1])⟩,
       ⟨(some 22), none, (.p .mv [.t 5])⟩,
       ⟨(some 23), none, (.p (.indexSl 2) [.t 21, .t 22])⟩,
       ⟨(some 24), none, (.m (.load true 2) 0 [.t 23])⟩,
       ⟨(some 25), none, (.call (.c (.fn 51 [] [])) [.t 20, .t 24] 0 2)⟩,
       ⟨(some 26), none, (.p .not [.t 25])⟩] [0, 1, 5, 26])
     (.cond (.t 26)
      (.seq
       (.ops 0 [⟨(some 4), none, (.p .mv [.c (.bool false)])⟩] [4])
       .ret)
      .skip)))
   (.ops 0 [⟨(some 15), none, (.p .mv [.t 5])⟩,
     ⟨(some 16), none, (.p (.bin .add .int) [.t 15, .c (.int .i64 1)])⟩,
     ⟨(some 5), none, (.p .mv [.t 16])⟩] [0, 1, 5])))
def l20_0 : Cd := .loop [0, 1, 5] b20_0
theorem x20_0 (R : Run) (M : Nat) (t : Tm) (σ : Store) : X R M l20_0 ⟨t, σ⟩ = rnd R M l20_0 [0, 1, 5] b20_0 (norm M (tgs t [0, 1, 5]) σ) := x_loop rfl
def d20 : FD := ⟨[.t 4],
 (.seq
  (.ops 0 [⟨(some 4), none, (.p .mv [.c (.bool false)])⟩] [0, 1])
  (.seq
   (.seq
    (.ops 0 [⟨(some 6), none, (.p .mv [.t 0])⟩,
      ⟨(some 7), none, (.p .lenSl [.t 6])⟩,
      ⟨(some 8), none, (.p .mv [.t 1])⟩,
      ⟨(some 9), none, (.p .lenSl [.t 8])⟩,
      ⟨(some 10), none, (.p (.bin .neq .int) [.t 7, .t 9])⟩] [0, 1, 10])
    (.cond (.t 10)
     (.seq
      (.ops 0 [⟨(some 4), none, (.p .mv [.c (.bool false)])⟩] [4])
      .ret)
     .skip))
   (.seq
    (.seq
     (.ops 0 [⟨(some 5), none, (.p .mv [.c (.int .i64 0)])⟩] [0, 1, 5])
     (.block 0 []
      l20_0))
    (.seq
     (.ops 0 [⟨(some 4), none, (.p .mv [.c (.bool true)])⟩] [4])
     .ret))))⟩
theorem t20 : trF Tryd.prog Tryd.f20 [[0, 1], [0, 1, 10], [4], [0, 1, 5], [], [0, 1, 5], [0, 1, 5, 14], [0, 1, 5], [0, 1, 5, 26], [4], [0, 1, 5], [4]] = some d20 := by kernel_rfl
/-- loop.example/g01194/laws.markLogRecordS -/
def b21_0 : Cd :=
 (.seq
  (.seq
   (.ops 0 [⟨(some 6), none, (.p .mv [.t 5])⟩,
     ⟨(some 7), none, (.p .mv [.t 0])⟩,
     ⟨(some 8), none, (.p .lenSl [.t 7])⟩,
     ⟨(some 9), none, (.p (.bin .lss .int) [.t 6, .t 8])⟩] [0, 1, 5, 9])
   (.cond (.t 9)
    .skip
    (.exit 0)))
  (.seq
   (.block 1 [0, 1, 5]
    (.seq
     (.ops 2 [⟨(some 12), none, (.p .mv [.t 0])⟩,
       ⟨(some 13), none, (.p .mv [.t 5])⟩,
       ⟨(some 14), none, (.p .mv [.t 1])⟩,
       ⟨(some 15), none, (.call (.c (.fn 52 [] [])) [.t 14] 0 2)⟩,
       ⟨(some 16), none, (.p (.indexSl 2) [.t 12, .t 13])⟩,
       ⟨(some 17), none, (.p (.fieldAddr 0) [.t 16])⟩,
       ⟨none, none, (.m (.store 1) 0 [.t 17, .t 15])⟩] [0, 1, 5])
     (.seq
      (.ops 0 [⟨(some 18), none, (.p .mv [.t 1])⟩,
        ⟨(some 19), none, (.p (.bin .add .int) [.t 18, .c (.int .i64 1)])⟩,
        ⟨(some 1), none, (.p .mv [.t 19])⟩] [0, 1, 5])
      (.seq
       (.ops 2 [⟨(some 20), none, (.p .mv [.t 0])⟩,
         ⟨(some 21), none, (.p .mv [.t 5])⟩,
         ⟨(some 22), none, (.p .mv [.t 1])⟩,
         ⟨(some 23), none, (.call (.c (.fn 52 [] [])) [.t 22] 0 2)⟩,
         ⟨(some 24), none, (.p (.indexSl 2) [.t 20, .t 21])⟩,
         ⟨(some 25), none, (.p (.fieldAddr 1) [.t 24])⟩,
         ⟨none, none, (.m (.store 1) 0 [.t 25, .t 23])⟩] [0, 1, 5])
       (.ops 0 [⟨(some 26), none, (.p .mv [.t 1])⟩,
         ⟨(some 27), none, (.p (.bin .add .int) [.t 26, .c (.int .i64 1)])⟩,
         ⟨(some 1), none, (.p .mv [.t 27])⟩] [0, 1, 5])))))
   (.ops 0 [⟨(some 10), none, (.p .mv [.t 5])⟩,
     ⟨(some 11), none, (.p (.bin .add .int) [.t 10, .c (.int .i64 1)])⟩,
     ⟨(some 5), none, (.p .mv [.t 11])⟩] [0, 1, 5])))
def l21_0 : Cd := .loop [0, 1, 5] b21_0
theorem x21_0 (R : Run) (M : Nat) (t : Tm) (σ : Store) : X R M l21_0 ⟨t, σ⟩ = rnd R M l21_0 [0, 1, 5] b21_0 (norm M (tgs t [0, 1, 5]) σ) := x_loop rfl
def d21 : FD := ⟨[.t 4],
 (.seq
  (.ops 0 [⟨(some 4), none, (.p .mv [.c (.int .i64 0)])⟩] [0, 1])
  (.seq
   (.seq
    (.ops 0 [⟨(some 5), none, (.p .mv [.c (.int .i64 0)])⟩] [0, 1, 5])
    (.block 0 [1]
     l21_0))
   (.seq
    (.ops 0 [⟨(some 28), none, (.p .mv [.t 1])⟩,
      ⟨(some 4), none, (.p .mv [.t 28])⟩] [4])
    .ret)))⟩
theorem t21 : trF Tryd.prog Tryd.f21 [[0, 1], [0, 1, 5], [1], [0, 1, 5], [0, 1, 5, 9], [0, 1, 5], [0, 1, 5], [0, 1, 5], [0, 1, 5], [0, 1, 5], [0, 1, 5], [4]] = some d21 := by kernel_rfl
/-- loop.example/g01194/laws.heldLogRecordS -/
def b22_0 : Cd :=
 (.seq
  (.seq
   (.ops 0 [⟨(some 6), none, (.p .mv [.t 5])⟩,
     ⟨(some 7), none, (.p .mv [.t 0])⟩,
     ⟨(some 8), none, (.p .lenSl [.t 7])⟩,
     ⟨(some 9), none, (.p (.bin .lss .int) [.t 6, .t 8])⟩] [0, 1, 5, 9])
   (.cond (.t 9)
    .skip
    (.exit 0)))
  (.seq
   (.block 1 [0, 1, 5]
    (.seq
     (.seq
      (.draw 2 [(4, 6)] [⟨(some 12), none, (.p .mv [.t 0])⟩,
        ⟨(some 13), none, (.p .mv [.t 5])⟩,
        ⟨(some 14), none, (.p (.indexSl 2) [.t 12, .t 13])⟩,
        ⟨(some 15), none, (.p (.fieldAddr 0) [.t 14])⟩,
        ⟨(some 16), none, (.m (.load false 1) 0 [.t 15])⟩,
        ⟨(some 17), none, (.p .mv [.t 1])⟩,
        ⟨(some 18), none, (.call (.c (.fn 52 [] [])) [.t 17] 0 2)⟩,
        ⟨(some 19), none, (.p (.bin .neq .str) [.t 16, .t 18])⟩] [0, 1, 5, 19])
      (.cond (.t 19)
       (.seq
        (.ops 0 [⟨(some 4), none, (.p .mv [.c (.int .i64 (-1))])⟩] [4])
        .ret)
       .skip))
     (.seq
      (.ops 0 [⟨(some 20), none, (.p .mv [.t 1])⟩,
        ⟨(some 21), none, (.p (.bin .add .int) [.t 20, .c (.int .i64 1)])⟩,
        ⟨(some 1), none, (.p .mv [.t 21])⟩] [0, 1, 5])
      (.seq
       (.seq
        (.draw 2 [(4, 6)] [⟨(some 22), none, (.p .mv [.t 0])⟩,
          ⟨(some 23), none, (.p .mv [.t 5])⟩,
          ⟨(some 24), none, (.p (.indexSl 2) [.t 22, .t 23])⟩,
          ⟨(some 25), none, (.p (.fieldAddr 1) [.t 24])⟩,
          ⟨(some 26), none, (.m (.load false 1) 0 [.t 25])⟩,
          ⟨(some 27), none, (.p .mv [.t 1])⟩,
          ⟨(some 28), none, (.call (.c (.fn 52 [] [])) [.t 27] 0 2)⟩,
          ⟨(some 29), none, (.p (.bin .neq .str) [.t 26, .t 28])⟩] [0, 1, 5, 29])
        (.cond (.t 29)
         (.seq
          (.ops 0 [⟨(some 4), none, (.p .mv [.c (.int .i64 (-1))])⟩] [4])
          .ret)
         .skip))
       (.ops 0 [⟨(some 30), none, (.p .mv [.t 1])⟩,
         ⟨(some 31), none, (.p (.bin .add .int) [.t 30, .c (.int .i64 1)])⟩,
         ⟨(some 1), none, (.p .mv [.t 31])⟩] [0, 1, 5])))))
   (.ops 0 [⟨(some 10), none, (.p .mv [.t 5])⟩,
     ⟨(some 11), none, (.p (.bin .add .int) [.t 10, .c (.int .i64 1)])⟩,
     ⟨(some 5), none, (.p .mv [.t 11])⟩] [0, 1, 5])))
def l22_0 : Cd := .loop [0, 1, 5] b22_0
theorem x22_0 (R : Run) (M : Nat) (t : Tm) (σ : Store) : X R M l22_0 ⟨t, σ⟩ = rnd R M l22_0 [0, 1, 5] b22_0 (norm M (tgs t [0, 1, 5]) σ) := x_loop rfl
def d22 : FD := ⟨[.t 4],
 (.seq
  (.ops 0 [⟨(some 4), none, (.p .mv [.c (.int .i64 0)])⟩] [0, 1])
  (.seq
   (.seq
    (.ops 0 [⟨(some 5), none, (.p .mv [.c (.int .i64 0)])⟩] [0, 1, 5])
    (.block 0 [1]
     l22_0))
   (.seq
    (.ops 0 [⟨(some 32), none, (.p .mv [.t 1])⟩,
      ⟨(some 4), none, (.p .mv [.t 32])⟩] [4])
    .ret)))⟩
theorem t22 : trF Tryd.prog Tryd.f22 [[0, 1], [0, 1, 5], [1], [0, 1, 5], [0, 1, 5, 9], [0, 1, 5], [0, 1, 5, 19], [4], [0, 1, 5], [0, 1, 5, 29], [4], [0, 1, 5], [0, 1, 5], [4]] = some d22 := by kernel_rfl
/-- loop.example/g01194/laws.szConsole -/
def d23 : FD := ⟨[.t 4],
 (.seq
  (.ops 1 [⟨(some 2), none, (.m .box 0 [.t 0])⟩,
    ⟨(some 4), none, (.p .mv [.c (.int .i64 0)])⟩] [1, 2])
  (.seq
   (.ops 2 [⟨(some 5), none, (.p (.fieldAddr 18) [.t 2])⟩,
     ⟨(some 6), none, (.m (.load true 3) 0 [.t 5])⟩,
     ⟨(some 7), none, (.p .mv [.t 1])⟩,
     ⟨(some 8), none, (.call (.c (.fn 9 [] [])) [.t 6, .t 7] 0 2)⟩,
     ⟨(some 1), none, (.p .mv [.t 8])⟩] [1])
   (.seq
    (.seq
     (.ops 0 [⟨(some 9), none, (.p .mv [.t 1])⟩,
       ⟨(some 10), none, (.p (.bin .lss .int) [.t 9, .c (.int .i64 0)])⟩] [1, 10])
     (.cond (.t 10)
      (.seq
       (.ops 0 [⟨(some 4), none, (.p .mv [.c (.int .i64 (-1))])⟩] [4])
       .ret)
      .skip))
    (.seq
     (.ops 0 [⟨(some 11), none, (.p .mv [.t 1])⟩,
       ⟨(some 4), none, (.p .mv [.t 11])⟩] [4])
     .ret))))⟩
theorem t23 : trF Tryd.prog Tryd.f23 [[1, 2], [1], [1, 10], [4], [4]] = some d23 := by kernel_rfl
/-- loop.example/g01194/spec.IsValidConsole -/
def d24 : FD := ⟨[.t 2],
 (.seq
  (.ops 1 [⟨(some 1), none, (.m .box 0 [.t 0])⟩,
    ⟨(some 2), none, (.p .mv [.c (.bool false)])⟩] [1])
  (.seq
   (.ops 4 [⟨(some 3), none, (.p (.fieldAddr 0) [.t 1])⟩,
     ⟨(some 4), none, (.m (.load true 18) 0 [.t 3])⟩,
     ⟨(some 5), none, (.call (.c (.fn 53 [] [])) [.t 4] 0 2)⟩,
     ⟨(some 6), none, (.p .mv [.t 5])⟩,
     ⟨(some 7), (some (6, true)), (.p (.fieldAddr 18) [.t 1])⟩,
     ⟨(some 8), (some (6, true)), (.m (.load true 3) 0 [.t 7])⟩,
     ⟨(some 9), (some (6, true)), (.call (.c (.fn 46 [] [])) [.t 8] 2 2)⟩,
     ⟨(some 10), none, (.p .pick [.t 6, .t 9, .c (.bool false)])⟩,
     ⟨(some 2), none, (.p .mv [.t 10])⟩] [2])
   .ret))⟩
theorem t24 : trF Tryd.prog Tryd.f24 [[1], [2]] = some d24 := by kernel_rfl
/-- loop.example/g01194/laws.toConsole -/
def d25 : FD := ⟨[.cell 2 true 21],
 (.seq
  (.ops 2 [⟨(some 1), none, (.m .box 0 [.t 0])⟩,
    ⟨(some 2), none, (.m (.alloc [.int .i64 0, .int .i64 0, .int .i64 0, .int .i64 0, .int .i64 0, .int .i64 0, .int .i64 0, .int .i64 0, .int .i64 0, .int .i64 0, .int .i64 0, .int .i64 0, .int .i64 0, .int .i64 0, .int .i64 0, .int .i64 0, .int .i64 0, .int .i64 0, .str [], .str [], .int .i64 0]) 1 [])⟩] [1, 2])
  (.seq
   (.ops 1 [⟨(some 3), none, (.m (.alloc [.int .i64 0, .int .i64 0, .int .i64 0, .int .i64 0, .int .i64 0, .int .i64 0, .int .i64 0, .int .i64 0, .int .i64 0, .int .i64 0, .int .i64 0, .int .i64 0, .int .i64 0, .int .i64 0, .int .i64 0, .int .i64 0, .int .i64 0, .int .i64 0, .str [], .str [], .int .i64 0]) 0 [])⟩] [1, 2, 3])
   (.seq
    (.ops 2 [⟨(some 4), none, (.p (.fieldAddr 0) [.t 1])⟩,
      ⟨(some 5), none, (.m (.load true 18) 0 [.t 4])⟩,
      ⟨(some 6), none, (.call (.c (.fn 54 [] [])) [.t 5] 0 2)⟩,
      ⟨(some 7), none, (.p (.fieldAddr 0) [.t 3])⟩,
      ⟨none, none, (.m (.store 18) 0 [.t 7, .t 6])⟩] [1, 2, 3])
    (.seq
     (.ops 2 [⟨(some 8), none, (.p (.fieldAddr 18) [.t 1])⟩,
       ⟨(some 9), none, (.m (.load true 3) 0 [.t 8])⟩,
       ⟨(some 10), none, (.call (.c (.fn 11 [] [])) [.t 9] 0 2)⟩,
       ⟨(some 11), none, (.p (.fieldAddr 18) [.t 3])⟩,
       ⟨none, none, (.m (.store 3) 0 [.t 11, .t 10])⟩] [2, 3])
     (.seq
      (.ops 0 [⟨(some 12), none, (.m (.load true 21) 0 [.t 3])⟩,
        ⟨none, none, (.m (.store 21) 0 [.t 2, .t 12])⟩] [2])
      .ret)))))⟩
theorem t25 : trF Tryd.prog Tryd.f25 [[1, 2], [1, 2, 3], [1, 2, 3], [2, 3], [2]] = some d25 := by kernel_rfl
/-- loop.example/g01194/impl.IsValidConsole -/
def d26 : FD := ⟨[.t 2],
 (.seq
  (.ops 1 [⟨(some 1), none, (.m .box 0 [.t 0])⟩,
    ⟨(some 2), none, (.p .mv [.c (.bool false)])⟩] [1])
  (.seq
   (.ops 4 [⟨(some 3), none, (.p (.fieldAddr 0) [.t 1])⟩,
     ⟨(some 4), none, (.m (.load true 18) 0 [.t 3])⟩,
     ⟨(some 5), none, (.call (.c (.fn 55 [] [])) [.t 4] 0 2)⟩,
     ⟨(some 6), none, (.p .mv [.t 5])⟩,
     ⟨(some 7), (some (6, true)), (.p (.fieldAddr 18) [.t 1])⟩,
     ⟨(some 8), (some (6, true)), (.m (.load true 3) 0 [.t 7])⟩,
     ⟨(some 9), (some (6, true)), (.call (.c (.fn 37 [] [])) [.t 8] 2 2)⟩,
     ⟨(some 10), none, (.p .pick [.t 6, .t 9, .c (.bool false)])⟩,
     ⟨(some 2), none, (.p .mv [.t 10])⟩] [2])
   .ret))⟩
theorem t26 : trF Tryd.prog Tryd.f26 [[1], [2]] = some d26 := by kernel_rfl
/-- loop.example/g01194/laws.vBig -/
def d27 : FD := ⟨[.t 2],
 (.seq
  (.ops 0 [⟨(some 2), none, (.p .mv [.c (.bool false)])⟩] [0])
  (.seq
   (.ops 0 [⟨(some 3), none, (.p .mv [.t 0])⟩,
     ⟨(some 4), none, (.p .lenSl [.t 3])⟩,
     ⟨(some 5), none, (.p (.bin .gtr .int) [.t 4, .c (.int .i64 65536)])⟩,
     ⟨(some 2), none, (.p .mv [.t 5])⟩] [2])
   .ret))⟩
theorem t27 : trF Tryd.prog Tryd.f27 [[0], [2]] = some d27 := by kernel_rfl
/-- loop.example/g01194/spec.DrawIsValidRecord -/
def d28 : FD := ⟨[.cell 2 true 2],
 (.seq
  (.ops 1 [⟨(some 2), none, (.m (.alloc [.str [], .str []]) 0 [])⟩] [0, 2])
  (.seq
   (.ops 1 [⟨(some 4), none, (.p .mv [.t 0])⟩,
     ⟨(some 5), none, (.p (.build [.nilsl, .int .i64 0, .int .u64 0] [(0, 1)]) [.t 4])⟩,
     ⟨(some 6), none, (.m .box 0 [.t 5])⟩,
     ⟨(some 3), none, (.p .mv [.t 6])⟩] [2, 3])
   (.seq
    (.ops 2 [⟨(some 7), none, (.p .mv [.t 3])⟩,
      ⟨(some 8), none, (.call (.c (.fn 56 [] [])) [.t 7] 0 2)⟩,
      ⟨none, none, (.m (.store 2) 0 [.t 2, .t 8])⟩] [2])
    .ret)))⟩
theorem t28 : trF Tryd.prog Tryd.f28 [[0, 2], [2, 3], [2]] = some d28 := by kernel_rfl
/-- loop.example/g01194/spec.DrawEncodeRecord -/
def d29 : FD := ⟨[.t 2, .cell 3 true 2],
 (.seq
  (.ops 1 [⟨(some 2), none, (.p .mv [.c (.int .i64 0)])⟩,
    ⟨(some 3), none, (.m (.alloc [.str [], .str []]) 0 [])⟩] [0, 3])
  (.seq
   (.ops 1 [⟨(some 6), none, (.p .mv [.t 0])⟩,
     ⟨(some 7), none, (.p (.build [.nilsl, .int .i64 0, .int .u64 0] [(0, 1)]) [.t 6])⟩,
     ⟨(some 8), none, (.m .box 0 [.t 7])⟩,
     ⟨(some 4), none, (.p .mv [.t 8])⟩] [3, 4])
   (.seq
    (.ops 3 [⟨(some 9), none, (.p .mv [.t 4])⟩,
      ⟨(some 10), none, (.m (.buildSlice 3 1 6 [.int .i64 0, .int .i64 0, .int .i64 0, .int .i64 0, .int .i64 0, .int .i64 0] [(0, 1), (1, 1), (2, 1), (3, 1), (4, 1), (5, 1)]) 0 [.c (.int .i64 0), .c (.int .i64 1), .c (.int .i64 12), .c (.int .i64 59), .c (.int .i64 60), .c (.int .i64 (-1))])⟩,
      ⟨(some 11), none, (.call (.c (.fn 57 [] [])) [.t 9, .t 10] 1 2)⟩,
      ⟨(some 5), none, (.p .mv [.t 11])⟩] [3, 4, 5])
    (.seq
     (.ops 2 [⟨(some 12), none, (.p .mv [.t 5])⟩,
       ⟨(some 13), none, (.p .mv [.t 4])⟩,
       ⟨(some 14), none, (.call (.c (.fn 56 [] [])) [.t 13] 0 2)⟩,
       ⟨(some 2), none, (.p .mv [.t 12])⟩,
       ⟨none, none, (.m (.store 2) 0 [.t 3, .t 14])⟩] [2, 3])
     .ret))))⟩
theorem t29 : trF Tryd.prog Tryd.f29 [[0, 3], [3, 4], [3, 4, 5], [2, 3]] = some d29 := by kernel_rfl
/-- loop.example/g01194/laws.vCut -/
def d30 : FD := ⟨[.t 4],
 (.seq
  (.ops 0 [⟨(some 4), none, (.p .mv [.c (.nilsl)])⟩] [0, 1])
  (.seq
   (.seq
    (.ops 0 [⟨(some 5), none, (.p .mv [.t 1])⟩,
      ⟨(some 6), none, (.p .mv [.t 0])⟩,
      ⟨(some 7), none, (.p .lenSl [.t 6])⟩,
      ⟨(some 8), none, (.p (.bin .gtr .int) [.t 5, .t 7])⟩] [0, 1, 8])
    (.cond (.t 8)
     (.ops 0 [⟨(some 9), none, (.p .mv [.t 0])⟩,
       ⟨(some 10), none, (.p .lenSl [.t 9])⟩,
       ⟨(some 1), none, (.p .mv [.t 10])⟩] [0, 1])
     .skip))
   (.seq
    (.ops 4 [⟨(some 11), none, (.m (.buildSlice 5 1 0 [] []) 0 [])⟩,
      ⟨(some 12), none, (.p .mv [.t 0])⟩,
      ⟨(some 13), none, (.p .mv [.t 1])⟩,
      ⟨(some 14), none, (.p (.sliceSl 1 true false) [.t 12, .t 13])⟩,
      ⟨(some 15), none, (.m (.append 5 1 1) 1 [.t 11, .t 14])⟩,
      ⟨(some 16), none, (.p .mv [.t 1])⟩,
      ⟨(some 17), none, (.p (.convInt .u8) [.t 16])⟩,
      ⟨(some 18), none, (.m (.buildSlice 5 1 1 [.int .u8 0] [(0, 1)]) 2 [.t 17])⟩,
      ⟨(some 19), none, (.m (.append 5 1 1) 3 [.t 15, .t 18])⟩,
      ⟨(some 4), none, (.p .mv [.t 19])⟩] [4])
    .ret)))⟩
theorem t30 : trF Tryd.prog Tryd.f30 [[0, 1], [0, 1, 8], [0, 1], [4]] = some d30 := by kernel_rfl
/-- loop.example/g01194/impl.EncodeRecord -/
def d31 : FD := ⟨[.t 4, .t 5],
 (.seq
  (.ops 1 [⟨(some 3), none, (.m .box 0 [.t 1])⟩,
    ⟨(some 4), none, (.p .mv [.c (.str [])])⟩,
    ⟨(some 5), none, (.p .mv [.c (.bool false)])⟩] [0, 3])
  (.seq
   (.seq
    (.ops 4 [⟨(some 8), none, (.p .mv [.t 0])⟩,
      ⟨(some 9), none, (.call (.c (.fn 58 [] [])) [.t 8, .c (.int .i64 0), .c (.int .i64 59)] 0 2)⟩,
      ⟨(some 10), none, (.p .not [.t 9])⟩,
      ⟨(some 11), none, (.p .mv [.t 10])⟩,
      ⟨(some 12), (some (11, false)), (.m (.load true 2) 0 [.t 3])⟩,
      ⟨(some 13), (some (11, false)), (.call (.c (.fn 35 [] [])) [.t 12] 2 2)⟩,
      ⟨(some 14), (some (11, false)), (.p .not [.t 13])⟩,
      ⟨(some 15), none, (.p .pick [.t 11, .c (.bool true), .t 14])⟩] [0, 3, 15])
    (.cond (.t 15)
     (.seq
      (.ops 0 [⟨(some 4), none, (.p .mv [.c (.str [])])⟩,
        ⟨(some 5), none, (.p .mv [.c (.bool false)])⟩] [4, 5])
      .ret)
     .skip))
   (.seq
    (.draw 4 [(1, 4), (1, 8)] [⟨(some 17), none, (.p .mv [.t 0])⟩,
      ⟨(some 18), none, (.call (.c (.fn 60 [] [])) [.t 17] 0 2)⟩,
      ⟨(some 19), none, (.p (.bin .add .str) [.t 18, .c (.str [32])])⟩,
      ⟨(some 20), none, (.p (.fieldAddr 0) [.t 3])⟩,
      ⟨(some 21), none, (.m (.load false 1) 0 [.t 20])⟩,
      ⟨(some 22), none, (.p (.bin .add .str) [.t 19, .t 21])⟩,
      ⟨(some 23), none, (.p (.bin .add .str) [.t 22, .c (.str [64])])⟩,
      ⟨(some 24), none, (.p (.fieldAddr 1) [.t 3])⟩,
      ⟨(some 25), none, (.m (.load false 1) 0 [.t 24])⟩,
      ⟨(some 26), none, (.p (.bin .add .str) [.t 23, .t 25])⟩,
      ⟨(some 27), none, (.call (.c (.fn 59 [] [])) [.t 26] 2 2)⟩,
      ⟨(some 16), none, (.p .mv [.t 27])⟩,
      ⟨(some 28), none, (.p (.extract 0) [.t 16])⟩,
      ⟨(some 29), none, (.p (.extract 1) [.t 16])⟩,
      ⟨(some 6), none, (.p .mv [.t 28])⟩,
      ⟨(some 7), none, (.p .mv [.t 29])⟩] [6])
    (.seq
     (.ops 0 [⟨(some 30), none, (.p .mv [.t 6])⟩,
       ⟨(some 31), none, (.p (.bin .add .str) [.t 30, .c (.str [10])])⟩,
       ⟨(some 4), none, (.p .mv [.t 31])⟩,
       ⟨(some 5), none, (.p .mv [.c (.bool true)])⟩] [4, 5])
     .ret))))⟩
theorem t31 : trF Tryd.prog Tryd.f31 [[0, 3], [0, 3, 15], [4, 5], [6], [4, 5]] = some d31 := by kernel_rfl
/-- loop.example/g01194/spec.EncodeRecord -/
def d32 : FD := ⟨[.t 4, .t 5],
 (.seq
  (.ops 1 [⟨(some 3), none, (.m .box 0 [.t 1])⟩,
    ⟨(some 4), none, (.p .mv [.c (.str [])])⟩,
    ⟨(some 5), none, (.p .mv [.c (.bool false)])⟩] [0, 3])
  (.seq
   (.seq
    (.ops 4 [⟨(some 6), none, (.p .mv [.t 0])⟩,
      ⟨(some 7), none, (.call (.c (.fn 61 [] [])) [.t 6, .c (.int .i64 0), .c (.int .i64 59)] 0 2)⟩,
      ⟨(some 8), none, (.p .not [.t 7])⟩,
      ⟨(some 9), none, (.p .mv [.t 8])⟩,
      ⟨(some 10), (some (9, false)), (.m (.load true 2) 0 [.t 3])⟩,
      ⟨(some 11), (some (9, false)), (.call (.c (.fn 47 [] [])) [.t 10] 2 2)⟩,
      ⟨(some 12), (some (9, false)), (.p .not [.t 11])⟩,
      ⟨(some 13), none, (.p .pick [.t 9, .c (.bool true), .t 12])⟩] [0, 3, 13])
    (.cond (.t 13)
     (.seq
      (.ops 0 [⟨(some 4), none, (.p .mv [.c (.str [])])⟩,
        ⟨(some 5), none, (.p .mv [.c (.bool false)])⟩] [4, 5])
      .ret)
     .skip))
   (.seq
    (.ops 2 [⟨(some 14), none, (.p .mv [.t 0])⟩,
      ⟨(some 15), none, (.m (.load true 2) 0 [.t 3])⟩,
      ⟨(some 16), none, (.call (.c (.fn 48 [] [])) [.t 14, .t 15] 0 2)⟩,
      ⟨(some 4), none, (.p .mv [.t 16])⟩,
      ⟨(some 5), none, (.p .mv [.c (.bool true)])⟩] [4, 5])
    .ret)))⟩
theorem t32 : trF Tryd.prog Tryd.f32 [[0, 3], [0, 3, 13], [4, 5], [4, 5]] = some d32 := by kernel_rfl
/-- loop.example/g01194/spec.DrawIsValidLog -/
def d33 : FD := ⟨[.cell 2 true 3],
 (.seq
  (.ops 1 [⟨(some 2), none, (.m (.alloc [.str [], .str [], .int .i64 0]) 0 [])⟩] [0, 2])
  (.seq
   (.ops 1 [⟨(some 4), none, (.p .mv [.t 0])⟩,
     ⟨(some 5), none, (.p (.build [.nilsl, .int .i64 0, .int .u64 0] [(0, 1)]) [.t 4])⟩,
     ⟨(some 6), none, (.m .box 0 [.t 5])⟩,
     ⟨(some 3), none, (.p .mv [.t 6])⟩] [2, 3])
   (.seq
    (.ops 2 [⟨(some 7), none, (.p .mv [.t 3])⟩,
      ⟨(some 8), none, (.call (.c (.fn 62 [] [])) [.t 7] 0 2)⟩,
      ⟨none, none, (.m (.store 3) 0 [.t 2, .t 8])⟩] [2])
    .ret)))⟩
theorem t33 : trF Tryd.prog Tryd.f33 [[0, 2], [2, 3], [2]] = some d33 := by kernel_rfl
/-- loop.example/g01194/spec.DrawAppendRecord -/
def b34_0 : Cd :=
 (.seq
  (.seq
   (.ops 0 [⟨(some 18), none, (.p .mv [.t 6])⟩,
     ⟨(some 19), none, (.p (.bin .gtr .int) [.t 18, .c (.int .i64 0)])⟩] [2, 3, 4, 5, 6, 19])
   (.cond (.t 19)
    .skip
    (.exit 0)))
  (.seq
   (.block 1 [2, 3, 4, 5, 6]
    (.ops 2 [⟨(some 23), none, (.m (.load true 3) 0 [.t 5])⟩,
      ⟨(some 24), none, (.p (.build [.str [], .str []] [(0, 1)]) [.c (.str [120])])⟩,
      ⟨(some 25), none, (.call (.c (.fn 15 [] [])) [.t 23, .t 24] 0 2)⟩,
      ⟨(some 22), none, (.p .mv [.t 25])⟩,
      ⟨(some 26), none, (.p (.extract 0) [.t 22])⟩,
      ⟨(some 27), none, (.p (.extract 1) [.t 22])⟩,
      ⟨none, none, (.m (.store 3) 0 [.t 5, .t 26])⟩] [2, 3, 4, 5, 6]))
   (.ops 0 [⟨(some 20), none, (.p .mv [.t 6])⟩,
     ⟨(some 21), none, (.p (.bin .sub .int) [.t 20, .c (.int .i64 1)])⟩,
     ⟨(some 6), none, (.p .mv [.t 21])⟩] [2, 3, 4, 5, 6])))
def l34_0 : Cd := .loop [2, 3, 4, 5, 6] b34_0
theorem x34_0 (R : Run) (M : Nat) (t : Tm) (σ : Store) : X R M l34_0 ⟨t, σ⟩ = rnd R M l34_0 [2, 3, 4, 5, 6] b34_0 (norm M (tgs t [2, 3, 4, 5, 6]) σ) := x_loop rfl
def d34 : FD := ⟨[.cell 2 true 3, .cell 3 true 2],
 (.seq
  (.ops 2 [⟨(some 2), none, (.m (.alloc [.str [], .str [], .int .i64 0]) 0 [])⟩,
    ⟨(some 3), none, (.m (.alloc [.str [], .str []]) 1 [])⟩] [0, 2, 3])
  (.seq
   (.ops 1 [⟨(some 7), none, (.p .mv [.t 0])⟩,
     ⟨(some 8), none, (.p (.build [.nilsl, .int .i64 0, .int .u64 0] [(0, 1)]) [.t 7])⟩,
     ⟨(some 9), none, (.m .box 0 [.t 8])⟩,
     ⟨(some 4), none, (.p .mv [.t 9])⟩] [2, 3, 4])
   (.seq
    (.ops 3 [⟨(some 10), none, (.p .mv [.t 4])⟩,
      ⟨(some 11), none, (.call (.c (.fn 62 [] [])) [.t 10] 0 2)⟩,
      ⟨(some 5), none, (.m (.alloc [.str [], .str [], .int .i64 0]) 2 [])⟩,
      ⟨none, none, (.m (.store 3) 0 [.t 5, .t 11])⟩] [2, 3, 4, 5])
    (.seq
     (.seq
      (.ops 2 [⟨(some 12), none, (.p .mv [.t 4])⟩,
        ⟨(some 13), none, (.call (.c (.fn 63 [] [])) [.t 12, .c (.int .i64 40)] 0 2)⟩] [2, 3, 4, 5, 13])
      (.cond (.t 13)
       (.seq
        (.ops 0 [⟨(some 14), none, (.p (.build [.str [], .str [], .int .i64 0] []) [])⟩,
          ⟨none, none, (.m (.store 3) 0 [.t 5, .t 14])⟩] [2, 3, 4, 5])
        (.seq
         (.ops 2 [⟨(some 15), none, (.p .mv [.t 4])⟩,
           ⟨(some 16), none, (.call (.c (.fn 64 [] [])) [.t 15, .c (.int .i64 2)] 0 2)⟩,
           ⟨(some 17), none, (.p (.bin .add .int) [.c (.int .i64 59), .t 16])⟩,
           ⟨(some 6), none, (.p .mv [.t 17])⟩] [2, 3, 4, 5, 6])
         (.block 0 [2, 3, 4, 5]
          l34_0)))
       .skip))
     (.seq
      (.draw 2 [(0, 2)] [⟨(some 28), none, (.m (.load true 3) 0 [.t 5])⟩,
        ⟨(some 29), none, (.p .mv [.t 4])⟩,
        ⟨(some 30), none, (.call (.c (.fn 56 [] [])) [.t 29] 0 2)⟩,
        ⟨none, none, (.m (.store 3) 0 [.t 2, .t 28])⟩,
        ⟨none, none, (.m (.store 2) 0 [.t 3, .t 30])⟩] [2, 3])
      .ret)))))⟩
theorem t34 : trF Tryd.prog Tryd.f34 [[0, 2, 3], [2, 3, 4], [2, 3, 4, 5], [2, 3, 4, 5, 13], [2, 3, 4, 5], [2, 3, 4, 5, 6], [2, 3, 4, 5], [2, 3, 4, 5, 6], [2, 3, 4, 5, 6, 19], [2, 3, 4, 5, 6], [2, 3, 4, 5, 6], [2, 3, 4, 5, 6], [2, 3]] = some d34 := by kernel_rfl
/-- loop.example/g01194/impl.IsValidRecord -/
def d35 : FD := ⟨[.t 2],
 (.seq
  (.ops 1 [⟨(some 1), none, (.m .box 0 [.t 0])⟩,
    ⟨(some 2), none, (.p .mv [.c (.bool false)])⟩] [1])
  (.seq
   (.ops 4 [⟨(some 3), none, (.p (.fieldAddr 0) [.t 1])⟩,
     ⟨(some 4), none, (.m (.load false 1) 0 [.t 3])⟩,
     ⟨(some 5), none, (.call (.c (.fn 65 [] [])) [.t 4] 0 2)⟩,
     ⟨(some 6), none, (.p .mv [.t 5])⟩,
     ⟨(some 7), (some (6, true)), (.p (.fieldAddr 1) [.t 1])⟩,
     ⟨(some 8), (some (6, true)), (.m (.load false 1) 0 [.t 7])⟩,
     ⟨(some 9), (some (6, true)), (.call (.c (.fn 66 [] [])) [.t 8, .c (.int .i64 250)] 2 2)⟩,
     ⟨(some 10), none, (.p .pick [.t 6, .t 9, .c (.bool false)])⟩,
     ⟨(some 2), none, (.p .mv [.t 10])⟩] [2])
   .ret))⟩
theorem t35 : trF Tryd.prog Tryd.f35 [[1], [2]] = some d35 := by kernel_rfl
/-- loop.example/g01194/spec.IsValidRecord -/
def d36 : FD := ⟨[.t 2],
 (.seq
  (.ops 1 [⟨(some 1), none, (.m .box 0 [.t 0])⟩,
    ⟨(some 2), none, (.p .mv [.c (.bool false)])⟩] [1])
  (.seq
   (.ops 2 [⟨(some 3), none, (.m (.load true 2) 0 [.t 1])⟩,
     ⟨(some 4), none, (.call (.c (.fn 47 [] [])) [.t 3] 0 2)⟩,
     ⟨(some 2), none, (.p .mv [.t 4])⟩] [2])
   .ret))⟩
theorem t36 : trF Tryd.prog Tryd.f36 [[1], [2]] = some d36 := by kernel_rfl
/-- loop.example/g01194/impl.IsValidLog -/
def d37 : FD := ⟨[.t 2],
 (.seq
  (.ops 1 [⟨(some 1), none, (.m .box 0 [.t 0])⟩,
    ⟨(some 2), none, (.p .mv [.c (.bool false)])⟩] [1])
  (.seq
   (.ops 2 [⟨(some 6), none, (.m (.load true 3) 0 [.t 1])⟩,
     ⟨(some 7), none, (.call (.c (.fn 50 [] [])) [.t 6] 0 2)⟩,
     ⟨(some 5), none, (.p .mv [.t 7])⟩,
     ⟨(some 8), none, (.p (.extract 0) [.t 5])⟩,
     ⟨(some 9), none, (.p (.extract 1) [.t 5])⟩,
     ⟨(some 3), none, (.p .mv [.t 8])⟩,
     ⟨(some 4), none, (.p .mv [.t 9])⟩] [4])
   (.seq
    (.ops 0 [⟨(some 10), none, (.p .mv [.t 4])⟩,
      ⟨(some 2), none, (.p .mv [.t 10])⟩] [2])
    .ret)))⟩
theorem t37 : trF Tryd.prog Tryd.f37 [[1], [4], [2]] = some d37 := by kernel_rfl
/-- loop.example/g01194/spec.IsValidLog -/
def d38 : FD := ⟨[.t 2],
 (.seq
  (.ops 1 [⟨(some 1), none, (.m .box 0 [.t 0])⟩,
    ⟨(some 2), none, (.p .mv [.c (.bool false)])⟩] [1])
  (.seq
   (.ops 2 [⟨(some 3), none, (.m (.load true 3) 0 [.t 1])⟩,
     ⟨(some 4), none, (.call (.c (.fn 46 [] [])) [.t 3] 0 2)⟩,
     ⟨(some 2), none, (.p .mv [.t 4])⟩] [2])
   .ret))⟩
theorem t38 : trF Tryd.prog Tryd.f38 [[1], [2]] = some d38 := by kernel_rfl
/-- loop.example/g01194/laws.vRecords -/
def b39_0 : Cd :=
 (.seq
  (.seq
   (.ops 0 [⟨(some 11), none, (.p .mv [.t 5])⟩,
     ⟨(some 12), none, (.p .mv [.t 0])⟩,
     ⟨(some 13), none, (.p .lenSl [.t 12])⟩,
     ⟨(some 14), none, (.p (.bin .lss .int) [.t 11, .t 13])⟩] [0, 1, 5, 14])
   (.cond (.t 14)
    .skip
    (.exit 0)))
  (.seq
   (.block 1 [0, 1, 5]
    (.seq
     (.draw 0 [] [⟨(some 17), none, (.p .mv [.t 0])⟩,
       ⟨(some 18), none, (.p .mv [.t 5])⟩,
       ⟨(some 19), none, (.p (.indexSl 2) [.t 17, .t 18])⟩,
       ⟨(some 20), none, (.m (.load true 2) 0 [.t 19])⟩,
       ⟨(some 21), none, (.p .mv [.t 1])⟩,
       ⟨(some 22), none, (.p .mv [.t 5])⟩,
       ⟨(some 23), none, (.p (.indexSl 2) [.t 21, .t 22])⟩,
       ⟨(some 24), none, (.m (.load true 2) 0 [.t 23])⟩,
       ⟨(some 25), none, (.p (.bin .neq (.agg [.str, .str])) [.t 20, .t 24])⟩] [0, 1, 5, 25])
     (.cond (.t 25)
      (.seq
       (.ops 0 [⟨(some 4), none, (.p .mv [.c (.bool false)])⟩] [4])
       .ret)
      .skip)))
   (.ops 0 [⟨(some 15), none, (.p .mv [.t 5])⟩,
     ⟨(some 16), none, (.p (.bin .add .int) [.t 15, .c (.int .i64 1)])⟩,
     ⟨(some 5), none, (.p .mv [.t 16])⟩] [0, 1, 5])))
def l39_0 : Cd := .loop [0, 1, 5] b39_0
theorem x39_0 (R : Run) (M : Nat) (t : Tm) (σ : Store) : X R M l39_0 ⟨t, σ⟩ = rnd R M l39_0 [0, 1, 5] b39_0 (norm M (tgs t [0, 1, 5]) σ) := x_loop rfl
def d39 : FD := ⟨[.t 4],
 (.seq
  (.ops 0 [⟨(some 4), none, (.p .mv [.c (.bool false)])⟩] [0, 1])
  (.seq
   (.seq
    (.ops 0 [⟨(some 6), none, (.p .mv [.t 0])⟩,
      ⟨(some 7), none, (.p .lenSl [.t 6])⟩,
      ⟨(some 8), none, (.p .mv [.t 1])⟩,
      ⟨(some 9), none, (.p .lenSl [.t 8])⟩,
      ⟨(some 10), none, (.p (.bin .neq .int) [.t 7, .t 9])⟩] [0, 1, 10])
    (.cond (.t 10)
     (.seq
      (.ops 0 [⟨(some 4), none, (.p .mv [.c (.bool false)])⟩] [4])
      .ret)
     .skip))
   (.seq
    (.seq
     (.ops 0 [⟨(some 5), none, (.p .mv [.c (.int .i64 0)])⟩] [0, 1, 5])
     (.block 0 []
      l39_0))
    (.seq
     (.ops 0 [⟨(some 4), none, (.p .mv [.c (.bool true)])⟩] [4])
     .ret))))⟩
theorem t39 : trF Tryd.prog Tryd.f39 [[0, 1], [0, 1, 10], [4], [0, 1, 5], [], [0, 1, 5], [0, 1, 5, 14], [0, 1, 5], [0, 1, 5, 25], [4], [0, 1, 5], [4]] = some d39 := by kernel_rfl
/-- loop.example/g01194/spec.DrawCrashLog -/
def d40 : FD := ⟨[.cell 2 true 3, .t 3, .t 4],
 (.seq
  (.ops 1 [⟨(some 2), none, (.m (.alloc [.str [], .str [], .int .i64 0]) 0 [])⟩,
    ⟨(some 3), none, (.p .mv [.c (.int .i64 0)])⟩,
    ⟨(some 4), none, (.p .mv [.c (.bool false)])⟩] [0, 2])
  (.seq
   (.ops 1 [⟨(some 8), none, (.p .mv [.t 0])⟩,
     ⟨(some 9), none, (.p (.build [.nilsl, .int .i64 0, .int .u64 0] [(0, 1)]) [.t 8])⟩,
     ⟨(some 10), none, (.m .box 0 [.t 9])⟩,
     ⟨(some 5), none, (.p .mv [.t 10])⟩] [2, 5])
   (.seq
    (.ops 3 [⟨(some 11), none, (.p .mv [.t 5])⟩,
      ⟨(some 12), none, (.call (.c (.fn 62 [] [])) [.t 11] 0 2)⟩,
      ⟨(some 6), none, (.m (.alloc [.str [], .str [], .int .i64 0]) 2 [])⟩,
      ⟨none, none, (.m (.store 3) 0 [.t 6, .t 12])⟩] [2, 5, 6])
    (.seq
     (.ops 2 [⟨(some 13), none, (.p .mv [.t 5])⟩,
       ⟨(some 14), none, (.p (.fieldAddr 1) [.t 6])⟩,
       ⟨(some 15), none, (.m (.load false 1) 0 [.t 14])⟩,
       ⟨(some 16), none, (.p .lenStr [.t 15])⟩,
       ⟨(some 17), none, (.p (.bin .add .int) [.t 16, .c (.int .i64 3)])⟩,
       ⟨(some 18), none, (.call (.c (.fn 64 [] [])) [.t 13, .t 17] 0 2)⟩,
       ⟨(some 19), none, (.p (.bin .sub .int) [.t 18, .c (.int .i64 1)])⟩,
       ⟨(some 7), none, (.p .mv [.t 19])⟩] [2, 5, 6, 7])
     (.seq
      (.draw 2 [(0, 3)] [⟨(some 20), none, (.m (.load true 3) 0 [.t 6])⟩,
        ⟨(some 21), none, (.p .mv [.t 7])⟩,
        ⟨(some 22), none, (.p .mv [.t 5])⟩,
        ⟨(some 23), none, (.call (.c (.fn 63 [] [])) [.t 22, .c (.int .i64 2)] 0 2)⟩,
        ⟨none, none, (.m (.store 3) 0 [.t 2, .t 20])⟩,
        ⟨(some 3), none, (.p .mv [.t 21])⟩,
        ⟨(some 4), none, (.p .mv [.t 23])⟩] [2, 3, 4])
      .ret)))))⟩
theorem t40 : trF Tryd.prog Tryd.f40 [[0, 2], [2, 5], [2, 5, 6], [2, 5, 6, 7], [2, 3, 4]] = some d40 := by kernel_rfl
/-- loop.example/g01194/impl.CrashLog -/
def d41 : FD := ⟨[.t 6, .t 7],
 (.seq
  (.ops 1 [⟨(some 3), none, (.m .box 0 [.t 0])⟩,
    ⟨(some 6), none, (.p .mv [.c (.str [])])⟩,
    ⟨(some 7), none, (.p .mv [.c (.bool false)])⟩] [1, 2, 3])
  (.seq
   (.seq
    (.ops 4 [⟨(some 9), none, (.m (.load true 3) 0 [.t 3])⟩,
      ⟨(some 10), none, (.call (.c (.fn 37 [] [])) [.t 9] 0 2)⟩,
      ⟨(some 11), none, (.p .not [.t 10])⟩,
      ⟨(some 12), none, (.p .mv [.t 11])⟩,
      ⟨(some 13), (some (12, false)), (.p .mv [.t 1])⟩,
      ⟨(some 14), (some (12, false)), (.p (.fieldAddr 1) [.t 3])⟩,
      ⟨(some 15), (some (12, false)), (.m (.load false 1) 0 [.t 14])⟩,
      ⟨(some 16), (some (12, false)), (.p .lenStr [.t 15])⟩,
      ⟨(some 17), (some (12, false)), (.call (.c (.fn 58 [] [])) [.t 13, .c (.int .i64 0), .t 16] 2 2)⟩,
      ⟨(some 18), (some (12, false)), (.p .not [.t 17])⟩,
      ⟨(some 19), none, (.p .pick [.t 12, .c (.bool true), .t 18])⟩] [1, 2, 3, 19])
    (.cond (.t 19)
     (.seq
      (.ops 0 [⟨(some 6), none, (.p .mv [.c (.str [])])⟩,
        ⟨(some 7), none, (.p .mv [.c (.bool false)])⟩] [6, 7])
      .ret)
     .skip))
   (.seq
    (.draw 1 [] [⟨(some 20), none, (.p (.fieldAddr 0) [.t 3])⟩,
      ⟨(some 21), none, (.m (.load false 1) 0 [.t 20])⟩,
      ⟨(some 22), none, (.p (.fieldAddr 1) [.t 3])⟩,
      ⟨(some 23), none, (.m (.load false 1) 0 [.t 22])⟩,
      ⟨(some 24), none, (.p .mv [.t 1])⟩,
      ⟨(some 25), none, (.p (.sliceStr false true) [.t 23, .t 24])⟩,
      ⟨(some 26), none, (.p (.bin .add .str) [.t 21, .t 25])⟩,
      ⟨(some 27), none, (.m .bytes 0 [.t 26])⟩,
      ⟨(some 8), none, (.p .mv [.t 27])⟩] [1, 2, 8])
    (.seq
     (.seq
      (.ops 0 [⟨(some 28), none, (.p .mv [.t 2])⟩,
        ⟨(some 29), none, (.p .mv [.t 28])⟩,
        ⟨(some 30), (some (29, true)), (.p .mv [.t 1])⟩,
        ⟨(some 31), (some (29, true)), (.p (.bin .gtr .int) [.t 30, .c (.int .i64 0)])⟩,
        ⟨(some 32), none, (.p .pick [.t 29, .t 31, .c (.bool false)])⟩] [8, 32])
      (.cond (.t 32)
       (.ops 0 [⟨(some 33), none, (.p .mv [.t 8])⟩,
         ⟨(some 34), none, (.p .mv [.t 8])⟩,
         ⟨(some 35), none, (.p .lenSl [.t 34])⟩,
         ⟨(some 36), none, (.p (.bin .sub .int) [.t 35, .c (.int .i64 1)])⟩,
         ⟨(some 37), none, (.p .mv [.t 8])⟩,
         ⟨(some 38), none, (.p .mv [.t 8])⟩,
         ⟨(some 39), none, (.p .lenSl [.t 38])⟩,
         ⟨(some 40), none, (.p (.bin .sub .int) [.t 39, .c (.int .i64 1)])⟩,
         ⟨(some 41), none, (.p (.indexSl 1) [.t 37, .t 40])⟩,
         ⟨(some 42), none, (.m (.load false 1) 0 [.t 41])⟩,
         ⟨(some 43), none, (.p (.bin .sub .int) [.c (.int .u8 255), .t 42])⟩,
         ⟨(some 44), none, (.p (.indexSl 1) [.t 33, .t 36])⟩,
         ⟨none, none, (.m (.store 1) 0 [.t 44, .t 43])⟩] [8])
       .skip))
     (.seq
      (.ops 0 [⟨(some 45), none, (.p .mv [.t 8])⟩,
        ⟨(some 46), none, (.m .string 0 [.t 45])⟩,
        ⟨(some 6), none, (.p .mv [.t 46])⟩,
        ⟨(some 7), none, (.p .mv [.c (.bool true)])⟩] [6, 7])
      .ret)))))⟩
theorem t41 : trF Tryd.prog Tryd.f41 [[1, 2, 3], [1, 2, 3, 19], [6, 7], [1, 2, 8], [8, 32], [8], [6, 7]] = some d41 := by kernel_rfl
/-- loop.example/g01194/spec.CrashLog -/
def d42 : FD := ⟨[.t 6, .t 7],
 (.seq
  (.ops 1 [⟨(some 3), none, (.m .box 0 [.t 0])⟩,
    ⟨(some 6), none, (.p .mv [.c (.str [])])⟩,
    ⟨(some 7), none, (.p .mv [.c (.bool false)])⟩] [1, 2, 3])
  (.seq
   (.seq
    (.ops 4 [⟨(some 9), none, (.m (.load true 3) 0 [.t 3])⟩,
      ⟨(some 10), none, (.call (.c (.fn 46 [] [])) [.t 9] 0 2)⟩,
      ⟨(some 11), none, (.p .not [.t 10])⟩,
      ⟨(some 12), none, (.p .mv [.t 11])⟩,
      ⟨(some 13), (some (12, false)), (.p .mv [.t 1])⟩,
      ⟨(some 14), (some (12, false)), (.p (.fieldAddr 1) [.t 3])⟩,
      ⟨(some 15), (some (12, false)), (.m (.load false 1) 0 [.t 14])⟩,
      ⟨(some 16), (some (12, false)), (.p .lenStr [.t 15])⟩,
      ⟨(some 17), (some (12, false)), (.call (.c (.fn 61 [] [])) [.t 13, .c (.int .i64 0), .t 16] 2 2)⟩,
      ⟨(some 18), (some (12, false)), (.p .not [.t 17])⟩,
      ⟨(some 19), none, (.p .pick [.t 12, .c (.bool true), .t 18])⟩] [1, 2, 3, 19])
    (.cond (.t 19)
     (.seq
      (.ops 0 [⟨(some 6), none, (.p .mv [.c (.str [])])⟩,
        ⟨(some 7), none, (.p .mv [.c (.bool false)])⟩] [6, 7])
      .ret)
     .skip))
   (.seq
    (.ops 1 [⟨(some 20), none, (.p (.fieldAddr 1) [.t 3])⟩,
      ⟨(some 21), none, (.m (.load false 1) 0 [.t 20])⟩,
      ⟨(some 22), none, (.p .mv [.t 1])⟩,
      ⟨(some 23), none, (.p (.sliceStr false true) [.t 21, .t 22])⟩,
      ⟨(some 24), none, (.m .bytes 0 [.t 23])⟩,
      ⟨(some 8), none, (.p .mv [.t 24])⟩] [1, 2, 3, 8])
    (.seq
     (.seq
      (.ops 0 [⟨(some 25), none, (.p .mv [.t 2])⟩,
        ⟨(some 26), none, (.p .mv [.t 25])⟩,
        ⟨(some 27), (some (26, true)), (.p .mv [.t 1])⟩,
        ⟨(some 28), (some (26, true)), (.p (.bin .gtr .int) [.t 27, .c (.int .i64 0)])⟩,
        ⟨(some 29), none, (.p .pick [.t 26, .t 28, .c (.bool false)])⟩] [1, 3, 8, 29])
      (.cond (.t 29)
       (.ops 0 [⟨(some 30), none, (.p .mv [.t 8])⟩,
         ⟨(some 31), none, (.p .mv [.t 1])⟩,
         ⟨(some 32), none, (.p (.bin .sub .int) [.t 31, .c (.int .i64 1)])⟩,
         ⟨(some 33), none, (.p .mv [.t 8])⟩,
         ⟨(some 34), none, (.p .mv [.t 1])⟩,
         ⟨(some 35), none, (.p (.bin .sub .int) [.t 34, .c (.int .i64 1)])⟩,
         ⟨(some 36), none, (.p (.indexSl 1) [.t 33, .t 35])⟩,
         ⟨(some 37), none, (.m (.load false 1) 0 [.t 36])⟩,
         ⟨(some 38), none, (.p (.bin .sub .int) [.c (.int .u8 255), .t 37])⟩,
         ⟨(some 39), none, (.p (.indexSl 1) [.t 30, .t 32])⟩,
         ⟨none, none, (.m (.store 1) 0 [.t 39, .t 38])⟩] [3, 8])
       .skip))
     (.seq
      (.ops 0 [⟨(some 40), none, (.p (.fieldAddr 0) [.t 3])⟩,
        ⟨(some 41), none, (.m (.load false 1) 0 [.t 40])⟩,
        ⟨(some 42), none, (.p .mv [.t 8])⟩,
        ⟨(some 43), none, (.m .string 0 [.t 42])⟩,
        ⟨(some 44), none, (.p (.bin .add .str) [.t 41, .t 43])⟩,
        ⟨(some 6), none, (.p .mv [.t 44])⟩,
        ⟨(some 7), none, (.p .mv [.c (.bool true)])⟩] [6, 7])
      .ret)))))⟩
theorem t42 : trF Tryd.prog Tryd.f42 [[1, 2, 3], [1, 2, 3, 19], [6, 7], [1, 2, 3, 8], [1, 3, 8, 29], [3, 8], [6, 7]] = some d42 := by kernel_rfl
/-- loop.example/g01194/spec.DrawRecoverLog -/
def d43 : FD := ⟨[.t 2],
 (.seq
  (.ops 0 [⟨(some 2), none, (.p .mv [.c (.str [])])⟩] [0])
  (.seq
   (.ops 1 [⟨(some 6), none, (.p .mv [.t 0])⟩,
     ⟨(some 7), none, (.p (.build [.nilsl, .int .i64 0, .int .u64 0] [(0, 1)]) [.t 6])⟩,
     ⟨(some 8), none, (.m .box 0 [.t 7])⟩,
     ⟨(some 3), none, (.p .mv [.t 8])⟩] [3])
   (.seq
    (.ops 3 [⟨(some 9), none, (.p .mv [.t 3])⟩,
      ⟨(some 10), none, (.call (.c (.fn 67 [] [])) [.t 9] 0 2)⟩,
      ⟨(some 4), none, (.m (.alloc [.str [], .str [], .int .i64 0]) 2 [])⟩,
      ⟨none, none, (.m (.store 3) 0 [.t 4, .t 10])⟩] [3, 4])
    (.seq
     (.ops 0 [⟨(some 11), none, (.p (.fieldAddr 0) [.t 4])⟩,
       ⟨(some 12), none, (.m (.load false 1) 0 [.t 11])⟩,
       ⟨(some 13), none, (.p (.fieldAddr 1) [.t 4])⟩,
       ⟨(some 14), none, (.m (.load false 1) 0 [.t 13])⟩,
       ⟨(some 15), none, (.p (.bin .add .str) [.t 12, .t 14])⟩,
       ⟨(some 5), none, (.p .mv [.t 15])⟩] [3, 5])
     (.seq
      (.seq
       (.ops 2 [⟨(some 16), none, (.p .mv [.t 3])⟩,
         ⟨(some 17), none, (.call (.c (.fn 64 [] [])) [.t 16, .c (.int .i64 4)] 0 2)⟩] [3, 5, 17])
       (.block 0 [3, 5]
        (.seq
         (.ops 0 [⟨(some 19), none, (.p (.bin .eql .int) [.t 17, .c (.int .i64 0)])⟩,
           ⟨(some 18), none, (.p .mv [.t 19])⟩] [3, 5, 17, 18])
         (.cond (.t 18)
          (.ops 2 [⟨(some 20), none, (.p .mv [.t 3])⟩,
            ⟨(some 21), none, (.p .mv [.t 5])⟩,
            ⟨(some 22), none, (.call (.c (.fn 68 [] [])) [.t 20, .t 21, .c (.str [35, 64, 10, 48, 49])] 0 2)⟩,
            ⟨(some 5), none, (.p .mv [.t 22])⟩] [3, 5])
          (.seq
           (.ops 0 [⟨(some 24), none, (.p (.bin .eql .int) [.t 17, .c (.int .i64 1)])⟩,
             ⟨(some 23), none, (.p .mv [.t 24])⟩] [3, 5, 17, 23])
           (.cond (.t 23)
            (.ops 2 [⟨(some 25), none, (.p .mv [.t 5])⟩,
              ⟨(some 26), none, (.p .mv [.t 3])⟩,
              ⟨(some 27), none, (.p .mv [.t 5])⟩,
              ⟨(some 28), none, (.p .lenStr [.t 27])⟩,
              ⟨(some 29), none, (.p (.bin .add .int) [.t 28, .c (.int .i64 1)])⟩,
              ⟨(some 30), none, (.call (.c (.fn 64 [] [])) [.t 26, .t 29] 0 2)⟩,
              ⟨(some 31), none, (.p (.sliceStr false true) [.t 25, .t 30])⟩,
              ⟨(some 5), none, (.p .mv [.t 31])⟩] [3, 5])
            (.seq
             (.ops 0 [⟨(some 33), none, (.p (.bin .eql .int) [.t 17, .c (.int .i64 2)])⟩,
               ⟨(some 32), none, (.p .mv [.t 33])⟩] [3, 5, 32])
             (.cond (.t 32)
              (.ops 6 [⟨(some 34), none, (.p .mv [.t 5])⟩,
                ⟨(some 35), none, (.p .mv [.t 3])⟩,
                ⟨(some 36), none, (.call (.c (.fn 64 [] [])) [.t 35, .c (.int .i64 4)] 0 2)⟩,
                ⟨(some 37), none, (.p .mv [.t 3])⟩,
                ⟨(some 38), none, (.call (.c (.fn 56 [] [])) [.t 37] 2 2)⟩,
                ⟨(some 39), none, (.call (.c (.fn 48 [] [])) [.t 36, .t 38] 4 2)⟩,
                ⟨(some 40), none, (.p (.bin .add .str) [.t 34, .t 39])⟩,
                ⟨(some 5), none, (.p .mv [.t 40])⟩] [3, 5])
              .skip))))))))
      (.seq
       (.seq
        (.ops 2 [⟨(some 41), none, (.p .mv [.t 3])⟩,
          ⟨(some 42), none, (.call (.c (.fn 63 [] [])) [.t 41, .c (.int .i64 40)] 0 2)⟩] [3, 5, 42])
        (.cond (.t 42)
         (.ops 3 [⟨(some 43), none, (.p .mv [.t 3])⟩,
           ⟨(some 44), none, (.call (.c (.fn 64 [] [])) [.t 43, .c (.int .i64 2)] 0 2)⟩,
           ⟨(some 45), none, (.p (.bin .add .int) [.c (.int .i64 30000), .t 44])⟩,
           ⟨(some 46), none, (.m (.makeSlice 5 1 1 [.int .u8 0]) 2 [.t 45, .t 45])⟩,
           ⟨(some 47), none, (.m .string 0 [.t 46])⟩,
           ⟨(some 5), none, (.p .mv [.t 47])⟩] [5])
         .skip))
       (.seq
        (.ops 0 [⟨(some 48), none, (.p .mv [.t 5])⟩,
          ⟨(some 2), none, (.p .mv [.t 48])⟩] [2])
        .ret)))))))⟩
theorem t43 : trF Tryd.prog Tryd.f43 [[0], [3], [3, 4], [3, 5], [3, 5, 17], [3, 5], [3, 5, 17, 18], [3, 5], [3, 5, 17, 23], [3, 5], [3, 5, 32], [3, 5], [3, 5, 42], [5], [2]] = some d43 := by kernel_rfl
/-- loop.example/g01194/impl.RecoverLog -/
def d44 : FD := ⟨[.cell 2 true 3, .t 3, .t 4],
 (.seq
  (.ops 1 [⟨(some 2), none, (.m (.alloc [.str [], .str [], .int .i64 0]) 0 [])⟩,
    ⟨(some 3), none, (.p .mv [.c (.int .i64 0)])⟩,
    ⟨(some 4), none, (.p .mv [.c (.bool false)])⟩] [0, 2])
  (.seq
   (.seq
    (.ops 0 [⟨(some 7), none, (.p .mv [.t 0])⟩,
      ⟨(some 8), none, (.p .lenStr [.t 7])⟩,
      ⟨(some 9), none, (.p (.bin .gtr .int) [.t 8, .c (.int .i64 30000)])⟩] [0, 2, 9])
    (.cond (.t 9)
     (.seq
      (.ops 0 [⟨(some 10), none, (.p (.build [.str [], .str [], .int .i64 0] []) [])⟩,
        ⟨none, none, (.m (.store 3) 0 [.t 2, .t 10])⟩,
        ⟨(some 3), none, (.p .mv [.c (.int .i64 0)])⟩,
        ⟨(some 4), none, (.p .mv [.c (.bool false)])⟩] [2, 3, 4])
      .ret)
     .skip))
   (.seq
    (.ops 2 [⟨(some 12), none, (.p .mv [.t 0])⟩,
      ⟨(some 13), none, (.call (.c (.fn 69 [] [])) [.t 12] 0 2)⟩,
      ⟨(some 11), none, (.p .mv [.t 13])⟩,
      ⟨(some 14), none, (.p (.extract 0) [.t 11])⟩,
      ⟨(some 15), none, (.p (.extract 1) [.t 11])⟩,
      ⟨(some 5), none, (.p .mv [.t 14])⟩,
      ⟨(some 6), none, (.p .mv [.t 15])⟩] [0, 2, 5, 6])
    (.seq
     (.ops 0 [⟨(some 16), none, (.p .mv [.t 0])⟩,
       ⟨(some 17), none, (.p .mv [.t 6])⟩,
       ⟨(some 18), none, (.p (.sliceStr false true) [.t 16, .t 17])⟩,
       ⟨(some 19), none, (.p .mv [.t 5])⟩,
       ⟨(some 20), none, (.p .lenSl [.t 19])⟩,
       ⟨(some 21), none, (.p (.build [.str [], .str [], .int .i64 0] [(0, 1), (2, 1)]) [.t 18, .t 20])⟩,
       ⟨(some 22), none, (.p .mv [.t 6])⟩,
       ⟨none, none, (.m (.store 3) 0 [.t 2, .t 21])⟩,
       ⟨(some 3), none, (.p .mv [.t 22])⟩,
       ⟨(some 4), none, (.p .mv [.c (.bool true)])⟩] [2, 3, 4])
     .ret))))⟩
theorem t44 : trF Tryd.prog Tryd.f44 [[0, 2], [0, 2, 9], [2, 3, 4], [0, 2, 5, 6], [2, 3, 4]] = some d44 := by kernel_rfl
/-- loop.example/g01194/spec.RecoverLog -/
def d45 : FD := ⟨[.cell 2 true 3, .t 3, .t 4],
 (.seq
  (.ops 1 [⟨(some 2), none, (.m (.alloc [.str [], .str [], .int .i64 0]) 0 [])⟩,
    ⟨(some 3), none, (.p .mv [.c (.int .i64 0)])⟩,
    ⟨(some 4), none, (.p .mv [.c (.bool false)])⟩] [0, 2])
  (.seq
   (.seq
    (.ops 0 [⟨(some 7), none, (.p .mv [.t 0])⟩,
      ⟨(some 8), none, (.p .lenStr [.t 7])⟩,
      ⟨(some 9), none, (.p (.bin .gtr .int) [.t 8, .c (.int .i64 30000)])⟩] [0, 2, 9])
    (.cond (.t 9)
     (.seq
      (.ops 0 [⟨(some 10), none, (.p (.build [.str [], .str [], .int .i64 0] []) [])⟩,
        ⟨none, none, (.m (.store 3) 0 [.t 2, .t 10])⟩,
        ⟨(some 3), none, (.p .mv [.c (.int .i64 0)])⟩,
        ⟨(some 4), none, (.p .mv [.c (.bool false)])⟩] [2, 3, 4])
      .ret)
     .skip))
   (.seq
    (.ops 2 [⟨(some 12), none, (.p .mv [.t 0])⟩,
      ⟨(some 13), none, (.call (.c (.fn 49 [] [])) [.t 12] 0 2)⟩,
      ⟨(some 11), none, (.p .mv [.t 13])⟩,
      ⟨(some 14), none, (.p (.extract 0) [.t 11])⟩,
      ⟨(some 15), none, (.p (.extract 1) [.t 11])⟩,
      ⟨(some 5), none, (.p .mv [.t 14])⟩,
      ⟨(some 6), none, (.p .mv [.t 15])⟩] [0, 2, 5, 6])
    (.seq
     (.ops 0 [⟨(some 16), none, (.p .mv [.t 0])⟩,
       ⟨(some 17), none, (.p .mv [.t 6])⟩,
       ⟨(some 18), none, (.p (.sliceStr false true) [.t 16, .t 17])⟩,
       ⟨(some 19), none, (.p .mv [.t 5])⟩,
       ⟨(some 20), none, (.p .lenSl [.t 19])⟩,
       ⟨(some 21), none, (.p (.build [.str [], .str [], .int .i64 0] [(0, 1), (2, 1)]) [.t 18, .t 20])⟩,
       ⟨(some 22), none, (.p .mv [.t 6])⟩,
       ⟨none, none, (.m (.store 3) 0 [.t 2, .t 21])⟩,
       ⟨(some 3), none, (.p .mv [.t 22])⟩,
       ⟨(some 4), none, (.p .mv [.c (.bool true)])⟩] [2, 3, 4])
     .ret))))⟩
theorem t45 : trF Tryd.prog Tryd.f45 [[0, 2], [0, 2, 9], [2, 3, 4], [0, 2, 5, 6], [2, 3, 4]] = some d45 := by kernel_rfl
/-- loop.example/g01194/spec.l12Valid -/
def d46 : FD := ⟨[.t 2],
 (.seq
  (.ops 1 [⟨(some 1), none, (.m .box 0 [.t 0])⟩,
    ⟨(some 2), none, (.p .mv [.c (.bool false)])⟩] [1])
  (.seq
   (.seq
    (.ops 0 [⟨(some 7), none, (.p (.fieldAddr 0) [.t 1])⟩,
      ⟨(some 8), none, (.m (.load false 1) 0 [.t 7])⟩,
      ⟨(some 9), none, (.p .lenStr [.t 8])⟩,
      ⟨(some 10), none, (.p (.fieldAddr 1) [.t 1])⟩,
      ⟨(some 11), none, (.m (.load false 1) 0 [.t 10])⟩,
      ⟨(some 12), none, (.p .lenStr [.t 11])⟩,
      ⟨(some 13), none, (.p (.bin .add .int) [.t 9, .t 12])⟩,
      ⟨(some 14), none, (.p (.bin .gtr .int) [.t 13, .c (.int .i64 30000)])⟩] [1, 14])
    (.cond (.t 14)
     (.seq
      (.ops 0 [⟨(some 2), none, (.p .mv [.c (.bool false)])⟩] [2])
      .ret)
     .skip))
   (.seq
    (.ops 2 [⟨(some 16), none, (.p (.fieldAddr 0) [.t 1])⟩,
      ⟨(some 17), none, (.m (.load false 1) 0 [.t 16])⟩,
      ⟨(some 18), none, (.p (.fieldAddr 1) [.t 1])⟩,
      ⟨(some 19), none, (.m (.load false 1) 0 [.t 18])⟩,
      ⟨(some 20), none, (.p (.bin .add .str) [.t 17, .t 19])⟩,
      ⟨(some 21), none, (.call (.c (.fn 49 [] [])) [.t 20] 0 2)⟩,
      ⟨(some 15), none, (.p .mv [.t 21])⟩,
      ⟨(some 22), none, (.p (.extract 0) [.t 15])⟩,
      ⟨(some 23), none, (.p (.extract 1) [.t 15])⟩,
      ⟨(some 3), none, (.p .mv [.t 22])⟩,
      ⟨(some 4), none, (.p .mv [.t 23])⟩] [1, 3, 4])
    (.seq
     (.ops 2 [⟨(some 25), none, (.p (.fieldAddr 0) [.t 1])⟩,
       ⟨(some 26), none, (.m (.load false 1) 0 [.t 25])⟩,
       ⟨(some 27), none, (.call (.c (.fn 49 [] [])) [.t 26] 0 2)⟩,
       ⟨(some 24), none, (.p .mv [.t 27])⟩,
       ⟨(some 28), none, (.p (.extract 0) [.t 24])⟩,
       ⟨(some 29), none, (.p (.extract 1) [.t 24])⟩,
       ⟨(some 5), none, (.p .mv [.t 28])⟩,
       ⟨(some 6), none, (.p .mv [.t 29])⟩] [1, 3, 4, 6])
     (.seq
      (.ops 0 [⟨(some 30), none, (.p .mv [.t 4])⟩,
        ⟨(some 31), none, (.p (.fieldAddr 0) [.t 1])⟩,
        ⟨(some 32), none, (.m (.load false 1) 0 [.t 31])⟩,
        ⟨(some 33), none, (.p .lenStr [.t 32])⟩,
        ⟨(some 34), none, (.p (.fieldAddr 1) [.t 1])⟩,
        ⟨(some 35), none, (.m (.load false 1) 0 [.t 34])⟩,
        ⟨(some 36), none, (.p .lenStr [.t 35])⟩,
        ⟨(some 37), none, (.p (.bin .add .int) [.t 33, .t 36])⟩,
        ⟨(some 38), none, (.p (.bin .eql .int) [.t 30, .t 37])⟩,
        ⟨(some 39), none, (.p .mv [.t 38])⟩,
        ⟨(some 40), (some (39, true)), (.p .mv [.t 6])⟩,
        ⟨(some 41), (some (39, true)), (.p (.fieldAddr 0) [.t 1])⟩,
        ⟨(some 42), (some (39, true)), (.m (.load false 1) 0 [.t 41])⟩,
        ⟨(some 43), (some (39, true)), (.p .lenStr [.t 42])⟩,
        ⟨(some 44), (some (39, true)), (.p (.bin .eql .int) [.t 40, .t 43])⟩,
        ⟨(some 45), none, (.p .pick [.t 39, .t 44, .c (.bool false)])⟩,
        ⟨(some 46), none, (.p .mv [.t 45])⟩,
        ⟨(some 47), (some (46, true)), (.p .mv [.t 3])⟩,
        ⟨(some 48), (some (46, true)), (.p .lenSl [.t 47])⟩,
        ⟨(some 49), (some (46, true)), (.p (.fieldAddr 2) [.t 1])⟩,
        ⟨(some 50), (some (46, true)), (.m (.load false 1) 0 [.t 49])⟩,
        ⟨(some 51), (some (46, true)), (.p (.bin .eql .int) [.t 48, .t 50])⟩,
        ⟨(some 52), none, (.p .pick [.t 46, .t 51, .c (.bool false)])⟩,
        ⟨(some 2), none, (.p .mv [.t 52])⟩] [2])
      .ret)))))⟩
theorem t46 : trF Tryd.prog Tryd.f46 [[1], [1, 14], [2], [1, 3, 4], [1, 3, 4, 6], [2]] = some d46 := by kernel_rfl
/-- loop.example/g01194/spec.l12Record -/
def d47 : FD := ⟨[.t 2],
 (.seq
  (.ops 1 [⟨(some 1), none, (.m .box 0 [.t 0])⟩,
    ⟨(some 2), none, (.p .mv [.c (.bool false)])⟩] [1])
  (.seq
   (.ops 6 [⟨(some 3), none, (.p (.fieldAddr 0) [.t 1])⟩,
     ⟨(some 4), none, (.m (.load false 1) 0 [.t 3])⟩,
     ⟨(some 5), none, (.p (.bin .neq .str) [.t 4, .c (.str [])])⟩,
     ⟨(some 6), none, (.p .mv [.t 5])⟩,
     ⟨(some 7), (some (6, true)), (.p (.fieldAddr 0) [.t 1])⟩,
     ⟨(some 8), (some (6, true)), (.m (.load false 1) 0 [.t 7])⟩,
     ⟨(some 9), (some (6, true)), (.call (.c (.fn 70 [] [])) [.t 8, .c (.int .i64 160)] 0 2)⟩,
     ⟨(some 10), none, (.p .pick [.t 6, .t 9, .c (.bool false)])⟩,
     ⟨(some 11), none, (.p .mv [.t 10])⟩,
     ⟨(some 12), (some (11, true)), (.p (.fieldAddr 0) [.t 1])⟩,
     ⟨(some 13), (some (11, true)), (.m (.load false 1) 0 [.t 12])⟩,
     ⟨(some 14), (some (11, true)), (.call (.c (.fn 71 [] [])) [.t 13, .c (.int .u8 64)] 2 2)⟩,
     ⟨(some 15), (some (11, true)), (.p .not [.t 14])⟩,
     ⟨(some 16), none, (.p .pick [.t 11, .t 15, .c (.bool false)])⟩,
     ⟨(some 17), none, (.p .mv [.t 16])⟩,
     ⟨(some 18), (some (17, true)), (.p (.fieldAddr 1) [.t 1])⟩,
     ⟨(some 19), (some (17, true)), (.m (.load false 1) 0 [.t 18])⟩,
     ⟨(some 20), (some (17, true)), (.call (.c (.fn 70 [] [])) [.t 19, .c (.int .i64 250)] 4 2)⟩,
     ⟨(some 21), none, (.p .pick [.t 17, .t 20, .c (.bool false)])⟩,
     ⟨(some 2), none, (.p .mv [.t 21])⟩] [2])
   .ret))⟩
theorem t47 : trF Tryd.prog Tryd.f47 [[1], [2]] = some d47 := by kernel_rfl
/-- loop.example/g01194/spec.l12Line -/
def d48 : FD := ⟨[.t 4],
 (.seq
  (.ops 1 [⟨(some 3), none, (.m .box 0 [.t 1])⟩,
    ⟨(some 4), none, (.p .mv [.c (.str [])])⟩] [0, 3])
  (.seq
   (.draw 4 [(1, 4), (1, 8)] [⟨(some 5), none, (.p .mv [.t 0])⟩,
     ⟨(some 6), none, (.call (.c (.fn 73 [] [])) [.t 5] 0 2)⟩,
     ⟨(some 7), none, (.p (.bin .add .str) [.t 6, .c (.str [32])])⟩,
     ⟨(some 8), none, (.p (.fieldAddr 0) [.t 3])⟩,
     ⟨(some 9), none, (.m (.load false 1) 0 [.t 8])⟩,
     ⟨(some 10), none, (.p (.bin .add .str) [.t 7, .t 9])⟩,
     ⟨(some 11), none, (.p (.bin .add .str) [.t 10, .c (.str [64])])⟩,
     ⟨(some 12), none, (.p (.fieldAddr 1) [.t 3])⟩,
     ⟨(some 13), none, (.m (.load false 1) 0 [.t 12])⟩,
     ⟨(some 14), none, (.p (.bin .add .str) [.t 11, .t 13])⟩,
     ⟨(some 15), none, (.call (.c (.fn 72 [] [])) [.t 14] 2 2)⟩,
     ⟨(some 16), none, (.p (.bin .add .str) [.t 15, .c (.str [10])])⟩,
     ⟨(some 4), none, (.p .mv [.t 16])⟩] [4])
   .ret))⟩
theorem t48 : trF Tryd.prog Tryd.f48 [[0, 3], [4]] = some d48 := by kernel_rfl
/-- loop.example/g01194/spec.l12Open -/
def b49_0 : Cd :=
 (.seq
  (.seq
   (.ops 0 [⟨(some 10), none, (.p .mv [.t 5])⟩,
     ⟨(some 11), none, (.p .mv [.t 0])⟩,
     ⟨(some 12), none, (.p .lenStr [.t 11])⟩,
     ⟨(some 13), none, (.p (.bin .lss .int) [.t 10, .t 12])⟩,
     ⟨(some 14), none, (.p .mv [.t 13])⟩,
     ⟨(some 15), (some (14, true)), (.p .mv [.t 4])⟩,
     ⟨(some 16), (some (14, true)), (.p .lenSl [.t 15])⟩,
     ⟨(some 17), (some (14, true)), (.p (.bin .lss .int) [.t 16, .c (.int .i64 60)])⟩,
     ⟨(some 18), none, (.p .pick [.t 14, .t 17, .c (.bool false)])⟩] [0, 4, 5, 18])
   (.cond (.t 18)
    .skip
    (.exit 0)))
  (.block 1 [0, 4, 5]
   (.seq
    (.ops 2 [⟨(some 19), none, (.p .mv [.t 0])⟩,
      ⟨(some 20), none, (.p .mv [.t 5])⟩,
      ⟨(some 21), none, (.p (.sliceStr true false) [.t 19, .t 20])⟩,
      ⟨(some 22), none, (.call (.c (.fn 74 [] [])) [.t 21, .c (.int .u8 10)] 0 2)⟩,
      ⟨(some 6), none, (.p .mv [.t 22])⟩] [0, 4, 5, 6])
    (.seq
     (.ops 3 [⟨(some 24), none, (.p .mv [.t 6])⟩,
       ⟨(some 25), none, (.p (.indexSl 1) [.t 24, .c (.int .i64 0)])⟩,
       ⟨(some 26), none, (.m (.load false 1) 0 [.t 25])⟩,
       ⟨(some 27), none, (.p .mv [.t 4])⟩,
       ⟨(some 28), none, (.p .lenSl [.t 27])⟩,
       ⟨(some 29), none, (.call (.c (.fn 75 [] [])) [.t 26, .t 28] 0 2)⟩,
       ⟨(some 23), none, (.p .mv [.t 29])⟩,
       ⟨(some 30), none, (.p (.extract 0) [.t 23])⟩,
       ⟨(some 31), none, (.p (.extract 1) [.t 23])⟩,
       ⟨(some 7), none, (.m (.alloc [.str [], .str []]) 2 [])⟩,
       ⟨none, none, (.m (.store 2) 0 [.t 7, .t 30])⟩,
       ⟨(some 8), none, (.p .mv [.t 31])⟩] [0, 4, 5, 6, 7, 8])
     (.seq
      (.seq
       (.ops 0 [⟨(some 32), none, (.p .mv [.t 6])⟩,
         ⟨(some 33), none, (.p .lenSl [.t 32])⟩,
         ⟨(some 34), none, (.p (.bin .lss .int) [.t 33, .c (.int .i64 2)])⟩,
         ⟨(some 35), none, (.p .mv [.t 34])⟩,
         ⟨(some 36), (some (35, false)), (.p .mv [.t 8])⟩,
         ⟨(some 37), (some (35, false)), (.p .not [.t 36])⟩,
         ⟨(some 38), none, (.p .pick [.t 35, .c (.bool true), .t 37])⟩] [0, 4, 5, 6, 7, 38])
       (.cond (.t 38)
        (.exit 0)
        .skip))
      (.seq
       (.ops 2 [⟨(some 39), none, (.p .mv [.t 4])⟩,
         ⟨(some 40), none, (.m (.load true 2) 0 [.t 7])⟩,
         ⟨(some 41), none, (.m (.buildSlice 36 2 1 [.str [], .str []] [(0, 2)]) 0 [.t 40])⟩,
         ⟨(some 42), none, (.m (.append 36 2 32) 1 [.t 39, .t 41])⟩,
         ⟨(some 4), none, (.p .mv [.t 42])⟩] [0, 4, 5, 6])
       (.ops 0 [⟨(some 43), none, (.p .mv [.t 5])⟩,
         ⟨(some 44), none, (.p .mv [.t 6])⟩,
         ⟨(some 45), none, (.p (.indexSl 1) [.t 44, .c (.int .i64 0)])⟩,
         ⟨(some 46), none, (.m (.load false 1) 0 [.t 45])⟩,
         ⟨(some 47), none, (.p .lenStr [.t 46])⟩,
         ⟨(some 48), none, (.p (.bin .add .int) [.t 43, .t 47])⟩,
         ⟨(some 49), none, (.p (.bin .add .int) [.t 48, .c (.int .i64 1)])⟩,
         ⟨(some 5), none, (.p .mv [.t 49])⟩] [0, 4, 5])))))))
def l49_0 : Cd := .loop [0, 4, 5] b49_0
theorem x49_0 (R : Run) (M : Nat) (t : Tm) (σ : Store) : X R M l49_0 ⟨t, σ⟩ = rnd R M l49_0 [0, 4, 5] b49_0 (norm M (tgs t [0, 4, 5]) σ) := x_loop rfl
def d49 : FD := ⟨[.t 2, .t 3],
 (.seq
  (.ops 0 [⟨(some 2), none, (.p .mv [.c (.nilsl)])⟩,
    ⟨(some 3), none, (.p .mv [.c (.int .i64 0)])⟩] [0])
  (.seq
   (.ops 1 [⟨(some 9), none, (.m (.buildSlice 36 2 0 [] []) 0 [])⟩,
     ⟨(some 4), none, (.p .mv [.t 9])⟩] [0, 4])
   (.seq
    (.ops 0 [⟨(some 5), none, (.p .mv [.c (.int .i64 0)])⟩] [0, 4, 5])
    (.seq
     (.block 0 [4, 5]
      l49_0)
     (.seq
      (.ops 0 [⟨(some 50), none, (.p .mv [.t 4])⟩,
        ⟨(some 51), none, (.p .mv [.t 5])⟩,
        ⟨(some 2), none, (.p .mv [.t 50])⟩,
        ⟨(some 3), none, (.p .mv [.t 51])⟩] [2, 3])
      .ret)))))⟩
theorem t49 : trF Tryd.prog Tryd.f49 [[0], [0, 4], [0, 4, 5], [4, 5], [0, 4, 5], [0, 4, 5, 18], [0, 4, 5], [0, 4, 5, 6], [0, 4, 5, 6, 7, 8], [0, 4, 5, 6, 7, 38], [0, 4, 5, 6], [0, 4, 5], [2, 3]] = some d49 := by kernel_rfl
/-- (loop.example/g01194/impl.Log).records -/
def d50 : FD := ⟨[.t 2, .t 3],
 (.seq
  (.ops 1 [⟨(some 1), none, (.m .box 0 [.t 0])⟩,
    ⟨(some 2), none, (.p .mv [.c (.nilsl)])⟩,
    ⟨(some 3), none, (.p .mv [.c (.bool false)])⟩] [1])
  (.seq
   (.seq
    (.ops 0 [⟨(some 8), none, (.p (.fieldAddr 0) [.t 1])⟩,
      ⟨(some 9), none, (.m (.load false 1) 0 [.t 8])⟩,
      ⟨(some 10), none, (.p .lenStr [.t 9])⟩,
      ⟨(some 11), none, (.p (.fieldAddr 1) [.t 1])⟩,
      ⟨(some 12), none, (.m (.load false 1) 0 [.t 11])⟩,
      ⟨(some 13), none, (.p .lenStr [.t 12])⟩,
      ⟨(some 14), none, (.p (.bin .add .int) [.t 10, .t 13])⟩,
      ⟨(some 15), none, (.p (.bin .gtr .int) [.t 14, .c (.int .i64 30000)])⟩] [1, 15])
    (.cond (.t 15)
     (.seq
      (.ops 0 [⟨(some 2), none, (.p .mv [.c (.nilsl)])⟩,
        ⟨(some 3), none, (.p .mv [.c (.bool false)])⟩] [2, 3])
      .ret)
     .skip))
   (.seq
    (.ops 2 [⟨(some 17), none, (.p (.fieldAddr 0) [.t 1])⟩,
      ⟨(some 18), none, (.m (.load false 1) 0 [.t 17])⟩,
      ⟨(some 19), none, (.p (.fieldAddr 1) [.t 1])⟩,
      ⟨(some 20), none, (.m (.load false 1) 0 [.t 19])⟩,
      ⟨(some 21), none, (.p (.bin .add .str) [.t 18, .t 20])⟩,
      ⟨(some 22), none, (.call (.c (.fn 69 [] [])) [.t 21] 0 2)⟩,
      ⟨(some 16), none, (.p .mv [.t 22])⟩,
      ⟨(some 23), none, (.p (.extract 0) [.t 16])⟩,
      ⟨(some 24), none, (.p (.extract 1) [.t 16])⟩,
      ⟨(some 4), none, (.p .mv [.t 23])⟩,
      ⟨(some 5), none, (.p .mv [.t 24])⟩] [1, 4, 5])
    (.seq
     (.ops 2 [⟨(some 26), none, (.p (.fieldAddr 0) [.t 1])⟩,
       ⟨(some 27), none, (.m (.load false 1) 0 [.t 26])⟩,
       ⟨(some 28), none, (.call (.c (.fn 69 [] [])) [.t 27] 0 2)⟩,
       ⟨(some 25), none, (.p .mv [.t 28])⟩,
       ⟨(some 29), none, (.p (.extract 0) [.t 25])⟩,
       ⟨(some 30), none, (.p (.extract 1) [.t 25])⟩,
       ⟨(some 6), none, (.p .mv [.t 29])⟩,
       ⟨(some 7), none, (.p .mv [.t 30])⟩] [1, 4, 5, 7])
     (.seq
      (.draw 0 [] [⟨(some 31), none, (.p .mv [.t 4])⟩,
        ⟨(some 32), none, (.p .mv [.t 5])⟩,
        ⟨(some 33), none, (.p (.fieldAddr 0) [.t 1])⟩,
        ⟨(some 34), none, (.m (.load false 1) 0 [.t 33])⟩,
        ⟨(some 35), none, (.p .lenStr [.t 34])⟩,
        ⟨(some 36), none, (.p (.fieldAddr 1) [.t 1])⟩,
        ⟨(some 37), none, (.m (.load false 1) 0 [.t 36])⟩,
        ⟨(some 38), none, (.p .lenStr [.t 37])⟩,
        ⟨(some 39), none, (.p (.bin .add .int) [.t 35, .t 38])⟩,
        ⟨(some 40), none, (.p (.bin .eql .int) [.t 32, .t 39])⟩,
        ⟨(some 41), none, (.p .mv [.t 40])⟩,
        ⟨(some 42), (some (41, true)), (.p .mv [.t 7])⟩,
        ⟨(some 43), (some (41, true)), (.p (.fieldAddr 0) [.t 1])⟩,
        ⟨(some 44), (some (41, true)), (.m (.load false 1) 0 [.t 43])⟩,
        ⟨(some 45), (some (41, true)), (.p .lenStr [.t 44])⟩,
        ⟨(some 46), (some (41, true)), (.p (.bin .eql .int) [.t 42, .t 45])⟩,
        ⟨(some 47), none, (.p .pick [.t 41, .t 46, .c (.bool false)])⟩,
        ⟨(some 48), none, (.p .mv [.t 47])⟩,
        ⟨(some 49), (some (48, true)), (.p .mv [.t 4])⟩,
        ⟨(some 50), (some (48, true)), (.p .lenSl [.t 49])⟩,
        ⟨(some 51), (some (48, true)), (.p (.fieldAddr 2) [.t 1])⟩,
        ⟨(some 52), (some (48, true)), (.m (.load false 1) 0 [.t 51])⟩,
        ⟨(some 53), (some (48, true)), (.p (.bin .eql .int) [.t 50, .t 52])⟩,
        ⟨(some 54), none, (.p .pick [.t 48, .t 53, .c (.bool false)])⟩,
        ⟨(some 2), none, (.p .mv [.t 31])⟩,
        ⟨(some 3), none, (.p .mv [.t 54])⟩] [2, 3])
      .ret)))))⟩
theorem t50 : trF Tryd.prog Tryd.f50 [[1], [1, 15], [2, 3], [1, 4, 5], [1, 4, 5, 7], [2, 3]] = some d50 := by kernel_rfl
/-- loop.example/g01194/laws.eqLogRecord -/
def d51 : FD := ⟨[.t 4],
 (.seq
  (.ops 2 [⟨(some 2), none, (.m .box 0 [.t 0])⟩,
    ⟨(some 3), none, (.m .box 1 [.t 1])⟩,
    ⟨(some 4), none, (.p .mv [.c (.bool false)])⟩] [2, 3])
  (.seq
   (.seq
    (.ops 0 [⟨(some 5), none, (.p (.fieldAddr 0) [.t 2])⟩,
      ⟨(some 6), none, (.m (.load false 1) 0 [.t 5])⟩,
      ⟨(some 7), none, (.p (.fieldAddr 0) [.t 3])⟩,
      ⟨(some 8), none, (.m (.load false 1) 0 [.t 7])⟩,
      ⟨(some 9), none, (.p (.bin .neq .str) [.t 6, .t 8])⟩] [2, 3, 9])
    (.cond (.t 9)
     (.seq
      (.ops 0 [⟨(some 4), none, (.p .mv [.c (.bool false)])⟩] [4])
      .ret)
     .skip))
   (.seq
    (.seq
     (.ops 0 [⟨(some 10), none, (.p (.fieldAddr 1) [.t 2])⟩,
       ⟨(some 11), none, (.m (.load false 1) 0 [.t 10])⟩,
       ⟨(some 12), none, (.p (.fieldAddr 1) [.t 3])⟩,
       ⟨(some 13), none, (.m (.load false 1) 0 [.t 12])⟩,
       ⟨(some 14), none, (.p (.bin .neq .str) [.t 11, .t 13])⟩] [14])
     (.cond (.t 14)
      (.seq
       (.ops 0 [⟨(some 4), none, (.p .mv [.c (.bool false)])⟩] [4])
       .ret)
      .skip))
    (.seq
     (.ops 0 [⟨(some 4), none, (.p .mv [.c (.bool true)])⟩] [4])
     .ret))))⟩
theorem t51 : trF Tryd.prog Tryd.f51 [[2, 3], [2, 3, 9], [4], [14], [4], [4]] = some d51 := by kernel_rfl
/-- loop.example/g01194/laws.markText -/
def b52_0 : Cd :=
 (.seq
  (.seq
   (.ops 0 [⟨(some 6), none, (.p .mv [.t 0])⟩,
     ⟨(some 7), none, (.p (.bin .gtr .int) [.t 6, .c (.int .i64 0)])⟩] [0, 3, 7])
   (.cond (.t 7)
    .skip
    (.exit 0)))
  (.block 1 [0, 3]
   (.seq
    (.ops 1 [⟨(some 8), none, (.p .mv [.t 0])⟩,
      ⟨(some 9), none, (.p (.bin .rem .int) [.t 8, .c (.int .i64 10)])⟩,
      ⟨(some 10), none, (.p (.bin .add .int) [.c (.int .i64 48), .t 9])⟩,
      ⟨(some 11), none, (.p (.convInt .u8) [.t 10])⟩,
      ⟨(some 12), none, (.m (.buildSlice 5 1 1 [.int .u8 0] [(0, 1)]) 0 [.t 11])⟩,
      ⟨(some 13), none, (.m .string 0 [.t 12])⟩,
      ⟨(some 14), none, (.p .mv [.t 3])⟩,
      ⟨(some 15), none, (.p (.bin .add .str) [.t 13, .t 14])⟩,
      ⟨(some 3), none, (.p .mv [.t 15])⟩] [0, 3])
    (.ops 0 [⟨(some 16), none, (.p .mv [.t 0])⟩,
      ⟨(some 17), none, (.p (.bin .quo .int) [.t 16, .c (.int .i64 10)])⟩,
      ⟨(some 0), none, (.p .mv [.t 17])⟩] [0, 3]))))
def l52_0 : Cd := .loop [0, 3] b52_0
theorem x52_0 (R : Run) (M : Nat) (t : Tm) (σ : Store) : X R M l52_0 ⟨t, σ⟩ = rnd R M l52_0 [0, 3] b52_0 (norm M (tgs t [0, 3]) σ) := x_loop rfl
def d52 : FD := ⟨[.t 2],
 (.seq
  (.ops 0 [⟨(some 2), none, (.p .mv [.c (.str [])])⟩] [0])
  (.seq
   (.seq
    (.ops 0 [⟨(some 4), none, (.p .mv [.t 0])⟩,
      ⟨(some 5), none, (.p (.bin .leq .int) [.t 4, .c (.int .i64 0)])⟩] [0, 5])
    (.cond (.t 5)
     (.seq
      (.ops 0 [⟨(some 2), none, (.p .mv [.c (.str [109, 48])])⟩] [2])
      .ret)
     .skip))
   (.seq
    (.ops 0 [⟨(some 3), none, (.p .mv [.c (.str [])])⟩] [0, 3])
    (.seq
     (.block 0 [3]
      l52_0)
     (.seq
      (.ops 0 [⟨(some 18), none, (.p .mv [.t 3])⟩,
        ⟨(some 19), none, (.p (.bin .add .str) [.c (.str [109]), .t 18])⟩,
        ⟨(some 2), none, (.p .mv [.t 19])⟩] [2])
      .ret)))))⟩
theorem t52 : trF Tryd.prog Tryd.f52 [[0], [0, 5], [2], [0, 3], [3], [0, 3], [0, 3, 7], [0, 3], [0, 3], [0, 3], [2]] = some d52 := by kernel_rfl
/-- loop.example/g01194/spec.l12Good -/
def d53 : FD := ⟨[.t 2],
 (.seq
  (.ops 1 [⟨(some 1), none, (.m .box 0 [.t 0])⟩,
    ⟨(some 2), none, (.p .mv [.c (.bool false)])⟩] [1])
  (.seq
   (.ops 6 [⟨(some 3), none, (.p (.fieldAddr 0) [.t 1])⟩,
     ⟨(some 4), none, (.m (.load true 16) 0 [.t 3])⟩,
     ⟨(some 5), none, (.call (.c (.fn 76 [] [])) [.t 4] 0 2)⟩,
     ⟨(some 6), none, (.p .mv [.t 5])⟩,
     ⟨(some 7), (some (6, true)), (.p (.fieldAddr 16) [.t 1])⟩,
     ⟨(some 8), (some (6, true)), (.m (.load false 1) 0 [.t 7])⟩,
     ⟨(some 9), (some (6, true)), (.call (.c (.fn 61 [] [])) [.t 8, .c (.int .i64 0), .c (.int .i64 9999999)] 2 2)⟩,
     ⟨(some 10), none, (.p .pick [.t 6, .t 9, .c (.bool false)])⟩,
     ⟨(some 11), none, (.p .mv [.t 10])⟩,
     ⟨(some 12), (some (11, true)), (.p (.fieldAddr 17) [.t 1])⟩,
     ⟨(some 13), (some (11, true)), (.m (.load false 1) 0 [.t 12])⟩,
     ⟨(some 14), (some (11, true)), (.call (.c (.fn 61 [] [])) [.t 13, .c (.int .i64 0), .c (.int .i64 1000)] 4 2)⟩,
     ⟨(some 15), none, (.p .pick [.t 11, .t 14, .c (.bool false)])⟩,
     ⟨(some 2), none, (.p .mv [.t 15])⟩] [2])
   .ret))⟩
theorem t53 : trF Tryd.prog Tryd.f53 [[1], [2]] = some d53 := by kernel_rfl
/-- loop.example/g01194/laws.toDesk -/
def d54 : FD := ⟨[.cell 2 true 18],
 (.seq
  (.ops 2 [⟨(some 1), none, (.m .box 0 [.t 0])⟩,
    ⟨(some 2), none, (.m (.alloc [.int .i64 0, .int .i64 0, .int .i64 0, .int .i64 0, .int .i64 0, .int .i64 0, .int .i64 0, .int .i64 0, .int .i64 0, .int .i64 0, .int .i64 0, .int .i64 0, .int .i64 0, .int .i64 0, .int .i64 0, .int .i64 0, .int .i64 0, .int .i64 0]) 1 [])⟩] [1, 2])
  (.seq
   (.ops 1 [⟨(some 3), none, (.m (.alloc [.int .i64 0, .int .i64 0, .int .i64 0, .int .i64 0, .int .i64 0, .int .i64 0, .int .i64 0, .int .i64 0, .int .i64 0, .int .i64 0, .int .i64 0, .int .i64 0, .int .i64 0, .int .i64 0, .int .i64 0, .int .i64 0, .int .i64 0, .int .i64 0]) 0 [])⟩] [1, 2, 3])
   (.seq
    (.ops 2 [⟨(some 4), none, (.p (.fieldAddr 0) [.t 1])⟩,
      ⟨(some 5), none, (.m (.load true 16) 0 [.t 4])⟩,
      ⟨(some 6), none, (.call (.c (.fn 77 [] [])) [.t 5] 0 2)⟩,
      ⟨(some 7), none, (.p (.fieldAddr 0) [.t 3])⟩,
      ⟨none, none, (.m (.store 16) 0 [.t 7, .t 6])⟩] [1, 2, 3])
    (.seq
     (.ops 0 [⟨(some 8), none, (.p (.fieldAddr 16) [.t 1])⟩,
       ⟨(some 9), none, (.m (.load false 1) 0 [.t 8])⟩,
       ⟨(some 10), none, (.p (.fieldAddr 16) [.t 3])⟩,
       ⟨none, none, (.m (.store 1) 0 [.t 10, .t 9])⟩] [1, 2, 3])
     (.seq
      (.ops 0 [⟨(some 11), none, (.p (.fieldAddr 17) [.t 1])⟩,
        ⟨(some 12), none, (.m (.load false 1) 0 [.t 11])⟩,
        ⟨(some 13), none, (.p (.fieldAddr 17) [.t 3])⟩,
        ⟨none, none, (.m (.store 1) 0 [.t 13, .t 12])⟩] [2, 3])
      (.seq
       (.ops 0 [⟨(some 14), none, (.m (.load true 18) 0 [.t 3])⟩,
         ⟨none, none, (.m (.store 18) 0 [.t 2, .t 14])⟩] [2])
       .ret))))))⟩
theorem t54 : trF Tryd.prog Tryd.f54 [[1, 2], [1, 2, 3], [1, 2, 3], [1, 2, 3], [2, 3], [2]] = some d54 := by kernel_rfl
/-- loop.example/g01194/impl.IsDesk -/
def d55 : FD := ⟨[.t 2],
 (.seq
  (.ops 1 [⟨(some 1), none, (.m .box 0 [.t 0])⟩,
    ⟨(some 2), none, (.p .mv [.c (.bool false)])⟩] [1])
  (.seq
   (.ops 6 [⟨(some 3), none, (.p (.fieldAddr 0) [.t 1])⟩,
     ⟨(some 4), none, (.m (.load true 16) 0 [.t 3])⟩,
     ⟨(some 5), none, (.call (.c (.fn 78 [] [])) [.t 4] 0 2)⟩,
     ⟨(some 6), none, (.p .mv [.t 5])⟩,
     ⟨(some 7), (some (6, true)), (.p (.fieldAddr 16) [.t 1])⟩,
     ⟨(some 8), (some (6, true)), (.m (.load false 1) 0 [.t 7])⟩,
     ⟨(some 9), (some (6, true)), (.call (.c (.fn 58 [] [])) [.t 8, .c (.int .i64 0), .c (.int .i64 9999999)] 2 2)⟩,
     ⟨(some 10), none, (.p .pick [.t 6, .t 9, .c (.bool false)])⟩,
     ⟨(some 11), none, (.p .mv [.t 10])⟩,
     ⟨(some 12), (some (11, true)), (.p (.fieldAddr 17) [.t 1])⟩,
     ⟨(some 13), (some (11, true)), (.m (.load false 1) 0 [.t 12])⟩,
     ⟨(some 14), (some (11, true)), (.call (.c (.fn 58 [] [])) [.t 13, .c (.int .i64 0), .c (.int .i64 1000)] 4 2)⟩,
     ⟨(some 15), none, (.p .pick [.t 11, .t 14, .c (.bool false)])⟩,
     ⟨(some 2), none, (.p .mv [.t 15])⟩] [2])
   .ret))⟩
theorem t55 : trF Tryd.prog Tryd.f55 [[1], [2]] = some d55 := by kernel_rfl
/-- (*loop.example/g01194/spec.l1Cur).logRecord -/
def d56 : FD := ⟨[.cell 2 true 2],
 (.seq
  (.ops 1 [⟨(some 2), none, (.m (.alloc [.str [], .str []]) 0 [])⟩] [0, 2])
  (.seq
   (.ops 7 [⟨(some 4), none, (.p .mv [.t 0])⟩,
     ⟨(some 5), none, (.m (.buildSlice 9 1 5 [.str [], .str [], .str [], .str [], .str []] [(0, 1), (1, 1), (2, 1), (3, 1), (4, 1)]) 0 [.c (.str [115, 117, 109]), .c (.str [115, 108, 105, 100, 101, 32, 48]), .c (.str [120]), .c (.str [112, 117, 116, 32, 49, 32, 50, 32, 49]), .c (.str [48, 32, 49])])⟩,
     ⟨(some 6), none, (.call (.c (.fn 79 [] [])) [.t 4, .t 5] 1 2)⟩,
     ⟨(some 7), none, (.p .mv [.t 0])⟩,
     ⟨(some 8), none, (.m (.buildSlice 9 1 5 [.str [], .str [], .str [], .str [], .str []] [(0, 1), (1, 1), (2, 1), (3, 1), (4, 1)]) 3 [.c (.str []), .c (.str [51]), .c (.str [63]), .c (.str [97, 64, 98]), .c (.str [51, 32, 49, 32, 50])])⟩,
     ⟨(some 9), none, (.call (.c (.fn 79 [] [])) [.t 7, .t 8] 4 2)⟩,
     ⟨(some 10), none, (.p (.build [.str [], .str []] [(0, 1), (1, 1)]) [.t 6, .t 9])⟩,
     ⟨(some 3), none, (.m (.alloc [.str [], .str []]) 6 [])⟩,
     ⟨none, none, (.m (.store 2) 0 [.t 3, .t 10])⟩] [0, 2, 3])
   (.seq
    (.seq
     (.ops 2 [⟨(some 11), none, (.p .mv [.t 0])⟩,
       ⟨(some 12), none, (.call (.c (.fn 64 [] [])) [.t 11, .c (.int .i64 24)] 0 2)⟩] [0, 2, 3, 12])
     (.block 0 [2, 3]
      (.seq
       (.ops 0 [⟨(some 14), none, (.p (.bin .eql .int) [.t 12, .c (.int .i64 0)])⟩,
         ⟨(some 13), none, (.p .mv [.t 14])⟩] [0, 2, 3, 12, 13])
       (.cond (.t 13)
        (.ops 4 [⟨(some 15), none, (.p .mv [.t 0])⟩,
          ⟨(some 16), none, (.m (.makeSlice 5 1 1 [.int .u8 0]) 0 [.c (.int .i64 3), .c (.int .i64 3)])⟩,
          ⟨(some 17), none, (.m .string 0 [.t 16])⟩,
          ⟨(some 18), none, (.m (.buildSlice 9 1 5 [.str [], .str [], .str [], .str [], .str []] [(0, 1), (1, 1), (2, 1), (3, 1), (4, 1)]) 1 [.c (.str []), .c (.str [97, 64, 98]), .c (.str [97, 35]), .c (.str [10]), .t 17])⟩,
          ⟨(some 19), none, (.call (.c (.fn 79 [] [])) [.t 15, .t 18] 2 2)⟩,
          ⟨(some 20), none, (.p (.fieldAddr 0) [.t 3])⟩,
          ⟨none, none, (.m (.store 1) 0 [.t 20, .t 19])⟩] [2, 3])
        (.seq
         (.ops 0 [⟨(some 22), none, (.p (.bin .eql .int) [.t 12, .c (.int .i64 1)])⟩,
           ⟨(some 21), none, (.p .mv [.t 22])⟩] [0, 2, 3, 21])
         (.cond (.t 21)
          (.ops 3 [⟨(some 23), none, (.p .mv [.t 0])⟩,
            ⟨(some 24), none, (.m (.buildSlice 9 1 3 [.str [], .str [], .str []] [(0, 1), (1, 1), (2, 1)]) 0 [.c (.str [35]), .c (.str [10]), .c (.str [127])])⟩,
            ⟨(some 25), none, (.call (.c (.fn 79 [] [])) [.t 23, .t 24] 1 2)⟩,
            ⟨(some 26), none, (.p (.fieldAddr 1) [.t 3])⟩,
            ⟨none, none, (.m (.store 1) 0 [.t 26, .t 25])⟩] [2, 3])
          .skip))))))
    (.seq
     (.ops 0 [⟨(some 27), none, (.m (.load true 2) 0 [.t 3])⟩,
       ⟨none, none, (.m (.store 2) 0 [.t 2, .t 27])⟩] [2])
     .ret))))⟩
theorem t56 : trF Tryd.prog Tryd.f56 [[0, 2], [0, 2, 3], [0, 2, 3, 12], [2, 3], [0, 2, 3, 12, 13], [2, 3], [0, 2, 3, 21], [2, 3], [2]] = some d56 := by kernel_rfl
/-- (*loop.example/g01194/spec.l1Cur).among -/
def d57 : FD := ⟨[.t 4],
 (.seq
  (.ops 0 [⟨(some 4), none, (.p .mv [.c (.int .i64 0)])⟩] [0, 1])
  (.seq
   (.ops 2 [⟨(some 5), none, (.p .mv [.t 1])⟩,
     ⟨(some 6), none, (.p .mv [.t 0])⟩,
     ⟨(some 7), none, (.p .mv [.t 1])⟩,
     ⟨(some 8), none, (.p .lenSl [.t 7])⟩,
     ⟨(some 9), none, (.call (.c (.fn 64 [] [])) [.t 6, .t 8] 0 2)⟩,
     ⟨(some 10), none, (.p (.indexSl 1) [.t 5, .t 9])⟩,
     ⟨(some 11), none, (.m (.load false 1) 0 [.t 10])⟩,
     ⟨(some 4), none, (.p .mv [.t 11])⟩] [4])
   .ret))⟩
theorem t57 : trF Tryd.prog Tryd.f57 [[0, 1], [4]] = some d57 := by kernel_rfl
/-- loop.example/g01194/impl.in -/
def d58 : FD := ⟨[.t 6],
 (.seq
  (.ops 0 [⟨(some 6), none, (.p .mv [.c (.bool false)])⟩] [0, 1, 2])
  (.seq
   (.ops 0 [⟨(some 7), none, (.p .mv [.t 1])⟩,
     ⟨(some 8), none, (.p .mv [.t 0])⟩,
     ⟨(some 9), none, (.p (.bin .leq .int) [.t 7, .t 8])⟩,
     ⟨(some 10), none, (.p .mv [.t 9])⟩,
     ⟨(some 11), (some (10, true)), (.p .mv [.t 0])⟩,
     ⟨(some 12), (some (10, true)), (.p .mv [.t 2])⟩,
     ⟨(some 13), (some (10, true)), (.p (.bin .leq .int) [.t 11, .t 12])⟩,
     ⟨(some 14), none, (.p .pick [.t 10, .t 13, .c (.bool false)])⟩,
     ⟨(some 6), none, (.p .mv [.t 14])⟩] [6])
   .ret))⟩
theorem t58 : trF Tryd.prog Tryd.f58 [[0, 1, 2], [6]] = some d58 := by kernel_rfl
/-- loop.example/g01194/impl.AppendChecksum -/
def d59 : FD := ⟨[.t 2, .t 3],
 (.seq
  (.ops 0 [⟨(some 2), none, (.p .mv [.c (.str [])])⟩,
    ⟨(some 3), none, (.p .mv [.c (.bool false)])⟩] [0])
  (.seq
   (.ops 2 [⟨(some 8), none, (.p .mv [.t 0])⟩,
     ⟨(some 9), none, (.call (.c (.fn 80 [] [])) [.t 8] 0 2)⟩,
     ⟨(some 7), none, (.p .mv [.t 9])⟩,
     ⟨(some 10), none, (.p (.extract 0) [.t 7])⟩,
     ⟨(some 11), none, (.p (.extract 1) [.t 7])⟩,
     ⟨(some 4), none, (.p .mv [.t 10])⟩,
     ⟨(some 5), none, (.p .mv [.t 11])⟩] [0, 4, 5])
   (.seq
    (.ops 2 [⟨(some 12), none, (.p .mv [.t 0])⟩,
      ⟨(some 13), none, (.p (.bin .add .str) [.t 12, .c (.str [35])])⟩,
      ⟨(some 14), none, (.p .mv [.t 4])⟩,
      ⟨(some 15), none, (.call (.c (.fn 60 [] [])) [.t 14] 0 2)⟩,
      ⟨(some 16), none, (.p (.bin .add .str) [.t 13, .t 15])⟩,
      ⟨(some 6), none, (.p .mv [.t 16])⟩] [0, 5, 6])
    (.seq
     (.seq
      (.ops 2 [⟨(some 17), none, (.p .mv [.t 5])⟩,
        ⟨(some 18), none, (.p .not [.t 17])⟩,
        ⟨(some 19), none, (.p .mv [.t 18])⟩,
        ⟨(some 20), (some (19, false)), (.p .mv [.t 0])⟩,
        ⟨(some 21), (some (19, false)), (.call (.c (.fn 81 [] [])) [.t 20, .c (.str [35])] 0 2)⟩,
        ⟨(some 22), none, (.p .pick [.t 19, .c (.bool true), .t 21])⟩,
        ⟨(some 23), none, (.p .mv [.t 22])⟩,
        ⟨(some 24), (some (23, false)), (.p .mv [.t 6])⟩,
        ⟨(some 25), (some (23, false)), (.p .lenStr [.t 24])⟩,
        ⟨(some 26), (some (23, false)), (.p (.bin .gtr .int) [.t 25, .c (.int .i64 4000)])⟩,
        ⟨(some 27), none, (.p .pick [.t 23, .c (.bool true), .t 26])⟩] [6, 27])
      (.cond (.t 27)
       (.seq
        (.ops 0 [⟨(some 2), none, (.p .mv [.c (.str [])])⟩,
          ⟨(some 3), none, (.p .mv [.c (.bool false)])⟩] [2, 3])
        .ret)
       .skip))
     (.seq
      (.ops 0 [⟨(some 28), none, (.p .mv [.t 6])⟩,
        ⟨(some 2), none, (.p .mv [.t 28])⟩,
        ⟨(some 3), none, (.p .mv [.c (.bool true)])⟩] [2, 3])
      .ret)))))⟩
theorem t59 : trF Tryd.prog Tryd.f59 [[0], [0, 4, 5], [0, 5, 6], [6, 27], [2, 3], [2, 3]] = some d59 := by kernel_rfl
/-- loop.example/g01194/spec.l1In -/
def d61 : FD := ⟨[.t 6],
 (.seq
  (.ops 0 [⟨(some 6), none, (.p .mv [.c (.bool false)])⟩] [0, 1, 2])
  (.seq
   (.ops 0 [⟨(some 7), none, (.p .mv [.t 0])⟩,
     ⟨(some 8), none, (.p .mv [.t 1])⟩,
     ⟨(some 9), none, (.p (.bin .geq .int) [.t 7, .t 8])⟩,
     ⟨(some 10), none, (.p .mv [.t 9])⟩,
     ⟨(some 11), (some (10, true)), (.p .mv [.t 0])⟩,
     ⟨(some 12), (some (10, true)), (.p .mv [.t 2])⟩,
     ⟨(some 13), (some (10, true)), (.p (.bin .leq .int) [.t 11, .t 12])⟩,
     ⟨(some 14), none, (.p .pick [.t 10, .t 13, .c (.bool false)])⟩,
     ⟨(some 6), none, (.p .mv [.t 14])⟩] [6])
   .ret))⟩
theorem t61 : trF Tryd.prog Tryd.f61 [[0, 1, 2], [6]] = some d61 := by kernel_rfl
/-- (*loop.example/g01194/spec.l1Cur).anyLog -/
def d62 : FD := ⟨[.cell 2 true 3],
 (.seq
  (.ops 1 [⟨(some 2), none, (.m (.alloc [.str [], .str [], .int .i64 0]) 0 [])⟩] [0, 2])
  (.seq
   (.ops 3 [⟨(some 4), none, (.p .mv [.t 0])⟩,
     ⟨(some 5), none, (.call (.c (.fn 67 [] [])) [.t 4] 0 2)⟩,
     ⟨(some 3), none, (.m (.alloc [.str [], .str [], .int .i64 0]) 2 [])⟩,
     ⟨none, none, (.m (.store 3) 0 [.t 3, .t 5])⟩] [0, 2, 3])
   (.seq
    (.seq
     (.ops 2 [⟨(some 6), none, (.p .mv [.t 0])⟩,
       ⟨(some 7), none, (.call (.c (.fn 64 [] [])) [.t 6, .c (.int .i64 24)] 0 2)⟩] [0, 2, 3, 7])
     (.block 0 [2, 3]
      (.seq
       (.ops 0 [⟨(some 9), none, (.p (.bin .eql .int) [.t 7, .c (.int .i64 0)])⟩,
         ⟨(some 8), none, (.p .mv [.t 9])⟩] [0, 2, 3, 7, 8])
       (.cond (.t 8)
        (.ops 0 [⟨(some 10), none, (.p (.fieldAddr 2) [.t 3])⟩,
          ⟨(some 11), none, (.m (.load false 1) 0 [.t 10])⟩,
          ⟨(some 12), none, (.p (.bin .add .int) [.t 11, .c (.int .i64 1)])⟩,
          ⟨(some 13), none, (.p (.fieldAddr 2) [.t 3])⟩,
          ⟨none, none, (.m (.store 1) 0 [.t 13, .t 12])⟩] [2, 3])
        (.seq
         (.ops 0 [⟨(some 15), none, (.p (.bin .eql .int) [.t 7, .c (.int .i64 1)])⟩,
           ⟨(some 14), none, (.p .mv [.t 15])⟩] [0, 2, 3, 7, 14])
         (.cond (.t 14)
          (.ops 2 [⟨(some 16), none, (.p .mv [.t 0])⟩,
            ⟨(some 17), none, (.p (.fieldAddr 1) [.t 3])⟩,
            ⟨(some 18), none, (.m (.load false 1) 0 [.t 17])⟩,
            ⟨(some 19), none, (.call (.c (.fn 68 [] [])) [.t 16, .t 18, .c (.str [35, 64, 10, 48, 49])] 0 2)⟩,
            ⟨(some 20), none, (.p (.fieldAddr 1) [.t 3])⟩,
            ⟨none, none, (.m (.store 1) 0 [.t 20, .t 19])⟩] [2, 3])
          (.seq
           (.ops 0 [⟨(some 22), none, (.p (.bin .eql .int) [.t 7, .c (.int .i64 2)])⟩,
             ⟨(some 21), none, (.p .mv [.t 22])⟩] [2, 3, 21])
           (.cond (.t 21)
            (.ops 0 [⟨(some 23), none, (.p (.fieldAddr 0) [.t 3])⟩,
              ⟨(some 24), none, (.m (.load false 1) 0 [.t 23])⟩,
              ⟨(some 25), none, (.p (.fieldAddr 1) [.t 3])⟩,
              ⟨(some 26), none, (.m (.load false 1) 0 [.t 25])⟩,
              ⟨(some 27), none, (.p (.bin .add .str) [.t 24, .t 26])⟩,
              ⟨(some 28), none, (.p (.fieldAddr 0) [.t 3])⟩,
              ⟨none, none, (.m (.store 1) 0 [.t 28, .t 27])⟩] [2, 3])
            .skip))))))))
    (.seq
     (.ops 0 [⟨(some 29), none, (.m (.load true 3) 0 [.t 3])⟩,
       ⟨none, none, (.m (.store 3) 0 [.t 2, .t 29])⟩] [2])
     .ret))))⟩
theorem t62 : trF Tryd.prog Tryd.f62 [[0, 2], [0, 2, 3], [0, 2, 3, 7], [2, 3], [0, 2, 3, 7, 8], [2, 3], [0, 2, 3, 7, 14], [2, 3], [2, 3, 21], [2, 3], [2]] = some d62 := by kernel_rfl
/-- (*loop.example/g01194/spec.l1Cur).one -/
def d63 : FD := ⟨[.t 4],
 (.seq
  (.ops 0 [⟨(some 4), none, (.p .mv [.c (.bool false)])⟩] [0, 1])
  (.seq
   (.ops 2 [⟨(some 5), none, (.p .mv [.t 0])⟩,
     ⟨(some 6), none, (.p .mv [.t 1])⟩,
     ⟨(some 7), none, (.call (.c (.fn 64 [] [])) [.t 5, .t 6] 0 2)⟩,
     ⟨(some 8), none, (.p (.bin .eql .int) [.t 7, .c (.int .i64 0)])⟩,
     ⟨(some 4), none, (.p .mv [.t 8])⟩] [4])
   .ret))⟩
theorem t63 : trF Tryd.prog Tryd.f63 [[0, 1], [4]] = some d63 := by kernel_rfl
/-- (*loop.example/g01194/spec.l1Cur).pick -/
def d64 : FD := ⟨[.t 4],
 (.seq
  (.ops 0 [⟨(some 4), none, (.p .mv [.c (.int .i64 0)])⟩] [0, 1])
  (.seq
   (.seq
    (.ops 0 [⟨(some 6), none, (.p .mv [.t 1])⟩,
      ⟨(some 7), none, (.p (.bin .leq .int) [.t 6, .c (.int .i64 1)])⟩] [0, 1, 7])
    (.cond (.t 7)
     (.seq
      (.ops 0 [⟨(some 4), none, (.p .mv [.c (.int .i64 0)])⟩] [4])
      .ret)
     .skip))
   (.seq
    (.ops 2 [⟨(some 8), none, (.p .mv [.t 0])⟩,
      ⟨(some 9), none, (.call (.c (.fn 83 [] [])) [.t 8] 0 2)⟩,
      ⟨(some 5), none, (.p .mv [.t 9])⟩] [0, 1, 5])
    (.seq
     (.seq
      (.ops 0 [⟨(some 10), none, (.p .mv [.t 1])⟩,
        ⟨(some 11), none, (.p (.bin .gtr .int) [.t 10, .c (.int .i64 200)])⟩] [0, 1, 5, 11])
      (.cond (.t 11)
       (.ops 2 [⟨(some 12), none, (.p .mv [.t 5])⟩,
         ⟨(some 13), none, (.p (.bin .mul .int) [.t 12, .c (.int .i64 256)])⟩,
         ⟨(some 14), none, (.p .mv [.t 0])⟩,
         ⟨(some 15), none, (.call (.c (.fn 83 [] [])) [.t 14] 0 2)⟩,
         ⟨(some 16), none, (.p (.bin .add .int) [.t 13, .t 15])⟩,
         ⟨(some 5), none, (.p .mv [.t 16])⟩] [1, 5])
       .skip))
     (.seq
      (.ops 0 [⟨(some 17), none, (.p .mv [.t 5])⟩,
        ⟨(some 18), none, (.p .mv [.t 1])⟩,
        ⟨(some 19), none, (.p (.bin .rem .int) [.t 17, .t 18])⟩,
        ⟨(some 4), none, (.p .mv [.t 19])⟩] [4])
      .ret)))))⟩
theorem t64 : trF Tryd.prog Tryd.f64 [[0, 1], [0, 1, 7], [4], [0, 1, 5], [0, 1, 5, 11], [1, 5], [4]] = some d64 := by kernel_rfl
/-- loop.example/g01194/impl.isCommand -/
def d65 : FD := ⟨[.t 2],
 (.seq
  (.ops 0 [⟨(some 2), none, (.p .mv [.c (.bool false)])⟩] [0])
  (.seq
   (.ops 4 [⟨(some 3), none, (.p .mv [.t 0])⟩,
     ⟨(some 4), none, (.p (.bin .neq .str) [.t 3, .c (.str [])])⟩,
     ⟨(some 5), none, (.p .mv [.t 4])⟩,
     ⟨(some 6), (some (5, true)), (.p .mv [.t 0])⟩,
     ⟨(some 7), (some (5, true)), (.call (.c (.fn 66 [] [])) [.t 6, .c (.int .i64 160)] 0 2)⟩,
     ⟨(some 8), none, (.p .pick [.t 5, .t 7, .c (.bool false)])⟩,
     ⟨(some 9), none, (.p .mv [.t 8])⟩,
     ⟨(some 10), (some (9, true)), (.p .mv [.t 0])⟩,
     ⟨(some 11), (some (9, true)), (.call (.c (.fn 81 [] [])) [.t 10, .c (.str [64])] 2 2)⟩,
     ⟨(some 12), (some (9, true)), (.p .not [.t 11])⟩,
     ⟨(some 13), none, (.p .pick [.t 9, .t 12, .c (.bool false)])⟩,
     ⟨(some 2), none, (.p .mv [.t 13])⟩] [2])
   .ret))⟩
theorem t65 : trF Tryd.prog Tryd.f65 [[0], [2]] = some d65 := by kernel_rfl
/-- loop.example/g01194/impl.isPrinted -/
def b66_0 : Cd :=
 (.seq
  (.ops 0 [⟨(some 9), none, (.p (.bin .lss .int) [.t 8, .t 7])⟩] [0, 1, 7, 8, 9])
  (.seq
   (.cond (.t 9)
    .skip
    (.exit 0))
   (.seq
    (.block 1 [0, 1, 7, 8]
     (.seq
      (.ops 0 [⟨(some 10), none, (.p .mv [.t 8])⟩,
        ⟨(some 5), none, (.p .mv [.t 10])⟩] [0, 1, 5, 7, 8])
      (.seq
       (.ops 0 [⟨(some 11), none, (.p .mv [.t 0])⟩,
         ⟨(some 12), none, (.p .mv [.t 5])⟩,
         ⟨(some 13), none, (.p .indexStr [.t 11, .t 12])⟩,
         ⟨(some 14), none, (.p (.bin .lss .int) [.t 13, .c (.int .u8 32)])⟩,
         ⟨(some 15), none, (.p .mv [.t 14])⟩,
         ⟨(some 16), (some (15, false)), (.p .mv [.t 0])⟩,
         ⟨(some 17), (some (15, false)), (.p .mv [.t 5])⟩,
         ⟨(some 18), (some (15, false)), (.p .indexStr [.t 16, .t 17])⟩,
         ⟨(some 19), (some (15, false)), (.p (.bin .gtr .int) [.t 18, .c (.int .u8 126)])⟩,
         ⟨(some 20), none, (.p .pick [.t 15, .c (.bool true), .t 19])⟩,
         ⟨(some 21), none, (.p .mv [.t 20])⟩,
         ⟨(some 22), (some (21, false)), (.p .mv [.t 0])⟩,
         ⟨(some 23), (some (21, false)), (.p .mv [.t 5])⟩,
         ⟨(some 24), (some (21, false)), (.p .indexStr [.t 22, .t 23])⟩,
         ⟨(some 25), (some (21, false)), (.p (.bin .eql .int) [.t 24, .c (.int .u8 35)])⟩,
         ⟨(some 26), none, (.p .pick [.t 21, .c (.bool true), .t 25])⟩] [0, 1, 7, 8, 26])
       (.cond (.t 26)
        (.seq
         (.ops 0 [⟨(some 4), none, (.p .mv [.c (.bool false)])⟩] [4])
         .ret)
        .skip))))
    (.ops 0 [⟨(some 27), none, (.p (.bin .add .int) [.t 8, .c (.int .i64 1)])⟩,
      ⟨(some 8), none, (.p .mv [.t 27])⟩] [0, 1, 7, 8]))))
def l66_0 : Cd := .loop [0, 1, 7, 8] b66_0
theorem x66_0 (R : Run) (M : Nat) (t : Tm) (σ : Store) : X R M l66_0 ⟨t, σ⟩ = rnd R M l66_0 [0, 1, 7, 8] b66_0 (norm M (tgs t [0, 1, 7, 8]) σ) := x_loop rfl
def d66 : FD := ⟨[.t 4],
 (.seq
  (.ops 0 [⟨(some 4), none, (.p .mv [.c (.bool false)])⟩] [0, 1])
  (.seq
   (.seq
    (.ops 0 [⟨(some 6), none, (.p .mv [.t 0])⟩,
      ⟨(some 7), none, (.p .lenStr [.t 6])⟩,
      ⟨(some 8), none, (.p .mv [.c (.int .i64 0)])⟩] [0, 1, 7, 8])
    (.block 0 [0, 1]
     l66_0))
   (.seq
    (.ops 0 [⟨(some 28), none, (.p .mv [.t 0])⟩,
      ⟨(some 29), none, (.p .lenStr [.t 28])⟩,
      ⟨(some 30), none, (.p .mv [.t 1])⟩,
      ⟨(some 31), none, (.p (.bin .leq .int) [.t 29, .t 30])⟩,
      ⟨(some 4), none, (.p .mv [.t 31])⟩] [4])
    .ret)))⟩
theorem t66 : trF Tryd.prog Tryd.f66 [[0, 1], [0, 1, 7, 8], [0, 1], [0, 1, 7, 8], [0, 1, 7, 8, 9], [0, 1, 7, 8], [0, 1, 5, 7, 8], [0, 1, 7, 8, 26], [4], [0, 1, 7, 8], [4]] = some d66 := by kernel_rfl
/-- (*loop.example/g01194/spec.l1Cur).log12 -/
def b67_0 : Cd :=
 (.seq
  (.seq
   (.ops 0 [⟨(some 8), none, (.p .mv [.t 4])⟩,
     ⟨(some 9), none, (.p (.bin .gtr .int) [.t 8, .c (.int .i64 0)])⟩] [0, 2, 3, 4, 9])
   (.cond (.t 9)
    .skip
    (.exit 0)))
  (.seq
   (.block 1 [0, 2, 3, 4]
    (.seq
     (.draw 4 [(0, 2)] [⟨(some 13), none, (.m (.load true 3) 0 [.t 3])⟩,
       ⟨(some 14), none, (.p .mv [.t 0])⟩,
       ⟨(some 15), none, (.call (.c (.fn 56 [] [])) [.t 14] 0 2)⟩,
       ⟨(some 16), none, (.call (.c (.fn 15 [] [])) [.t 13, .t 15] 2 2)⟩,
       ⟨(some 12), none, (.p .mv [.t 16])⟩,
       ⟨(some 17), none, (.p (.extract 0) [.t 12])⟩,
       ⟨(some 18), none, (.p (.extract 1) [.t 12])⟩,
       ⟨none, none, (.m (.store 3) 0 [.t 3, .t 17])⟩] [0, 2, 3, 4])
     (.seq
      (.ops 2 [⟨(some 19), none, (.p .mv [.t 0])⟩,
        ⟨(some 20), none, (.call (.c (.fn 63 [] [])) [.t 19, .c (.int .i64 4)] 0 2)⟩] [0, 2, 3, 4, 20])
      (.cond (.t 20)
       (.ops 2 [⟨(some 22), none, (.m (.load true 3) 0 [.t 3])⟩,
         ⟨(some 23), none, (.call (.c (.fn 10 [] [])) [.t 22] 0 2)⟩,
         ⟨(some 21), none, (.p .mv [.t 23])⟩,
         ⟨(some 24), none, (.p (.extract 0) [.t 21])⟩,
         ⟨(some 25), none, (.p (.extract 1) [.t 21])⟩,
         ⟨none, none, (.m (.store 3) 0 [.t 3, .t 24])⟩] [0, 2, 3, 4])
       .skip))))
   (.ops 0 [⟨(some 10), none, (.p .mv [.t 4])⟩,
     ⟨(some 11), none, (.p (.bin .sub .int) [.t 10, .c (.int .i64 1)])⟩,
     ⟨(some 4), none, (.p .mv [.t 11])⟩] [0, 2, 3, 4])))
def l67_0 : Cd := .loop [0, 2, 3, 4] b67_0
theorem x67_0 (R : Run) (M : Nat) (t : Tm) (σ : Store) : X R M l67_0 ⟨t, σ⟩ = rnd R M l67_0 [0, 2, 3, 4] b67_0 (norm M (tgs t [0, 2, 3, 4]) σ) := x_loop rfl
def d67 : FD := ⟨[.cell 2 true 3],
 (.seq
  (.ops 1 [⟨(some 2), none, (.m (.alloc [.str [], .str [], .int .i64 0]) 0 [])⟩] [0, 2])
  (.seq
   (.ops 1 [⟨(some 5), none, (.p (.build [.str [], .str [], .int .i64 0] []) [])⟩,
     ⟨(some 3), none, (.m (.alloc [.str [], .str [], .int .i64 0]) 0 [])⟩,
     ⟨none, none, (.m (.store 3) 0 [.t 3, .t 5])⟩] [0, 2, 3])
   (.seq
    (.seq
     (.ops 2 [⟨(some 6), none, (.p .mv [.t 0])⟩,
       ⟨(some 7), none, (.call (.c (.fn 64 [] [])) [.t 6, .c (.int .i64 7)] 0 2)⟩,
       ⟨(some 4), none, (.p .mv [.t 7])⟩] [0, 2, 3, 4])
     (.block 0 [2, 3]
      l67_0))
    (.seq
     (.ops 0 [⟨(some 26), none, (.m (.load true 3) 0 [.t 3])⟩,
       ⟨none, none, (.m (.store 3) 0 [.t 2, .t 26])⟩] [2])
     .ret))))⟩
theorem t67 : trF Tryd.prog Tryd.f67 [[0, 2], [0, 2, 3], [0, 2, 3, 4], [2, 3], [0, 2, 3, 4], [0, 2, 3, 4, 9], [0, 2, 3, 4], [0, 2, 3, 4], [0, 2, 3, 4, 20], [0, 2, 3, 4], [0, 2, 3, 4], [2]] = some d67 := by kernel_rfl
/-- (*loop.example/g01194/spec.l1Cur).spoilt -/
def d68 : FD := ⟨[.t 6],
 (.seq
  (.ops 0 [⟨(some 6), none, (.p .mv [.c (.str [])])⟩] [0, 1, 2])
  (.seq
   (.seq
    (.ops 0 [⟨(some 9), none, (.p .mv [.t 1])⟩,
      ⟨(some 10), none, (.p (.bin .eql .str) [.t 9, .c (.str [])])⟩] [0, 1, 2, 10])
    (.cond (.t 10)
     (.seq
      (.ops 0 [⟨(some 11), none, (.p .mv [.t 2])⟩,
        ⟨(some 12), none, (.p (.sliceStr false true) [.t 11, .c (.int .i64 1)])⟩,
        ⟨(some 6), none, (.p .mv [.t 12])⟩] [6])
      .ret)
     .skip))
   (.seq
    (.ops 2 [⟨(some 13), none, (.p .mv [.t 0])⟩,
      ⟨(some 14), none, (.p .mv [.t 1])⟩,
      ⟨(some 15), none, (.p .lenStr [.t 14])⟩,
      ⟨(some 16), none, (.call (.c (.fn 64 [] [])) [.t 13, .t 15] 0 2)⟩,
      ⟨(some 7), none, (.p .mv [.t 16])⟩] [0, 1, 2, 7])
    (.seq
     (.ops 2 [⟨(some 17), none, (.p .mv [.t 2])⟩,
       ⟨(some 18), none, (.p .mv [.t 0])⟩,
       ⟨(some 19), none, (.p .mv [.t 2])⟩,
       ⟨(some 20), none, (.p .lenStr [.t 19])⟩,
       ⟨(some 21), none, (.call (.c (.fn 64 [] [])) [.t 18, .t 20] 0 2)⟩,
       ⟨(some 22), none, (.p (.sliceStr true false) [.t 17, .t 21])⟩,
       ⟨(some 23), none, (.p (.sliceStr false true) [.t 22, .c (.int .i64 1)])⟩,
       ⟨(some 8), none, (.p .mv [.t 23])⟩] [0, 1, 7, 8])
     (.seq
      (.seq
       (.ops 2 [⟨(some 24), none, (.p .mv [.t 0])⟩,
         ⟨(some 25), none, (.call (.c (.fn 64 [] [])) [.t 24, .c (.int .i64 3)] 0 2)⟩] [1, 7, 8, 25])
       (.block 0 [1, 7]
        (.seq
         (.ops 0 [⟨(some 27), none, (.p (.bin .eql .int) [.t 25, .c (.int .i64 0)])⟩,
           ⟨(some 26), none, (.p .mv [.t 27])⟩] [1, 7, 8, 25, 26])
         (.cond (.t 26)
          (.seq
           (.draw 0 [] [⟨(some 28), none, (.p .mv [.t 1])⟩,
             ⟨(some 29), none, (.p .mv [.t 7])⟩,
             ⟨(some 30), none, (.p (.sliceStr false true) [.t 28, .t 29])⟩,
             ⟨(some 31), none, (.p .mv [.t 8])⟩,
             ⟨(some 32), none, (.p (.bin .add .str) [.t 30, .t 31])⟩,
             ⟨(some 33), none, (.p .mv [.t 1])⟩,
             ⟨(some 34), none, (.p .mv [.t 7])⟩,
             ⟨(some 35), none, (.p (.sliceStr true false) [.t 33, .t 34])⟩,
             ⟨(some 36), none, (.p (.bin .add .str) [.t 32, .t 35])⟩,
             ⟨(some 6), none, (.p .mv [.t 36])⟩] [6])
           .ret)
          (.seq
           (.ops 0 [⟨(some 38), none, (.p (.bin .eql .int) [.t 25, .c (.int .i64 1)])⟩,
             ⟨(some 37), none, (.p .mv [.t 38])⟩] [1, 7, 8, 37])
           (.cond (.t 37)
            (.seq
             (.draw 0 [] [⟨(some 39), none, (.p .mv [.t 1])⟩,
               ⟨(some 40), none, (.p .mv [.t 7])⟩,
               ⟨(some 41), none, (.p (.sliceStr false true) [.t 39, .t 40])⟩,
               ⟨(some 42), none, (.p .mv [.t 8])⟩,
               ⟨(some 43), none, (.p (.bin .add .str) [.t 41, .t 42])⟩,
               ⟨(some 44), none, (.p .mv [.t 1])⟩,
               ⟨(some 45), none, (.p .mv [.t 7])⟩,
               ⟨(some 46), none, (.p (.bin .add .int) [.t 45, .c (.int .i64 1)])⟩,
               ⟨(some 47), none, (.p (.sliceStr true false) [.t 44, .t 46])⟩,
               ⟨(some 48), none, (.p (.bin .add .str) [.t 43, .t 47])⟩,
               ⟨(some 6), none, (.p .mv [.t 48])⟩] [6])
             .ret)
            .skip))))))
      (.seq
       (.draw 0 [] [⟨(some 49), none, (.p .mv [.t 1])⟩,
         ⟨(some 50), none, (.p .mv [.t 7])⟩,
         ⟨(some 51), none, (.p (.sliceStr false true) [.t 49, .t 50])⟩,
         ⟨(some 52), none, (.p .mv [.t 1])⟩,
         ⟨(some 53), none, (.p .mv [.t 7])⟩,
         ⟨(some 54), none, (.p (.bin .add .int) [.t 53, .c (.int .i64 1)])⟩,
         ⟨(some 55), none, (.p (.sliceStr true false) [.t 52, .t 54])⟩,
         ⟨(some 56), none, (.p (.bin .add .str) [.t 51, .t 55])⟩,
         ⟨(some 6), none, (.p .mv [.t 56])⟩] [6])
       .ret))))))⟩
theorem t68 : trF Tryd.prog Tryd.f68 [[0, 1, 2], [0, 1, 2, 10], [6], [0, 1, 2, 7], [0, 1, 7, 8], [1, 7, 8, 25], [1, 7], [1, 7, 8, 25, 26], [6], [1, 7, 8, 37], [6], [6]] = some d68 := by kernel_rfl
/-- loop.example/g01194/impl.readRecords -/
def b69_0 : Cd :=
 (.seq
  (.seq
   (.ops 0 [⟨(some 22), none, (.p .mv [.t 4])⟩,
     ⟨(some 23), none, (.p .lenSl [.t 22])⟩,
     ⟨(some 24), none, (.p (.bin .lss .int) [.t 23, .c (.int .i64 60)])⟩] [0, 4, 5, 24])
   (.cond (.t 24)
    .skip
    (.exit 0)))
  (.block 1 [0, 4, 5]
   (.seq
    (.ops 2 [⟨(some 26), none, (.p .mv [.t 0])⟩,
      ⟨(some 27), none, (.p .mv [.t 5])⟩,
      ⟨(some 28), none, (.p (.sliceStr true false) [.t 26, .t 27])⟩,
      ⟨(some 29), none, (.call (.c (.fn 84 [] [])) [.t 28, .c (.str [10])] 0 2)⟩,
      ⟨(some 25), none, (.p .mv [.t 29])⟩,
      ⟨(some 30), none, (.p (.extract 0) [.t 25])⟩,
      ⟨(some 31), none, (.p (.extract 1) [.t 25])⟩,
      ⟨(some 32), none, (.p (.extract 2) [.t 25])⟩,
      ⟨(some 6), none, (.p .mv [.t 30])⟩,
      ⟨(some 7), none, (.p .mv [.t 31])⟩,
      ⟨(some 8), none, (.p .mv [.t 32])⟩] [0, 4, 5, 6, 8])
    (.seq
     (.ops 2 [⟨(some 34), none, (.p .mv [.t 6])⟩,
       ⟨(some 35), none, (.call (.c (.fn 84 [] [])) [.t 34, .c (.str [35])] 0 2)⟩,
       ⟨(some 33), none, (.p .mv [.t 35])⟩,
       ⟨(some 36), none, (.p (.extract 0) [.t 33])⟩,
       ⟨(some 37), none, (.p (.extract 1) [.t 33])⟩,
       ⟨(some 38), none, (.p (.extract 2) [.t 33])⟩,
       ⟨(some 9), none, (.p .mv [.t 36])⟩,
       ⟨(some 10), none, (.p .mv [.t 37])⟩,
       ⟨(some 11), none, (.p .mv [.t 38])⟩] [0, 4, 5, 6, 8, 9])
     (.seq
      (.ops 2 [⟨(some 40), none, (.p .mv [.t 9])⟩,
        ⟨(some 41), none, (.call (.c (.fn 84 [] [])) [.t 40, .c (.str [32])] 0 2)⟩,
        ⟨(some 39), none, (.p .mv [.t 41])⟩,
        ⟨(some 42), none, (.p (.extract 0) [.t 39])⟩,
        ⟨(some 43), none, (.p (.extract 1) [.t 39])⟩,
        ⟨(some 44), none, (.p (.extract 2) [.t 39])⟩,
        ⟨(some 12), none, (.p .mv [.t 42])⟩,
        ⟨(some 13), none, (.p .mv [.t 43])⟩,
        ⟨(some 14), none, (.p .mv [.t 44])⟩] [0, 4, 5, 6, 8, 13])
      (.seq
       (.ops 2 [⟨(some 46), none, (.p .mv [.t 13])⟩,
         ⟨(some 47), none, (.call (.c (.fn 84 [] [])) [.t 46, .c (.str [64])] 0 2)⟩,
         ⟨(some 45), none, (.p .mv [.t 47])⟩,
         ⟨(some 48), none, (.p (.extract 0) [.t 45])⟩,
         ⟨(some 49), none, (.p (.extract 1) [.t 45])⟩,
         ⟨(some 50), none, (.p (.extract 2) [.t 45])⟩,
         ⟨(some 15), none, (.p .mv [.t 48])⟩,
         ⟨(some 16), none, (.p .mv [.t 49])⟩,
         ⟨(some 17), none, (.p .mv [.t 50])⟩] [0, 4, 5, 6, 8, 15, 16])
       (.seq
        (.ops 1 [⟨(some 51), none, (.p .mv [.t 15])⟩,
          ⟨(some 52), none, (.p .mv [.t 16])⟩,
          ⟨(some 53), none, (.p (.build [.str [], .str []] [(0, 1), (1, 1)]) [.t 51, .t 52])⟩,
          ⟨(some 18), none, (.m (.alloc [.str [], .str []]) 0 [])⟩,
          ⟨none, none, (.m (.store 2) 0 [.t 18, .t 53])⟩] [0, 4, 5, 6, 8, 18])
        (.seq
         (.seq
          (.ops 2 [⟨(some 55), none, (.p .mv [.t 4])⟩,
            ⟨(some 56), none, (.p .lenSl [.t 55])⟩,
            ⟨(some 57), none, (.m (.load true 2) 0 [.t 18])⟩,
            ⟨(some 58), none, (.call (.c (.fn 31 [] [])) [.t 56, .t 57] 0 2)⟩,
            ⟨(some 54), none, (.p .mv [.t 58])⟩,
            ⟨(some 59), none, (.p (.extract 0) [.t 54])⟩,
            ⟨(some 60), none, (.p (.extract 1) [.t 54])⟩,
            ⟨(some 19), none, (.p .mv [.t 59])⟩,
            ⟨(some 20), none, (.p .mv [.t 60])⟩] [0, 4, 5, 6, 8, 18, 19, 20])
          (.seq
           (.ops 0 [⟨(some 61), none, (.p .mv [.t 8])⟩,
             ⟨(some 62), none, (.p .not [.t 61])⟩,
             ⟨(some 63), none, (.p .mv [.t 62])⟩,
             ⟨(some 64), (some (63, false)), (.p .mv [.t 20])⟩,
             ⟨(some 65), (some (63, false)), (.p .not [.t 64])⟩,
             ⟨(some 66), none, (.p .pick [.t 63, .c (.bool true), .t 65])⟩,
             ⟨(some 67), none, (.p .mv [.t 66])⟩,
             ⟨(some 68), (some (67, false)), (.p .mv [.t 19])⟩,
             ⟨(some 69), (some (67, false)), (.p .mv [.t 6])⟩,
             ⟨(some 70), (some (67, false)), (.p (.bin .add .str) [.t 69, .c (.str [10])])⟩,
             ⟨(some 71), (some (67, false)), (.p (.bin .neq .str) [.t 68, .t 70])⟩,
             ⟨(some 72), none, (.p .pick [.t 67, .c (.bool true), .t 71])⟩] [0, 4, 5, 6, 18, 72])
           (.cond (.t 72)
            (.exit 0)
            .skip)))
         (.ops 2 [⟨(some 73), none, (.p .mv [.t 4])⟩,
           ⟨(some 74), none, (.m (.load true 2) 0 [.t 18])⟩,
           ⟨(some 75), none, (.m (.buildSlice 36 2 1 [.str [], .str []] [(0, 2)]) 0 [.t 74])⟩,
           ⟨(some 76), none, (.m (.append 36 2 32) 1 [.t 73, .t 75])⟩,
           ⟨(some 77), none, (.p .mv [.t 5])⟩,
           ⟨(some 78), none, (.p .mv [.t 6])⟩,
           ⟨(some 79), none, (.p .lenStr [.t 78])⟩,
           ⟨(some 80), none, (.p (.bin .add .int) [.t 77, .t 79])⟩,
           ⟨(some 81), none, (.p (.bin .add .int) [.t 80, .c (.int .i64 1)])⟩,
           ⟨(some 4), none, (.p .mv [.t 76])⟩,
           ⟨(some 5), none, (.p .mv [.t 81])⟩] [0, 4, 5])))))))))
def l69_0 : Cd := .loop [0, 4, 5] b69_0
theorem x69_0 (R : Run) (M : Nat) (t : Tm) (σ : Store) : X R M l69_0 ⟨t, σ⟩ = rnd R M l69_0 [0, 4, 5] b69_0 (norm M (tgs t [0, 4, 5]) σ) := x_loop rfl
def d69 : FD := ⟨[.t 2, .t 3],
 (.seq
  (.ops 0 [⟨(some 2), none, (.p .mv [.c (.nilsl)])⟩,
    ⟨(some 3), none, (.p .mv [.c (.int .i64 0)])⟩] [0])
  (.seq
   (.ops 1 [⟨(some 21), none, (.m (.buildSlice 36 2 0 [] []) 0 [])⟩,
     ⟨(some 4), none, (.p .mv [.t 21])⟩,
     ⟨(some 5), none, (.p .mv [.c (.int .i64 0)])⟩] [0, 4, 5])
   (.seq
    (.block 0 [4, 5]
     l69_0)
    (.seq
     (.ops 0 [⟨(some 82), none, (.p .mv [.t 4])⟩,
       ⟨(some 83), none, (.p .mv [.t 5])⟩,
       ⟨(some 2), none, (.p .mv [.t 82])⟩,
       ⟨(some 3), none, (.p .mv [.t 83])⟩] [2, 3])
     .ret))))⟩
theorem t69 : trF Tryd.prog Tryd.f69 [[0], [0, 4, 5], [4, 5], [0, 4, 5], [0, 4, 5, 24], [0, 4, 5], [0, 4, 5, 6, 8], [0, 4, 5, 6, 8, 9], [0, 4, 5, 6, 8, 13], [0, 4, 5, 6, 8, 15, 16], [0, 4, 5, 6, 8, 18], [0, 4, 5, 6, 8, 18, 19, 20], [0, 4, 5, 6, 18, 72], [0, 4, 5], [2, 3]] = some d69 := by kernel_rfl
/-- loop.example/g01194/spec.l12Bytes -/
def b70_0 : Cd :=
 (.seq
  (.seq
   (.ops 0 [⟨(some 6), none, (.p .mv [.t 5])⟩,
     ⟨(some 7), none, (.p .mv [.t 0])⟩,
     ⟨(some 8), none, (.p .lenStr [.t 7])⟩,
     ⟨(some 9), none, (.p (.bin .lss .int) [.t 6, .t 8])⟩] [0, 1, 5, 9])
   (.cond (.t 9)
    .skip
    (.exit 0)))
  (.seq
   (.block 1 [0, 1, 5]
    (.seq
     (.ops 2 [⟨(some 12), none, (.p .mv [.t 0])⟩,
       ⟨(some 13), none, (.p .mv [.t 5])⟩,
       ⟨(some 14), none, (.p .indexStr [.t 12, .t 13])⟩,
       ⟨(some 15), none, (.p (.convInt .i64) [.t 14])⟩,
       ⟨(some 16), none, (.call (.c (.fn 61 [] [])) [.t 15, .c (.int .i64 32), .c (.int .i64 126)] 0 2)⟩,
       ⟨(some 17), none, (.p .not [.t 16])⟩,
       ⟨(some 18), none, (.p .mv [.t 17])⟩,
       ⟨(some 19), (some (18, false)), (.p .mv [.t 0])⟩,
       ⟨(some 20), (some (18, false)), (.p .mv [.t 5])⟩,
       ⟨(some 21), (some (18, false)), (.p .indexStr [.t 19, .t 20])⟩,
       ⟨(some 22), (some (18, false)), (.p (.bin .eql .int) [.t 21, .c (.int .u8 35)])⟩,
       ⟨(some 23), none, (.p .pick [.t 18, .c (.bool true), .t 22])⟩] [0, 1, 5, 23])
     (.cond (.t 23)
      (.seq
       (.ops 0 [⟨(some 4), none, (.p .mv [.c (.bool false)])⟩] [4])
       .ret)
      .skip)))
   (.ops 0 [⟨(some 10), none, (.p .mv [.t 5])⟩,
     ⟨(some 11), none, (.p (.bin .add .int) [.t 10, .c (.int .i64 1)])⟩,
     ⟨(some 5), none, (.p .mv [.t 11])⟩] [0, 1, 5])))
def l70_0 : Cd := .loop [0, 1, 5] b70_0
theorem x70_0 (R : Run) (M : Nat) (t : Tm) (σ : Store) : X R M l70_0 ⟨t, σ⟩ = rnd R M l70_0 [0, 1, 5] b70_0 (norm M (tgs t [0, 1, 5]) σ) := x_loop rfl
def d70 : FD := ⟨[.t 4],
 (.seq
  (.ops 0 [⟨(some 4), none, (.p .mv [.c (.bool false)])⟩] [0, 1])
  (.seq
   (.seq
    (.ops 0 [⟨(some 5), none, (.p .mv [.c (.int .i64 0)])⟩] [0, 1, 5])
    (.block 0 [0, 1]
     l70_0))
   (.seq
    (.ops 0 [⟨(some 24), none, (.p .mv [.t 0])⟩,
      ⟨(some 25), none, (.p .lenStr [.t 24])⟩,
      ⟨(some 26), none, (.p .mv [.t 1])⟩,
      ⟨(some 27), none, (.p (.bin .leq .int) [.t 25, .t 26])⟩,
      ⟨(some 4), none, (.p .mv [.t 27])⟩] [4])
    .ret)))⟩
theorem t70 : trF Tryd.prog Tryd.f70 [[0, 1], [0, 1, 5], [0, 1], [0, 1, 5], [0, 1, 5, 9], [0, 1, 5], [0, 1, 5, 23], [4], [0, 1, 5], [4]] = some d70 := by kernel_rfl
/-- loop.example/g01194/spec.l1Stands -/
def b71_0 : Cd :=
 (.seq
  (.seq
   (.ops 0 [⟨(some 6), none, (.p .mv [.t 5])⟩,
     ⟨(some 7), none, (.p .mv [.t 0])⟩,
     ⟨(some 8), none, (.p .lenStr [.t 7])⟩,
     ⟨(some 9), none, (.p (.bin .lss .int) [.t 6, .t 8])⟩] [0, 1, 5, 9])
   (.cond (.t 9)
    .skip
    (.exit 0)))
  (.seq
   (.block 1 [0, 1, 5]
    (.seq
     (.ops 0 [⟨(some 12), none, (.p .mv [.t 0])⟩,
       ⟨(some 13), none, (.p .mv [.t 5])⟩,
       ⟨(some 14), none, (.p .indexStr [.t 12, .t 13])⟩,
       ⟨(some 15), none, (.p .mv [.t 1])⟩,
       ⟨(some 16), none, (.p (.bin .eql .int) [.t 14, .t 15])⟩] [0, 1, 5, 16])
     (.cond (.t 16)
      (.seq
       (.ops 0 [⟨(some 4), none, (.p .mv [.c (.bool true)])⟩] [4])
       .ret)
      .skip)))
   (.ops 0 [⟨(some 10), none, (.p .mv [.t 5])⟩,
     ⟨(some 11), none, (.p (.bin .add .int) [.t 10, .c (.int .i64 1)])⟩,
     ⟨(some 5), none, (.p .mv [.t 11])⟩] [0, 1, 5])))
def l71_0 : Cd := .loop [0, 1, 5] b71_0
theorem x71_0 (R : Run) (M : Nat) (t : Tm) (σ : Store) : X R M l71_0 ⟨t, σ⟩ = rnd R M l71_0 [0, 1, 5] b71_0 (norm M (tgs t [0, 1, 5]) σ) := x_loop rfl
def d71 : FD := ⟨[.t 4],
 (.seq
  (.ops 0 [⟨(some 4), none, (.p .mv [.c (.bool false)])⟩] [0, 1])
  (.seq
   (.seq
    (.ops 0 [⟨(some 5), none, (.p .mv [.c (.int .i64 0)])⟩] [0, 1, 5])
    (.block 0 []
     l71_0))
   (.seq
    (.ops 0 [⟨(some 4), none, (.p .mv [.c (.bool false)])⟩] [4])
    .ret)))⟩
theorem t71 : trF Tryd.prog Tryd.f71 [[0, 1], [0, 1, 5], [], [0, 1, 5], [0, 1, 5, 9], [0, 1, 5], [0, 1, 5, 16], [4], [0, 1, 5], [4]] = some d71 := by kernel_rfl
/-- loop.example/g01194/spec.l1Seal -/
def d72 : FD := ⟨[.t 2],
 (.seq
  (.ops 0 [⟨(some 2), none, (.p .mv [.c (.str [])])⟩] [0])
  (.seq
   (.ops 4 [⟨(some 3), none, (.p .mv [.t 0])⟩,
     ⟨(some 4), none, (.p (.bin .add .str) [.t 3, .c (.str [35])])⟩,
     ⟨(some 5), none, (.p .mv [.t 0])⟩,
     ⟨(some 6), none, (.call (.c (.fn 85 [] [])) [.t 5] 0 2)⟩,
     ⟨(some 7), none, (.call (.c (.fn 73 [] [])) [.t 6] 2 2)⟩,
     ⟨(some 8), none, (.p (.bin .add .str) [.t 4, .t 7])⟩,
     ⟨(some 2), none, (.p .mv [.t 8])⟩] [2])
   .ret))⟩
theorem t72 : trF Tryd.prog Tryd.f72 [[0], [2]] = some d72 := by kernel_rfl
/-- loop.example/g01194/spec.l1Num -/
def d73 : FD := ⟨[.t 2],
 (.seq
  (.ops 0 [⟨(some 2), none, (.p .mv [.c (.str [])])⟩] [0])
  (.seq
   (.seq
    (.ops 0 [⟨(some 3), none, (.p .mv [.t 0])⟩,
      ⟨(some 4), none, (.p (.bin .lss .int) [.t 3, .c (.int .i64 0)])⟩] [0, 4])
    (.cond (.t 4)
     (.seq
      (.seq
       (.ops 0 [⟨(some 5), none, (.p .mv [.t 0])⟩,
         ⟨(some 6), none, (.p (.bin .gtr .int) [.t 5, .c (.int .i64 (-10))])⟩] [0, 6])
       (.cond (.t 6)
        (.seq
         (.ops 2 [⟨(some 7), none, (.p .mv [.t 0])⟩,
           ⟨(some 8), none, (.p .neg [.t 7])⟩,
           ⟨(some 9), none, (.call (.c (.fn 73 [] [])) [.t 8] 0 2)⟩,
           ⟨(some 10), none, (.p (.bin .add .str) [.c (.str [45]), .t 9])⟩,
           ⟨(some 2), none, (.p .mv [.t 10])⟩] [2])
         .ret)
        .skip))
      (.seq
       (.ops 4 [⟨(some 11), none, (.p .mv [.t 0])⟩,
         ⟨(some 12), none, (.p (.bin .quo .int) [.t 11, .c (.int .i64 10)])⟩,
         ⟨(some 13), none, (.call (.c (.fn 73 [] [])) [.t 12] 0 2)⟩,
         ⟨(some 14), none, (.p .mv [.t 0])⟩,
         ⟨(some 15), none, (.p (.bin .rem .int) [.t 14, .c (.int .i64 10)])⟩,
         ⟨(some 16), none, (.p .neg [.t 15])⟩,
         ⟨(some 17), none, (.call (.c (.fn 73 [] [])) [.t 16] 2 2)⟩,
         ⟨(some 18), none, (.p (.bin .add .str) [.t 13, .t 17])⟩,
         ⟨(some 2), none, (.p .mv [.t 18])⟩] [2])
       .ret))
     .skip))
   (.seq
    (.seq
     (.ops 0 [⟨(some 19), none, (.p .mv [.t 0])⟩,
       ⟨(some 20), none, (.p (.bin .lss .int) [.t 19, .c (.int .i64 10)])⟩] [0, 20])
     (.cond (.t 20)
      (.seq
       (.ops 0 [⟨(some 21), none, (.p .mv [.t 0])⟩,
         ⟨(some 22), none, (.p .mv [.t 0])⟩,
         ⟨(some 23), none, (.p (.bin .add .int) [.t 22, .c (.int .i64 1)])⟩,
         ⟨(some 24), none, (.p (.sliceStr true true) [.c (.str [48, 49, 50, 51, 52, 53, 54, 55, 56, 57]), .t 21, .t 23])⟩,
         ⟨(some 2), none, (.p .mv [.t 24])⟩] [2])
       .ret)
      .skip))
    (.seq
     (.draw 2 [] [⟨(some 25), none, (.p .mv [.t 0])⟩,
       ⟨(some 26), none, (.p (.bin .quo .int) [.t 25, .c (.int .i64 10)])⟩,
       ⟨(some 27), none, (.call (.c (.fn 73 [] [])) [.t 26] 0 2)⟩,
       ⟨(some 28), none, (.p .mv [.t 0])⟩,
       ⟨(some 29), none, (.p (.bin .rem .int) [.t 28, .c (.int .i64 10)])⟩,
       ⟨(some 30), none, (.p .mv [.t 0])⟩,
       ⟨(some 31), none, (.p (.bin .rem .int) [.t 30, .c (.int .i64 10)])⟩,
       ⟨(some 32), none, (.p (.bin .add .int) [.t 31, .c (.int .i64 1)])⟩,
       ⟨(some 33), none, (.p (.sliceStr true true) [.c (.str [48, 49, 50, 51, 52, 53, 54, 55, 56, 57]), .t 29, .t 32])⟩,
       ⟨(some 34), none, (.p (.bin .add .str) [.t 27, .t 33])⟩,
       ⟨(some 2), none, (.p .mv [.t 34])⟩] [2])
     .ret))))⟩
theorem t73 : trF Tryd.prog Tryd.f73 [[0], [0, 4], [0, 6], [2], [2], [0, 20], [2], [2]] = some d73 := by kernel_rfl
/-- loop.example/g01194/spec.l1Split -/
def b74_0 : Cd :=
 (.seq
  (.seq
   (.ops 0 [⟨(some 9), none, (.p .mv [.t 7])⟩,
     ⟨(some 10), none, (.p .mv [.t 0])⟩,
     ⟨(some 11), none, (.p .lenStr [.t 10])⟩,
     ⟨(some 12), none, (.p (.bin .lss .int) [.t 9, .t 11])⟩] [0, 1, 5, 6, 7, 12])
   (.cond (.t 12)
    .skip
    (.exit 0)))
  (.seq
   (.block 1 [0, 1, 5, 6, 7]
    (.seq
     (.ops 0 [⟨(some 15), none, (.p .mv [.t 0])⟩,
       ⟨(some 16), none, (.p .mv [.t 7])⟩,
       ⟨(some 17), none, (.p .indexStr [.t 15, .t 16])⟩,
       ⟨(some 18), none, (.p .mv [.t 1])⟩,
       ⟨(some 19), none, (.p (.bin .eql .int) [.t 17, .t 18])⟩] [0, 1, 5, 6, 7, 19])
     (.cond (.t 19)
      (.seq
       (.ops 2 [⟨(some 20), none, (.p .mv [.t 5])⟩,
         ⟨(some 21), none, (.p .mv [.t 0])⟩,
         ⟨(some 22), none, (.p .mv [.t 6])⟩,
         ⟨(some 23), none, (.p .mv [.t 7])⟩,
         ⟨(some 24), none, (.p (.sliceStr true true) [.t 21, .t 22, .t 23])⟩,
         ⟨(some 25), none, (.m (.buildSlice 9 1 1 [.str []] [(0, 1)]) 0 [.t 24])⟩,
         ⟨(some 26), none, (.m (.append 9 1 16) 1 [.t 20, .t 25])⟩,
         ⟨(some 5), none, (.p .mv [.t 26])⟩] [0, 1, 5, 7])
       (.ops 0 [⟨(some 27), none, (.p .mv [.t 7])⟩,
         ⟨(some 28), none, (.p (.bin .add .int) [.t 27, .c (.int .i64 1)])⟩,
         ⟨(some 6), none, (.p .mv [.t 28])⟩] [0, 1, 5, 6, 7]))
      .skip)))
   (.ops 0 [⟨(some 13), none, (.p .mv [.t 7])⟩,
     ⟨(some 14), none, (.p (.bin .add .int) [.t 13, .c (.int .i64 1)])⟩,
     ⟨(some 7), none, (.p .mv [.t 14])⟩] [0, 1, 5, 6, 7])))
def l74_0 : Cd := .loop [0, 1, 5, 6, 7] b74_0
theorem x74_0 (R : Run) (M : Nat) (t : Tm) (σ : Store) : X R M l74_0 ⟨t, σ⟩ = rnd R M l74_0 [0, 1, 5, 6, 7] b74_0 (norm M (tgs t [0, 1, 5, 6, 7]) σ) := x_loop rfl
def d74 : FD := ⟨[.t 4],
 (.seq
  (.ops 0 [⟨(some 4), none, (.p .mv [.c (.nilsl)])⟩] [0, 1])
  (.seq
   (.ops 1 [⟨(some 8), none, (.m (.buildSlice 9 1 0 [] []) 0 [])⟩,
     ⟨(some 5), none, (.p .mv [.t 8])⟩] [0, 1, 5])
   (.seq
    (.ops 0 [⟨(some 6), none, (.p .mv [.c (.int .i64 0)])⟩] [0, 1, 5, 6])
    (.seq
     (.seq
      (.ops 0 [⟨(some 7), none, (.p .mv [.c (.int .i64 0)])⟩] [0, 1, 5, 6, 7])
      (.block 0 [0, 5, 6]
       l74_0))
     (.seq
      (.ops 2 [⟨(some 29), none, (.p .mv [.t 5])⟩,
        ⟨(some 30), none, (.p .mv [.t 0])⟩,
        ⟨(some 31), none, (.p .mv [.t 6])⟩,
        ⟨(some 32), none, (.p (.sliceStr true false) [.t 30, .t 31])⟩,
        ⟨(some 33), none, (.m (.buildSlice 9 1 1 [.str []] [(0, 1)]) 0 [.t 32])⟩,
        ⟨(some 34), none, (.m (.append 9 1 16) 1 [.t 29, .t 33])⟩,
        ⟨(some 4), none, (.p .mv [.t 34])⟩] [4])
      .ret)))))⟩
theorem t74 : trF Tryd.prog Tryd.f74 [[0, 1], [0, 1, 5], [0, 1, 5, 6], [0, 1, 5, 6, 7], [0, 5, 6], [0, 1, 5, 6, 7], [0, 1, 5, 6, 7, 12], [0, 1, 5, 6, 7], [0, 1, 5, 6, 7, 19], [0, 1, 5, 7], [0, 1, 5, 6, 7], [0, 1, 5, 6, 7], [4]] = some d74 := by kernel_rfl
/-- loop.example/g01194/spec.l12Decode -/
def d75 : FD := ⟨[.cell 4 true 2, .t 5],
 (.seq
  (.ops 1 [⟨(some 4), none, (.m (.alloc [.str [], .str []]) 0 [])⟩,
    ⟨(some 5), none, (.p .mv [.c (.bool false)])⟩] [0, 1, 4])
  (.seq
   (.ops 2 [⟨(some 11), none, (.p .mv [.t 1])⟩,
     ⟨(some 12), none, (.call (.c (.fn 73 [] [])) [.t 11] 0 2)⟩,
     ⟨(some 13), none, (.p (.bin .add .str) [.t 12, .c (.str [32])])⟩,
     ⟨(some 6), none, (.p .mv [.t 13])⟩] [0, 1, 4, 6])
   (.seq
    (.ops 2 [⟨(some 14), none, (.p .mv [.t 0])⟩,
      ⟨(some 15), none, (.call (.c (.fn 74 [] [])) [.t 14, .c (.int .u8 35)] 0 2)⟩,
      ⟨(some 16), none, (.p (.indexSl 1) [.t 15, .c (.int .i64 0)])⟩,
      ⟨(some 17), none, (.m (.load false 1) 0 [.t 16])⟩,
      ⟨(some 7), none, (.p .mv [.t 17])⟩] [0, 1, 4, 6, 7])
    (.seq
     (.seq
      (.ops 0 [⟨(some 18), none, (.p .mv [.t 7])⟩,
        ⟨(some 19), none, (.p .lenStr [.t 18])⟩,
        ⟨(some 20), none, (.p .mv [.t 6])⟩,
        ⟨(some 21), none, (.p .lenStr [.t 20])⟩,
        ⟨(some 22), none, (.p (.bin .lss .int) [.t 19, .t 21])⟩,
        ⟨(some 23), none, (.p .mv [.t 22])⟩,
        ⟨(some 24), (some (23, false)), (.p .mv [.t 7])⟩,
        ⟨(some 25), (some (23, false)), (.p .mv [.t 6])⟩,
        ⟨(some 26), (some (23, false)), (.p .lenStr [.t 25])⟩,
        ⟨(some 27), (some (23, false)), (.p (.sliceStr false true) [.t 24, .t 26])⟩,
        ⟨(some 28), (some (23, false)), (.p .mv [.t 6])⟩,
        ⟨(some 29), (some (23, false)), (.p (.bin .neq .str) [.t 27, .t 28])⟩,
        ⟨(some 30), none, (.p .pick [.t 23, .c (.bool true), .t 29])⟩] [0, 1, 4, 6, 7, 30])
      (.cond (.t 30)
       (.seq
        (.ops 0 [⟨(some 31), none, (.p (.build [.str [], .str []] []) [])⟩,
          ⟨none, none, (.m (.store 2) 0 [.t 4, .t 31])⟩,
          ⟨(some 5), none, (.p .mv [.c (.bool false)])⟩] [4, 5])
        .ret)
       .skip))
     (.seq
      (.ops 0 [⟨(some 32), none, (.p .mv [.t 7])⟩,
        ⟨(some 33), none, (.p .mv [.t 6])⟩,
        ⟨(some 34), none, (.p .lenStr [.t 33])⟩,
        ⟨(some 35), none, (.p (.sliceStr true false) [.t 32, .t 34])⟩,
        ⟨(some 8), none, (.p .mv [.t 35])⟩] [0, 1, 4, 8])
      (.seq
       (.ops 2 [⟨(some 36), none, (.p .mv [.t 8])⟩,
         ⟨(some 37), none, (.call (.c (.fn 74 [] [])) [.t 36, .c (.int .u8 64)] 0 2)⟩,
         ⟨(some 38), none, (.p (.indexSl 1) [.t 37, .c (.int .i64 0)])⟩,
         ⟨(some 39), none, (.m (.load false 1) 0 [.t 38])⟩,
         ⟨(some 9), none, (.p .mv [.t 39])⟩] [0, 1, 4, 8, 9])
       (.seq
        (.seq
         (.ops 0 [⟨(some 40), none, (.p .mv [.t 9])⟩,
           ⟨(some 41), none, (.p .lenStr [.t 40])⟩,
           ⟨(some 42), none, (.p .mv [.t 8])⟩,
           ⟨(some 43), none, (.p .lenStr [.t 42])⟩,
           ⟨(some 44), none, (.p (.bin .eql .int) [.t 41, .t 43])⟩] [0, 1, 4, 8, 9, 44])
         (.cond (.t 44)
          (.seq
           (.ops 0 [⟨(some 45), none, (.p (.build [.str [], .str []] []) [])⟩,
             ⟨none, none, (.m (.store 2) 0 [.t 4, .t 45])⟩,
             ⟨(some 5), none, (.p .mv [.c (.bool false)])⟩] [4, 5])
           .ret)
          .skip))
        (.seq
         (.ops 1 [⟨(some 46), none, (.p .mv [.t 9])⟩,
           ⟨(some 47), none, (.p .mv [.t 8])⟩,
           ⟨(some 48), none, (.p .mv [.t 9])⟩,
           ⟨(some 49), none, (.p .lenStr [.t 48])⟩,
           ⟨(some 50), none, (.p (.bin .add .int) [.t 49, .c (.int .i64 1)])⟩,
           ⟨(some 51), none, (.p (.sliceStr true false) [.t 47, .t 50])⟩,
           ⟨(some 52), none, (.p (.build [.str [], .str []] [(0, 1), (1, 1)]) [.t 46, .t 51])⟩,
           ⟨(some 10), none, (.m (.alloc [.str [], .str []]) 0 [])⟩,
           ⟨none, none, (.m (.store 2) 0 [.t 10, .t 52])⟩] [0, 1, 4, 10])
         (.seq
          (.draw 4 [(0, 2), (0, 6)] [⟨(some 53), none, (.m (.load true 2) 0 [.t 10])⟩,
            ⟨(some 54), none, (.m (.load true 2) 0 [.t 10])⟩,
            ⟨(some 55), none, (.call (.c (.fn 47 [] [])) [.t 54] 0 2)⟩,
            ⟨(some 56), none, (.p .mv [.t 55])⟩,
            ⟨(some 57), (some (56, true)), (.p .mv [.t 1])⟩,
            ⟨(some 58), (some (56, true)), (.m (.load true 2) 0 [.t 10])⟩,
            ⟨(some 59), (some (56, true)), (.call (.c (.fn 48 [] [])) [.t 57, .t 58] 2 2)⟩,
            ⟨(some 60), (some (56, true)), (.p .mv [.t 0])⟩,
            ⟨(some 61), (some (56, true)), (.p (.bin .add .str) [.t 60, .c (.str [10])])⟩,
            ⟨(some 62), (some (56, true)), (.p (.bin .eql .str) [.t 59, .t 61])⟩,
            ⟨(some 63), none, (.p .pick [.t 56, .t 62, .c (.bool false)])⟩,
            ⟨none, none, (.m (.store 2) 0 [.t 4, .t 53])⟩,
            ⟨(some 5), none, (.p .mv [.t 63])⟩] [4, 5])
          .ret)))))))))⟩
theorem t75 : trF Tryd.prog Tryd.f75 [[0, 1, 4], [0, 1, 4, 6], [0, 1, 4, 6, 7], [0, 1, 4, 6, 7, 30], [4, 5], [0, 1, 4, 8], [0, 1, 4, 8, 9], [0, 1, 4, 8, 9, 44], [4, 5], [0, 1, 4, 10], [4, 5]] = some d75 := by kernel_rfl
/-- loop.example/g01194/spec.l2Board -/
def b76_0 : Cd :=
 (.seq
  (.seq
   (.ops 0 [⟨(some 9), none, (.p .mv [.t 4])⟩,
     ⟨(some 10), none, (.p (.bin .lss .int) [.t 9, .c (.int .i64 4)])⟩] [1, 3, 4, 10])
   (.cond (.t 10)
    .skip
    (.exit 2)))
  (.seq
   (.block 3 [1, 3, 4]
    (.seq
     (.ops 2 [⟨(some 13), none, (.p .mv [.t 3])⟩,
       ⟨(some 14), none, (.p .mv [.t 4])⟩,
       ⟨(some 15), none, (.p (.fieldAddr 0) [.t 1])⟩,
       ⟨(some 16), none, (.p (.indexArr 4 4) [.t 15, .t 13])⟩,
       ⟨(some 17), none, (.p (.indexArr 4 1) [.t 16, .t 14])⟩,
       ⟨(some 18), none, (.m (.load false 1) 0 [.t 17])⟩,
       ⟨(some 19), none, (.call (.c (.fn 61 [] [])) [.t 18, .c (.int .i64 0), .c (.int .i64 17)] 0 2)⟩,
       ⟨(some 20), none, (.p .not [.t 19])⟩] [1, 3, 4, 20])
     (.cond (.t 20)
      (.seq
       (.ops 0 [⟨(some 2), none, (.p .mv [.c (.bool false)])⟩] [2])
       .ret)
      .skip)))
   (.ops 0 [⟨(some 11), none, (.p .mv [.t 4])⟩,
     ⟨(some 12), none, (.p (.bin .add .int) [.t 11, .c (.int .i64 1)])⟩,
     ⟨(some 4), none, (.p .mv [.t 12])⟩] [1, 3, 4])))
def l76_0 : Cd := .loop [1, 3, 4] b76_0
theorem x76_0 (R : Run) (M : Nat) (t : Tm) (σ : Store) : X R M l76_0 ⟨t, σ⟩ = rnd R M l76_0 [1, 3, 4] b76_0 (norm M (tgs t [1, 3, 4]) σ) := x_loop rfl
def b76_1 : Cd :=
 (.seq
  (.seq
   (.ops 0 [⟨(some 5), none, (.p .mv [.t 3])⟩,
     ⟨(some 6), none, (.p (.bin .lss .int) [.t 5, .c (.int .i64 4)])⟩] [1, 3, 6])
   (.cond (.t 6)
    .skip
    (.exit 0)))
  (.seq
   (.block 1 [1, 3]
    (.seq
     (.ops 0 [⟨(some 4), none, (.p .mv [.c (.int .i64 0)])⟩] [1, 3, 4])
     (.block 2 [1, 3]
      l76_0)))
   (.ops 0 [⟨(some 7), none, (.p .mv [.t 3])⟩,
     ⟨(some 8), none, (.p (.bin .add .int) [.t 7, .c (.int .i64 1)])⟩,
     ⟨(some 3), none, (.p .mv [.t 8])⟩] [1, 3])))
def l76_1 : Cd := .loop [1, 3] b76_1
theorem x76_1 (R : Run) (M : Nat) (t : Tm) (σ : Store) : X R M l76_1 ⟨t, σ⟩ = rnd R M l76_1 [1, 3] b76_1 (norm M (tgs t [1, 3]) σ) := x_loop rfl
def d76 : FD := ⟨[.t 2],
 (.seq
  (.ops 1 [⟨(some 1), none, (.m .box 0 [.t 0])⟩,
    ⟨(some 2), none, (.p .mv [.c (.bool false)])⟩] [1])
  (.seq
   (.seq
    (.ops 0 [⟨(some 3), none, (.p .mv [.c (.int .i64 0)])⟩] [1, 3])
    (.block 0 []
     l76_1))
   (.seq
    (.ops 0 [⟨(some 2), none, (.p .mv [.c (.bool true)])⟩] [2])
    .ret)))⟩
theorem t76 : trF Tryd.prog Tryd.f76 [[1], [1, 3], [], [1, 3], [1, 3, 6], [1, 3], [1, 3, 4], [1, 3], [1, 3, 4], [1, 3, 4, 10], [1, 3, 4], [1, 3, 4, 20], [2], [1, 3, 4], [1, 3], [2]] = some d76 := by kernel_rfl
/-- loop.example/g01194/laws.toBoard -/
def d77 : FD := ⟨[.cell 2 true 16],
 (.seq
  (.ops 2 [⟨(some 1), none, (.m .box 0 [.t 0])⟩,
    ⟨(some 2), none, (.m (.alloc [.int .i64 0, .int .i64 0, .int .i64 0, .int .i64 0, .int .i64 0, .int .i64 0, .int .i64 0, .int .i64 0, .int .i64 0, .int .i64 0, .int .i64 0, .int .i64 0, .int .i64 0, .int .i64 0, .int .i64 0, .int .i64 0]) 1 [])⟩] [1, 2])
  (.seq
   (.ops 1 [⟨(some 3), none, (.m (.alloc [.int .i64 0, .int .i64 0, .int .i64 0, .int .i64 0, .int .i64 0, .int .i64 0, .int .i64 0, .int .i64 0, .int .i64 0, .int .i64 0, .int .i64 0, .int .i64 0, .int .i64 0, .int .i64 0, .int .i64 0, .int .i64 0]) 0 [])⟩] [1, 2, 3])
   (.seq
    (.ops 2 [⟨(some 4), none, (.p (.fieldAddr 0) [.t 1])⟩,
      ⟨(some 5), none, (.m (.load true 16) 0 [.t 4])⟩,
      ⟨(some 6), none, (.call (.c (.fn 86 [] [])) [.t 5] 0 2)⟩,
      ⟨(some 7), none, (.p (.fieldAddr 0) [.t 3])⟩,
      ⟨none, none, (.m (.store 16) 0 [.t 7, .t 6])⟩] [2, 3])
    (.seq
     (.ops 0 [⟨(some 8), none, (.m (.load true 16) 0 [.t 3])⟩,
       ⟨none, none, (.m (.store 16) 0 [.t 2, .t 8])⟩] [2])
     .ret))))⟩
theorem t77 : trF Tryd.prog Tryd.f77 [[1, 2], [1, 2, 3], [2, 3], [2]] = some d77 := by kernel_rfl
/-- loop.example/g01194/impl.IsBoard -/
def d78 : FD := ⟨[.t 2],
 (.seq
  (.ops 1 [⟨(some 1), none, (.m .box 0 [.t 0])⟩,
    ⟨(some 2), none, (.p .mv [.c (.bool false)])⟩] [1])
  (.seq
   (.ops 2 [⟨(some 3), none, (.p (.fieldAddr 0) [.t 1])⟩,
     ⟨(some 4), none, (.p (.sliceArr 4 4 false false) [.t 3])⟩,
     ⟨(some 5), none, (.call (.c (.fn 87 [] [])) [.t 4, .c (.fn 88 [] [])] 0 2)⟩,
     ⟨(some 6), none, (.p .not [.t 5])⟩,
     ⟨(some 2), none, (.p .mv [.t 6])⟩] [2])
   .ret))⟩
theorem t78 : trF Tryd.prog Tryd.f78 [[1], [2]] = some d78 := by kernel_rfl
/-- (*loop.example/g01194/spec.l1Cur).of -/
def d79 : FD := ⟨[.t 4],
 (.seq
  (.ops 0 [⟨(some 4), none, (.p .mv [.c (.str [])])⟩] [0, 1])
  (.seq
   (.ops 2 [⟨(some 5), none, (.p .mv [.t 1])⟩,
     ⟨(some 6), none, (.p .mv [.t 0])⟩,
     ⟨(some 7), none, (.p .mv [.t 1])⟩,
     ⟨(some 8), none, (.p .lenSl [.t 7])⟩,
     ⟨(some 9), none, (.call (.c (.fn 64 [] [])) [.t 6, .t 8] 0 2)⟩,
     ⟨(some 10), none, (.p (.indexSl 1) [.t 5, .t 9])⟩,
     ⟨(some 11), none, (.m (.load false 1) 0 [.t 10])⟩,
     ⟨(some 4), none, (.p .mv [.t 11])⟩] [4])
   .ret))⟩
theorem t79 : trF Tryd.prog Tryd.f79 [[0, 1], [4]] = some d79 := by kernel_rfl
/-- loop.example/g01194/impl.Checksum -/
def b80_0 : Cd :=
 (.seq
  (.ops 0 [⟨(some 12), none, (.p (.bin .lss .int) [.t 11, .t 10])⟩] [0, 4, 10, 11, 12])
  (.seq
   (.cond (.t 12)
    .skip
    (.exit 0))
   (.seq
    (.block 1 [0, 4, 10, 11]
     (.seq
      (.ops 0 [⟨(some 13), none, (.p .mv [.t 11])⟩,
        ⟨(some 5), none, (.p .mv [.t 13])⟩] [0, 4, 5, 10, 11])
      (.ops 0 [⟨(some 14), none, (.p .mv [.t 4])⟩,
        ⟨(some 15), none, (.p (.bin .mul .int) [.c (.int .i64 41), .t 14])⟩,
        ⟨(some 16), none, (.p .mv [.t 0])⟩,
        ⟨(some 17), none, (.p .mv [.t 5])⟩,
        ⟨(some 18), none, (.p .indexStr [.t 16, .t 17])⟩,
        ⟨(some 19), none, (.p (.convInt .i64) [.t 18])⟩,
        ⟨(some 20), none, (.p (.bin .add .int) [.t 15, .t 19])⟩,
        ⟨(some 21), none, (.p (.bin .add .int) [.t 20, .c (.int .i64 1)])⟩,
        ⟨(some 22), none, (.p (.bin .rem .int) [.t 21, .c (.int .i64 999979)])⟩,
        ⟨(some 4), none, (.p .mv [.t 22])⟩] [0, 4, 10, 11])))
    (.ops 0 [⟨(some 23), none, (.p (.bin .add .int) [.t 11, .c (.int .i64 1)])⟩,
      ⟨(some 11), none, (.p .mv [.t 23])⟩] [0, 4, 10, 11]))))
def l80_0 : Cd := .loop [0, 4, 10, 11] b80_0
theorem x80_0 (R : Run) (M : Nat) (t : Tm) (σ : Store) : X R M l80_0 ⟨t, σ⟩ = rnd R M l80_0 [0, 4, 10, 11] b80_0 (norm M (tgs t [0, 4, 10, 11]) σ) := x_loop rfl
def d80 : FD := ⟨[.t 2, .t 3],
 (.seq
  (.ops 0 [⟨(some 2), none, (.p .mv [.c (.int .i64 0)])⟩,
    ⟨(some 3), none, (.p .mv [.c (.bool false)])⟩] [0])
  (.seq
   (.seq
    (.ops 0 [⟨(some 6), none, (.p .mv [.t 0])⟩,
      ⟨(some 7), none, (.p .lenStr [.t 6])⟩,
      ⟨(some 8), none, (.p (.bin .gtr .int) [.t 7, .c (.int .i64 4000)])⟩] [0, 8])
    (.cond (.t 8)
     (.seq
      (.ops 0 [⟨(some 2), none, (.p .mv [.c (.int .i64 0)])⟩,
        ⟨(some 3), none, (.p .mv [.c (.bool false)])⟩] [2, 3])
      .ret)
     .skip))
   (.seq
    (.ops 0 [⟨(some 4), none, (.p .mv [.c (.int .i64 7)])⟩] [0, 4])
    (.seq
     (.seq
      (.ops 0 [⟨(some 9), none, (.p .mv [.t 0])⟩,
        ⟨(some 10), none, (.p .lenStr [.t 9])⟩,
        ⟨(some 11), none, (.p .mv [.c (.int .i64 0)])⟩] [0, 4, 10, 11])
      (.block 0 [4]
       l80_0))
     (.seq
      (.ops 0 [⟨(some 24), none, (.p .mv [.t 4])⟩,
        ⟨(some 2), none, (.p .mv [.t 24])⟩,
        ⟨(some 3), none, (.p .mv [.c (.bool true)])⟩] [2, 3])
      .ret)))))⟩
theorem t80 : trF Tryd.prog Tryd.f80 [[0], [0, 8], [2, 3], [0, 4], [0, 4, 10, 11], [4], [0, 4, 10, 11], [0, 4, 10, 11, 12], [0, 4, 10, 11], [0, 4, 5, 10, 11], [0, 4, 10, 11], [0, 4, 10, 11], [2, 3]] = some d80 := by kernel_rfl
/-- (*loop.example/g01194/spec.l1Cur).next -/
def d83 : FD := ⟨[.t 2],
 (.seq
  (.ops 0 [⟨(some 2), none, (.p .mv [.c (.int .i64 0)])⟩] [0])
  (.seq
   (.ops 0 [⟨(some 3), none, (.p .mv [.c (.int .i64 0)])⟩] [0, 3])
   (.seq
    (.seq
     (.draw 0 [] [⟨(some 4), none, (.p .mv [.t 0])⟩,
       ⟨(some 5), none, (.p .nilCheck [.t 4])⟩,
       ⟨(some 6), none, (.p (.fieldAddr 1) [.t 5])⟩,
       ⟨(some 7), none, (.m (.load false 1) 0 [.t 6])⟩,
       ⟨(some 8), none, (.p .mv [.t 0])⟩,
       ⟨(some 9), none, (.p .nilCheck [.t 8])⟩,
       ⟨(some 10), none, (.p (.fieldAddr 0) [.t 9])⟩,
       ⟨(some 11), none, (.m (.load false 1) 0 [.t 10])⟩,
       ⟨(some 12), none, (.p .lenSl [.t 11])⟩,
       ⟨(some 13), none, (.p (.bin .lss .int) [.t 7, .t 12])⟩] [0, 3, 13])
     (.cond (.t 13)
      (.draw 0 [] [⟨(some 14), none, (.p .mv [.t 0])⟩,
        ⟨(some 15), none, (.p .nilCheck [.t 14])⟩,
        ⟨(some 16), none, (.p (.fieldAddr 0) [.t 15])⟩,
        ⟨(some 17), none, (.m (.load false 1) 0 [.t 16])⟩,
        ⟨(some 18), none, (.p .mv [.t 0])⟩,
        ⟨(some 19), none, (.p .nilCheck [.t 18])⟩,
        ⟨(some 20), none, (.p (.fieldAddr 1) [.t 19])⟩,
        ⟨(some 21), none, (.m (.load false 1) 0 [.t 20])⟩,
        ⟨(some 22), none, (.p (.indexSl 1) [.t 17, .t 21])⟩,
        ⟨(some 23), none, (.m (.load false 1) 0 [.t 22])⟩,
        ⟨(some 24), none, (.p (.convInt .i64) [.t 23])⟩,
        ⟨(some 3), none, (.p .mv [.t 24])⟩] [0, 3])
      .skip))
    (.seq
     (.ops 0 [⟨(some 25), none, (.p .mv [.t 0])⟩,
       ⟨(some 26), none, (.p .nilCheck [.t 25])⟩,
       ⟨(some 27), none, (.p (.fieldAddr 1) [.t 26])⟩,
       ⟨(some 28), none, (.m (.load false 1) 0 [.t 27])⟩,
       ⟨(some 29), none, (.p (.bin .add .int) [.t 28, .c (.int .i64 1)])⟩,
       ⟨(some 30), none, (.p .nilCheck [.t 25])⟩,
       ⟨(some 31), none, (.p (.fieldAddr 1) [.t 30])⟩,
       ⟨none, none, (.m (.store 1) 0 [.t 31, .t 29])⟩] [0, 3])
     (.seq
      (.ops 0 [⟨(some 32), none, (.p .mv [.t 0])⟩,
        ⟨(some 33), none, (.p .mv [.t 0])⟩,
        ⟨(some 34), none, (.p .nilCheck [.t 33])⟩,
        ⟨(some 35), none, (.p (.fieldAddr 2) [.t 34])⟩,
        ⟨(some 36), none, (.m (.load false 1) 0 [.t 35])⟩,
        ⟨(some 37), none, (.p (.bin .mul .int) [.t 36, .c (.int .u64 6364136223846793005)])⟩,
        ⟨(some 38), none, (.p .mv [.t 3])⟩,
        ⟨(some 39), none, (.p (.convInt .u64) [.t 38])⟩,
        ⟨(some 40), none, (.p (.bin .add .int) [.t 37, .t 39])⟩,
        ⟨(some 41), none, (.p (.bin .add .int) [.t 40, .c (.int .u64 462197)])⟩,
        ⟨(some 42), none, (.p .nilCheck [.t 32])⟩,
        ⟨(some 43), none, (.p (.fieldAddr 2) [.t 42])⟩,
        ⟨none, none, (.m (.store 1) 0 [.t 43, .t 41])⟩] [0, 3])
      (.seq
       (.seq
        (.draw 0 [] [⟨(some 44), none, (.p .mv [.t 0])⟩,
          ⟨(some 45), none, (.p .nilCheck [.t 44])⟩,
          ⟨(some 46), none, (.p (.fieldAddr 1) [.t 45])⟩,
          ⟨(some 47), none, (.m (.load false 1) 0 [.t 46])⟩,
          ⟨(some 48), none, (.p .mv [.t 0])⟩,
          ⟨(some 49), none, (.p .nilCheck [.t 48])⟩,
          ⟨(some 50), none, (.p (.fieldAddr 0) [.t 49])⟩,
          ⟨(some 51), none, (.m (.load false 1) 0 [.t 50])⟩,
          ⟨(some 52), none, (.p .lenSl [.t 51])⟩,
          ⟨(some 53), none, (.p (.bin .leq .int) [.t 47, .t 52])⟩] [0, 3, 53])
        (.cond (.t 53)
         (.seq
          (.ops 0 [⟨(some 54), none, (.p .mv [.t 3])⟩,
            ⟨(some 2), none, (.p .mv [.t 54])⟩] [2])
          .ret)
         .skip))
       (.seq
        (.ops 0 [⟨(some 55), none, (.p .mv [.t 0])⟩,
          ⟨(some 56), none, (.p .nilCheck [.t 55])⟩,
          ⟨(some 57), none, (.p (.fieldAddr 2) [.t 56])⟩,
          ⟨(some 58), none, (.m (.load false 1) 0 [.t 57])⟩,
          ⟨(some 59), none, (.p (.bin .shr .int) [.t 58, .c (.int .u64 40)])⟩,
          ⟨(some 60), none, (.p (.bin .and .int) [.t 59, .c (.int .u64 255)])⟩,
          ⟨(some 61), none, (.p (.convInt .i64) [.t 60])⟩,
          ⟨(some 2), none, (.p .mv [.t 61])⟩] [2])
        .ret)))))))⟩
theorem t83 : trF Tryd.prog Tryd.f83 [[0], [0, 3], [0, 3, 13], [0, 3], [0, 3], [0, 3], [0, 3, 53], [2], [2]] = some d83 := by kernel_rfl
/-- strings.Cut -/
def d84 : FD := ⟨[.t 4, .t 5, .t 6],
 (.seq
  (.ops 0 [⟨(some 4), none, (.p .mv [.c (.str [])])⟩,
    ⟨(some 5), none, (.p .mv [.c (.str [])])⟩,
    ⟨(some 6), none, (.p .mv [.c (.bool false)])⟩] [0, 1])
  (.seq
   (.ops 2 [⟨(some 7), none, (.p .mv [.t 0])⟩,
     ⟨(some 8), none, (.p .mv [.t 1])⟩,
     ⟨(some 9), none, (.call (.c (.fn 92 [] [])) [.t 7, .t 8] 0 2)⟩,
     ⟨(some 10), none, (.p (.extract 0) [.t 9])⟩,
     ⟨(some 11), none, (.p (.extract 1) [.t 9])⟩,
     ⟨(some 12), none, (.p (.extract 2) [.t 9])⟩,
     ⟨(some 4), none, (.p .mv [.t 10])⟩,
     ⟨(some 5), none, (.p .mv [.t 11])⟩,
     ⟨(some 6), none, (.p .mv [.t 12])⟩] [4, 5, 6])
   .ret))⟩
theorem t84 : trF Tryd.prog Tryd.f84 [[0, 1], [4, 5, 6]] = some d84 := by kernel_rfl
/-- loop.example/g01194/spec.l1Sum -/
def b85_0 : Cd :=
 (.seq
  (.seq
   (.ops 0 [⟨(some 5), none, (.p .mv [.t 4])⟩,
     ⟨(some 6), none, (.p .mv [.t 0])⟩,
     ⟨(some 7), none, (.p .lenStr [.t 6])⟩,
     ⟨(some 8), none, (.p (.bin .lss .int) [.t 5, .t 7])⟩] [0, 3, 4, 8])
   (.cond (.t 8)
    .skip
    (.exit 0)))
  (.seq
   (.block 1 [0, 3, 4]
    (.ops 0 [⟨(some 11), none, (.p .mv [.t 3])⟩,
      ⟨(some 12), none, (.p (.bin .mul .int) [.c (.int .i64 41), .t 11])⟩,
      ⟨(some 13), none, (.p .mv [.t 0])⟩,
      ⟨(some 14), none, (.p .mv [.t 4])⟩,
      ⟨(some 15), none, (.p .indexStr [.t 13, .t 14])⟩,
      ⟨(some 16), none, (.p (.convInt .i64) [.t 15])⟩,
      ⟨(some 17), none, (.p (.bin .add .int) [.t 12, .t 16])⟩,
      ⟨(some 18), none, (.p (.bin .add .int) [.t 17, .c (.int .i64 1)])⟩,
      ⟨(some 19), none, (.p (.bin .rem .int) [.t 18, .c (.int .i64 999979)])⟩,
      ⟨(some 3), none, (.p .mv [.t 19])⟩] [0, 3, 4]))
   (.ops 0 [⟨(some 9), none, (.p .mv [.t 4])⟩,
     ⟨(some 10), none, (.p (.bin .add .int) [.t 9, .c (.int .i64 1)])⟩,
     ⟨(some 4), none, (.p .mv [.t 10])⟩] [0, 3, 4])))
def l85_0 : Cd := .loop [0, 3, 4] b85_0
theorem x85_0 (R : Run) (M : Nat) (t : Tm) (σ : Store) : X R M l85_0 ⟨t, σ⟩ = rnd R M l85_0 [0, 3, 4] b85_0 (norm M (tgs t [0, 3, 4]) σ) := x_loop rfl
def d85 : FD := ⟨[.t 2],
 (.seq
  (.ops 0 [⟨(some 2), none, (.p .mv [.c (.int .i64 0)])⟩] [0])
  (.seq
   (.ops 0 [⟨(some 3), none, (.p .mv [.c (.int .i64 7)])⟩] [0, 3])
   (.seq
    (.seq
     (.ops 0 [⟨(some 4), none, (.p .mv [.c (.int .i64 0)])⟩] [0, 3, 4])
     (.block 0 [3]
      l85_0))
    (.seq
     (.ops 0 [⟨(some 20), none, (.p .mv [.t 3])⟩,
       ⟨(some 2), none, (.p .mv [.t 20])⟩] [2])
     .ret))))⟩
theorem t85 : trF Tryd.prog Tryd.f85 [[0], [0, 3], [0, 3, 4], [3], [0, 3, 4], [0, 3, 4, 8], [0, 3, 4], [0, 3, 4], [0, 3, 4], [2]] = some d85 := by kernel_rfl
/-- loop.example/g01194/laws.toIntA4A4 -/
def b86_0 : Cd :=
 (.seq
  (.seq
   (.ops 0 [⟨(some 5), none, (.p .mv [.t 4])⟩,
     ⟨(some 6), none, (.p (.bin .lss .int) [.t 5, .c (.int .i64 4)])⟩] [1, 2, 3, 4, 6])
   (.cond (.t 6)
    .skip
    (.exit 0)))
  (.seq
   (.block 1 [1, 2, 3, 4]
    (.ops 2 [⟨(some 9), none, (.p .mv [.t 4])⟩,
      ⟨(some 10), none, (.p .mv [.t 4])⟩,
      ⟨(some 11), none, (.p (.indexArr 4 4) [.t 1, .t 10])⟩,
      ⟨(some 12), none, (.m (.load true 4) 0 [.t 11])⟩,
      ⟨(some 13), none, (.call (.c (.fn 93 [] [])) [.t 12] 0 2)⟩,
      ⟨(some 14), none, (.p (.indexArr 4 4) [.t 3, .t 9])⟩,
      ⟨none, none, (.m (.store 4) 0 [.t 14, .t 13])⟩] [1, 2, 3, 4]))
   (.ops 0 [⟨(some 7), none, (.p .mv [.t 4])⟩,
     ⟨(some 8), none, (.p (.bin .add .int) [.t 7, .c (.int .i64 1)])⟩,
     ⟨(some 4), none, (.p .mv [.t 8])⟩] [1, 2, 3, 4])))
def l86_0 : Cd := .loop [1, 2, 3, 4] b86_0
theorem x86_0 (R : Run) (M : Nat) (t : Tm) (σ : Store) : X R M l86_0 ⟨t, σ⟩ = rnd R M l86_0 [1, 2, 3, 4] b86_0 (norm M (tgs t [1, 2, 3, 4]) σ) := x_loop rfl
def d86 : FD := ⟨[.cell 2 true 16],
 (.seq
  (.ops 2 [⟨(some 1), none, (.m .box 0 [.t 0])⟩,
    ⟨(some 2), none, (.m (.alloc [.int .i64 0, .int .i64 0, .int .i64 0, .int .i64 0, .int .i64 0, .int .i64 0, .int .i64 0, .int .i64 0, .int .i64 0, .int .i64 0, .int .i64 0, .int .i64 0, .int .i64 0, .int .i64 0, .int .i64 0, .int .i64 0]) 1 [])⟩] [1, 2])
  (.seq
   (.ops 1 [⟨(some 3), none, (.m (.alloc [.int .i64 0, .int .i64 0, .int .i64 0, .int .i64 0, .int .i64 0, .int .i64 0, .int .i64 0, .int .i64 0, .int .i64 0, .int .i64 0, .int .i64 0, .int .i64 0, .int .i64 0, .int .i64 0, .int .i64 0, .int .i64 0]) 0 [])⟩] [1, 2, 3])
   (.seq
    (.seq
     (.ops 0 [⟨(some 4), none, (.p .mv [.c (.int .i64 0)])⟩] [1, 2, 3, 4])
     (.block 0 [2, 3]
      l86_0))
    (.seq
     (.ops 0 [⟨(some 15), none, (.m (.load true 16) 0 [.t 3])⟩,
       ⟨none, none, (.m (.store 16) 0 [.t 2, .t 15])⟩] [2])
     .ret))))⟩
theorem t86 : trF Tryd.prog Tryd.f86 [[1, 2], [1, 2, 3], [1, 2, 3, 4], [2, 3], [1, 2, 3, 4], [1, 2, 3, 4, 6], [1, 2, 3, 4], [1, 2, 3, 4], [1, 2, 3, 4], [2]] = some d86 := by kernel_rfl
/-- slices.ContainsFunc[[][4]int,[4]int] -/
def d87 : FD := ⟨[.t 4],
 (.seq
  (.ops 0 [⟨(some 4), none, (.p .mv [.c (.bool false)])⟩] [0, 1])
  (.seq
   (.ops 2 [⟨(some 5), none, (.p .mv [.t 0])⟩,
     ⟨(some 6), none, (.p .mv [.t 1])⟩,
     ⟨(some 7), none, (.call (.c (.fn 94 [] [])) [.t 5, .t 6] 0 2)⟩,
     ⟨(some 8), none, (.p (.bin .geq .int) [.t 7, .c (.int .i64 0)])⟩,
     ⟨(some 4), none, (.p .mv [.t 8])⟩] [4])
   .ret))⟩
theorem t87 : trF Tryd.prog Tryd.f87 [[0, 1], [4]] = some d87 := by kernel_rfl
/-- loop.example/g01194/impl.IsBoard$1 -/
def d88 : FD := ⟨[.t 2],
 (.seq
  (.ops 1 [⟨(some 1), none, (.m .box 0 [.t 0])⟩,
    ⟨(some 2), none, (.p .mv [.c (.bool false)])⟩] [1])
  (.seq
   (.ops 2 [⟨(some 3), none, (.m (.load true 4) 0 [.t 1])⟩,
     ⟨(some 4), none, (.call (.c (.fn 89 [] [])) [.t 3] 0 2)⟩,
     ⟨(some 5), none, (.p .not [.t 4])⟩,
     ⟨(some 2), none, (.p .mv [.t 5])⟩] [2])
   .ret))⟩
theorem t88 : trF Tryd.prog Tryd.f88 [[1], [2]] = some d88 := by kernel_rfl
/-- loop.example/g01194/impl.IsRow -/
def d89 : FD := ⟨[.t 2],
 (.seq
  (.ops 1 [⟨(some 1), none, (.m .box 0 [.t 0])⟩,
    ⟨(some 2), none, (.p .mv [.c (.bool false)])⟩] [1])
  (.seq
   (.ops 2 [⟨(some 3), none, (.p (.sliceArr 4 1 false false) [.t 1])⟩,
     ⟨(some 4), none, (.call (.c (.fn 95 [] [])) [.t 3, .c (.fn 96 [] [])] 0 2)⟩,
     ⟨(some 5), none, (.p .not [.t 4])⟩,
     ⟨(some 2), none, (.p .mv [.t 5])⟩] [2])
   .ret))⟩
theorem t89 : trF Tryd.prog Tryd.f89 [[1], [2]] = some d89 := by kernel_rfl
/-- internal/stringslite.Cut -/
def d92 : FD := ⟨[.t 4, .t 5, .t 6],
 (.seq
  (.ops 0 [⟨(some 4), none, (.p .mv [.c (.str [])])⟩,
    ⟨(some 5), none, (.p .mv [.c (.str [])])⟩,
    ⟨(some 6), none, (.p .mv [.c (.bool false)])⟩] [0, 1])
  (.seq
   (.seq
    (.ops 2 [⟨(some 8), none, (.p .mv [.t 0])⟩,
      ⟨(some 9), none, (.p .mv [.t 1])⟩,
      ⟨(some 10), none, (.call (.c (.fn 97 [] [])) [.t 8, .t 9] 0 2)⟩,
      ⟨(some 7), none, (.p .mv [.t 10])⟩] [0, 1, 7])
    (.seq
     (.ops 0 [⟨(some 11), none, (.p .mv [.t 7])⟩,
       ⟨(some 12), none, (.p (.bin .geq .int) [.t 11, .c (.int .i64 0)])⟩] [0, 1, 7, 12])
     (.cond (.t 12)
      (.seq
       (.draw 0 [] [⟨(some 13), none, (.p .mv [.t 0])⟩,
         ⟨(some 14), none, (.p .mv [.t 7])⟩,
         ⟨(some 15), none, (.p (.sliceStr false true) [.t 13, .t 14])⟩,
         ⟨(some 16), none, (.p .mv [.t 0])⟩,
         ⟨(some 17), none, (.p .mv [.t 7])⟩,
         ⟨(some 18), none, (.p .mv [.t 1])⟩,
         ⟨(some 19), none, (.p .lenStr [.t 18])⟩,
         ⟨(some 20), none, (.p (.bin .add .int) [.t 17, .t 19])⟩,
         ⟨(some 21), none, (.p (.sliceStr true false) [.t 16, .t 20])⟩,
         ⟨(some 4), none, (.p .mv [.t 15])⟩,
         ⟨(some 5), none, (.p .mv [.t 21])⟩,
         ⟨(some 6), none, (.p .mv [.c (.bool true)])⟩] [4, 5, 6])
       .ret)
      .skip)))
   (.seq
    (.ops 0 [⟨(some 22), none, (.p .mv [.t 0])⟩,
      ⟨(some 4), none, (.p .mv [.t 22])⟩,
      ⟨(some 5), none, (.p .mv [.c (.str [])])⟩,
      ⟨(some 6), none, (.p .mv [.c (.bool false)])⟩] [4, 5, 6])
    .ret)))⟩
theorem t92 : trF Tryd.prog Tryd.f92 [[0, 1], [0, 1, 7], [0, 1, 7, 12], [4, 5, 6], [4, 5, 6]] = some d92 := by kernel_rfl
/-- loop.example/g01194/laws.toIntA4 -/
def b93_0 : Cd :=
 (.seq
  (.seq
   (.ops 0 [⟨(some 5), none, (.p .mv [.t 4])⟩,
     ⟨(some 6), none, (.p (.bin .lss .int) [.t 5, .c (.int .i64 4)])⟩] [1, 2, 3, 4, 6])
   (.cond (.t 6)
    .skip
    (.exit 0)))
  (.seq
   (.block 1 [1, 2, 3, 4]
    (.ops 0 [⟨(some 9), none, (.p .mv [.t 4])⟩,
      ⟨(some 10), none, (.p .mv [.t 4])⟩,
      ⟨(some 11), none, (.p (.indexArr 4 1) [.t 1, .t 10])⟩,
      ⟨(some 12), none, (.m (.load false 1) 0 [.t 11])⟩,
      ⟨(some 13), none, (.p (.indexArr 4 1) [.t 3, .t 9])⟩,
      ⟨none, none, (.m (.store 1) 0 [.t 13, .t 12])⟩] [1, 2, 3, 4]))
   (.ops 0 [⟨(some 7), none, (.p .mv [.t 4])⟩,
     ⟨(some 8), none, (.p (.bin .add .int) [.t 7, .c (.int .i64 1)])⟩,
     ⟨(some 4), none, (.p .mv [.t 8])⟩] [1, 2, 3, 4])))
def l93_0 : Cd := .loop [1, 2, 3, 4] b93_0
theorem x93_0 (R : Run) (M : Nat) (t : Tm) (σ : Store) : X R M l93_0 ⟨t, σ⟩ = rnd R M l93_0 [1, 2, 3, 4] b93_0 (norm M (tgs t [1, 2, 3, 4]) σ) := x_loop rfl
def d93 : FD := ⟨[.cell 2 true 4],
 (.seq
  (.ops 2 [⟨(some 1), none, (.m .box 0 [.t 0])⟩,
    ⟨(some 2), none, (.m (.alloc [.int .i64 0, .int .i64 0, .int .i64 0, .int .i64 0]) 1 [])⟩] [1, 2])
  (.seq
   (.ops 1 [⟨(some 3), none, (.m (.alloc [.int .i64 0, .int .i64 0, .int .i64 0, .int .i64 0]) 0 [])⟩] [1, 2, 3])
   (.seq
    (.seq
     (.ops 0 [⟨(some 4), none, (.p .mv [.c (.int .i64 0)])⟩] [1, 2, 3, 4])
     (.block 0 [2, 3]
      l93_0))
    (.seq
     (.ops 0 [⟨(some 14), none, (.m (.load true 4) 0 [.t 3])⟩,
       ⟨none, none, (.m (.store 4) 0 [.t 2, .t 14])⟩] [2])
     .ret))))⟩
theorem t93 : trF Tryd.prog Tryd.f93 [[1, 2], [1, 2, 3], [1, 2, 3, 4], [2, 3], [1, 2, 3, 4], [1, 2, 3, 4, 6], [1, 2, 3, 4], [1, 2, 3, 4], [1, 2, 3, 4], [2]] = some d93 := by kernel_rfl
/-- slices.IndexFunc[[][4]int,[4]int] -/
def b94_0 : Cd :=
 (.seq
  (.ops 0 [⟨(some 9), none, (.p (.bin .lss .int) [.t 8, .t 7])⟩] [0, 1, 7, 8, 9])
  (.seq
   (.cond (.t 9)
    .skip
    (.exit 0))
   (.seq
    (.block 1 [0, 1, 7, 8]
     (.seq
      (.ops 0 [⟨(some 10), none, (.p .mv [.t 8])⟩,
        ⟨(some 5), none, (.p .mv [.t 10])⟩] [0, 1, 5, 7, 8])
      (.seq
       (.ops 2 [⟨(some 11), none, (.p .mv [.t 1])⟩,
         ⟨(some 12), none, (.p .mv [.t 0])⟩,
         ⟨(some 13), none, (.p .mv [.t 5])⟩,
         ⟨(some 14), none, (.p (.indexSl 4) [.t 12, .t 13])⟩,
         ⟨(some 15), none, (.m (.load true 4) 0 [.t 14])⟩,
         ⟨(some 16), none, (.call (.t 11) [.t 15] 0 2)⟩] [0, 1, 5, 7, 8, 16])
       (.cond (.t 16)
        (.seq
         (.ops 0 [⟨(some 17), none, (.p .mv [.t 5])⟩,
           ⟨(some 4), none, (.p .mv [.t 17])⟩] [4])
         .ret)
        .skip))))
    (.ops 0 [⟨(some 18), none, (.p (.bin .add .int) [.t 8, .c (.int .i64 1)])⟩,
      ⟨(some 8), none, (.p .mv [.t 18])⟩] [0, 1, 7, 8]))))
def l94_0 : Cd := .loop [0, 1, 7, 8] b94_0
theorem x94_0 (R : Run) (M : Nat) (t : Tm) (σ : Store) : X R M l94_0 ⟨t, σ⟩ = rnd R M l94_0 [0, 1, 7, 8] b94_0 (norm M (tgs t [0, 1, 7, 8]) σ) := x_loop rfl
def d94 : FD := ⟨[.t 4],
 (.seq
  (.ops 0 [⟨(some 4), none, (.p .mv [.c (.int .i64 0)])⟩] [0, 1])
  (.seq
   (.seq
    (.ops 0 [⟨(some 6), none, (.p .mv [.t 0])⟩,
      ⟨(some 7), none, (.p .lenSl [.t 6])⟩,
      ⟨(some 8), none, (.p .mv [.c (.int .i64 0)])⟩] [0, 1, 7, 8])
    (.block 0 []
     l94_0))
   (.seq
    (.ops 0 [⟨(some 4), none, (.p .mv [.c (.int .i64 (-1))])⟩] [4])
    .ret)))⟩
theorem t94 : trF Tryd.prog Tryd.f94 [[0, 1], [0, 1, 7, 8], [], [0, 1, 7, 8], [0, 1, 7, 8, 9], [0, 1, 7, 8], [0, 1, 5, 7, 8], [0, 1, 5, 7, 8, 16], [4], [0, 1, 7, 8], [4]] = some d94 := by kernel_rfl
/-- slices.ContainsFunc[[]int,int] -/
def d95 : FD := ⟨[.t 4],
 (.seq
  (.ops 0 [⟨(some 4), none, (.p .mv [.c (.bool false)])⟩] [0, 1])
  (.seq
   (.ops 2 [⟨(some 5), none, (.p .mv [.t 0])⟩,
     ⟨(some 6), none, (.p .mv [.t 1])⟩,
     ⟨(some 7), none, (.call (.c (.fn 102 [] [])) [.t 5, .t 6] 0 2)⟩,
     ⟨(some 8), none, (.p (.bin .geq .int) [.t 7, .c (.int .i64 0)])⟩,
     ⟨(some 4), none, (.p .mv [.t 8])⟩] [4])
   .ret))⟩
theorem t95 : trF Tryd.prog Tryd.f95 [[0, 1], [4]] = some d95 := by kernel_rfl
/-- loop.example/g01194/impl.IsRow$1 -/
def d96 : FD := ⟨[.t 2],
 (.seq
  (.ops 0 [⟨(some 2), none, (.p .mv [.c (.bool false)])⟩] [0])
  (.seq
   (.ops 2 [⟨(some 3), none, (.p .mv [.t 0])⟩,
     ⟨(some 4), none, (.call (.c (.fn 58 [] [])) [.t 3, .c (.int .i64 0), .c (.int .i64 17)] 0 2)⟩,
     ⟨(some 5), none, (.p .not [.t 4])⟩,
     ⟨(some 2), none, (.p .mv [.t 5])⟩] [2])
   .ret))⟩
theorem t96 : trF Tryd.prog Tryd.f96 [[0], [2]] = some d96 := by kernel_rfl
/-- slices.IndexFunc[[]int,int] -/
def b102_0 : Cd :=
 (.seq
  (.ops 0 [⟨(some 9), none, (.p (.bin .lss .int) [.t 8, .t 7])⟩] [0, 1, 7, 8, 9])
  (.seq
   (.cond (.t 9)
    .skip
    (.exit 0))
   (.seq
    (.block 1 [0, 1, 7, 8]
     (.seq
      (.ops 0 [⟨(some 10), none, (.p .mv [.t 8])⟩,
        ⟨(some 5), none, (.p .mv [.t 10])⟩] [0, 1, 5, 7, 8])
      (.seq
       (.ops 2 [⟨(some 11), none, (.p .mv [.t 1])⟩,
         ⟨(some 12), none, (.p .mv [.t 0])⟩,
         ⟨(some 13), none, (.p .mv [.t 5])⟩,
         ⟨(some 14), none, (.p (.indexSl 1) [.t 12, .t 13])⟩,
         ⟨(some 15), none, (.m (.load false 1) 0 [.t 14])⟩,
         ⟨(some 16), none, (.call (.t 11) [.t 15] 0 2)⟩] [0, 1, 5, 7, 8, 16])
       (.cond (.t 16)
        (.seq
         (.ops 0 [⟨(some 17), none, (.p .mv [.t 5])⟩,
           ⟨(some 4), none, (.p .mv [.t 17])⟩] [4])
         .ret)
        .skip))))
    (.ops 0 [⟨(some 18), none, (.p (.bin .add .int) [.t 8, .c (.int .i64 1)])⟩,
      ⟨(some 8), none, (.p .mv [.t 18])⟩] [0, 1, 7, 8]))))
def l102_0 : Cd := .loop [0, 1, 7, 8] b102_0
theorem x102_0 (R : Run) (M : Nat) (t : Tm) (σ : Store) : X R M l102_0 ⟨t, σ⟩ = rnd R M l102_0 [0, 1, 7, 8] b102_0 (norm M (tgs t [0, 1, 7, 8]) σ) := x_loop rfl
def d102 : FD := ⟨[.t 4],
 (.seq
  (.ops 0 [⟨(some 4), none, (.p .mv [.c (.int .i64 0)])⟩] [0, 1])
  (.seq
   (.seq
    (.ops 0 [⟨(some 6), none, (.p .mv [.t 0])⟩,
      ⟨(some 7), none, (.p .lenSl [.t 6])⟩,
      ⟨(some 8), none, (.p .mv [.c (.int .i64 0)])⟩] [0, 1, 7, 8])
    (.block 0 []
     l102_0))
   (.seq
    (.ops 0 [⟨(some 4), none, (.p .mv [.c (.int .i64 (-1))])⟩] [4])
    .ret)))⟩
theorem t102 : trF Tryd.prog Tryd.f102 [[0, 1], [0, 1, 7, 8], [], [0, 1, 7, 8], [0, 1, 7, 8, 9], [0, 1, 7, 8], [0, 1, 5, 7, 8], [0, 1, 5, 7, 8, 16], [4], [0, 1, 7, 8], [4]] = some d102 := by kernel_rfl
end Go.Proofs.T
