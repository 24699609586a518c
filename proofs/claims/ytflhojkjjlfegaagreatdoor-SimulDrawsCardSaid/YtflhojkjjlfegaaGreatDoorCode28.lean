/- The code of the functions that the laws reach. -/
import Derived.Test.YtflhojkjjlfegaaGreatDoorM28d
import Derived.Test.YtflhojkjjlfegaaGreatDoorAiD
namespace Go.AJ
open Go Go.Proofs
set_option maxRecDepth 100000
noncomputable def p3_0 : ACode := (.reg [⟨some (K.of 10), none, .mv (.c (.bool false))⟩])
noncomputable def p3_1 : ACode := (.seq
  (.reg [⟨some (K.of 19), none, .call 7 []⟩,
      ⟨some (K.of 20), none, .not (.t (K.of 19))⟩])
  (.cond (.t (K.of 20))
   (.seq
   (.reg [⟨some (K.of 10), none, .mv (.c (.bool false))⟩])
   .ret)
   .skip))
noncomputable def p3_2 : ACode := (.reg [⟨some (K.of 22), none, .mv (.t (K.of 1))⟩,
      ⟨some (K.of 23), none, .mv (.t (K.of 2))⟩,
      ⟨some (K.of 24), none, .call 8 [(.t (K.of 22)), (.t (K.of 23))]⟩,
      ⟨some (K.of 21), none, .mv (.t (K.of 24))⟩,
      ⟨some (K.of 25), none, .ext (.t (K.of 21)) 0⟩,
      ⟨some (K.of 26), none, .ext (.t (K.of 21)) 1⟩,
      ⟨some (K.of 27), none, .ext (.t (K.of 21)) 2⟩,
      ⟨some (K.of 11), none, .mv (.t (K.of 25))⟩,
      ⟨some (K.of 12), none, .mv (.t (K.of 26))⟩,
      ⟨some (K.of 13), none, .mv (.t (K.of 27))⟩])
noncomputable def p3_3 : ACode := (.reg [⟨some (K.of 29), none, .mv (.t (K.of 1))⟩,
      ⟨some (K.of 30), none, .mv (.t (K.of 2))⟩,
      ⟨some (K.of 31), none, .call 9 [(.t (K.of 29)), (.t (K.of 30))]⟩,
      ⟨some (K.of 28), none, .mv (.t (K.of 31))⟩,
      ⟨some (K.of 32), none, .ext (.t (K.of 28)) 0⟩,
      ⟨some (K.of 33), none, .ext (.t (K.of 28)) 1⟩,
      ⟨some (K.of 34), none, .ext (.t (K.of 28)) 2⟩,
      ⟨some (K.of 14), none, .mv (.t (K.of 32))⟩,
      ⟨some (K.of 15), none, .mv (.t (K.of 33))⟩,
      ⟨some (K.of 16), none, .mv (.t (K.of 34))⟩])
noncomputable def p3_4 : ACode := (.seq
  (.reg [⟨some (K.of 35), none, .mv (.t (K.of 0))⟩,
      ⟨some (K.of 36), none, .call 10 [(.t (K.of 35))]⟩,
      ⟨some (K.of 37), none, .mv (.t (K.of 0))⟩,
      ⟨some (K.of 38), none, .call 11 [(.t (K.of 37))]⟩,
      ⟨some (K.of 39), none, .ibin .neq (.t (K.of 36)) (.t (K.of 38))⟩,
      ⟨some (K.of 40), none, .mv (.t (K.of 39))⟩,
      ⟨some (K.of 41), some ((K.of 40), false), .mv (.t (K.of 11))⟩,
      ⟨some (K.of 42), some ((K.of 40), false), .mv (.t (K.of 14))⟩,
      ⟨some (K.of 43), some ((K.of 40), false), .ibin .neq (.t (K.of 41)) (.t (K.of 42))⟩,
      ⟨some (K.of 44), none, .pick (.t (K.of 40)) (.c (.bool true)) (.t (K.of 43))⟩,
      ⟨some (K.of 45), none, .mv (.t (K.of 44))⟩,
      ⟨some (K.of 46), some ((K.of 45), false), .mv (.t (K.of 12))⟩,
      ⟨some (K.of 47), some ((K.of 45), false), .mv (.t (K.of 15))⟩,
      ⟨some (K.of 48), some ((K.of 45), false), .ibin .neq (.t (K.of 46)) (.t (K.of 47))⟩,
      ⟨some (K.of 49), none, .pick (.t (K.of 45)) (.c (.bool true)) (.t (K.of 48))⟩,
      ⟨some (K.of 50), none, .mv (.t (K.of 49))⟩,
      ⟨some (K.of 51), some ((K.of 50), false), .mv (.t (K.of 13))⟩,
      ⟨some (K.of 52), some ((K.of 50), false), .mv (.t (K.of 16))⟩,
      ⟨some (K.of 53), some ((K.of 50), false), .ibin .neq (.t (K.of 51)) (.t (K.of 52))⟩,
      ⟨some (K.of 54), none, .pick (.t (K.of 50)) (.c (.bool true)) (.t (K.of 53))⟩])
  (.cond (.t (K.of 54))
   (.seq
   (.reg [⟨some (K.of 10), none, .mv (.c (.bool false))⟩])
   .ret)
   .skip))
noncomputable def p3_5 : ACode := (.reg [⟨some (K.of 56), none, .mv (.t (K.of 1))⟩,
      ⟨some (K.of 57), none, .mv (.t (K.of 3))⟩,
      ⟨some (K.of 58), none, .call 12 [(.t (K.of 56)), (.t (K.of 57))]⟩,
      ⟨some (K.of 55), none, .mv (.t (K.of 58))⟩,
      ⟨some (K.of 59), none, .ext (.t (K.of 55)) 0⟩,
      ⟨some (K.of 60), none, .ext (.t (K.of 55)) 1⟩,
      ⟨some (K.of 12), none, .mv (.t (K.of 59))⟩,
      ⟨some (K.of 13), none, .mv (.t (K.of 60))⟩])
noncomputable def p3_6 : ACode := (.reg [⟨some (K.of 62), none, .mv (.t (K.of 1))⟩,
      ⟨some (K.of 63), none, .mv (.t (K.of 3))⟩,
      ⟨some (K.of 64), none, .call 13 [(.t (K.of 62)), (.t (K.of 63))]⟩,
      ⟨some (K.of 61), none, .mv (.t (K.of 64))⟩,
      ⟨some (K.of 65), none, .ext (.t (K.of 61)) 0⟩,
      ⟨some (K.of 66), none, .ext (.t (K.of 61)) 1⟩,
      ⟨some (K.of 15), none, .mv (.t (K.of 65))⟩,
      ⟨some (K.of 16), none, .mv (.t (K.of 66))⟩])
noncomputable def p3_7 : ACode := (.seq
  (.reg [⟨some (K.of 67), none, .mv (.t (K.of 12))⟩,
      ⟨some (K.of 68), none, .mv (.t (K.of 15))⟩,
      ⟨some (K.of 69), none, .ibin .neq (.t (K.of 67)) (.t (K.of 68))⟩,
      ⟨some (K.of 70), none, .mv (.t (K.of 69))⟩,
      ⟨some (K.of 71), some ((K.of 70), false), .mv (.t (K.of 13))⟩,
      ⟨some (K.of 72), some ((K.of 70), false), .mv (.t (K.of 16))⟩,
      ⟨some (K.of 73), some ((K.of 70), false), .ibin .neq (.t (K.of 71)) (.t (K.of 72))⟩,
      ⟨some (K.of 74), none, .pick (.t (K.of 70)) (.c (.bool true)) (.t (K.of 73))⟩])
  (.cond (.t (K.of 74))
   (.seq
   (.reg [⟨some (K.of 10), none, .mv (.c (.bool false))⟩])
   .ret)
   .skip))
noncomputable def p3_8 : ACode := (.reg [⟨some (K.of 76), none, .mv (.t (K.of 1))⟩,
      ⟨some (K.of 77), none, .mv (.t (K.of 4))⟩,
      ⟨some (K.of 78), none, .call 14 [(.t (K.of 76)), (.t (K.of 77))]⟩,
      ⟨some (K.of 75), none, .mv (.t (K.of 78))⟩,
      ⟨some (K.of 79), none, .ext (.t (K.of 75)) 0⟩,
      ⟨some (K.of 80), none, .ext (.t (K.of 75)) 1⟩,
      ⟨some (K.of 81), none, .ext (.t (K.of 75)) 2⟩,
      ⟨some (K.of 17), none, .mv (.t (K.of 79))⟩,
      ⟨some (K.of 12), none, .mv (.t (K.of 80))⟩,
      ⟨some (K.of 13), none, .mv (.t (K.of 81))⟩])
noncomputable def p3_9 : ACode := (.reg [⟨some (K.of 83), none, .mv (.t (K.of 1))⟩,
      ⟨some (K.of 84), none, .mv (.t (K.of 4))⟩,
      ⟨some (K.of 85), none, .call 15 [(.t (K.of 83)), (.t (K.of 84))]⟩,
      ⟨some (K.of 82), none, .mv (.t (K.of 85))⟩,
      ⟨some (K.of 86), none, .ext (.t (K.of 82)) 0⟩,
      ⟨some (K.of 87), none, .ext (.t (K.of 82)) 1⟩,
      ⟨some (K.of 88), none, .ext (.t (K.of 82)) 2⟩,
      ⟨some (K.of 18), none, .mv (.t (K.of 86))⟩,
      ⟨some (K.of 15), none, .mv (.t (K.of 87))⟩,
      ⟨some (K.of 16), none, .mv (.t (K.of 88))⟩])
noncomputable def p3_10 : ACode := (.reg [⟨some (K.of 89), none, .mv (.t (K.of 17))⟩,
      ⟨some (K.of 90), none, .mv (.t (K.of 18))⟩,
      ⟨some (K.of 91), none, .call 16 [(.t (K.of 89)), (.t (K.of 90))]⟩,
      ⟨some (K.of 92), none, .mv (.t (K.of 91))⟩,
      ⟨some (K.of 93), some ((K.of 92), true), .mv (.t (K.of 12))⟩,
      ⟨some (K.of 94), some ((K.of 92), true), .mv (.t (K.of 15))⟩,
      ⟨some (K.of 95), some ((K.of 92), true), .ibin .eql (.t (K.of 93)) (.t (K.of 94))⟩,
      ⟨some (K.of 96), none, .pick (.t (K.of 92)) (.t (K.of 95)) (.c (.bool false))⟩,
      ⟨some (K.of 97), none, .mv (.t (K.of 96))⟩,
      ⟨some (K.of 98), some ((K.of 97), true), .mv (.t (K.of 13))⟩,
      ⟨some (K.of 99), some ((K.of 97), true), .mv (.t (K.of 16))⟩,
      ⟨some (K.of 100), some ((K.of 97), true), .ibin .eql (.t (K.of 98)) (.t (K.of 99))⟩,
      ⟨some (K.of 101), none, .pick (.t (K.of 97)) (.t (K.of 100)) (.c (.bool false))⟩,
      ⟨some (K.of 10), none, .mv (.t (K.of 101))⟩])
/-- foregone/foregonelaw28.SimulDraws -/
noncomputable def c3 : ACode := (.seq p3_0 (.seq p3_1 (.seq p3_2 (.seq p3_3 (.seq p3_4 (.seq p3_5 (.seq p3_6 (.seq p3_7 (.seq p3_8 (.seq p3_9 (.seq p3_10 .ret)))))))))))
noncomputable def r3 : List RV := [(.t (K.of 10))]
noncomputable def p4_0 : ACode := (.reg [⟨some (K.of 4), none, .mv (.c (.bool false))⟩])
noncomputable def p4_1 : ACode := (.seq
  (.reg [⟨some (K.of 9), none, .call 7 []⟩,
      ⟨some (K.of 10), none, .not (.t (K.of 9))⟩])
  (.cond (.t (K.of 10))
   (.seq
   (.reg [⟨some (K.of 4), none, .mv (.c (.bool false))⟩])
   .ret)
   .skip))
noncomputable def p4_2 : ACode := (.reg [⟨some (K.of 12), none, .mv (.t (K.of 0))⟩,
      ⟨some (K.of 13), none, .mv (.t (K.of 1))⟩,
      ⟨some (K.of 14), none, .call 8 [(.t (K.of 12)), (.t (K.of 13))]⟩,
      ⟨some (K.of 11), none, .mv (.t (K.of 14))⟩,
      ⟨some (K.of 15), none, .ext (.t (K.of 11)) 0⟩,
      ⟨some (K.of 16), none, .ext (.t (K.of 11)) 1⟩,
      ⟨some (K.of 17), none, .ext (.t (K.of 11)) 2⟩,
      ⟨some (K.of 5), none, .mv (.t (K.of 15))⟩,
      ⟨some (K.of 6), none, .mv (.t (K.of 16))⟩,
      ⟨some (K.of 7), none, .mv (.t (K.of 17))⟩])
noncomputable def p4_3 : ACode := (.seq
  (.reg [⟨some (K.of 18), none, .mv (.t (K.of 1))⟩,
      ⟨some (K.of 19), none, .ibin .lss (.t (K.of 18)) (.c (.int .i64 (.ofNat 1)))⟩,
      ⟨some (K.of 20), none, .mv (.t (K.of 19))⟩,
      ⟨some (K.of 21), some ((K.of 20), false), .mv (.t (K.of 1))⟩,
      ⟨some (K.of 22), some ((K.of 20), false), .ibin .gtr (.t (K.of 21)) (.c (.int .i64 (.ofNat 2147483648)))⟩,
      ⟨some (K.of 23), none, .pick (.t (K.of 20)) (.c (.bool true)) (.t (K.of 22))⟩])
  (.cond (.t (K.of 23))
   (.seq
   (.reg [⟨some (K.of 24), none, .mv (.t (K.of 7))⟩,
      ⟨some (K.of 25), none, .ibin .eql (.t (K.of 24)) (.c (.int .i64 (.ofNat 1)))⟩,
      ⟨some (K.of 4), none, .mv (.t (K.of 25))⟩])
   .ret)
   .skip))
noncomputable def p4_4 : ACode := (.seq
  (.reg [⟨some (K.of 26), none, .mv (.t (K.of 7))⟩,
      ⟨some (K.of 27), none, .ibin .neq (.t (K.of 26)) (.c (.int .i64 (.ofNat 0)))⟩,
      ⟨some (K.of 28), none, .mv (.t (K.of 27))⟩,
      ⟨some (K.of 29), some ((K.of 28), false), .mv (.t (K.of 5))⟩,
      ⟨some (K.of 30), some ((K.of 28), false), .ibin .lss (.t (K.of 29)) (.c (.int .i64 (.ofNat 0)))⟩,
      ⟨some (K.of 31), none, .pick (.t (K.of 28)) (.c (.bool true)) (.t (K.of 30))⟩,
      ⟨some (K.of 32), none, .mv (.t (K.of 31))⟩,
      ⟨some (K.of 33), some ((K.of 32), false), .mv (.t (K.of 5))⟩,
      ⟨some (K.of 34), some ((K.of 32), false), .mv (.t (K.of 1))⟩,
      ⟨some (K.of 35), some ((K.of 32), false), .ibin .geq (.t (K.of 33)) (.t (K.of 34))⟩,
      ⟨some (K.of 36), none, .pick (.t (K.of 32)) (.c (.bool true)) (.t (K.of 35))⟩,
      ⟨some (K.of 37), none, .mv (.t (K.of 36))⟩,
      ⟨some (K.of 38), some ((K.of 37), false), .mv (.t (K.of 6))⟩,
      ⟨some (K.of 39), some ((K.of 37), false), .ibin .shr (.t (K.of 38)) (.c (.int .u64 (.ofNat 32)))⟩,
      ⟨some (K.of 40), some ((K.of 37), false), .mv (.t (K.of 1))⟩,
      ⟨some (K.of 41), some ((K.of 37), false), .conv .u64 (.t (K.of 40))⟩,
      ⟨some (K.of 42), some ((K.of 37), false), .ibin .rem (.t (K.of 39)) (.t (K.of 41))⟩,
      ⟨some (K.of 43), some ((K.of 37), false), .conv .i64 (.t (K.of 42))⟩,
      ⟨some (K.of 44), some ((K.of 37), false), .mv (.t (K.of 5))⟩,
      ⟨some (K.of 45), some ((K.of 37), false), .ibin .neq (.t (K.of 43)) (.t (K.of 44))⟩,
      ⟨some (K.of 46), none, .pick (.t (K.of 37)) (.c (.bool true)) (.t (K.of 45))⟩])
  (.cond (.t (K.of 46))
   (.seq
   (.reg [⟨some (K.of 4), none, .mv (.c (.bool false))⟩])
   .ret)
   .skip))
noncomputable def p4_5 : ACode := (.reg [⟨some (K.of 47), none, .mv (.t (K.of 1))⟩,
      ⟨some (K.of 48), none, .conv .u64 (.t (K.of 47))⟩,
      ⟨some (K.of 49), none, .ibin .rem (.c (.int .u64 (.ofNat 4294967296))) (.t (K.of 48))⟩,
      ⟨some (K.of 50), none, .ibin .sub (.c (.int .u64 (.ofNat 4294967296))) (.t (K.of 49))⟩,
      ⟨some (K.of 8), none, .mv (.t (K.of 50))⟩])
noncomputable def p4_6 : ACode := (.reg [⟨some (K.of 51), none, .mv (.t (K.of 0))⟩,
      ⟨some (K.of 52), none, .call 17 [(.t (K.of 51))]⟩,
      ⟨some (K.of 0), none, .mv (.t (K.of 52))⟩])
noncomputable def b4_0 : ACode := (.seq
  (.seq
   (.reg [⟨some (K.of 53), none, .mv (.t (K.of 0))⟩,
      ⟨some (K.of 54), none, .ibin .shr (.t (K.of 53)) (.c (.int .u64 (.ofNat 32)))⟩,
      ⟨some (K.of 55), none, .mv (.t (K.of 8))⟩,
      ⟨some (K.of 56), none, .ibin .geq (.t (K.of 54)) (.t (K.of 55))⟩])
   (.cond (.t (K.of 56))
    .skip
    (.exit 0)))
  (.block 1 (.reg [⟨some (K.of 57), none, .mv (.t (K.of 0))⟩,
      ⟨some (K.of 58), none, .call 17 [(.t (K.of 57))]⟩,
      ⟨some (K.of 0), none, .mv (.t (K.of 58))⟩])))
noncomputable def p4_7 : ACode := (.block 0 (.loop b4_0))
noncomputable def p4_8 : ACode := (.reg [⟨some (K.of 59), none, .mv (.t (K.of 0))⟩,
      ⟨some (K.of 60), none, .mv (.t (K.of 6))⟩,
      ⟨some (K.of 61), none, .ibin .eql (.t (K.of 59)) (.t (K.of 60))⟩,
      ⟨some (K.of 4), none, .mv (.t (K.of 61))⟩])
/-- foregone/foregonelaw28.SimulAlike -/
noncomputable def c4 : ACode := (.seq p4_0 (.seq p4_1 (.seq p4_2 (.seq p4_3 (.seq p4_4 (.seq p4_5 (.seq p4_6 (.seq p4_7 (.seq p4_8 .ret)))))))))
noncomputable def r4 : List RV := [(.t (K.of 4))]
noncomputable def p5_0 : ACode := (.reg [⟨some (K.of 6), none, .mv (.c (.bool false))⟩])
noncomputable def p5_1 : ACode := (.seq
  (.reg [⟨some (K.of 15), none, .call 7 []⟩,
      ⟨some (K.of 16), none, .not (.t (K.of 15))⟩])
  (.cond (.t (K.of 16))
   (.seq
   (.reg [⟨some (K.of 6), none, .mv (.c (.bool false))⟩])
   .ret)
   .skip))
noncomputable def p5_2 : ACode := (.reg [⟨some (K.of 18), none, .mv (.t (K.of 0))⟩,
      ⟨some (K.of 19), none, .mv (.t (K.of 1))⟩,
      ⟨some (K.of 20), none, .call 12 [(.t (K.of 18)), (.t (K.of 19))]⟩,
      ⟨some (K.of 17), none, .mv (.t (K.of 20))⟩,
      ⟨some (K.of 21), none, .ext (.t (K.of 17)) 0⟩,
      ⟨some (K.of 22), none, .ext (.t (K.of 17)) 1⟩,
      ⟨some (K.of 7), none, .mv (.t (K.of 21))⟩,
      ⟨some (K.of 8), none, .mv (.t (K.of 22))⟩])
noncomputable def p5_3 : ACode := (.seq
  (.reg [⟨some (K.of 23), none, .mv (.t (K.of 1))⟩,
      ⟨some (K.of 24), none, .ibin .lss (.t (K.of 23)) (.c (.int .i64 (.ofNat 0)))⟩])
  (.cond (.t (K.of 24))
   (.seq
   (.reg [⟨some (K.of 25), none, .mv (.t (K.of 8))⟩,
      ⟨some (K.of 26), none, .ibin .eql (.t (K.of 25)) (.c (.int .i64 (.ofNat 1)))⟩,
      ⟨some (K.of 6), none, .mv (.t (K.of 26))⟩])
   .ret)
   .skip))
noncomputable def p5_4 : ACode := (.seq
  (.reg [⟨some (K.of 27), none, .mv (.t (K.of 8))⟩,
      ⟨some (K.of 28), none, .ibin .neq (.t (K.of 27)) (.c (.int .i64 (.ofNat 0)))⟩])
  (.cond (.t (K.of 28))
   (.seq
   (.reg [⟨some (K.of 6), none, .mv (.c (.bool false))⟩])
   .ret)
   .skip))
noncomputable def p5_5 : ACode := (.reg [⟨some (K.of 30), none, .mv (.t (K.of 7))⟩,
      ⟨some (K.of 31), none, .mv (.t (K.of 2))⟩,
      ⟨some (K.of 32), none, .call 12 [(.t (K.of 30)), (.t (K.of 31))]⟩,
      ⟨some (K.of 29), none, .mv (.t (K.of 32))⟩,
      ⟨some (K.of 33), none, .ext (.t (K.of 29)) 0⟩,
      ⟨some (K.of 34), none, .ext (.t (K.of 29)) 1⟩,
      ⟨some (K.of 9), none, .mv (.t (K.of 33))⟩,
      ⟨some (K.of 8), none, .mv (.t (K.of 34))⟩])
noncomputable def p5_6 : ACode := (.seq
  (.reg [⟨some (K.of 35), none, .mv (.t (K.of 2))⟩,
      ⟨some (K.of 36), none, .ibin .lss (.t (K.of 35)) (.c (.int .i64 (.ofNat 0)))⟩])
  (.cond (.t (K.of 36))
   (.seq
   (.reg [⟨some (K.of 37), none, .mv (.t (K.of 8))⟩,
      ⟨some (K.of 38), none, .ibin .eql (.t (K.of 37)) (.c (.int .i64 (.ofNat 1)))⟩,
      ⟨some (K.of 6), none, .mv (.t (K.of 38))⟩])
   .ret)
   .skip))
noncomputable def p5_7 : ACode := (.seq
  (.reg [⟨some (K.of 39), none, .mv (.t (K.of 1))⟩,
      ⟨some (K.of 40), none, .ibin .geq (.t (K.of 39)) (.c (.int .i64 (.ofNat 4611686018427387904)))⟩,
      ⟨some (K.of 41), none, .mv (.t (K.of 40))⟩,
      ⟨some (K.of 42), some ((K.of 41), false), .mv (.t (K.of 2))⟩,
      ⟨some (K.of 43), some ((K.of 41), false), .ibin .geq (.t (K.of 42)) (.c (.int .i64 (.ofNat 4611686018427387904)))⟩,
      ⟨some (K.of 44), none, .pick (.t (K.of 41)) (.c (.bool true)) (.t (K.of 43))⟩])
  (.cond (.t (K.of 44))
   (.seq
   (.reg [⟨some (K.of 45), none, .mv (.t (K.of 8))⟩,
      ⟨some (K.of 46), none, .ibin .eql (.t (K.of 45)) (.c (.int .i64 (.ofNat 0)))⟩,
      ⟨some (K.of 6), none, .mv (.t (K.of 46))⟩])
   .ret)
   .skip))
noncomputable def p5_8 : ACode := (.reg [⟨some (K.of 48), none, .mv (.t (K.of 0))⟩,
      ⟨some (K.of 49), none, .mv (.t (K.of 1))⟩,
      ⟨some (K.of 50), none, .mv (.t (K.of 2))⟩,
      ⟨some (K.of 51), none, .ibin .add (.t (K.of 49)) (.t (K.of 50))⟩,
      ⟨some (K.of 52), none, .call 12 [(.t (K.of 48)), (.t (K.of 51))]⟩,
      ⟨some (K.of 47), none, .mv (.t (K.of 52))⟩,
      ⟨some (K.of 53), none, .ext (.t (K.of 47)) 0⟩,
      ⟨some (K.of 54), none, .ext (.t (K.of 47)) 1⟩,
      ⟨some (K.of 10), none, .mv (.t (K.of 53))⟩,
      ⟨some (K.of 11), none, .mv (.t (K.of 54))⟩])
noncomputable def p5_9 : ACode := (.reg [⟨some (K.of 56), none, .mv (.t (K.of 0))⟩,
      ⟨some (K.of 57), none, .call 12 [(.t (K.of 56)), (.c (.int .i64 (.ofNat 1)))]⟩,
      ⟨some (K.of 55), none, .mv (.t (K.of 57))⟩,
      ⟨some (K.of 58), none, .ext (.t (K.of 55)) 0⟩,
      ⟨some (K.of 59), none, .ext (.t (K.of 55)) 1⟩,
      ⟨some (K.of 12), none, .mv (.t (K.of 58))⟩,
      ⟨some (K.of 13), none, .mv (.t (K.of 59))⟩])
noncomputable def p5_10 : ACode := (.reg [⟨some (K.of 60), none, .mv (.t (K.of 12))⟩,
      ⟨some (K.of 61), none, .ibin .sub (.t (K.of 60)) (.c (.int .u64 (.ofNat 1442695040888963407)))⟩,
      ⟨some (K.of 62), none, .call 18 []⟩,
      ⟨some (K.of 63), none, .ibin .mul (.t (K.of 61)) (.t (K.of 62))⟩,
      ⟨some (K.of 14), none, .mv (.t (K.of 63))⟩])
noncomputable def p5_11 : ACode := (.reg [⟨some (K.of 64), none, .mv (.t (K.of 8))⟩,
      ⟨some (K.of 65), none, .ibin .eql (.t (K.of 64)) (.c (.int .i64 (.ofNat 0)))⟩,
      ⟨some (K.of 66), none, .mv (.t (K.of 65))⟩,
      ⟨some (K.of 67), some ((K.of 66), true), .mv (.t (K.of 11))⟩,
      ⟨some (K.of 68), some ((K.of 66), true), .ibin .eql (.t (K.of 67)) (.c (.int .i64 (.ofNat 0)))⟩,
      ⟨some (K.of 69), none, .pick (.t (K.of 66)) (.t (K.of 68)) (.c (.bool false))⟩,
      ⟨some (K.of 70), none, .mv (.t (K.of 69))⟩,
      ⟨some (K.of 71), some ((K.of 70), true), .mv (.t (K.of 9))⟩,
      ⟨some (K.of 72), some ((K.of 70), true), .mv (.t (K.of 10))⟩,
      ⟨some (K.of 73), some ((K.of 70), true), .ibin .eql (.t (K.of 71)) (.t (K.of 72))⟩,
      ⟨some (K.of 74), none, .pick (.t (K.of 70)) (.t (K.of 73)) (.c (.bool false))⟩,
      ⟨some (K.of 75), none, .mv (.t (K.of 74))⟩,
      ⟨some (K.of 76), some ((K.of 75), true), .mv (.t (K.of 13))⟩,
      ⟨some (K.of 77), some ((K.of 75), true), .ibin .eql (.t (K.of 76)) (.c (.int .i64 (.ofNat 0)))⟩,
      ⟨some (K.of 78), none, .pick (.t (K.of 75)) (.t (K.of 77)) (.c (.bool false))⟩,
      ⟨some (K.of 79), none, .mv (.t (K.of 78))⟩,
      ⟨some (K.of 80), some ((K.of 79), true), .mv (.t (K.of 14))⟩,
      ⟨some (K.of 81), some ((K.of 79), true), .mv (.t (K.of 0))⟩,
      ⟨some (K.of 82), some ((K.of 79), true), .ibin .eql (.t (K.of 80)) (.t (K.of 81))⟩,
      ⟨some (K.of 83), none, .pick (.t (K.of 79)) (.t (K.of 82)) (.c (.bool false))⟩,
      ⟨some (K.of 6), none, .mv (.t (K.of 83))⟩])
/-- foregone/foregonelaw28.SimulSteps -/
noncomputable def c5 : ACode := (.seq p5_0 (.seq p5_1 (.seq p5_2 (.seq p5_3 (.seq p5_4 (.seq p5_5 (.seq p5_6 (.seq p5_7 (.seq p5_8 (.seq p5_9 (.seq p5_10 (.seq p5_11 .ret))))))))))))
noncomputable def r5 : List RV := [(.t (K.of 6))]
noncomputable def p6_0 : ACode := (.reg [⟨some (K.of 4), none, .mv (.c (.bool false))⟩])
noncomputable def p6_1 : ACode := (.seq
  (.reg [⟨some (K.of 21), none, .call 7 []⟩,
      ⟨some (K.of 22), none, .not (.t (K.of 21))⟩])
  (.cond (.t (K.of 22))
   (.seq
   (.reg [⟨some (K.of 4), none, .mv (.c (.bool false))⟩])
   .ret)
   .skip))
noncomputable def p6_2 : ACode := (.reg [⟨some (K.of 24), none, .mv (.t (K.of 0))⟩,
      ⟨some (K.of 25), none, .mv (.t (K.of 1))⟩,
      ⟨some (K.of 26), none, .call 14 [(.t (K.of 24)), (.t (K.of 25))]⟩,
      ⟨some (K.of 23), none, .mv (.t (K.of 26))⟩,
      ⟨some (K.of 27), none, .ext (.t (K.of 23)) 0⟩,
      ⟨some (K.of 28), none, .ext (.t (K.of 23)) 1⟩,
      ⟨some (K.of 29), none, .ext (.t (K.of 23)) 2⟩,
      ⟨some (K.of 5), none, .mv (.t (K.of 27))⟩,
      ⟨some (K.of 6), none, .mv (.t (K.of 28))⟩,
      ⟨some (K.of 7), none, .mv (.t (K.of 29))⟩])
noncomputable def p6_3 : ACode := (.seq
  (.reg [⟨some (K.of 30), none, .mv (.t (K.of 1))⟩,
      ⟨some (K.of 31), none, .ibin .lss (.t (K.of 30)) (.c (.int .i64 (.ofNat 0)))⟩,
      ⟨some (K.of 32), none, .mv (.t (K.of 31))⟩,
      ⟨some (K.of 33), some ((K.of 32), false), .mv (.t (K.of 1))⟩,
      ⟨some (K.of 34), some ((K.of 32), false), .ibin .gtr (.t (K.of 33)) (.c (.int .i64 (.ofNat 4000)))⟩,
      ⟨some (K.of 35), none, .pick (.t (K.of 32)) (.c (.bool true)) (.t (K.of 34))⟩])
  (.cond (.t (K.of 35))
   (.seq
   (.reg [⟨some (K.of 36), none, .mv (.t (K.of 7))⟩,
      ⟨some (K.of 37), none, .ibin .eql (.t (K.of 36)) (.c (.int .i64 (.ofNat 1)))⟩,
      ⟨some (K.of 4), none, .mv (.t (K.of 37))⟩])
   .ret)
   .skip))
noncomputable def p6_4 : ACode := (.seq
  (.reg [⟨some (K.of 38), none, .mv (.t (K.of 7))⟩,
      ⟨some (K.of 39), none, .ibin .neq (.t (K.of 38)) (.c (.int .i64 (.ofNat 0)))⟩,
      ⟨some (K.of 40), none, .mv (.t (K.of 39))⟩,
      ⟨some (K.of 41), some ((K.of 40), false), .mv (.t (K.of 5))⟩,
      ⟨some (K.of 42), some ((K.of 40), false), .len .sl (.t (K.of 41))⟩,
      ⟨some (K.of 43), some ((K.of 40), false), .mv (.t (K.of 1))⟩,
      ⟨some (K.of 44), some ((K.of 40), false), .ibin .neq (.t (K.of 42)) (.t (K.of 43))⟩,
      ⟨some (K.of 45), none, .pick (.t (K.of 40)) (.c (.bool true)) (.t (K.of 44))⟩])
  (.cond (.t (K.of 45))
   (.seq
   (.reg [⟨some (K.of 4), none, .mv (.c (.bool false))⟩])
   .ret)
   .skip))
noncomputable def p6_5 : ACode := (.reg [⟨some (K.of 46), none, .mv (.t (K.of 1))⟩,
      ⟨some (K.of 47), none, .mkslice (.t (K.of 46)) (.t (K.of 46)) [(.int .i64 (.ofNat 0))] 8⟩,
      ⟨some (K.of 8), none, .mv (.t (K.of 47))⟩])
noncomputable def b6_0 : ACode := (.seq
  (.reg [⟨some (K.of 51), none, .ibin .lss (.t (K.of 50)) (.t (K.of 49))⟩])
  (.seq
  (.cond (.t (K.of 51))
    .skip
    (.exit 0))
  (.seq
  (.block 1 (.seq
    (.reg [⟨some (K.of 52), none, .mv (.t (K.of 50))⟩,
      ⟨some (K.of 9), none, .mv (.t (K.of 52))⟩])
    (.reg [⟨some (K.of 53), none, .mv (.t (K.of 8))⟩,
      ⟨some (K.of 54), none, .mv (.t (K.of 9))⟩,
      ⟨some (K.of 55), none, .idx (.t (K.of 53)) (.t (K.of 54)) 1⟩,
      ⟨none, none, .store (.t (K.of 55)) (.c (.int .i64 (.negSucc 0))) 1⟩])))
  (.reg [⟨some (K.of 56), none, .ibin .add (.t (K.of 50)) (.c (.int .i64 (.ofNat 1)))⟩,
      ⟨some (K.of 50), none, .mv (.t (K.of 56))⟩]))))
noncomputable def p6_6 : ACode := (.seq
  (.reg [⟨some (K.of 48), none, .mv (.t (K.of 8))⟩,
      ⟨some (K.of 49), none, .len .sl (.t (K.of 48))⟩,
      ⟨some (K.of 50), none, .mv (.c (.int .i64 (.ofNat 0)))⟩])
  (.block 0 (.loop b6_0)))
noncomputable def b6_1 : ACode := (.seq
  (.reg [⟨some (K.of 60), none, .ibin .lss (.t (K.of 59)) (.t (K.of 58))⟩])
  (.seq
  (.cond (.t (K.of 60))
    .skip
    (.exit 2))
  (.seq
  (.block 3 (.seq
    (.reg [⟨some (K.of 61), none, .mv (.t (K.of 59))⟩,
      ⟨some (K.of 62), none, .idx (.t (K.of 57)) (.t (K.of 59)) 1⟩,
      ⟨some (K.of 63), none, .load1 (.t (K.of 62))⟩,
      ⟨some (K.of 10), none, .mv (.t (K.of 61))⟩,
      ⟨some (K.of 11), none, .mv (.t (K.of 63))⟩])
    (.seq
    (.seq
     (.reg [⟨some (K.of 64), none, .mv (.t (K.of 11))⟩,
      ⟨some (K.of 65), none, .ibin .lss (.t (K.of 64)) (.c (.int .i64 (.ofNat 0)))⟩,
      ⟨some (K.of 66), none, .mv (.t (K.of 65))⟩,
      ⟨some (K.of 67), some ((K.of 66), false), .mv (.t (K.of 11))⟩,
      ⟨some (K.of 68), some ((K.of 66), false), .mv (.t (K.of 1))⟩,
      ⟨some (K.of 69), some ((K.of 66), false), .ibin .geq (.t (K.of 67)) (.t (K.of 68))⟩,
      ⟨some (K.of 70), none, .pick (.t (K.of 66)) (.c (.bool true)) (.t (K.of 69))⟩,
      ⟨some (K.of 71), none, .mv (.t (K.of 70))⟩,
      ⟨some (K.of 72), some ((K.of 71), false), .mv (.t (K.of 8))⟩,
      ⟨some (K.of 73), some ((K.of 71), false), .mv (.t (K.of 11))⟩,
      ⟨some (K.of 74), some ((K.of 71), false), .idx (.t (K.of 72)) (.t (K.of 73)) 1⟩,
      ⟨some (K.of 75), some ((K.of 71), false), .load1 (.t (K.of 74))⟩,
      ⟨some (K.of 76), some ((K.of 71), false), .ibin .geq (.t (K.of 75)) (.c (.int .i64 (.ofNat 0)))⟩,
      ⟨some (K.of 77), none, .pick (.t (K.of 71)) (.c (.bool true)) (.t (K.of 76))⟩])
     (.cond (.t (K.of 77))
      (.seq
      (.reg [⟨some (K.of 4), none, .mv (.c (.bool false))⟩])
      .ret)
      .skip))
    (.reg [⟨some (K.of 78), none, .mv (.t (K.of 8))⟩,
      ⟨some (K.of 79), none, .mv (.t (K.of 11))⟩,
      ⟨some (K.of 80), none, .mv (.t (K.of 10))⟩,
      ⟨some (K.of 81), none, .idx (.t (K.of 78)) (.t (K.of 79)) 1⟩,
      ⟨none, none, .store (.t (K.of 81)) (.t (K.of 80)) 1⟩]))))
  (.reg [⟨some (K.of 82), none, .ibin .add (.t (K.of 59)) (.c (.int .i64 (.ofNat 1)))⟩,
      ⟨some (K.of 59), none, .mv (.t (K.of 82))⟩]))))
noncomputable def p6_7 : ACode := (.seq
  (.reg [⟨some (K.of 57), none, .mv (.t (K.of 5))⟩,
      ⟨some (K.of 58), none, .len .sl (.t (K.of 57))⟩,
      ⟨some (K.of 59), none, .mv (.c (.int .i64 (.ofNat 0)))⟩])
  (.block 2 (.loop b6_1)))
noncomputable def p6_8 : ACode := (.reg [⟨some (K.of 83), none, .mv (.t (K.of 1))⟩,
      ⟨some (K.of 84), none, .mkslice (.t (K.of 83)) (.t (K.of 83)) [(.int .i64 (.ofNat 0))] 8⟩,
      ⟨some (K.of 12), none, .mv (.t (K.of 84))⟩])
noncomputable def p6_9 : ACode := (.reg [⟨some (K.of 85), none, .mv (.t (K.of 1))⟩,
      ⟨some (K.of 86), none, .mkslice (.t (K.of 85)) (.t (K.of 85)) [(.int .i64 (.ofNat 0))] 8⟩,
      ⟨some (K.of 13), none, .mv (.t (K.of 86))⟩])
noncomputable def b6_2 : ACode := (.seq
  (.reg [⟨some (K.of 90), none, .ibin .lss (.t (K.of 89)) (.t (K.of 88))⟩])
  (.seq
  (.cond (.t (K.of 90))
    .skip
    (.exit 4))
  (.seq
  (.block 5 (.seq
    (.reg [⟨some (K.of 91), none, .mv (.t (K.of 89))⟩,
      ⟨some (K.of 14), none, .mv (.t (K.of 91))⟩])
    (.reg [⟨some (K.of 92), none, .mv (.t (K.of 13))⟩,
      ⟨some (K.of 93), none, .mv (.t (K.of 14))⟩,
      ⟨some (K.of 94), none, .mv (.t (K.of 14))⟩,
      ⟨some (K.of 95), none, .idx (.t (K.of 92)) (.t (K.of 93)) 1⟩,
      ⟨none, none, .store (.t (K.of 95)) (.t (K.of 94)) 1⟩])))
  (.reg [⟨some (K.of 96), none, .ibin .add (.t (K.of 89)) (.c (.int .i64 (.ofNat 1)))⟩,
      ⟨some (K.of 89), none, .mv (.t (K.of 96))⟩]))))
noncomputable def p6_10 : ACode := (.seq
  (.reg [⟨some (K.of 87), none, .mv (.t (K.of 13))⟩,
      ⟨some (K.of 88), none, .len .sl (.t (K.of 87))⟩,
      ⟨some (K.of 89), none, .mv (.c (.int .i64 (.ofNat 0)))⟩])
  (.block 4 (.loop b6_2)))
noncomputable def b6_3 : ACode := (.seq
  (.seq
   (.reg [⟨some (K.of 99), none, .mv (.t (K.of 15))⟩,
      ⟨some (K.of 100), none, .ibin .geq (.t (K.of 99)) (.c (.int .i64 (.ofNat 1)))⟩])
   (.cond (.t (K.of 100))
    .skip
    (.exit 6)))
  (.seq
  (.block 7 (.seq
    (.draw [⟨[⟨some (K.of 103), none, .mv (.t (K.of 13))⟩,
      ⟨some (K.of 104), none, .mv (.t (K.of 15))⟩,
      ⟨some (K.of 105), none, .ibin .add (.t (K.of 104)) (.c (.int .i64 (.ofNat 1)))⟩,
      ⟨some (K.of 107), none, .mv (.t (K.of 5))⟩,
      ⟨some (K.of 108), none, .mv (.t (K.of 15))⟩,
      ⟨some (K.of 109), none, .idx (.t (K.of 107)) (.t (K.of 108)) 1⟩,
      ⟨some (K.of 110), none, .load1 (.t (K.of 109))⟩], [⟨some (K.of 103), none, .mv (.t (K.of 13))⟩,
      ⟨some (K.of 104), none, .mv (.t (K.of 15))⟩,
      ⟨some (K.of 105), none, .ibin .add (.t (K.of 104)) (.c (.int .i64 (.ofNat 1)))⟩,
      ⟨some (K.of 107), none, .mv (.t (K.of 5))⟩,
      ⟨some (K.of 108), none, .mv (.t (K.of 15))⟩,
      ⟨some (K.of 109), none, .idx (.t (K.of 107)) (.t (K.of 108)) 1⟩,
      ⟨some (K.of 110), none, .load1 (.t (K.of 109))⟩], some ⟨some (K.of 106), none, .slice (.t (K.of 103)) none (some (.t (K.of 105))) none 1⟩⟩, ⟨[], [⟨some (K.of 107), none, .mv (.t (K.of 5))⟩,
      ⟨some (K.of 108), none, .mv (.t (K.of 15))⟩,
      ⟨some (K.of 109), none, .idx (.t (K.of 107)) (.t (K.of 108)) 1⟩,
      ⟨some (K.of 110), none, .load1 (.t (K.of 109))⟩], some ⟨some (K.of 111), none, .call 19 [(.t (K.of 106)), (.t (K.of 110))]⟩⟩, ⟨[⟨some (K.of 16), none, .mv (.t (K.of 111))⟩], [⟨some (K.of 16), none, .mv (.t (K.of 111))⟩], none⟩] [(K.of 103), (K.of 104), (K.of 105), (K.of 106), (K.of 107), (K.of 108), (K.of 109), (K.of 110), (K.of 111), (K.of 16)])
    (.seq
    (.seq
     (.reg [⟨some (K.of 112), none, .mv (.t (K.of 16))⟩,
      ⟨some (K.of 113), none, .ibin .lss (.t (K.of 112)) (.c (.int .i64 (.ofNat 0)))⟩])
     (.cond (.t (K.of 113))
      (.seq
      (.reg [⟨some (K.of 4), none, .mv (.c (.bool false))⟩])
      .ret)
      .skip))
    (.seq
    (.reg [⟨some (K.of 114), none, .mv (.t (K.of 12))⟩,
      ⟨some (K.of 115), none, .mv (.t (K.of 15))⟩,
      ⟨some (K.of 116), none, .mv (.t (K.of 16))⟩,
      ⟨some (K.of 117), none, .idx (.t (K.of 114)) (.t (K.of 115)) 1⟩,
      ⟨none, none, .store (.t (K.of 117)) (.t (K.of 116)) 1⟩])
    (.draw [⟨[⟨some (K.of 118), none, .mv (.t (K.of 13))⟩,
      ⟨some (K.of 119), none, .mv (.t (K.of 15))⟩,
      ⟨some (K.of 120), none, .mv (.t (K.of 13))⟩,
      ⟨some (K.of 121), none, .mv (.t (K.of 16))⟩,
      ⟨some (K.of 122), none, .mv (.t (K.of 13))⟩,
      ⟨some (K.of 123), none, .mv (.t (K.of 16))⟩,
      ⟨some (K.of 124), none, .idx (.t (K.of 122)) (.t (K.of 123)) 1⟩,
      ⟨some (K.of 125), none, .load1 (.t (K.of 124))⟩,
      ⟨some (K.of 126), none, .mv (.t (K.of 13))⟩,
      ⟨some (K.of 127), none, .mv (.t (K.of 15))⟩,
      ⟨some (K.of 128), none, .idx (.t (K.of 126)) (.t (K.of 127)) 1⟩,
      ⟨some (K.of 129), none, .load1 (.t (K.of 128))⟩,
      ⟨some (K.of 130), none, .idx (.t (K.of 118)) (.t (K.of 119)) 1⟩], [⟨some (K.of 118), none, .mv (.t (K.of 13))⟩,
      ⟨some (K.of 119), none, .mv (.t (K.of 15))⟩,
      ⟨some (K.of 120), none, .mv (.t (K.of 13))⟩,
      ⟨some (K.of 121), none, .mv (.t (K.of 16))⟩,
      ⟨some (K.of 122), none, .mv (.t (K.of 13))⟩,
      ⟨some (K.of 123), none, .mv (.t (K.of 16))⟩,
      ⟨some (K.of 124), none, .idx (.t (K.of 122)) (.t (K.of 123)) 1⟩,
      ⟨some (K.of 125), none, .load1 (.t (K.of 124))⟩,
      ⟨some (K.of 126), none, .mv (.t (K.of 13))⟩,
      ⟨some (K.of 127), none, .mv (.t (K.of 15))⟩,
      ⟨some (K.of 128), none, .idx (.t (K.of 126)) (.t (K.of 127)) 1⟩,
      ⟨some (K.of 129), none, .load1 (.t (K.of 128))⟩,
      ⟨some (K.of 130), none, .idx (.t (K.of 118)) (.t (K.of 119)) 1⟩], some ⟨none, none, .store (.t (K.of 130)) (.t (K.of 125)) 1⟩⟩, ⟨[⟨some (K.of 131), none, .idx (.t (K.of 120)) (.t (K.of 121)) 1⟩], [⟨some (K.of 120), none, .mv (.t (K.of 13))⟩,
      ⟨some (K.of 121), none, .mv (.t (K.of 16))⟩,
      ⟨some (K.of 131), none, .idx (.t (K.of 120)) (.t (K.of 121)) 1⟩], some ⟨none, none, .store (.t (K.of 131)) (.t (K.of 129)) 1⟩⟩, ⟨[], [], none⟩] [(K.of 118), (K.of 119), (K.of 120), (K.of 121), (K.of 122), (K.of 123), (K.of 124), (K.of 125), (K.of 126), (K.of 127), (K.of 128), (K.of 129), (K.of 130), (K.of 131)])))))
  (.reg [⟨some (K.of 101), none, .mv (.t (K.of 15))⟩,
      ⟨some (K.of 102), none, .ibin .sub (.t (K.of 101)) (.c (.int .i64 (.ofNat 1)))⟩,
      ⟨some (K.of 15), none, .mv (.t (K.of 102))⟩])))
noncomputable def p6_11 : ACode := (.seq
  (.reg [⟨some (K.of 97), none, .mv (.t (K.of 1))⟩,
      ⟨some (K.of 98), none, .ibin .sub (.t (K.of 97)) (.c (.int .i64 (.ofNat 1)))⟩,
      ⟨some (K.of 15), none, .mv (.t (K.of 98))⟩])
  (.block 6 (.loop b6_3)))
noncomputable def b6_4 : ACode := (.seq
  (.seq
   (.reg [⟨some (K.of 134), none, .mv (.t (K.of 17))⟩,
      ⟨some (K.of 135), none, .ibin .geq (.t (K.of 134)) (.c (.int .i64 (.ofNat 1)))⟩])
   (.cond (.t (K.of 135))
    .skip
    (.exit 8)))
  (.seq
  (.block 9 (.seq
    (.reg [⟨some (K.of 139), none, .mv (.t (K.of 0))⟩,
      ⟨some (K.of 140), none, .mv (.t (K.of 17))⟩,
      ⟨some (K.of 141), none, .ibin .add (.t (K.of 140)) (.c (.int .i64 (.ofNat 1)))⟩,
      ⟨some (K.of 142), none, .call 8 [(.t (K.of 139)), (.t (K.of 141))]⟩,
      ⟨some (K.of 138), none, .mv (.t (K.of 142))⟩,
      ⟨some (K.of 143), none, .ext (.t (K.of 138)) 0⟩,
      ⟨some (K.of 144), none, .ext (.t (K.of 138)) 1⟩,
      ⟨some (K.of 145), none, .ext (.t (K.of 138)) 2⟩,
      ⟨some (K.of 18), none, .mv (.t (K.of 143))⟩,
      ⟨some (K.of 19), none, .mv (.t (K.of 144))⟩,
      ⟨some (K.of 20), none, .mv (.t (K.of 145))⟩])
    (.seq
    (.seq
     (.reg [⟨some (K.of 146), none, .mv (.t (K.of 20))⟩,
      ⟨some (K.of 147), none, .ibin .neq (.t (K.of 146)) (.c (.int .i64 (.ofNat 0)))⟩,
      ⟨some (K.of 148), none, .mv (.t (K.of 147))⟩,
      ⟨some (K.of 149), some ((K.of 148), false), .mv (.t (K.of 18))⟩,
      ⟨some (K.of 150), some ((K.of 148), false), .mv (.t (K.of 12))⟩,
      ⟨some (K.of 151), some ((K.of 148), false), .mv (.t (K.of 17))⟩,
      ⟨some (K.of 152), some ((K.of 148), false), .idx (.t (K.of 150)) (.t (K.of 151)) 1⟩,
      ⟨some (K.of 153), some ((K.of 148), false), .load1 (.t (K.of 152))⟩,
      ⟨some (K.of 154), some ((K.of 148), false), .ibin .neq (.t (K.of 149)) (.t (K.of 153))⟩,
      ⟨some (K.of 155), none, .pick (.t (K.of 148)) (.c (.bool true)) (.t (K.of 154))⟩])
     (.cond (.t (K.of 155))
      (.seq
      (.reg [⟨some (K.of 4), none, .mv (.c (.bool false))⟩])
      .ret)
      .skip))
    (.reg [⟨some (K.of 156), none, .mv (.t (K.of 19))⟩,
      ⟨some (K.of 0), none, .mv (.t (K.of 156))⟩]))))
  (.reg [⟨some (K.of 136), none, .mv (.t (K.of 17))⟩,
      ⟨some (K.of 137), none, .ibin .sub (.t (K.of 136)) (.c (.int .i64 (.ofNat 1)))⟩,
      ⟨some (K.of 17), none, .mv (.t (K.of 137))⟩])))
noncomputable def p6_12 : ACode := (.seq
  (.reg [⟨some (K.of 132), none, .mv (.t (K.of 1))⟩,
      ⟨some (K.of 133), none, .ibin .sub (.t (K.of 132)) (.c (.int .i64 (.ofNat 1)))⟩,
      ⟨some (K.of 17), none, .mv (.t (K.of 133))⟩])
  (.block 8 (.loop b6_4)))
noncomputable def p6_13 : ACode := (.reg [⟨some (K.of 157), none, .mv (.t (K.of 0))⟩,
      ⟨some (K.of 158), none, .mv (.t (K.of 6))⟩,
      ⟨some (K.of 159), none, .ibin .eql (.t (K.of 157)) (.t (K.of 158))⟩,
      ⟨some (K.of 4), none, .mv (.t (K.of 159))⟩])
/-- foregone/foregonelaw28.SimulOrders -/
noncomputable def c6 : ACode := (.seq p6_0 (.seq p6_1 (.seq p6_2 (.seq p6_3 (.seq p6_4 (.seq p6_5 (.seq p6_6 (.seq p6_7 (.seq p6_8 (.seq p6_9 (.seq p6_10 (.seq p6_11 (.seq p6_12 (.seq p6_13 .ret))))))))))))))
noncomputable def r6 : List RV := [(.t (K.of 4))]
noncomputable def p8_0 : ACode := (.reg [⟨some (K.of 4), none, .mv (.c (.int .i64 (.ofNat 0)))⟩,
      ⟨some (K.of 5), none, .mv (.c (.int .u64 (.ofNat 0)))⟩,
      ⟨some (K.of 6), none, .mv (.c (.int .i64 (.ofNat 0)))⟩])
noncomputable def p8_1 : ACode := (.seq
  (.reg [⟨some (K.of 9), none, .mv (.t (K.of 1))⟩,
      ⟨some (K.of 10), none, .ibin .lss (.t (K.of 9)) (.c (.int .i64 (.ofNat 1)))⟩,
      ⟨some (K.of 11), none, .mv (.t (K.of 10))⟩,
      ⟨some (K.of 12), some ((K.of 11), false), .mv (.t (K.of 1))⟩,
      ⟨some (K.of 13), some ((K.of 11), false), .ibin .gtr (.t (K.of 12)) (.c (.int .i64 (.ofNat 2147483648)))⟩,
      ⟨some (K.of 14), none, .pick (.t (K.of 11)) (.c (.bool true)) (.t (K.of 13))⟩])
  (.cond (.t (K.of 14))
   (.seq
   (.reg [⟨some (K.of 4), none, .mv (.c (.int .i64 (.ofNat 0)))⟩,
      ⟨some (K.of 5), none, .mv (.c (.int .u64 (.ofNat 0)))⟩,
      ⟨some (K.of 6), none, .mv (.c (.int .i64 (.ofNat 1)))⟩])
   .ret)
   .skip))
noncomputable def p8_2 : ACode := (.reg [⟨some (K.of 15), none, .mv (.t (K.of 0))⟩,
      ⟨some (K.of 7), none, .alloc [(.int .u64 (.ofNat 0))]⟩,
      ⟨none, none, .store (.t (K.of 7)) (.t (K.of 15)) 1⟩])
noncomputable def p8_3 : ACode := (.reg [⟨some (K.of 16), none, .mv (.t (K.of 1))⟩,
      ⟨some (K.of 17), none, .call 27 [(.t (K.of 7)), (.t (K.of 16))]⟩,
      ⟨some (K.of 8), none, .mv (.t (K.of 17))⟩])
noncomputable def p8_4 : ACode := (.draw [⟨[⟨some (K.of 18), none, .mv (.t (K.of 8))⟩,
      ⟨some (K.of 19), none, .load1 (.t (K.of 7))⟩,
      ⟨some (K.of 4), none, .mv (.t (K.of 18))⟩,
      ⟨some (K.of 5), none, .mv (.t (K.of 19))⟩,
      ⟨some (K.of 6), none, .mv (.c (.int .i64 (.ofNat 0)))⟩], [⟨some (K.of 18), none, .mv (.t (K.of 8))⟩,
      ⟨some (K.of 19), none, .load1 (.t (K.of 7))⟩,
      ⟨some (K.of 4), none, .mv (.t (K.of 18))⟩,
      ⟨some (K.of 5), none, .mv (.t (K.of 19))⟩,
      ⟨some (K.of 6), none, .mv (.c (.int .i64 (.ofNat 0)))⟩], none⟩] [(K.of 18), (K.of 19), (K.of 4), (K.of 5), (K.of 6)])
/-- foregone/simul.Draw -/
noncomputable def c8 : ACode := (.seq p8_0 (.seq p8_1 (.seq p8_2 (.seq p8_3 (.seq p8_4 .ret)))))
noncomputable def r8 : List RV := [(.t (K.of 4)), (.t (K.of 5)), (.t (K.of 6))]
noncomputable def p9_0 : ACode := (.reg [⟨some (K.of 4), none, .mv (.c (.int .i64 (.ofNat 0)))⟩,
      ⟨some (K.of 5), none, .mv (.c (.int .u64 (.ofNat 0)))⟩,
      ⟨some (K.of 6), none, .mv (.c (.int .i64 (.ofNat 0)))⟩])
noncomputable def p9_1 : ACode := (.seq
  (.reg [⟨some (K.of 9), none, .mv (.t (K.of 1))⟩,
      ⟨some (K.of 10), none, .ibin .lss (.t (K.of 9)) (.c (.int .i64 (.ofNat 1)))⟩,
      ⟨some (K.of 11), none, .mv (.t (K.of 10))⟩,
      ⟨some (K.of 12), some ((K.of 11), false), .mv (.t (K.of 1))⟩,
      ⟨some (K.of 13), some ((K.of 11), false), .ibin .gtr (.t (K.of 12)) (.c (.int .i64 (.ofNat 2147483648)))⟩,
      ⟨some (K.of 14), none, .pick (.t (K.of 11)) (.c (.bool true)) (.t (K.of 13))⟩])
  (.cond (.t (K.of 14))
   (.seq
   (.reg [⟨some (K.of 4), none, .mv (.c (.int .i64 (.ofNat 0)))⟩,
      ⟨some (K.of 5), none, .mv (.c (.int .u64 (.ofNat 0)))⟩,
      ⟨some (K.of 6), none, .mv (.c (.int .i64 (.ofNat 1)))⟩])
   .ret)
   .skip))
noncomputable def p9_2 : ACode := (.reg [⟨some (K.of 16), none, .mv (.t (K.of 0))⟩,
      ⟨some (K.of 17), none, .mv (.t (K.of 1))⟩,
      ⟨some (K.of 18), none, .call 28 [(.t (K.of 16)), (.t (K.of 17))]⟩,
      ⟨some (K.of 15), none, .mv (.t (K.of 18))⟩,
      ⟨some (K.of 19), none, .ext (.t (K.of 15)) 0⟩,
      ⟨some (K.of 20), none, .ext (.t (K.of 15)) 1⟩,
      ⟨some (K.of 7), none, .mv (.t (K.of 19))⟩,
      ⟨some (K.of 8), none, .mv (.t (K.of 20))⟩])
noncomputable def p9_3 : ACode := (.reg [⟨some (K.of 21), none, .mv (.t (K.of 7))⟩,
      ⟨some (K.of 22), none, .mv (.t (K.of 8))⟩,
      ⟨some (K.of 4), none, .mv (.t (K.of 21))⟩,
      ⟨some (K.of 5), none, .mv (.t (K.of 22))⟩,
      ⟨some (K.of 6), none, .mv (.c (.int .i64 (.ofNat 0)))⟩])
/-- foregone/foregoneref28.Draw -/
noncomputable def c9 : ACode := (.seq p9_0 (.seq p9_1 (.seq p9_2 (.seq p9_3 .ret))))
noncomputable def r9 : List RV := [(.t (K.of 4)), (.t (K.of 5)), (.t (K.of 6))]
noncomputable def p10_0 : ACode := (.reg [⟨some (K.of 2), none, .mv (.c (.int .u64 (.ofNat 0)))⟩])
noncomputable def p10_1 : ACode := (.reg [⟨some (K.of 3), none, .mv (.t (K.of 0))⟩,
      ⟨some (K.of 4), none, .conv .u64 (.t (K.of 3))⟩,
      ⟨some (K.of 5), none, .call 29 [(.t (K.of 4))]⟩,
      ⟨some (K.of 6), none, .call 29 [(.t (K.of 5))]⟩,
      ⟨some (K.of 2), none, .mv (.t (K.of 6))⟩])
/-- foregone/simul.Seed -/
noncomputable def c10 : ACode := (.seq p10_0 (.seq p10_1 .ret))
noncomputable def r10 : List RV := [(.t (K.of 2))]
noncomputable def p11_0 : ACode := (.reg [⟨some (K.of 2), none, .mv (.c (.int .u64 (.ofNat 0)))⟩])
noncomputable def p11_1 : ACode := (.reg [⟨some (K.of 4), none, .mv (.t (K.of 0))⟩,
      ⟨some (K.of 5), none, .conv .u64 (.t (K.of 4))⟩,
      ⟨some (K.of 6), none, .call 30 [(.t (K.of 5))]⟩,
      ⟨some (K.of 3), none, .mv (.t (K.of 6))⟩])
noncomputable def p11_2 : ACode := (.reg [⟨some (K.of 7), none, .mv (.t (K.of 3))⟩,
      ⟨some (K.of 8), none, .call 30 [(.t (K.of 7))]⟩,
      ⟨some (K.of 2), none, .mv (.t (K.of 8))⟩])
/-- foregone/foregoneref28.Seed -/
noncomputable def c11 : ACode := (.seq p11_0 (.seq p11_1 (.seq p11_2 .ret)))
noncomputable def r11 : List RV := [(.t (K.of 2))]
noncomputable def p12_0 : ACode := (.reg [⟨some (K.of 4), none, .mv (.c (.int .u64 (.ofNat 0)))⟩,
      ⟨some (K.of 5), none, .mv (.c (.int .i64 (.ofNat 0)))⟩])
noncomputable def p12_1 : ACode := (.seq
  (.reg [⟨some (K.of 9), none, .mv (.t (K.of 1))⟩,
      ⟨some (K.of 10), none, .ibin .lss (.t (K.of 9)) (.c (.int .i64 (.ofNat 0)))⟩])
  (.cond (.t (K.of 10))
   (.seq
   (.reg [⟨some (K.of 4), none, .mv (.c (.int .u64 (.ofNat 0)))⟩,
      ⟨some (K.of 5), none, .mv (.c (.int .i64 (.ofNat 1)))⟩])
   .ret)
   .skip))
noncomputable def p12_2 : ACode := (.reg [⟨some (K.of 11), none, .mk [(.int .u64 (.ofNat 0)), (.int .u64 (.ofNat 0))] [(0, 1, (.c (.int .u64 (.ofNat 1)))), (1, 1, (.c (.int .u64 (.ofNat 0))))]⟩,
      ⟨some (K.of 12), none, .mk [(.int .u64 (.ofNat 0)), (.int .u64 (.ofNat 0))] [(0, 1, (.c (.int .u64 (.ofNat 1)))), (1, 1, (.c (.int .u64 (.ofNat 0))))]⟩,
      ⟨some (K.of 13), none, .mk [(.int .u64 (.ofNat 0)), (.int .u64 (.ofNat 0))] [(0, 1, (.c (.int .u64 (.ofNat 6364136223846793005)))), (1, 1, (.c (.int .u64 (.ofNat 1442695040888963407))))]⟩,
      ⟨some (K.of 6), none, .alloc [(.int .u64 (.ofNat 0)), (.int .u64 (.ofNat 0))]⟩,
      ⟨some (K.of 7), none, .alloc [(.int .u64 (.ofNat 0)), (.int .u64 (.ofNat 0))]⟩,
      ⟨some (K.of 8), none, .alloc [(.int .u64 (.ofNat 0)), (.int .u64 (.ofNat 0))]⟩,
      ⟨none, none, .store (.t (K.of 6)) (.t (K.of 11)) 2⟩,
      ⟨none, none, .store (.t (K.of 7)) (.t (K.of 12)) 2⟩,
      ⟨none, none, .store (.t (K.of 8)) (.t (K.of 13)) 2⟩])
noncomputable def b12_0 : ACode := (.seq
  (.seq
   (.reg [⟨some (K.of 14), none, .mv (.t (K.of 1))⟩,
      ⟨some (K.of 15), none, .ibin .gtr (.t (K.of 14)) (.c (.int .i64 (.ofNat 0)))⟩])
   (.cond (.t (K.of 15))
    .skip
    (.exit 0)))
  (.seq
  (.block 1 (.seq
    (.seq
     (.reg [⟨some (K.of 18), none, .mv (.t (K.of 1))⟩,
      ⟨some (K.of 19), none, .ibin .and (.t (K.of 18)) (.c (.int .i64 (.ofNat 1)))⟩,
      ⟨some (K.of 20), none, .ibin .eql (.t (K.of 19)) (.c (.int .i64 (.ofNat 1)))⟩])
     (.cond (.t (K.of 20))
      (.reg [⟨some (K.of 21), none, .loadN (.t (K.of 7)) 2⟩,
      ⟨some (K.of 22), none, .loadN (.t (K.of 8)) 2⟩,
      ⟨some (K.of 23), none, .call 31 [(.t (K.of 21)), (.t (K.of 22))]⟩,
      ⟨none, none, .store (.t (K.of 7)) (.t (K.of 23)) 2⟩])
      .skip))
    (.reg [⟨some (K.of 24), none, .loadN (.t (K.of 8)) 2⟩,
      ⟨some (K.of 25), none, .loadN (.t (K.of 8)) 2⟩,
      ⟨some (K.of 26), none, .call 31 [(.t (K.of 24)), (.t (K.of 25))]⟩,
      ⟨none, none, .store (.t (K.of 8)) (.t (K.of 26)) 2⟩])))
  (.reg [⟨some (K.of 16), none, .mv (.t (K.of 1))⟩,
      ⟨some (K.of 17), none, .ibin .shr (.t (K.of 16)) (.c (.int .u64 (.ofNat 1)))⟩,
      ⟨some (K.of 1), none, .mv (.t (K.of 17))⟩])))
noncomputable def p12_3 : ACode := (.block 0 (.loop b12_0))
noncomputable def p12_4 : ACode := (.seq
  (.reg [⟨some (K.of 27), none, .loadN (.t (K.of 7)) 2⟩,
      ⟨some (K.of 28), none, .loadN (.t (K.of 6)) 2⟩,
      ⟨some (K.of 29), none, .eqv false (.cells [.int, .int]) (.t (K.of 27)) (.t (K.of 28))⟩])
  (.cond (.t (K.of 29))
   (.seq
   (.reg [⟨some (K.of 30), none, .mv (.t (K.of 0))⟩,
      ⟨some (K.of 4), none, .mv (.t (K.of 30))⟩,
      ⟨some (K.of 5), none, .mv (.c (.int .i64 (.ofNat 0)))⟩])
   .ret)
   .skip))
noncomputable def p12_5 : ACode := (.reg [⟨some (K.of 31), none, .mv (.t (K.of 0))⟩,
      ⟨some (K.of 32), none, .idxA (.t (K.of 7)) (.c (.int .i64 (.ofNat 0))) 1 2⟩,
      ⟨some (K.of 33), none, .load1 (.t (K.of 32))⟩,
      ⟨some (K.of 34), none, .ibin .mul (.t (K.of 31)) (.t (K.of 33))⟩,
      ⟨some (K.of 35), none, .idxA (.t (K.of 7)) (.c (.int .i64 (.ofNat 1))) 1 2⟩,
      ⟨some (K.of 36), none, .load1 (.t (K.of 35))⟩,
      ⟨some (K.of 37), none, .ibin .add (.t (K.of 34)) (.t (K.of 36))⟩,
      ⟨some (K.of 4), none, .mv (.t (K.of 37))⟩,
      ⟨some (K.of 5), none, .mv (.c (.int .i64 (.ofNat 0)))⟩])
/-- foregone/simul.Skip -/
noncomputable def c12 : ACode := (.seq p12_0 (.seq p12_1 (.seq p12_2 (.seq p12_3 (.seq p12_4 (.seq p12_5 .ret))))))
noncomputable def r12 : List RV := [(.t (K.of 4)), (.t (K.of 5))]
noncomputable def p13_0 : ACode := (.reg [⟨some (K.of 4), none, .mv (.c (.int .u64 (.ofNat 0)))⟩,
      ⟨some (K.of 5), none, .mv (.c (.int .i64 (.ofNat 0)))⟩])
noncomputable def p13_1 : ACode := (.seq
  (.reg [⟨some (K.of 8), none, .mv (.t (K.of 1))⟩,
      ⟨some (K.of 9), none, .ibin .lss (.t (K.of 8)) (.c (.int .i64 (.ofNat 0)))⟩])
  (.cond (.t (K.of 9))
   (.seq
   (.reg [⟨some (K.of 4), none, .mv (.c (.int .u64 (.ofNat 0)))⟩,
      ⟨some (K.of 5), none, .mv (.c (.int .i64 (.ofNat 1)))⟩])
   .ret)
   .skip))
noncomputable def p13_2 : ACode := (.reg [⟨some (K.of 6), none, .mv (.c (.int .u64 (.ofNat 6364136223846793005)))⟩])
noncomputable def p13_3 : ACode := (.reg [⟨some (K.of 7), none, .mv (.c (.int .u64 (.ofNat 1442695040888963407)))⟩])
noncomputable def b13_0 : ACode := (.seq
  (.seq
   (.reg [⟨some (K.of 10), none, .mv (.t (K.of 1))⟩,
      ⟨some (K.of 11), none, .ibin .gtr (.t (K.of 10)) (.c (.int .i64 (.ofNat 0)))⟩])
   (.cond (.t (K.of 11))
    .skip
    (.exit 0)))
  (.block 1 (.seq
   (.seq
    (.reg [⟨some (K.of 12), none, .mv (.t (K.of 1))⟩,
      ⟨some (K.of 13), none, .ibin .rem (.t (K.of 12)) (.c (.int .i64 (.ofNat 2)))⟩,
      ⟨some (K.of 14), none, .ibin .eql (.t (K.of 13)) (.c (.int .i64 (.ofNat 1)))⟩])
    (.cond (.t (K.of 14))
     (.reg [⟨some (K.of 15), none, .mv (.t (K.of 0))⟩,
      ⟨some (K.of 16), none, .mv (.t (K.of 6))⟩,
      ⟨some (K.of 17), none, .ibin .mul (.t (K.of 15)) (.t (K.of 16))⟩,
      ⟨some (K.of 18), none, .mv (.t (K.of 7))⟩,
      ⟨some (K.of 19), none, .ibin .add (.t (K.of 17)) (.t (K.of 18))⟩,
      ⟨some (K.of 0), none, .mv (.t (K.of 19))⟩])
     .skip))
   (.seq
   (.reg [⟨some (K.of 20), none, .mv (.t (K.of 7))⟩,
      ⟨some (K.of 21), none, .mv (.t (K.of 6))⟩,
      ⟨some (K.of 22), none, .ibin .mul (.t (K.of 20)) (.t (K.of 21))⟩,
      ⟨some (K.of 23), none, .mv (.t (K.of 7))⟩,
      ⟨some (K.of 24), none, .ibin .add (.t (K.of 22)) (.t (K.of 23))⟩,
      ⟨some (K.of 7), none, .mv (.t (K.of 24))⟩])
   (.seq
   (.reg [⟨some (K.of 25), none, .mv (.t (K.of 6))⟩,
      ⟨some (K.of 26), none, .mv (.t (K.of 6))⟩,
      ⟨some (K.of 27), none, .ibin .mul (.t (K.of 25)) (.t (K.of 26))⟩,
      ⟨some (K.of 6), none, .mv (.t (K.of 27))⟩])
   (.reg [⟨some (K.of 28), none, .mv (.t (K.of 1))⟩,
      ⟨some (K.of 29), none, .ibin .quo (.t (K.of 28)) (.c (.int .i64 (.ofNat 2)))⟩,
      ⟨some (K.of 1), none, .mv (.t (K.of 29))⟩]))))))
noncomputable def p13_4 : ACode := (.block 0 (.loop b13_0))
noncomputable def p13_5 : ACode := (.reg [⟨some (K.of 30), none, .mv (.t (K.of 0))⟩,
      ⟨some (K.of 4), none, .mv (.t (K.of 30))⟩,
      ⟨some (K.of 5), none, .mv (.c (.int .i64 (.ofNat 0)))⟩])
/-- foregone/foregoneref28.Skip -/
noncomputable def c13 : ACode := (.seq p13_0 (.seq p13_1 (.seq p13_2 (.seq p13_3 (.seq p13_4 (.seq p13_5 .ret))))))
noncomputable def r13 : List RV := [(.t (K.of 4)), (.t (K.of 5))]
noncomputable def p14_0 : ACode := (.reg [⟨some (K.of 4), none, .mv (.c .nils)⟩,
      ⟨some (K.of 5), none, .mv (.c (.int .u64 (.ofNat 0)))⟩,
      ⟨some (K.of 6), none, .mv (.c (.int .i64 (.ofNat 0)))⟩])
noncomputable def p14_1 : ACode := (.seq
  (.reg [⟨some (K.of 12), none, .mv (.t (K.of 1))⟩,
      ⟨some (K.of 13), none, .ibin .lss (.t (K.of 12)) (.c (.int .i64 (.ofNat 0)))⟩,
      ⟨some (K.of 14), none, .mv (.t (K.of 13))⟩,
      ⟨some (K.of 15), some ((K.of 14), false), .mv (.t (K.of 1))⟩,
      ⟨some (K.of 16), some ((K.of 14), false), .ibin .gtr (.t (K.of 15)) (.c (.int .i64 (.ofNat 4000)))⟩,
      ⟨some (K.of 17), none, .pick (.t (K.of 14)) (.c (.bool true)) (.t (K.of 16))⟩])
  (.cond (.t (K.of 17))
   (.seq
   (.reg [⟨some (K.of 4), none, .mv (.c .nils)⟩,
      ⟨some (K.of 5), none, .mv (.c (.int .u64 (.ofNat 0)))⟩,
      ⟨some (K.of 6), none, .mv (.c (.int .i64 (.ofNat 1)))⟩])
   .ret)
   .skip))
noncomputable def p14_2 : ACode := (.draw [⟨[⟨some (K.of 18), none, .mv (.t (K.of 0))⟩,
      ⟨some (K.of 19), none, .mv (.t (K.of 1))⟩,
      ⟨some (K.of 20), none, .mkslice (.t (K.of 19)) (.t (K.of 19)) [(.int .i64 (.ofNat 0))] 8⟩,
      ⟨some (K.of 7), none, .alloc [(.int .u64 (.ofNat 0))]⟩], [⟨some (K.of 18), none, .mv (.t (K.of 0))⟩,
      ⟨some (K.of 19), none, .mv (.t (K.of 1))⟩,
      ⟨some (K.of 20), none, .mkslice (.t (K.of 19)) (.t (K.of 19)) [(.int .i64 (.ofNat 0))] 8⟩,
      ⟨some (K.of 7), none, .alloc [(.int .u64 (.ofNat 0))]⟩], some ⟨none, none, .store (.t (K.of 7)) (.t (K.of 18)) 1⟩⟩, ⟨[⟨some (K.of 8), none, .mv (.t (K.of 20))⟩], [⟨some (K.of 19), none, .mv (.t (K.of 1))⟩,
      ⟨some (K.of 20), none, .mkslice (.t (K.of 19)) (.t (K.of 19)) [(.int .i64 (.ofNat 0))] 8⟩,
      ⟨some (K.of 8), none, .mv (.t (K.of 20))⟩], none⟩] [(K.of 18), (K.of 19), (K.of 20), (K.of 7), (K.of 8)])
noncomputable def b14_0 : ACode := (.seq
  (.reg [⟨some (K.of 24), none, .ibin .lss (.t (K.of 23)) (.t (K.of 22))⟩])
  (.seq
  (.cond (.t (K.of 24))
    .skip
    (.exit 0))
  (.seq
  (.block 1 (.seq
    (.reg [⟨some (K.of 25), none, .mv (.t (K.of 23))⟩,
      ⟨some (K.of 9), none, .mv (.t (K.of 25))⟩])
    (.reg [⟨some (K.of 26), none, .mv (.t (K.of 8))⟩,
      ⟨some (K.of 27), none, .mv (.t (K.of 9))⟩,
      ⟨some (K.of 28), none, .mv (.t (K.of 9))⟩,
      ⟨some (K.of 29), none, .idx (.t (K.of 26)) (.t (K.of 27)) 1⟩,
      ⟨none, none, .store (.t (K.of 29)) (.t (K.of 28)) 1⟩])))
  (.reg [⟨some (K.of 30), none, .ibin .add (.t (K.of 23)) (.c (.int .i64 (.ofNat 1)))⟩,
      ⟨some (K.of 23), none, .mv (.t (K.of 30))⟩]))))
noncomputable def p14_3 : ACode := (.seq
  (.reg [⟨some (K.of 21), none, .mv (.t (K.of 8))⟩,
      ⟨some (K.of 22), none, .len .sl (.t (K.of 21))⟩,
      ⟨some (K.of 23), none, .mv (.c (.int .i64 (.ofNat 0)))⟩])
  (.block 0 (.loop b14_0)))
noncomputable def b14_1 : ACode := (.seq
  (.seq
   (.reg [⟨some (K.of 33), none, .mv (.t (K.of 10))⟩,
      ⟨some (K.of 34), none, .ibin .geq (.t (K.of 33)) (.c (.int .i64 (.ofNat 1)))⟩])
   (.cond (.t (K.of 34))
    .skip
    (.exit 2)))
  (.seq
  (.block 3 (.seq
    (.reg [⟨some (K.of 37), none, .mv (.t (K.of 10))⟩,
      ⟨some (K.of 38), none, .ibin .add (.t (K.of 37)) (.c (.int .i64 (.ofNat 1)))⟩,
      ⟨some (K.of 39), none, .call 27 [(.t (K.of 7)), (.t (K.of 38))]⟩,
      ⟨some (K.of 11), none, .mv (.t (K.of 39))⟩])
    (.draw [⟨[⟨some (K.of 40), none, .mv (.t (K.of 8))⟩,
      ⟨some (K.of 41), none, .mv (.t (K.of 10))⟩,
      ⟨some (K.of 42), none, .mv (.t (K.of 8))⟩,
      ⟨some (K.of 43), none, .mv (.t (K.of 11))⟩,
      ⟨some (K.of 44), none, .mv (.t (K.of 8))⟩,
      ⟨some (K.of 45), none, .mv (.t (K.of 11))⟩,
      ⟨some (K.of 46), none, .idx (.t (K.of 44)) (.t (K.of 45)) 1⟩,
      ⟨some (K.of 47), none, .load1 (.t (K.of 46))⟩,
      ⟨some (K.of 48), none, .mv (.t (K.of 8))⟩,
      ⟨some (K.of 49), none, .mv (.t (K.of 10))⟩,
      ⟨some (K.of 50), none, .idx (.t (K.of 48)) (.t (K.of 49)) 1⟩,
      ⟨some (K.of 51), none, .load1 (.t (K.of 50))⟩,
      ⟨some (K.of 52), none, .idx (.t (K.of 40)) (.t (K.of 41)) 1⟩], [⟨some (K.of 40), none, .mv (.t (K.of 8))⟩,
      ⟨some (K.of 41), none, .mv (.t (K.of 10))⟩,
      ⟨some (K.of 42), none, .mv (.t (K.of 8))⟩,
      ⟨some (K.of 43), none, .mv (.t (K.of 11))⟩,
      ⟨some (K.of 44), none, .mv (.t (K.of 8))⟩,
      ⟨some (K.of 45), none, .mv (.t (K.of 11))⟩,
      ⟨some (K.of 46), none, .idx (.t (K.of 44)) (.t (K.of 45)) 1⟩,
      ⟨some (K.of 47), none, .load1 (.t (K.of 46))⟩,
      ⟨some (K.of 48), none, .mv (.t (K.of 8))⟩,
      ⟨some (K.of 49), none, .mv (.t (K.of 10))⟩,
      ⟨some (K.of 50), none, .idx (.t (K.of 48)) (.t (K.of 49)) 1⟩,
      ⟨some (K.of 51), none, .load1 (.t (K.of 50))⟩,
      ⟨some (K.of 52), none, .idx (.t (K.of 40)) (.t (K.of 41)) 1⟩], some ⟨none, none, .store (.t (K.of 52)) (.t (K.of 47)) 1⟩⟩, ⟨[⟨some (K.of 53), none, .idx (.t (K.of 42)) (.t (K.of 43)) 1⟩], [⟨some (K.of 42), none, .mv (.t (K.of 8))⟩,
      ⟨some (K.of 43), none, .mv (.t (K.of 11))⟩,
      ⟨some (K.of 53), none, .idx (.t (K.of 42)) (.t (K.of 43)) 1⟩], some ⟨none, none, .store (.t (K.of 53)) (.t (K.of 51)) 1⟩⟩, ⟨[], [], none⟩] [(K.of 40), (K.of 41), (K.of 42), (K.of 43), (K.of 44), (K.of 45), (K.of 46), (K.of 47), (K.of 48), (K.of 49), (K.of 50), (K.of 51), (K.of 52), (K.of 53)])))
  (.reg [⟨some (K.of 35), none, .mv (.t (K.of 10))⟩,
      ⟨some (K.of 36), none, .ibin .sub (.t (K.of 35)) (.c (.int .i64 (.ofNat 1)))⟩,
      ⟨some (K.of 10), none, .mv (.t (K.of 36))⟩])))
noncomputable def p14_4 : ACode := (.seq
  (.reg [⟨some (K.of 31), none, .mv (.t (K.of 1))⟩,
      ⟨some (K.of 32), none, .ibin .sub (.t (K.of 31)) (.c (.int .i64 (.ofNat 1)))⟩,
      ⟨some (K.of 10), none, .mv (.t (K.of 32))⟩])
  (.block 2 (.loop b14_1)))
noncomputable def p14_5 : ACode := (.draw [⟨[⟨some (K.of 54), none, .mv (.t (K.of 8))⟩,
      ⟨some (K.of 55), none, .load1 (.t (K.of 7))⟩,
      ⟨some (K.of 4), none, .mv (.t (K.of 54))⟩,
      ⟨some (K.of 5), none, .mv (.t (K.of 55))⟩,
      ⟨some (K.of 6), none, .mv (.c (.int .i64 (.ofNat 0)))⟩], [⟨some (K.of 54), none, .mv (.t (K.of 8))⟩,
      ⟨some (K.of 55), none, .load1 (.t (K.of 7))⟩,
      ⟨some (K.of 4), none, .mv (.t (K.of 54))⟩,
      ⟨some (K.of 5), none, .mv (.t (K.of 55))⟩,
      ⟨some (K.of 6), none, .mv (.c (.int .i64 (.ofNat 0)))⟩], none⟩] [(K.of 54), (K.of 55), (K.of 4), (K.of 5), (K.of 6)])
/-- foregone/simul.Shuffle -/
noncomputable def c14 : ACode := (.seq p14_0 (.seq p14_1 (.seq p14_2 (.seq p14_3 (.seq p14_4 (.seq p14_5 .ret))))))
noncomputable def r14 : List RV := [(.t (K.of 4)), (.t (K.of 5)), (.t (K.of 6))]
noncomputable def p15_0 : ACode := (.reg [⟨some (K.of 4), none, .mv (.c .nils)⟩,
      ⟨some (K.of 5), none, .mv (.c (.int .u64 (.ofNat 0)))⟩,
      ⟨some (K.of 6), none, .mv (.c (.int .i64 (.ofNat 0)))⟩])
noncomputable def p15_1 : ACode := (.seq
  (.reg [⟨some (K.of 13), none, .mv (.t (K.of 1))⟩,
      ⟨some (K.of 14), none, .ibin .lss (.t (K.of 13)) (.c (.int .i64 (.ofNat 0)))⟩,
      ⟨some (K.of 15), none, .mv (.t (K.of 14))⟩,
      ⟨some (K.of 16), some ((K.of 15), false), .mv (.t (K.of 1))⟩,
      ⟨some (K.of 17), some ((K.of 15), false), .ibin .gtr (.t (K.of 16)) (.c (.int .i64 (.ofNat 4000)))⟩,
      ⟨some (K.of 18), none, .pick (.t (K.of 15)) (.c (.bool true)) (.t (K.of 17))⟩])
  (.cond (.t (K.of 18))
   (.seq
   (.reg [⟨some (K.of 4), none, .mv (.c .nils)⟩,
      ⟨some (K.of 5), none, .mv (.c (.int .u64 (.ofNat 0)))⟩,
      ⟨some (K.of 6), none, .mv (.c (.int .i64 (.ofNat 1)))⟩])
   .ret)
   .skip))
noncomputable def p15_2 : ACode := (.reg [⟨some (K.of 7), none, .mv (.c .nils)⟩])
noncomputable def b15_0 : ACode := (.seq
  (.seq
   (.reg [⟨some (K.of 19), none, .mv (.t (K.of 8))⟩,
      ⟨some (K.of 20), none, .mv (.t (K.of 1))⟩,
      ⟨some (K.of 21), none, .ibin .lss (.t (K.of 19)) (.t (K.of 20))⟩])
   (.cond (.t (K.of 21))
    .skip
    (.exit 0)))
  (.seq
  (.block 1 (.reg [⟨some (K.of 24), none, .mv (.t (K.of 7))⟩,
      ⟨some (K.of 25), none, .mv (.t (K.of 8))⟩,
      ⟨some (K.of 26), none, .mkSl [(.int .i64 (.ofNat 0))] [(0, 1, (.t (K.of 25)))] 1⟩,
      ⟨some (K.of 27), none, .app (.t (K.of 24)) (.t (K.of 26)) 1 8⟩,
      ⟨some (K.of 7), none, .mv (.t (K.of 27))⟩]))
  (.reg [⟨some (K.of 22), none, .mv (.t (K.of 8))⟩,
      ⟨some (K.of 23), none, .ibin .add (.t (K.of 22)) (.c (.int .i64 (.ofNat 1)))⟩,
      ⟨some (K.of 8), none, .mv (.t (K.of 23))⟩])))
noncomputable def p15_3 : ACode := (.seq
  (.reg [⟨some (K.of 8), none, .mv (.c (.int .i64 (.ofNat 0)))⟩])
  (.block 0 (.loop b15_0)))
noncomputable def b15_1 : ACode := (.seq
  (.seq
   (.reg [⟨some (K.of 30), none, .mv (.t (K.of 9))⟩,
      ⟨some (K.of 31), none, .ibin .geq (.t (K.of 30)) (.c (.int .i64 (.ofNat 1)))⟩])
   (.cond (.t (K.of 31))
    .skip
    (.exit 2)))
  (.seq
  (.block 3 (.seq
    (.reg [⟨some (K.of 35), none, .mv (.t (K.of 0))⟩,
      ⟨some (K.of 36), none, .mv (.t (K.of 9))⟩,
      ⟨some (K.of 37), none, .ibin .add (.t (K.of 36)) (.c (.int .i64 (.ofNat 1)))⟩,
      ⟨some (K.of 38), none, .call 28 [(.t (K.of 35)), (.t (K.of 37))]⟩,
      ⟨some (K.of 34), none, .mv (.t (K.of 38))⟩,
      ⟨some (K.of 39), none, .ext (.t (K.of 34)) 0⟩,
      ⟨some (K.of 40), none, .ext (.t (K.of 34)) 1⟩,
      ⟨some (K.of 10), none, .mv (.t (K.of 39))⟩,
      ⟨some (K.of 11), none, .mv (.t (K.of 40))⟩])
    (.seq
    (.reg [⟨some (K.of 41), none, .mv (.t (K.of 11))⟩,
      ⟨some (K.of 0), none, .mv (.t (K.of 41))⟩])
    (.seq
    (.reg [⟨some (K.of 42), none, .mv (.t (K.of 7))⟩,
      ⟨some (K.of 43), none, .mv (.t (K.of 9))⟩,
      ⟨some (K.of 44), none, .idx (.t (K.of 42)) (.t (K.of 43)) 1⟩,
      ⟨some (K.of 45), none, .load1 (.t (K.of 44))⟩,
      ⟨some (K.of 12), none, .mv (.t (K.of 45))⟩])
    (.seq
    (.reg [⟨some (K.of 46), none, .mv (.t (K.of 7))⟩,
      ⟨some (K.of 47), none, .mv (.t (K.of 9))⟩,
      ⟨some (K.of 48), none, .mv (.t (K.of 7))⟩,
      ⟨some (K.of 49), none, .mv (.t (K.of 10))⟩,
      ⟨some (K.of 50), none, .idx (.t (K.of 48)) (.t (K.of 49)) 1⟩,
      ⟨some (K.of 51), none, .load1 (.t (K.of 50))⟩,
      ⟨some (K.of 52), none, .idx (.t (K.of 46)) (.t (K.of 47)) 1⟩,
      ⟨none, none, .store (.t (K.of 52)) (.t (K.of 51)) 1⟩])
    (.reg [⟨some (K.of 53), none, .mv (.t (K.of 7))⟩,
      ⟨some (K.of 54), none, .mv (.t (K.of 10))⟩,
      ⟨some (K.of 55), none, .mv (.t (K.of 12))⟩,
      ⟨some (K.of 56), none, .idx (.t (K.of 53)) (.t (K.of 54)) 1⟩,
      ⟨none, none, .store (.t (K.of 56)) (.t (K.of 55)) 1⟩]))))))
  (.reg [⟨some (K.of 32), none, .mv (.t (K.of 9))⟩,
      ⟨some (K.of 33), none, .ibin .sub (.t (K.of 32)) (.c (.int .i64 (.ofNat 1)))⟩,
      ⟨some (K.of 9), none, .mv (.t (K.of 33))⟩])))
noncomputable def p15_4 : ACode := (.seq
  (.reg [⟨some (K.of 28), none, .mv (.t (K.of 1))⟩,
      ⟨some (K.of 29), none, .ibin .sub (.t (K.of 28)) (.c (.int .i64 (.ofNat 1)))⟩,
      ⟨some (K.of 9), none, .mv (.t (K.of 29))⟩])
  (.block 2 (.loop b15_1)))
noncomputable def p15_5 : ACode := (.reg [⟨some (K.of 57), none, .mv (.t (K.of 7))⟩,
      ⟨some (K.of 58), none, .mv (.t (K.of 0))⟩,
      ⟨some (K.of 4), none, .mv (.t (K.of 57))⟩,
      ⟨some (K.of 5), none, .mv (.t (K.of 58))⟩,
      ⟨some (K.of 6), none, .mv (.c (.int .i64 (.ofNat 0)))⟩])
/-- foregone/foregoneref28.Shuffle -/
noncomputable def c15 : ACode := (.seq p15_0 (.seq p15_1 (.seq p15_2 (.seq p15_3 (.seq p15_4 (.seq p15_5 .ret))))))
noncomputable def r15 : List RV := [(.t (K.of 4)), (.t (K.of 5)), (.t (K.of 6))]
noncomputable def p16_0 : ACode := (.reg [⟨some (K.of 4), none, .mv (.c (.bool false))⟩])
noncomputable def p16_1 : ACode := (.seq
  (.reg [⟨some (K.of 6), none, .mv (.t (K.of 0))⟩,
      ⟨some (K.of 7), none, .len .sl (.t (K.of 6))⟩,
      ⟨some (K.of 8), none, .mv (.t (K.of 1))⟩,
      ⟨some (K.of 9), none, .len .sl (.t (K.of 8))⟩,
      ⟨some (K.of 10), none, .ibin .neq (.t (K.of 7)) (.t (K.of 9))⟩])
  (.cond (.t (K.of 10))
   (.seq
   (.reg [⟨some (K.of 4), none, .mv (.c (.bool false))⟩])
   .ret)
   .skip))
noncomputable def b16_0 : ACode := (.seq
  (.reg [⟨some (K.of 14), none, .ibin .lss (.t (K.of 13)) (.t (K.of 12))⟩])
  (.seq
  (.cond (.t (K.of 14))
    .skip
    (.exit 0))
  (.seq
  (.block 1 (.seq
    (.reg [⟨some (K.of 15), none, .mv (.t (K.of 13))⟩,
      ⟨some (K.of 5), none, .mv (.t (K.of 15))⟩])
    (.seq
    (.draw [⟨[⟨some (K.of 16), none, .mv (.t (K.of 0))⟩,
      ⟨some (K.of 17), none, .mv (.t (K.of 5))⟩,
      ⟨some (K.of 18), none, .idx (.t (K.of 16)) (.t (K.of 17)) 1⟩,
      ⟨some (K.of 19), none, .load1 (.t (K.of 18))⟩,
      ⟨some (K.of 20), none, .mv (.t (K.of 1))⟩,
      ⟨some (K.of 21), none, .mv (.t (K.of 5))⟩,
      ⟨some (K.of 22), none, .idx (.t (K.of 20)) (.t (K.of 21)) 1⟩,
      ⟨some (K.of 23), none, .load1 (.t (K.of 22))⟩,
      ⟨some (K.of 24), none, .ibin .neq (.t (K.of 19)) (.t (K.of 23))⟩], [⟨some (K.of 16), none, .mv (.t (K.of 0))⟩,
      ⟨some (K.of 17), none, .mv (.t (K.of 5))⟩,
      ⟨some (K.of 18), none, .idx (.t (K.of 16)) (.t (K.of 17)) 1⟩,
      ⟨some (K.of 19), none, .load1 (.t (K.of 18))⟩,
      ⟨some (K.of 20), none, .mv (.t (K.of 1))⟩,
      ⟨some (K.of 21), none, .mv (.t (K.of 5))⟩,
      ⟨some (K.of 22), none, .idx (.t (K.of 20)) (.t (K.of 21)) 1⟩,
      ⟨some (K.of 23), none, .load1 (.t (K.of 22))⟩,
      ⟨some (K.of 24), none, .ibin .neq (.t (K.of 19)) (.t (K.of 23))⟩], none⟩] [(K.of 16), (K.of 17), (K.of 18), (K.of 19), (K.of 20), (K.of 21), (K.of 22), (K.of 23), (K.of 24)])
    (.cond (.t (K.of 24))
     (.seq
     (.reg [⟨some (K.of 4), none, .mv (.c (.bool false))⟩])
     .ret)
     .skip))))
  (.reg [⟨some (K.of 25), none, .ibin .add (.t (K.of 13)) (.c (.int .i64 (.ofNat 1)))⟩,
      ⟨some (K.of 13), none, .mv (.t (K.of 25))⟩]))))
noncomputable def p16_2 : ACode := (.seq
  (.reg [⟨some (K.of 11), none, .mv (.t (K.of 0))⟩,
      ⟨some (K.of 12), none, .len .sl (.t (K.of 11))⟩,
      ⟨some (K.of 13), none, .mv (.c (.int .i64 (.ofNat 0)))⟩])
  (.block 0 (.loop b16_0)))
noncomputable def p16_3 : ACode := (.reg [⟨some (K.of 4), none, .mv (.c (.bool true))⟩])
/-- slices.Equal[[]int,int] -/
noncomputable def c16 : ACode := (.seq p16_0 (.seq p16_1 (.seq p16_2 (.seq p16_3 .ret))))
noncomputable def r16 : List RV := [(.t (K.of 4))]
noncomputable def p17_0 : ACode := (.reg [⟨some (K.of 2), none, .mv (.c (.int .u64 (.ofNat 0)))⟩])
noncomputable def p17_1 : ACode := (.reg [⟨some (K.of 3), none, .mv (.t (K.of 0))⟩,
      ⟨some (K.of 4), none, .ibin .mul (.t (K.of 3)) (.c (.int .u64 (.ofNat 6364136223846793005)))⟩,
      ⟨some (K.of 5), none, .ibin .add (.t (K.of 4)) (.c (.int .u64 (.ofNat 1442695040888963407)))⟩,
      ⟨some (K.of 2), none, .mv (.t (K.of 5))⟩])
/-- foregone/foregonelaw28.step -/
noncomputable def c17 : ACode := (.seq p17_0 (.seq p17_1 .ret))
noncomputable def r17 : List RV := [(.t (K.of 2))]
noncomputable def p18_0 : ACode := (.reg [⟨some (K.of 0), none, .mv (.c (.int .u64 (.ofNat 0)))⟩])
noncomputable def p18_1 : ACode := (.reg [⟨some (K.of 1), none, .mv (.c (.int .u64 (.ofNat 1)))⟩])
noncomputable def b18_0 : ACode := (.seq
  (.reg [⟨some (K.of 3), none, .ibin .lss (.t (K.of 2)) (.c (.int .i64 (.ofNat 6)))⟩])
  (.seq
  (.cond (.t (K.of 3))
    .skip
    (.exit 0))
  (.seq
  (.block 1 (.reg [⟨some (K.of 4), none, .mv (.t (K.of 1))⟩,
      ⟨some (K.of 5), none, .mv (.t (K.of 1))⟩,
      ⟨some (K.of 6), none, .ibin .mul (.c (.int .u64 (.ofNat 6364136223846793005))) (.t (K.of 5))⟩,
      ⟨some (K.of 7), none, .ibin .sub (.c (.int .u64 (.ofNat 2))) (.t (K.of 6))⟩,
      ⟨some (K.of 8), none, .ibin .mul (.t (K.of 4)) (.t (K.of 7))⟩,
      ⟨some (K.of 1), none, .mv (.t (K.of 8))⟩]))
  (.reg [⟨some (K.of 9), none, .ibin .add (.t (K.of 2)) (.c (.int .i64 (.ofNat 1)))⟩,
      ⟨some (K.of 2), none, .mv (.t (K.of 9))⟩]))))
noncomputable def p18_2 : ACode := (.seq
  (.reg [⟨some (K.of 2), none, .mv (.c (.int .i64 (.ofNat 0)))⟩])
  (.block 0 (.loop b18_0)))
noncomputable def p18_3 : ACode := (.reg [⟨some (K.of 10), none, .mv (.t (K.of 1))⟩,
      ⟨some (K.of 0), none, .mv (.t (K.of 10))⟩])
/-- foregone/foregonelaw28.undo -/
noncomputable def c18 : ACode := (.seq p18_0 (.seq p18_1 (.seq p18_2 (.seq p18_3 .ret))))
noncomputable def r18 : List RV := [(.t (K.of 0))]
noncomputable def p19_0 : ACode := (.reg [⟨some (K.of 4), none, .mv (.c (.int .i64 (.ofNat 0)))⟩])
noncomputable def b19_0 : ACode := (.seq
  (.reg [⟨some (K.of 9), none, .ibin .lss (.t (K.of 8)) (.t (K.of 7))⟩])
  (.seq
  (.cond (.t (K.of 9))
    .skip
    (.exit 0))
  (.seq
  (.block 1 (.seq
    (.reg [⟨some (K.of 10), none, .mv (.t (K.of 8))⟩,
      ⟨some (K.of 5), none, .mv (.t (K.of 10))⟩])
    (.seq
    (.reg [⟨some (K.of 11), none, .mv (.t (K.of 1))⟩,
      ⟨some (K.of 12), none, .mv (.t (K.of 0))⟩,
      ⟨some (K.of 13), none, .mv (.t (K.of 5))⟩,
      ⟨some (K.of 14), none, .idx (.t (K.of 12)) (.t (K.of 13)) 1⟩,
      ⟨some (K.of 15), none, .load1 (.t (K.of 14))⟩,
      ⟨some (K.of 16), none, .ibin .eql (.t (K.of 11)) (.t (K.of 15))⟩])
    (.cond (.t (K.of 16))
     (.seq
     (.reg [⟨some (K.of 17), none, .mv (.t (K.of 5))⟩,
      ⟨some (K.of 4), none, .mv (.t (K.of 17))⟩])
     .ret)
     .skip))))
  (.reg [⟨some (K.of 18), none, .ibin .add (.t (K.of 8)) (.c (.int .i64 (.ofNat 1)))⟩,
      ⟨some (K.of 8), none, .mv (.t (K.of 18))⟩]))))
noncomputable def p19_1 : ACode := (.seq
  (.reg [⟨some (K.of 6), none, .mv (.t (K.of 0))⟩,
      ⟨some (K.of 7), none, .len .sl (.t (K.of 6))⟩,
      ⟨some (K.of 8), none, .mv (.c (.int .i64 (.ofNat 0)))⟩])
  (.block 0 (.loop b19_0)))
noncomputable def p19_2 : ACode := (.reg [⟨some (K.of 4), none, .mv (.c (.int .i64 (.negSucc 0)))⟩])
/-- slices.Index[[]int,int] -/
noncomputable def c19 : ACode := (.seq p19_0 (.seq p19_1 (.seq p19_2 .ret)))
noncomputable def r19 : List RV := [(.t (K.of 4))]
noncomputable def p27_0 : ACode := (.reg [⟨some (K.of 4), none, .mv (.c (.int .i64 (.ofNat 0)))⟩])
noncomputable def p27_1 : ACode := (.reg [⟨some (K.of 7), none, .mv (.t (K.of 1))⟩,
      ⟨some (K.of 8), none, .conv .u64 (.t (K.of 7))⟩,
      ⟨some (K.of 9), none, .ibin .quo (.c (.int .u64 (.ofNat 4294967296))) (.t (K.of 8))⟩,
      ⟨some (K.of 10), none, .mv (.t (K.of 1))⟩,
      ⟨some (K.of 11), none, .conv .u64 (.t (K.of 10))⟩,
      ⟨some (K.of 12), none, .ibin .mul (.t (K.of 9)) (.t (K.of 11))⟩,
      ⟨some (K.of 5), none, .mv (.t (K.of 12))⟩])
noncomputable def b27_0 : ACode := (.block 1 (.seq
   (.reg [⟨some (K.of 13), none, .mv (.t (K.of 0))⟩,
      ⟨some (K.of 14), none, .mv (.t (K.of 0))⟩,
      ⟨some (K.of 15), none, .nilchk (.t (K.of 14))⟩,
      ⟨some (K.of 16), none, .load1 (.t (K.of 15))⟩,
      ⟨some (K.of 17), none, .call 29 [(.t (K.of 16))]⟩,
      ⟨some (K.of 18), none, .nilchk (.t (K.of 13))⟩,
      ⟨none, none, .store (.t (K.of 18)) (.t (K.of 17)) 1⟩])
   (.seq
   (.reg [⟨some (K.of 19), none, .mv (.t (K.of 0))⟩,
      ⟨some (K.of 20), none, .nilchk (.t (K.of 19))⟩,
      ⟨some (K.of 21), none, .load1 (.t (K.of 20))⟩,
      ⟨some (K.of 22), none, .call 37 [(.t (K.of 21))]⟩,
      ⟨some (K.of 6), none, .mv (.t (K.of 22))⟩])
   (.seq
   (.reg [⟨some (K.of 23), none, .mv (.t (K.of 6))⟩,
      ⟨some (K.of 24), none, .mv (.t (K.of 5))⟩,
      ⟨some (K.of 25), none, .ibin .lss (.t (K.of 23)) (.t (K.of 24))⟩])
   (.cond (.t (K.of 25))
    (.seq
    (.reg [⟨some (K.of 26), none, .mv (.t (K.of 6))⟩,
      ⟨some (K.of 27), none, .mv (.t (K.of 1))⟩,
      ⟨some (K.of 28), none, .conv .u64 (.t (K.of 27))⟩,
      ⟨some (K.of 29), none, .ibin .rem (.t (K.of 26)) (.t (K.of 28))⟩,
      ⟨some (K.of 30), none, .conv .i64 (.t (K.of 29))⟩,
      ⟨some (K.of 4), none, .mv (.t (K.of 30))⟩])
    .ret)
    .skip)))))
/-- (*foregone/simul.gen).draw -/
noncomputable def c27 : ACode := (.seq p27_0 (.seq p27_1 (.block 0 (.loop b27_0))))
noncomputable def r27 : List RV := [(.t (K.of 4))]
noncomputable def p28_0 : ACode := (.reg [⟨some (K.of 4), none, .mv (.c (.int .i64 (.ofNat 0)))⟩,
      ⟨some (K.of 5), none, .mv (.c (.int .u64 (.ofNat 0)))⟩])
noncomputable def p28_1 : ACode := (.reg [⟨some (K.of 7), none, .mv (.t (K.of 1))⟩,
      ⟨some (K.of 8), none, .conv .u64 (.t (K.of 7))⟩,
      ⟨some (K.of 9), none, .ibin .quo (.c (.int .u64 (.ofNat 4294967296))) (.t (K.of 8))⟩,
      ⟨some (K.of 10), none, .mv (.t (K.of 1))⟩,
      ⟨some (K.of 11), none, .conv .u64 (.t (K.of 10))⟩,
      ⟨some (K.of 12), none, .ibin .mul (.t (K.of 9)) (.t (K.of 11))⟩,
      ⟨some (K.of 6), none, .mv (.t (K.of 12))⟩])
noncomputable def p28_2 : ACode := (.reg [⟨some (K.of 13), none, .mv (.t (K.of 0))⟩,
      ⟨some (K.of 14), none, .call 30 [(.t (K.of 13))]⟩,
      ⟨some (K.of 0), none, .mv (.t (K.of 14))⟩])
noncomputable def b28_0 : ACode := (.seq
  (.seq
   (.reg [⟨some (K.of 15), none, .mv (.t (K.of 0))⟩,
      ⟨some (K.of 16), none, .ibin .shr (.t (K.of 15)) (.c (.int .u64 (.ofNat 32)))⟩,
      ⟨some (K.of 17), none, .mv (.t (K.of 6))⟩,
      ⟨some (K.of 18), none, .ibin .geq (.t (K.of 16)) (.t (K.of 17))⟩])
   (.cond (.t (K.of 18))
    .skip
    (.exit 0)))
  (.block 1 (.reg [⟨some (K.of 19), none, .mv (.t (K.of 0))⟩,
      ⟨some (K.of 20), none, .call 30 [(.t (K.of 19))]⟩,
      ⟨some (K.of 0), none, .mv (.t (K.of 20))⟩])))
noncomputable def p28_3 : ACode := (.block 0 (.loop b28_0))
noncomputable def p28_4 : ACode := (.reg [⟨some (K.of 21), none, .mv (.t (K.of 0))⟩,
      ⟨some (K.of 22), none, .ibin .shr (.t (K.of 21)) (.c (.int .u64 (.ofNat 32)))⟩,
      ⟨some (K.of 23), none, .mv (.t (K.of 1))⟩,
      ⟨some (K.of 24), none, .conv .u64 (.t (K.of 23))⟩,
      ⟨some (K.of 25), none, .ibin .rem (.t (K.of 22)) (.t (K.of 24))⟩,
      ⟨some (K.of 26), none, .conv .i64 (.t (K.of 25))⟩,
      ⟨some (K.of 27), none, .mv (.t (K.of 0))⟩,
      ⟨some (K.of 4), none, .mv (.t (K.of 26))⟩,
      ⟨some (K.of 5), none, .mv (.t (K.of 27))⟩])
/-- foregone/foregoneref28.draw -/
noncomputable def c28 : ACode := (.seq p28_0 (.seq p28_1 (.seq p28_2 (.seq p28_3 (.seq p28_4 .ret)))))
noncomputable def r28 : List RV := [(.t (K.of 4)), (.t (K.of 5))]
noncomputable def p29_0 : ACode := (.reg [⟨some (K.of 2), none, .mv (.c (.int .u64 (.ofNat 0)))⟩])
noncomputable def p29_1 : ACode := (.reg [⟨some (K.of 3), none, .mv (.t (K.of 0))⟩,
      ⟨some (K.of 4), none, .ibin .mul (.t (K.of 3)) (.c (.int .u64 (.ofNat 6364136223846793005)))⟩,
      ⟨some (K.of 5), none, .ibin .add (.t (K.of 4)) (.c (.int .u64 (.ofNat 1442695040888963407)))⟩,
      ⟨some (K.of 2), none, .mv (.t (K.of 5))⟩])
/-- (foregone/simul.gen).step -/
noncomputable def c29 : ACode := (.seq p29_0 (.seq p29_1 .ret))
noncomputable def r29 : List RV := [(.t (K.of 2))]
noncomputable def p30_0 : ACode := (.reg [⟨some (K.of 2), none, .mv (.c (.int .u64 (.ofNat 0)))⟩])
noncomputable def p30_1 : ACode := (.reg [⟨some (K.of 3), none, .mv (.t (K.of 0))⟩,
      ⟨some (K.of 4), none, .ibin .mul (.t (K.of 3)) (.c (.int .u64 (.ofNat 6364136223846793005)))⟩,
      ⟨some (K.of 5), none, .ibin .add (.t (K.of 4)) (.c (.int .u64 (.ofNat 1442695040888963407)))⟩,
      ⟨some (K.of 2), none, .mv (.t (K.of 5))⟩])
/-- foregone/foregoneref28.Step -/
noncomputable def c30 : ACode := (.seq p30_0 (.seq p30_1 .ret))
noncomputable def r30 : List RV := [(.t (K.of 2))]
noncomputable def p31_0 : ACode := (.reg [⟨some (K.of 2), none, .box (.t (K.of 0))⟩,
      ⟨some (K.of 3), none, .box (.t (K.of 1))⟩,
      ⟨some (K.of 4), none, .alloc [(.int .u64 (.ofNat 0)), (.int .u64 (.ofNat 0))]⟩])
noncomputable def p31_1 : ACode := (.reg [⟨some (K.of 5), none, .idxA (.t (K.of 2)) (.c (.int .i64 (.ofNat 0))) 1 2⟩,
      ⟨some (K.of 6), none, .load1 (.t (K.of 5))⟩,
      ⟨some (K.of 7), none, .idxA (.t (K.of 3)) (.c (.int .i64 (.ofNat 0))) 1 2⟩,
      ⟨some (K.of 8), none, .load1 (.t (K.of 7))⟩,
      ⟨some (K.of 9), none, .ibin .mul (.t (K.of 6)) (.t (K.of 8))⟩,
      ⟨some (K.of 10), none, .idxA (.t (K.of 2)) (.c (.int .i64 (.ofNat 1))) 1 2⟩,
      ⟨some (K.of 11), none, .load1 (.t (K.of 10))⟩,
      ⟨some (K.of 12), none, .idxA (.t (K.of 3)) (.c (.int .i64 (.ofNat 0))) 1 2⟩,
      ⟨some (K.of 13), none, .load1 (.t (K.of 12))⟩,
      ⟨some (K.of 14), none, .ibin .mul (.t (K.of 11)) (.t (K.of 13))⟩,
      ⟨some (K.of 15), none, .idxA (.t (K.of 3)) (.c (.int .i64 (.ofNat 1))) 1 2⟩,
      ⟨some (K.of 16), none, .load1 (.t (K.of 15))⟩,
      ⟨some (K.of 17), none, .ibin .add (.t (K.of 14)) (.t (K.of 16))⟩,
      ⟨some (K.of 18), none, .mk [(.int .u64 (.ofNat 0)), (.int .u64 (.ofNat 0))] [(0, 1, (.t (K.of 9))), (1, 1, (.t (K.of 17)))]⟩,
      ⟨none, none, .store (.t (K.of 4)) (.t (K.of 18)) 2⟩])
/-- (foregone/simul.power).behind -/
noncomputable def c31 : ACode := (.seq p31_0 (.seq p31_1 .ret))
noncomputable def r31 : List RV := [(.cellN (K.of 4) 2)]
noncomputable def p37_0 : ACode := (.reg [⟨some (K.of 2), none, .mv (.c (.int .u64 (.ofNat 0)))⟩])
noncomputable def p37_1 : ACode := (.reg [⟨some (K.of 3), none, .mv (.t (K.of 0))⟩,
      ⟨some (K.of 4), none, .ibin .shr (.t (K.of 3)) (.c (.int .u64 (.ofNat 32)))⟩,
      ⟨some (K.of 2), none, .mv (.t (K.of 4))⟩])
/-- (foregone/simul.gen).output -/
noncomputable def c37 : ACode := (.seq p37_0 (.seq p37_1 .ret))
noncomputable def r37 : List RV := [(.t (K.of 2))]
theorem fn3 : T.get .no (K.of 3) EzC.fn = .fn (some ⟨c3, r3⟩) := by kernel_rfl
theorem fn4 : T.get .no (K.of 4) EzC.fn = .fn (some ⟨c4, r4⟩) := by kernel_rfl
theorem fn5 : T.get .no (K.of 5) EzC.fn = .fn (some ⟨c5, r5⟩) := by kernel_rfl
theorem fn6 : T.get .no (K.of 6) EzC.fn = .fn (some ⟨c6, r6⟩) := by kernel_rfl
theorem fn8 : T.get .no (K.of 8) EzC.fn = .fn (some ⟨c8, r8⟩) := by kernel_rfl
theorem fn9 : T.get .no (K.of 9) EzC.fn = .fn (some ⟨c9, r9⟩) := by kernel_rfl
theorem fn10 : T.get .no (K.of 10) EzC.fn = .fn (some ⟨c10, r10⟩) := by kernel_rfl
theorem fn11 : T.get .no (K.of 11) EzC.fn = .fn (some ⟨c11, r11⟩) := by kernel_rfl
theorem fn12 : T.get .no (K.of 12) EzC.fn = .fn (some ⟨c12, r12⟩) := by kernel_rfl
theorem fn13 : T.get .no (K.of 13) EzC.fn = .fn (some ⟨c13, r13⟩) := by kernel_rfl
theorem fn14 : T.get .no (K.of 14) EzC.fn = .fn (some ⟨c14, r14⟩) := by kernel_rfl
theorem fn15 : T.get .no (K.of 15) EzC.fn = .fn (some ⟨c15, r15⟩) := by kernel_rfl
theorem fn16 : T.get .no (K.of 16) EzC.fn = .fn (some ⟨c16, r16⟩) := by kernel_rfl
theorem fn17 : T.get .no (K.of 17) EzC.fn = .fn (some ⟨c17, r17⟩) := by kernel_rfl
theorem fn18 : T.get .no (K.of 18) EzC.fn = .fn (some ⟨c18, r18⟩) := by kernel_rfl
theorem fn19 : T.get .no (K.of 19) EzC.fn = .fn (some ⟨c19, r19⟩) := by kernel_rfl
theorem fn27 : T.get .no (K.of 27) EzC.fn = .fn (some ⟨c27, r27⟩) := by kernel_rfl
theorem fn28 : T.get .no (K.of 28) EzC.fn = .fn (some ⟨c28, r28⟩) := by kernel_rfl
theorem fn29 : T.get .no (K.of 29) EzC.fn = .fn (some ⟨c29, r29⟩) := by kernel_rfl
theorem fn30 : T.get .no (K.of 30) EzC.fn = .fn (some ⟨c30, r30⟩) := by kernel_rfl
theorem fn31 : T.get .no (K.of 31) EzC.fn = .fn (some ⟨c31, r31⟩) := by kernel_rfl
theorem fn37 : T.get .no (K.of 37) EzC.fn = .fn (some ⟨c37, r37⟩) := by kernel_rfl
theorem fn7 : T.get .no (K.of 7) EzC.fn = .prim g7 := by kernel_rfl
end Go.AJ

