/- The code of the functions, as the interpreter reads it. No condition. -/
import Derived.Test.YtgecccghlgpmjaaGreatAi1
import Derived.Test.YtgecccghlgpmjaaGreatCf1
namespace Go.AI.Tryz
def cf140 : CF := ⟨1, 4, 1, false, false, false, false, (.seq (.reg [⟨(some 1), none, .alloc 0 [(.p (.int .u8 0)), (.p (.int .i64 0)), (.p (.int .i64 0)), (.p (.int .i64 0)), (.sl 0 [] .full)]⟩])
  (.seq (.regd [] [] [⟨(some 2), none, .fa 0 (.t 0)⟩,
    ⟨(some 3), none, .fa 4 (.t 2)⟩,
    ⟨(some 4), none, .load none (.t 3)⟩,
    ⟨(some 5), none, .ia 5 (.t 4) (.c (.p (.int .i64 0)))⟩,
    ⟨(some 6), none, .load (some 5) (.t 5)⟩,
    ⟨(some 7), none, .call 142 [(.t 6)]⟩,
    ⟨(some 8), none, .fa 0 (.t 0)⟩,
    ⟨(some 9), none, .fa 4 (.t 8)⟩,
    ⟨(some 10), none, .load none (.t 9)⟩,
    ⟨(some 11), none, .ia 5 (.t 10) (.c (.p (.int .i64 1)))⟩,
    ⟨(some 12), none, .load (some 5) (.t 11)⟩,
    ⟨(some 13), none, .call 141 [(.t 7), (.t 12)]⟩,
    ⟨none, none, .store (some 5) (.t 1) (.t 13)⟩] [⟨8, none, (.t 9), [(5, 144)]⟩, ⟨10, (some 5), (.t 11), [(5, 144)]⟩])
  .ret)), [.l 1 (some 5)]⟩
def cf142 : CF := ⟨1, 3, 2, false, false, false, false, (.seq (.reg [⟨(some 1), none, .box 0 (some 5) (.t 0)⟩,
    ⟨(some 2), none, .alloc 1 [(.p (.int .u8 0)), (.p (.int .i64 0)), (.p (.int .i64 0)), (.p (.int .i64 0)), (.sl 0 [] .full)]⟩])
  (.seq (.reg [⟨(some 3), none, .load (some 5) (.t 1)⟩,
    ⟨(some 4), none, .mks 1 [(.int .u8 0), (.int .i64 0), (.int .i64 0), (.int .i64 0), (.sl 0 [])] [(0, (some 5), (.t 3))]⟩,
    ⟨(some 5), none, .call 136 [(.c (.p (.int .u8 6))), (.c (.p (.int .i64 1))), (.c (.p (.int .i64 0))), (.t 4)]⟩,
    ⟨none, none, .store (some 5) (.t 2) (.t 5)⟩])
  .ret)), [.l 2 (some 5)]⟩
def cf141 : CF := ⟨2, 4, 2, false, false, false, false, (.seq (.reg [⟨(some 2), none, .box 0 (some 5) (.t 0)⟩,
    ⟨(some 3), none, .box 1 (some 5) (.t 1)⟩,
    ⟨(some 4), none, .alloc 2 [(.p (.int .u8 0)), (.p (.int .i64 0)), (.p (.int .i64 0)), (.p (.int .i64 0)), (.sl 0 [] .full)]⟩])
  (.seq (.reg [⟨(some 5), none, .load (some 5) (.t 2)⟩,
    ⟨(some 6), none, .load (some 5) (.t 3)⟩,
    ⟨(some 7), none, .mks 2 [(.int .u8 0), (.int .i64 0), (.int .i64 0), (.int .i64 0), (.sl 0 []), (.int .u8 0), (.int .i64 0), (.int .i64 0), (.int .i64 0), (.sl 0 [])] [(0, (some 5), (.t 5)), (5, (some 5), (.t 6))]⟩,
    ⟨(some 8), none, .call 136 [(.c (.p (.int .u8 7))), (.c (.p (.int .i64 0))), (.c (.p (.int .i64 0))), (.t 7)]⟩,
    ⟨none, none, .store (some 5) (.t 4) (.t 8)⟩])
  .ret)), [.l 4 (some 5)]⟩
def cf79 : CF := ⟨1, 6, 1, false, false, false, false, (.seq (.reg [⟨(some 1), none, .hbox (some 7) (.t 0)⟩,
    ⟨(some 2), none, .alloc 0 [(.p (.int .u8 0)), (.p (.int .i64 0)), (.p (.int .i64 0)), (.p (.int .i64 0)), (.sl 0 [] .full)]⟩,
    ⟨(some 3), none, .mov (.c (.p (.bool false)))⟩])
  (.seq (.seq (.reg [⟨(some 6), none, .load (some 7) (.t 1)⟩,
    ⟨(some 7), none, .call 124 [(.t 6), (.c (.p (.int .u8 8)))]⟩,
    ⟨(some 8), none, .not (.t 7)⟩,
    ⟨(some 9), none, .mov (.t 8)⟩,
    ⟨(some 10), (some (9, false)), .fa 0 (.t 1)⟩,
    ⟨(some 11), (some (9, false)), .fa 4 (.t 10)⟩,
    ⟨(some 12), (some (9, false)), .load none (.t 11)⟩,
    ⟨(some 13), (some (9, false)), .ia 5 (.t 12) (.c (.p (.int .i64 0)))⟩,
    ⟨(some 14), (some (9, false)), .fa 0 (.t 13)⟩,
    ⟨(some 15), (some (9, false)), .load none (.t 14)⟩,
    ⟨(some 16), (some (9, false)), .bin .neq (.t 15) (.c (.p (.int .u8 8)))⟩,
    ⟨(some 17), none, .pick (.t 9) (.c (.p (.bool true))) (.t 16)⟩])
  (.cond (.t 17) (.seq (.reg [⟨(some 18), none, .call 98 []⟩,
    ⟨(some 19), none, .ext (.t 18) 0⟩,
    ⟨(some 20), none, .ext (.t 18) 1⟩,
    ⟨none, none, .store (some 5) (.t 2) (.t 19)⟩,
    ⟨(some 3), none, .mov (.t 20)⟩])
  .ret)
  .skip))
  (.seq (.reg [⟨(some 21), none, .fa 0 (.t 1)⟩,
    ⟨(some 22), none, .fa 4 (.t 21)⟩,
    ⟨(some 23), none, .load none (.t 22)⟩,
    ⟨(some 24), none, .ia 5 (.t 23) (.c (.p (.int .i64 0)))⟩,
    ⟨(some 25), none, .fa 4 (.t 24)⟩,
    ⟨(some 26), none, .load none (.t 25)⟩,
    ⟨(some 4), none, .halloc [(.sl 0 [] .full)]⟩,
    ⟨none, none, .store none (.t 4) (.t 26)⟩])
  (.seq (.reg [⟨(some 27), none, .load none (.t 4)⟩,
    ⟨(some 28), none, .ia 5 (.t 27) (.c (.p (.int .i64 1)))⟩,
    ⟨(some 29), none, .load (some 5) (.t 28)⟩,
    ⟨(some 30), none, .call 143 [(.t 29), (.c (.p (.int .i64 0))), (.c (.p (.int .i64 2)))]⟩,
    ⟨(some 31), none, .mov (.t 30)⟩,
    ⟨(some 32), (some (31, true)), .load none (.t 4)⟩,
    ⟨(some 33), (some (31, true)), .ia 5 (.t 32) (.c (.p (.int .i64 2)))⟩,
    ⟨(some 34), (some (31, true)), .load (some 5) (.t 33)⟩,
    ⟨(some 35), (some (31, true)), .call 143 [(.t 34), (.c (.p (.int .i64 1))), (.c (.p (.int .i64 2)))]⟩,
    ⟨(some 36), none, .pick (.t 31) (.t 35) (.c (.p (.bool false)))⟩,
    ⟨(some 5), none, .mov (.t 36)⟩])
  (.seq (.reg [⟨(some 37), none, .mov (.t 5)⟩,
    ⟨(some 38), none, .mkf 144 [] [(.t 4), (.t 1)]⟩,
    ⟨(some 39), none, .call 126 [(.t 37), (.t 38)]⟩,
    ⟨(some 40), none, .ext (.t 39) 0⟩,
    ⟨(some 41), none, .ext (.t 39) 1⟩,
    ⟨none, none, .store (some 5) (.t 2) (.t 40)⟩,
    ⟨(some 3), none, .mov (.t 41)⟩])
  .ret))))), [.l 2 (some 5), .t 3]⟩
def cf143 : CF := ⟨3, 5, 1, false, false, false, false, (.seq (.reg [⟨(some 3), none, .box 0 (some 5) (.t 0)⟩,
    ⟨(some 6), none, .mov (.c (.p (.bool false)))⟩])
  (.seq (.reg [⟨(some 7), none, .load (some 5) (.t 3)⟩,
    ⟨(some 8), none, .call 125 [(.t 7)]⟩,
    ⟨(some 9), none, .mov (.t 8)⟩,
    ⟨(some 10), (some (9, true)), .fa 1 (.t 3)⟩,
    ⟨(some 11), (some (9, true)), .load none (.t 10)⟩,
    ⟨(some 12), (some (9, true)), .mov (.t 1)⟩,
    ⟨(some 13), (some (9, true)), .bin .eql (.t 11) (.t 12)⟩,
    ⟨(some 14), none, .pick (.t 9) (.t 13) (.c (.p (.bool false)))⟩,
    ⟨(some 15), none, .mov (.t 14)⟩,
    ⟨(some 16), (some (15, true)), .fa 2 (.t 3)⟩,
    ⟨(some 17), (some (15, true)), .load none (.t 16)⟩,
    ⟨(some 18), (some (15, true)), .mov (.t 2)⟩,
    ⟨(some 19), (some (15, true)), .bin .eql (.t 17) (.t 18)⟩,
    ⟨(some 20), none, .pick (.t 15) (.t 19) (.c (.p (.bool false)))⟩,
    ⟨(some 6), none, .mov (.t 20)⟩])
  .ret)), [.t 6]⟩
def cf144 : CF := ⟨2, 5, 1, false, false, false, false, (.seq (.reg [⟨(some 2), none, .alloc 0 [(.p (.int .u8 0)), (.p (.int .i64 0)), (.p (.int .i64 0)), (.p (.int .i64 0)), (.sl 0 [] .full)]⟩])
  (.seq (.regd [] [] [⟨(some 3), none, .load none (.t 0)⟩,
    ⟨(some 4), none, .ia 5 (.t 3) (.c (.p (.int .i64 0)))⟩,
    ⟨(some 5), none, .load (some 5) (.t 4)⟩,
    ⟨(some 6), none, .fa 0 (.t 1)⟩,
    ⟨(some 7), none, .fa 4 (.t 6)⟩,
    ⟨(some 8), none, .load none (.t 7)⟩,
    ⟨(some 9), none, .ia 5 (.t 8) (.c (.p (.int .i64 2)))⟩,
    ⟨(some 10), none, .load (some 5) (.t 9)⟩,
    ⟨(some 11), none, .fa 0 (.t 1)⟩,
    ⟨(some 12), none, .fa 4 (.t 11)⟩,
    ⟨(some 13), none, .load none (.t 12)⟩,
    ⟨(some 14), none, .ia 5 (.t 13) (.c (.p (.int .i64 1)))⟩,
    ⟨(some 15), none, .load (some 5) (.t 14)⟩,
    ⟨(some 16), none, .mks 3 [(.int .u8 0), (.int .i64 0), (.int .i64 0), (.int .i64 0), (.sl 0 []), (.int .u8 0), (.int .i64 0), (.int .i64 0), (.int .i64 0), (.sl 0 []), (.int .u8 0), (.int .i64 0), (.int .i64 0), (.int .i64 0), (.sl 0 [])] [(0, (some 5), (.t 5)), (5, (some 5), (.t 10)), (10, (some 5), (.t 15))]⟩,
    ⟨(some 17), none, .call 136 [(.c (.p (.int .u8 8))), (.c (.p (.int .i64 0))), (.c (.p (.int .i64 0))), (.t 16)]⟩,
    ⟨none, none, .store (some 5) (.t 2) (.t 17)⟩] [])
  .ret)), [.l 2 (some 5)]⟩
def cf80 : CF := ⟨1, 6, 2, false, false, false, false, (.seq (.reg [⟨(some 1), none, .box 0 (some 7) (.t 0)⟩,
    ⟨(some 2), none, .alloc 1 [(.p (.int .u8 0)), (.p (.int .i64 0)), (.p (.int .i64 0)), (.p (.int .i64 0)), (.sl 0 [] .full)]⟩,
    ⟨(some 3), none, .mov (.c (.p (.bool false)))⟩])
  (.seq (.reg [⟨(some 5), none, .load (some 7) (.t 1)⟩,
    ⟨(some 6), none, .call 124 [(.t 5), (.c (.p (.int .u8 8)))]⟩,
    ⟨(some 7), none, .mov (.t 6)⟩,
    ⟨(some 8), (some (7, true)), .fa 0 (.t 1)⟩,
    ⟨(some 9), (some (7, true)), .fa 4 (.t 8)⟩,
    ⟨(some 10), (some (7, true)), .load none (.t 9)⟩,
    ⟨(some 11), (some (7, true)), .ia 5 (.t 10) (.c (.p (.int .i64 1)))⟩,
    ⟨(some 12), (some (7, true)), .load (some 5) (.t 11)⟩,
    ⟨(some 13), (some (7, true)), .call 143 [(.t 12), (.c (.p (.int .i64 1))), (.c (.p (.int .i64 2)))]⟩,
    ⟨(some 14), none, .pick (.t 7) (.t 13) (.c (.p (.bool false)))⟩,
    ⟨(some 15), none, .mov (.t 14)⟩,
    ⟨(some 16), (some (15, true)), .fa 0 (.t 1)⟩,
    ⟨(some 17), (some (15, true)), .fa 4 (.t 16)⟩,
    ⟨(some 18), (some (15, true)), .load none (.t 17)⟩,
    ⟨(some 19), (some (15, true)), .ia 5 (.t 18) (.c (.p (.int .i64 2)))⟩,
    ⟨(some 20), (some (15, true)), .load (some 5) (.t 19)⟩,
    ⟨(some 21), (some (15, true)), .call 143 [(.t 20), (.c (.p (.int .i64 0))), (.c (.p (.int .i64 2)))]⟩,
    ⟨(some 22), none, .pick (.t 15) (.t 21) (.c (.p (.bool false)))⟩,
    ⟨(some 23), none, .mov (.t 22)⟩,
    ⟨(some 24), (some (23, true)), .fa 0 (.t 1)⟩,
    ⟨(some 25), (some (23, true)), .fa 4 (.t 24)⟩,
    ⟨(some 26), (some (23, true)), .load none (.t 25)⟩,
    ⟨(some 27), (some (23, true)), .ia 5 (.t 26) (.c (.p (.int .i64 0)))⟩,
    ⟨(some 28), (some (23, true)), .load (some 5) (.t 27)⟩,
    ⟨(some 29), (some (23, true)), .call 125 [(.t 28)]⟩,
    ⟨(some 30), (some (23, true)), .not (.t 29)⟩,
    ⟨(some 31), none, .pick (.t 23) (.t 30) (.c (.p (.bool false)))⟩,
    ⟨(some 32), none, .mov (.t 31)⟩,
    ⟨(some 33), (some (32, true)), .load (some 7) (.t 1)⟩,
    ⟨(some 34), (some (32, true)), .call 132 [(.t 33), (.c (.p (.int .i64 0)))]⟩,
    ⟨(some 35), (some (32, true)), .call 130 [(.t 34)]⟩,
    ⟨(some 36), (some (32, true)), .bin .eql (.t 35) (.c (.p (.int .i64 2)))⟩,
    ⟨(some 37), none, .pick (.t 32) (.t 36) (.c (.p (.bool false)))⟩,
    ⟨(some 4), none, .mov (.t 37)⟩])
  (.seq (.reg [⟨(some 38), none, .mov (.t 4)⟩,
    ⟨(some 39), none, .load (some 7) (.t 1)⟩,
    ⟨(some 40), none, .mkf 133 [(.t 39)] []⟩,
    ⟨(some 41), none, .call 126 [(.t 38), (.t 40)]⟩,
    ⟨(some 42), none, .ext (.t 41) 0⟩,
    ⟨(some 43), none, .ext (.t 41) 1⟩,
    ⟨none, none, .store (some 5) (.t 2) (.t 42)⟩,
    ⟨(some 3), none, .mov (.t 43)⟩])
  .ret))), [.l 2 (some 5), .t 3]⟩
def cf81 : CF := ⟨1, 5, 2, false, false, false, false, (.seq (.reg [⟨(some 1), none, .box 0 (some 7) (.t 0)⟩,
    ⟨(some 2), none, .alloc 1 [(.p (.int .u8 0)), (.p (.int .i64 0)), (.p (.int .i64 0)), (.p (.int .i64 0)), (.sl 0 [] .full)]⟩,
    ⟨(some 3), none, .mov (.c (.p (.bool false)))⟩])
  (.seq (.regd [] [] [⟨(some 4), none, .load (some 7) (.t 1)⟩,
    ⟨(some 5), none, .call 124 [(.t 4), (.c (.p (.int .u8 7)))]⟩,
    ⟨(some 6), none, .mov (.t 5)⟩,
    ⟨(some 7), (some (6, true)), .fa 0 (.t 1)⟩,
    ⟨(some 8), (some (6, true)), .fa 4 (.t 7)⟩,
    ⟨(some 9), (some (6, true)), .load none (.t 8)⟩,
    ⟨(some 10), (some (6, true)), .ia 5 (.t 9) (.c (.p (.int .i64 0)))⟩,
    ⟨(some 11), (some (6, true)), .load (some 5) (.t 10)⟩,
    ⟨(some 12), (some (6, true)), .call 125 [(.t 11)]⟩,
    ⟨(some 13), none, .pick (.t 6) (.t 12) (.c (.p (.bool false)))⟩,
    ⟨(some 14), none, .load (some 7) (.t 1)⟩,
    ⟨(some 15), none, .mkf 145 [(.t 14)] []⟩,
    ⟨(some 16), none, .call 126 [(.t 13), (.t 15)]⟩,
    ⟨(some 17), none, .ext (.t 16) 0⟩,
    ⟨(some 18), none, .ext (.t 16) 1⟩,
    ⟨none, none, .store (some 5) (.t 2) (.t 17)⟩,
    ⟨(some 3), none, .mov (.t 18)⟩] [⟨10, (some 7), (.t 1), [(1, 126), (8, 127)]⟩])
  .ret)), [.l 2 (some 5), .t 3]⟩
def cf145 : CF := ⟨1, 4, 2, false, false, false, false, (.seq (.reg [⟨(some 1), none, .box 0 (some 7) (.t 0)⟩,
    ⟨(some 2), none, .alloc 1 [(.p (.int .u8 0)), (.p (.int .i64 0)), (.p (.int .i64 0)), (.p (.int .i64 0)), (.sl 0 [] .full)]⟩])
  (.seq (.reg [⟨(some 3), none, .fa 0 (.t 1)⟩,
    ⟨(some 4), none, .fa 4 (.t 3)⟩,
    ⟨(some 5), none, .load none (.t 4)⟩,
    ⟨(some 6), none, .ia 5 (.t 5) (.c (.p (.int .i64 1)))⟩,
    ⟨(some 7), none, .load (some 5) (.t 6)⟩,
    ⟨none, none, .store (some 5) (.t 2) (.t 7)⟩])
  .ret)), [.l 2 (some 5)]⟩
def cf82 : CF := ⟨1, 6, 2, false, false, false, false, (.seq (.reg [⟨(some 1), none, .box 0 (some 7) (.t 0)⟩,
    ⟨(some 2), none, .alloc 1 [(.p (.int .u8 0)), (.p (.int .i64 0)), (.p (.int .i64 0)), (.p (.int .i64 0)), (.sl 0 [] .full)]⟩,
    ⟨(some 3), none, .mov (.c (.p (.bool false)))⟩])
  (.seq (.seq (.reg [⟨(some 5), none, .load (some 7) (.t 1)⟩,
    ⟨(some 6), none, .call 124 [(.t 5), (.c (.p (.int .u8 7)))]⟩,
    ⟨(some 7), none, .not (.t 6)⟩,
    ⟨(some 8), none, .mov (.t 7)⟩,
    ⟨(some 9), (some (8, false)), .fa 0 (.t 1)⟩,
    ⟨(some 10), (some (8, false)), .fa 4 (.t 9)⟩,
    ⟨(some 11), (some (8, false)), .load none (.t 10)⟩,
    ⟨(some 12), (some (8, false)), .ia 5 (.t 11) (.c (.p (.int .i64 0)))⟩,
    ⟨(some 13), (some (8, false)), .fa 0 (.t 12)⟩,
    ⟨(some 14), (some (8, false)), .load none (.t 13)⟩,
    ⟨(some 15), (some (8, false)), .bin .neq (.t 14) (.c (.p (.int .u8 7)))⟩,
    ⟨(some 16), none, .pick (.t 8) (.c (.p (.bool true))) (.t 15)⟩])
  (.cond (.t 16) (.seq (.reg [⟨(some 17), none, .call 98 []⟩,
    ⟨(some 18), none, .ext (.t 17) 0⟩,
    ⟨(some 19), none, .ext (.t 17) 1⟩,
    ⟨none, none, .store (some 5) (.t 2) (.t 18)⟩,
    ⟨(some 3), none, .mov (.t 19)⟩])
  .ret)
  .skip))
  (.seq (.reg [⟨(some 20), none, .fa 0 (.t 1)⟩,
    ⟨(some 21), none, .fa 4 (.t 20)⟩,
    ⟨(some 22), none, .load none (.t 21)⟩,
    ⟨(some 23), none, .ia 5 (.t 22) (.c (.p (.int .i64 0)))⟩,
    ⟨(some 24), none, .fa 4 (.t 23)⟩,
    ⟨(some 25), none, .load none (.t 24)⟩,
    ⟨(some 4), none, .mov (.t 25)⟩])
  (.seq (.regd [] [] [⟨(some 26), none, .mov (.t 4)⟩,
    ⟨(some 27), none, .ia 5 (.t 26) (.c (.p (.int .i64 0)))⟩,
    ⟨(some 28), none, .load (some 5) (.t 27)⟩,
    ⟨(some 29), none, .mov (.t 4)⟩,
    ⟨(some 30), none, .ia 5 (.t 29) (.c (.p (.int .i64 1)))⟩,
    ⟨(some 31), none, .load (some 5) (.t 30)⟩,
    ⟨(some 32), none, .fa 0 (.t 1)⟩,
    ⟨(some 33), none, .fa 4 (.t 32)⟩,
    ⟨(some 34), none, .load none (.t 33)⟩,
    ⟨(some 35), none, .ia 5 (.t 34) (.c (.p (.int .i64 1)))⟩,
    ⟨(some 36), none, .load (some 5) (.t 35)⟩,
    ⟨(some 37), none, .call 141 [(.t 31), (.t 36)]⟩,
    ⟨(some 38), none, .call 141 [(.t 28), (.t 37)]⟩,
    ⟨none, none, .store (some 5) (.t 2) (.t 38)⟩,
    ⟨(some 3), none, .mov (.c (.p (.bool true)))⟩] [⟨2, (some 5), (.t 27), [(11, 143)]⟩])
  .ret)))), [.l 2 (some 5), .t 3]⟩
def cf83 : CF := ⟨1, 6, 1, false, false, false, false, (.seq (.reg [⟨(some 1), none, .hbox (some 7) (.t 0)⟩,
    ⟨(some 2), none, .alloc 0 [(.p (.int .u8 0)), (.p (.int .i64 0)), (.p (.int .i64 0)), (.p (.int .i64 0)), (.sl 0 [] .full)]⟩,
    ⟨(some 3), none, .mov (.c (.p (.bool false)))⟩])
  (.seq (.seq (.reg [⟨(some 5), none, .load (some 7) (.t 1)⟩,
    ⟨(some 6), none, .call 124 [(.t 5), (.c (.p (.int .u8 7)))]⟩,
    ⟨(some 7), none, .not (.t 6)⟩,
    ⟨(some 8), none, .mov (.t 7)⟩,
    ⟨(some 9), (some (8, false)), .fa 0 (.t 1)⟩,
    ⟨(some 10), (some (8, false)), .fa 4 (.t 9)⟩,
    ⟨(some 11), (some (8, false)), .load none (.t 10)⟩,
    ⟨(some 12), (some (8, false)), .ia 5 (.t 11) (.c (.p (.int .i64 0)))⟩,
    ⟨(some 13), (some (8, false)), .fa 0 (.t 12)⟩,
    ⟨(some 14), (some (8, false)), .load none (.t 13)⟩,
    ⟨(some 15), (some (8, false)), .bin .neq (.t 14) (.c (.p (.int .u8 12)))⟩,
    ⟨(some 16), (some (8, false)), .mov (.t 15)⟩,
    ⟨(some 17), (some (16, true)), .fa 0 (.t 1)⟩,
    ⟨(some 18), (some (16, true)), .fa 4 (.t 17)⟩,
    ⟨(some 19), (some (16, true)), .load none (.t 18)⟩,
    ⟨(some 20), (some (16, true)), .ia 5 (.t 19) (.c (.p (.int .i64 0)))⟩,
    ⟨(some 21), (some (16, true)), .fa 0 (.t 20)⟩,
    ⟨(some 22), (some (16, true)), .load none (.t 21)⟩,
    ⟨(some 23), (some (16, true)), .bin .neq (.t 22) (.c (.p (.int .u8 14)))⟩,
    ⟨(some 24), (some (8, false)), .pick (.t 16) (.t 23) (.c (.p (.bool false)))⟩,
    ⟨(some 25), none, .pick (.t 8) (.c (.p (.bool true))) (.t 24)⟩])
  (.cond (.t 25) (.seq (.reg [⟨(some 26), none, .call 98 []⟩,
    ⟨(some 27), none, .ext (.t 26) 0⟩,
    ⟨(some 28), none, .ext (.t 26) 1⟩,
    ⟨none, none, .store (some 5) (.t 2) (.t 27)⟩,
    ⟨(some 3), none, .mov (.t 28)⟩])
  .ret)
  .skip))
  (.seq (.reg [⟨(some 29), none, .load (some 7) (.t 1)⟩,
    ⟨(some 30), none, .call 130 [(.t 29)]⟩,
    ⟨(some 31), none, .call 128 [(.c (.p (.int .i64 0))), (.t 30)]⟩,
    ⟨(some 4), none, .halloc [(.p (.int .u8 0)), (.p (.int .i64 0)), (.p (.int .i64 0)), (.p (.int .i64 0)), (.sl 0 [] .full)]⟩,
    ⟨none, none, .store (some 5) (.t 4) (.t 31)⟩])
  (.seq (.regd [] [] [⟨(some 32), none, .fa 0 (.t 1)⟩,
    ⟨(some 33), none, .fa 4 (.t 32)⟩,
    ⟨(some 34), none, .load none (.t 33)⟩,
    ⟨(some 35), none, .ia 5 (.t 34) (.c (.p (.int .i64 1)))⟩,
    ⟨(some 36), none, .load (some 5) (.t 35)⟩,
    ⟨(some 37), none, .load (some 5) (.t 4)⟩,
    ⟨(some 38), none, .call 139 [(.t 36), (.t 37)]⟩,
    ⟨(some 39), none, .not (.t 38)⟩,
    ⟨(some 40), none, .mkf 146 [] [(.t 1), (.t 4)]⟩,
    ⟨(some 41), none, .call 126 [(.t 39), (.t 40)]⟩,
    ⟨(some 42), none, .ext (.t 41) 0⟩,
    ⟨(some 43), none, .ext (.t 41) 1⟩,
    ⟨none, none, .store (some 5) (.t 2) (.t 42)⟩,
    ⟨(some 3), none, .mov (.t 43)⟩] [])
  .ret)))), [.l 2 (some 5), .t 3]⟩
def cf146 : CF := ⟨2, 4, 1, false, false, false, false, (.seq (.reg [⟨(some 2), none, .alloc 0 [(.p (.int .u8 0)), (.p (.int .i64 0)), (.p (.int .i64 0)), (.p (.int .i64 0)), (.sl 0 [] .full)]⟩])
  (.seq (.regd [] [] [⟨(some 3), none, .fa 0 (.t 0)⟩,
    ⟨(some 4), none, .fa 4 (.t 3)⟩,
    ⟨(some 5), none, .load none (.t 4)⟩,
    ⟨(some 6), none, .ia 5 (.t 5) (.c (.p (.int .i64 0)))⟩,
    ⟨(some 7), none, .load (some 5) (.t 6)⟩,
    ⟨(some 8), none, .load (some 5) (.t 1)⟩,
    ⟨(some 9), none, .call 141 [(.t 7), (.t 8)]⟩,
    ⟨none, none, .store (some 5) (.t 2) (.t 9)⟩] [])
  .ret)), [.l 2 (some 5)]⟩
def cf84 : CF := ⟨1, 5, 2, false, false, false, false, (.seq (.reg [⟨(some 1), none, .box 0 (some 7) (.t 0)⟩,
    ⟨(some 2), none, .alloc 1 [(.p (.int .u8 0)), (.p (.int .i64 0)), (.p (.int .i64 0)), (.p (.int .i64 0)), (.sl 0 [] .full)]⟩,
    ⟨(some 3), none, .mov (.c (.p (.bool false)))⟩])
  (.seq (.reg [⟨(some 5), none, .load (some 7) (.t 1)⟩,
    ⟨(some 6), none, .call 124 [(.t 5), (.c (.p (.int .u8 9)))]⟩,
    ⟨(some 7), none, .mov (.t 6)⟩,
    ⟨(some 8), (some (7, true)), .fa 0 (.t 1)⟩,
    ⟨(some 9), (some (7, true)), .fa 4 (.t 8)⟩,
    ⟨(some 10), (some (7, true)), .load none (.t 9)⟩,
    ⟨(some 11), (some (7, true)), .ia 5 (.t 10) (.c (.p (.int .i64 0)))⟩,
    ⟨(some 12), (some (7, true)), .load (some 5) (.t 11)⟩,
    ⟨(some 13), (some (7, true)), .call 125 [(.t 12)]⟩,
    ⟨(some 14), none, .pick (.t 7) (.t 13) (.c (.p (.bool false)))⟩,
    ⟨(some 15), none, .mov (.t 14)⟩,
    ⟨(some 16), (some (15, true)), .fa 0 (.t 1)⟩,
    ⟨(some 17), (some (15, true)), .fa 4 (.t 16)⟩,
    ⟨(some 18), (some (15, true)), .load none (.t 17)⟩,
    ⟨(some 19), (some (15, true)), .ia 5 (.t 18) (.c (.p (.int .i64 0)))⟩,
    ⟨(some 20), (some (15, true)), .fa 1 (.t 19)⟩,
    ⟨(some 21), (some (15, true)), .load none (.t 20)⟩,
    ⟨(some 22), (some (15, true)), .bin .eql (.t 21) (.c (.p (.int .i64 0)))⟩,
    ⟨(some 23), none, .pick (.t 15) (.t 22) (.c (.p (.bool false)))⟩,
    ⟨(some 4), none, .mov (.t 23)⟩])
  (.seq (.reg [⟨(some 24), none, .mov (.t 4)⟩,
    ⟨(some 25), none, .call 126 [(.t 24), (.c (.p (.func 147 [] [])))]⟩,
    ⟨(some 26), none, .ext (.t 25) 0⟩,
    ⟨(some 27), none, .ext (.t 25) 1⟩,
    ⟨none, none, .store (some 5) (.t 2) (.t 26)⟩,
    ⟨(some 3), none, .mov (.t 27)⟩])
  .ret))), [.l 2 (some 5), .t 3]⟩
def cf147 : CF := ⟨0, 2, 1, false, false, false, false, (.seq (.reg [⟨(some 0), none, .alloc 0 [(.p (.int .u8 0)), (.p (.int .i64 0)), (.p (.int .i64 0)), (.p (.int .i64 0)), (.sl 0 [] .full)]⟩])
  (.seq (.reg [⟨(some 1), none, .call 128 [(.c (.p (.int .i64 0))), (.c (.p (.int .i64 1)))]⟩,
    ⟨none, none, .store (some 5) (.t 0) (.t 1)⟩])
  .ret)), [.l 0 (some 5)]⟩
def cf85 : CF := ⟨1, 4, 2, false, false, false, false, (.seq (.reg [⟨(some 1), none, .box 0 (some 7) (.t 0)⟩,
    ⟨(some 2), none, .alloc 1 [(.p (.int .u8 0)), (.p (.int .i64 0)), (.p (.int .i64 0)), (.p (.int .i64 0)), (.sl 0 [] .full)]⟩,
    ⟨(some 3), none, .mov (.c (.p (.bool false)))⟩])
  (.seq (.reg [⟨(some 4), none, .load (some 7) (.t 1)⟩,
    ⟨(some 5), none, .call 148 [(.t 4), (.c (.p (.func 149 [] []))), (.c (.p .nilFunc))]⟩,
    ⟨(some 6), none, .ext (.t 5) 0⟩,
    ⟨(some 7), none, .ext (.t 5) 1⟩,
    ⟨none, none, .store (some 5) (.t 2) (.t 6)⟩,
    ⟨(some 3), none, .mov (.t 7)⟩])
  .ret)), [.l 2 (some 5), .t 3]⟩
def cf148 : CF := ⟨3, 6, 2, false, false, false, false, (.seq (.reg [⟨(some 3), none, .box 0 (some 7) (.t 0)⟩,
    ⟨(some 6), none, .alloc 1 [(.p (.int .u8 0)), (.p (.int .i64 0)), (.p (.int .i64 0)), (.p (.int .i64 0)), (.sl 0 [] .full)]⟩,
    ⟨(some 7), none, .mov (.c (.p (.bool false)))⟩])
  (.seq (.seq (.regd [] [] [⟨(some 8), none, .load (some 7) (.t 3)⟩,
    ⟨(some 9), none, .call 124 [(.t 8), (.c (.p (.int .u8 10)))]⟩,
    ⟨(some 10), none, .not (.t 9)⟩,
    ⟨(some 11), none, .mov (.t 10)⟩,
    ⟨(some 12), (some (11, false)), .mov (.t 1)⟩,
    ⟨(some 13), (some (11, false)), .fa 0 (.t 3)⟩,
    ⟨(some 14), (some (11, false)), .fa 4 (.t 13)⟩,
    ⟨(some 15), (some (11, false)), .load none (.t 14)⟩,
    ⟨(some 16), (some (11, false)), .ia 5 (.t 15) (.c (.p (.int .i64 0)))⟩,
    ⟨(some 17), (some (11, false)), .load (some 5) (.t 16)⟩,
    ⟨(some 18), (some (11, false)), .load (some 7) (.t 3)⟩,
    ⟨(some 19), (some (11, false)), .call 187 [(.t 18)]⟩,
    ⟨(some 20), (some (11, false)), .call 186 [(.t 17), (.t 19)]⟩,
    ⟨(some 21), (some (11, false)), .callv (.t 12) [(.t 20)]⟩,
    ⟨(some 22), (some (11, false)), .not (.t 21)⟩,
    ⟨(some 23), none, .pick (.t 11) (.c (.p (.bool true))) (.t 22)⟩] [⟨7, none, (.t 14), [(11, 189)]⟩, ⟨9, (some 5), (.t 16), [(11, 189)]⟩])
  (.cond (.t 23) (.seq (.reg [⟨(some 24), none, .call 98 []⟩,
    ⟨(some 25), none, .ext (.t 24) 0⟩,
    ⟨(some 26), none, .ext (.t 24) 1⟩,
    ⟨none, none, .store (some 5) (.t 6) (.t 25)⟩,
    ⟨(some 7), none, .mov (.t 26)⟩])
  .ret)
  .skip))
  (.seq (.regd [] [] [⟨(some 27), none, .fa 0 (.t 3)⟩,
    ⟨(some 28), none, .fa 4 (.t 27)⟩,
    ⟨(some 29), none, .load none (.t 28)⟩,
    ⟨(some 30), none, .ia 5 (.t 29) (.c (.p (.int .i64 0)))⟩,
    ⟨(some 31), none, .load (some 5) (.t 30)⟩,
    ⟨(some 32), none, .load (some 7) (.t 3)⟩,
    ⟨(some 33), none, .call 187 [(.t 32)]⟩,
    ⟨(some 34), none, .mov (.t 2)⟩,
    ⟨(some 35), none, .call 188 [(.t 31), (.t 33), (.t 34)]⟩,
    ⟨none, none, .store (some 5) (.t 6) (.t 35)⟩,
    ⟨(some 7), none, .mov (.c (.p (.bool true)))⟩] [⟨2, none, (.t 28), [(6, 189)]⟩, ⟨4, (some 5), (.t 30), [(6, 189)]⟩])
  .ret))), [.l 6 (some 5), .t 7]⟩
def cf187 : CF := ⟨1, 3, 1, false, false, false, false, (.seq (.reg [⟨(some 1), none, .box 0 (some 7) (.t 0)⟩,
    ⟨(some 2), none, .mov (.c (.p (.int .i64 0)))⟩])
  (.seq (.reg [⟨(some 3), none, .fa 5 (.t 1)⟩,
    ⟨(some 4), none, .load none (.t 3)⟩,
    ⟨(some 5), none, .len false (.t 4)⟩,
    ⟨(some 6), none, .bin .add (.t 5) (.c (.p (.int .i64 1)))⟩,
    ⟨(some 2), none, .mov (.t 6)⟩])
  .ret)), [.t 2]⟩
def cf186 : CF := ⟨2, 4, 1, false, false, false, false, (.seq (.reg [⟨(some 2), none, .box 0 (some 5) (.t 0)⟩,
    ⟨(some 3), none, .hbox none (.t 1)⟩,
    ⟨(some 4), none, .halloc [(.p (.bool false)), (.p (.bool false)), (.p (.bool false))]⟩])
  (.seq (.reg [⟨(some 5), none, .load (some 5) (.t 2)⟩,
    ⟨(some 6), none, .mkf 203 [] [(.t 3), (.t 4)]⟩,
    ⟨(some 7), none, .call 159 [(.t 5), (.t 6)]⟩])
  (.seq (.reg [⟨(some 8), none, .load (some 3) (.t 4)⟩,
    ⟨none, none, .store (some 3) (.t 4) (.t 8)⟩])
  .ret))), [.l 4 (some 3)]⟩
def cf203 : CF := ⟨4, 6, 1, false, false, false, false, (.seq (.reg [⟨(some 4), none, .box 0 (some 5) (.t 0)⟩,
    ⟨(some 6), none, .mov (.c (.p (.bool false)))⟩])
  (.seq (.seq (.reg [⟨(some 7), none, .fa 3 (.t 4)⟩,
    ⟨(some 8), none, .load none (.t 7)⟩,
    ⟨(some 9), none, .load none (.t 2)⟩,
    ⟨(some 10), none, .bin .eql (.t 8) (.t 9)⟩])
  (.cond (.t 10) (.seq (.reg [⟨(some 11), none, .fa 0 (.t 3)⟩,
    ⟨(some 12), none, .load none (.t 11)⟩,
    ⟨(some 13), none, .mov (.t 12)⟩,
    ⟨(some 14), (some (13, false)), .fa 0 (.t 4)⟩,
    ⟨(some 15), (some (13, false)), .load none (.t 14)⟩,
    ⟨(some 16), (some (13, false)), .bin .eql (.t 15) (.c (.p (.int .u8 3)))⟩,
    ⟨(some 17), none, .pick (.t 13) (.c (.p (.bool true))) (.t 16)⟩,
    ⟨(some 18), none, .fa 0 (.t 3)⟩,
    ⟨none, none, .store none (.t 18) (.t 17)⟩])
  (.seq (.reg [⟨(some 19), none, .fa 1 (.t 3)⟩,
    ⟨(some 20), none, .load none (.t 19)⟩,
    ⟨(some 21), none, .mov (.t 20)⟩,
    ⟨(some 22), (some (21, false)), .fa 0 (.t 4)⟩,
    ⟨(some 23), (some (21, false)), .load none (.t 22)⟩,
    ⟨(some 24), (some (21, false)), .bin .eql (.t 23) (.c (.p (.int .u8 4)))⟩,
    ⟨(some 25), none, .pick (.t 21) (.c (.p (.bool true))) (.t 24)⟩,
    ⟨(some 26), none, .mov (.t 25)⟩,
    ⟨(some 27), (some (26, false)), .fa 0 (.t 4)⟩,
    ⟨(some 28), (some (26, false)), .load none (.t 27)⟩,
    ⟨(some 29), (some (26, false)), .bin .eql (.t 28) (.c (.p (.int .u8 18)))⟩,
    ⟨(some 30), none, .pick (.t 26) (.c (.p (.bool true))) (.t 29)⟩,
    ⟨(some 31), none, .fa 1 (.t 3)⟩,
    ⟨none, none, .store none (.t 31) (.t 30)⟩])
  (.reg [⟨(some 32), none, .fa 2 (.t 3)⟩,
    ⟨(some 33), none, .load none (.t 32)⟩,
    ⟨(some 34), none, .mov (.t 33)⟩,
    ⟨(some 35), (some (34, false)), .fa 0 (.t 4)⟩,
    ⟨(some 36), (some (34, false)), .load none (.t 35)⟩,
    ⟨(some 37), (some (34, false)), .bin .eql (.t 36) (.c (.p (.int .u8 16)))⟩,
    ⟨(some 38), none, .pick (.t 34) (.c (.p (.bool true))) (.t 37)⟩,
    ⟨(some 39), none, .fa 2 (.t 3)⟩,
    ⟨none, none, .store none (.t 39) (.t 38)⟩])))
  .skip))
  (.seq (.reg [⟨(some 6), none, .mov (.c (.p (.bool false)))⟩])
  .ret))), [.t 6]⟩
def cf159 : CF := ⟨2, 4, 1, false, false, false, false, (.seq (.reg [⟨(some 2), none, .box 0 (some 5) (.t 0)⟩,
    ⟨(some 3), none, .hbox none (.t 1)⟩,
    ⟨(some 4), none, .mov (.c (.p (.bool false)))⟩])
  (.seq (.reg [⟨(some 5), none, .halloc [(.p (.bool false))]⟩,
    ⟨none, none, .store none (.t 5) (.c (.p (.bool false)))⟩])
  (.seq (.reg [⟨(some 6), none, .load (some 5) (.t 2)⟩,
    ⟨(some 7), none, .mkf 191 [] [(.t 5), (.t 3)]⟩,
    ⟨(some 8), none, .call 108 [(.t 6), (.c (.p (.int .i64 0))), (.t 7)]⟩])
  (.seq (.reg [⟨(some 9), none, .load none (.t 5)⟩,
    ⟨(some 4), none, .mov (.t 9)⟩])
  .ret)))), [.t 4]⟩
def cf191 : CF := ⟨4, 5, 2, false, false, false, false, (.seq (.reg [⟨(some 4), none, .box 0 (some 5) (.t 0)⟩,
    ⟨(some 6), none, .alloc 1 [(.p (.int .u8 0)), (.p (.int .i64 0)), (.p (.int .i64 0)), (.p (.int .i64 0)), (.sl 0 [] .full)]⟩,
    ⟨(some 7), none, .mov (.c (.p (.bool false)))⟩])
  (.seq (.reg [⟨(some 8), none, .load none (.t 2)⟩,
    ⟨(some 9), none, .mov (.t 8)⟩,
    ⟨(some 10), (some (9, false)), .load none (.t 3)⟩,
    ⟨(some 11), (some (9, false)), .load (some 5) (.t 4)⟩,
    ⟨(some 12), (some (9, false)), .mov (.t 1)⟩,
    ⟨(some 13), (some (9, false)), .callv (.t 10) [(.t 11), (.t 12)]⟩,
    ⟨(some 14), none, .pick (.t 9) (.c (.p (.bool true))) (.t 13)⟩,
    ⟨none, none, .store none (.t 2) (.t 14)⟩])
  (.seq (.regd [] [] [⟨(some 15), none, .load (some 5) (.t 4)⟩,
    ⟨(some 16), none, .load none (.t 2)⟩,
    ⟨(some 17), none, .not (.t 16)⟩,
    ⟨none, none, .store (some 5) (.t 6) (.t 15)⟩,
    ⟨(some 7), none, .mov (.t 17)⟩] [⟨1, none, (.t 2), [(3, 0)]⟩])
  .ret))), [.l 6 (some 5), .t 7]⟩
def cf108 : CF := ⟨3, 6, 2, false, false, false, false, (.seq (.reg [⟨(some 3), none, .box 0 (some 5) (.t 0)⟩,
    ⟨(some 6), none, .alloc 1 [(.p (.int .u8 0)), (.p (.int .i64 0)), (.p (.int .i64 0)), (.p (.int .i64 0)), (.sl 0 [] .full)]⟩])
  (.seq (.reg [⟨(some 13), none, .mov (.t 2)⟩,
    ⟨(some 14), none, .load (some 5) (.t 3)⟩,
    ⟨(some 15), none, .mov (.t 1)⟩,
    ⟨(some 16), none, .callv (.t 13) [(.t 14), (.t 15)]⟩,
    ⟨(some 12), none, .mov (.t 16)⟩,
    ⟨(some 17), none, .ext (.t 12) 0⟩,
    ⟨(some 18), none, .ext (.t 12) 1⟩,
    ⟨none, none, .store (some 5) (.t 3) (.t 17)⟩,
    ⟨(some 7), none, .mov (.t 18)⟩])
  (.seq (.seq (.reg [⟨(some 19), none, .mov (.t 7)⟩,
    ⟨(some 20), none, .not (.t 19)⟩])
  (.cond (.t 20) (.seq (.reg [⟨(some 21), none, .load (some 5) (.t 3)⟩,
    ⟨none, none, .store (some 5) (.t 6) (.t 21)⟩])
  .ret)
  .skip))
  (.seq (.reg [⟨(some 22), none, .fa 4 (.t 3)⟩,
    ⟨(some 23), none, .load none (.t 22)⟩,
    ⟨(some 24), none, .len false (.t 23)⟩,
    ⟨(some 25), none, .mksl 5 56 (.t 24)⟩,
    ⟨(some 8), none, .mov (.t 25)⟩])
  (.seq (.seq (.reg [⟨(some 26), none, .fa 4 (.t 3)⟩,
    ⟨(some 27), none, .load none (.t 26)⟩,
    ⟨(some 28), none, .len false (.t 27)⟩,
    ⟨(some 29), none, .mov (.c (.p (.int .i64 0)))⟩])
  (.block 0 (.loop (.seq (.reg [⟨(some 30), none, .bin .lss (.t 29) (.t 28)⟩])
  (.seq (.cond (.t 30) .skip
  (.exit 0))
  (.seq (.block 1 (.seq (.reg [⟨(some 31), none, .mov (.t 29)⟩,
    ⟨(some 32), none, .ia 5 (.t 27) (.t 29)⟩,
    ⟨(some 33), none, .load (some 5) (.t 32)⟩,
    ⟨(some 10), none, .alloc 2 [(.p (.int .u8 0)), (.p (.int .i64 0)), (.p (.int .i64 0)), (.p (.int .i64 0)), (.sl 0 [] .full)]⟩,
    ⟨(some 9), none, .mov (.t 31)⟩,
    ⟨none, none, .store (some 5) (.t 10) (.t 33)⟩])
  (.seq (.reg [⟨(some 34), none, .mov (.t 1)⟩,
    ⟨(some 11), none, .mov (.t 34)⟩])
  (.seq (.seq (.reg [⟨(some 35), none, .fa 0 (.t 3)⟩,
    ⟨(some 36), none, .load none (.t 35)⟩,
    ⟨(some 37), none, .bin .eql (.t 36) (.c (.p (.int .u8 11)))⟩,
    ⟨(some 38), none, .mov (.t 37)⟩,
    ⟨(some 39), (some (38, true)), .mov (.t 9)⟩,
    ⟨(some 40), (some (38, true)), .bin .eql (.t 39) (.c (.p (.int .i64 0)))⟩,
    ⟨(some 41), none, .pick (.t 38) (.t 40) (.c (.p (.bool false)))⟩])
  (.cond (.t 41) (.reg [⟨(some 42), none, .mov (.t 11)⟩,
    ⟨(some 43), none, .bin .add (.t 42) (.c (.p (.int .i64 1)))⟩,
    ⟨(some 11), none, .mov (.t 43)⟩])
  .skip))
  (.reg [⟨(some 44), none, .mov (.t 8)⟩,
    ⟨(some 45), none, .load (some 5) (.t 10)⟩,
    ⟨(some 46), none, .mov (.t 11)⟩,
    ⟨(some 47), none, .mov (.t 2)⟩,
    ⟨(some 48), none, .call 108 [(.t 45), (.t 46), (.t 47)]⟩,
    ⟨(some 49), none, .mks 1 [(.int .u8 0), (.int .i64 0), (.int .i64 0), (.int .i64 0), (.sl 0 [])] [(0, (some 5), (.t 48))]⟩,
    ⟨(some 50), none, .app 5 56 (.t 44) (.t 49)⟩,
    ⟨(some 8), none, .mov (.t 50)⟩])))))
  (.reg [⟨(some 51), none, .bin .add (.t 29) (.c (.p (.int .i64 1)))⟩,
    ⟨(some 29), none, .mov (.t 51)⟩])))))))
  (.seq (.reg [⟨(some 52), none, .mov (.t 8)⟩,
    ⟨(some 53), none, .fa 4 (.t 3)⟩,
    ⟨none, none, .store none (.t 53) (.t 52)⟩])
  (.seq (.reg [⟨(some 54), none, .load (some 5) (.t 3)⟩,
    ⟨none, none, .store (some 5) (.t 6) (.t 54)⟩])
  .ret))))))), [.l 6 (some 5)]⟩
def cf188 : CF := ⟨3, 4, 2, false, false, false, false, (.seq (.reg [⟨(some 3), none, .box 0 (some 5) (.t 0)⟩,
    ⟨(some 4), none, .hbox none (.t 1)⟩,
    ⟨(some 5), none, .hbox none (.t 2)⟩,
    ⟨(some 6), none, .alloc 1 [(.p (.int .u8 0)), (.p (.int .i64 0)), (.p (.int .i64 0)), (.p (.int .i64 0)), (.sl 0 [] .full)]⟩])
  (.seq (.reg [⟨(some 7), none, .load (some 5) (.t 3)⟩,
    ⟨(some 8), none, .mkf 204 [] [(.t 4), (.t 5)]⟩,
    ⟨(some 9), none, .call 108 [(.t 7), (.c (.p (.int .i64 0))), (.t 8)]⟩,
    ⟨none, none, .store (some 5) (.t 6) (.t 9)⟩])
  .ret)), [.l 6 (some 5)]⟩
def cf204 : CF := ⟨4, 5, 2, false, false, false, false, (.seq (.reg [⟨(some 4), none, .box 0 (some 5) (.t 0)⟩,
    ⟨(some 6), none, .alloc 1 [(.p (.int .u8 0)), (.p (.int .i64 0)), (.p (.int .i64 0)), (.p (.int .i64 0)), (.sl 0 [] .full)]⟩,
    ⟨(some 7), none, .mov (.c (.p (.bool false)))⟩])
  (.seq (.block 0 (.loop (.seq (.seq (.reg [⟨(some 8), none, .fa 3 (.t 4)⟩,
    ⟨(some 9), none, .load none (.t 8)⟩,
    ⟨(some 10), none, .load none (.t 2)⟩,
    ⟨(some 11), none, .bin .eql (.t 9) (.t 10)⟩])
  (.cond (.t 11) .skip
  (.exit 0)))
  (.block 1 (.reg [⟨(some 12), none, .load none (.t 3)⟩,
    ⟨(some 13), none, .load (some 5) (.t 4)⟩,
    ⟨(some 14), none, .callv (.t 12) [(.t 13)]⟩,
    ⟨none, none, .store (some 5) (.t 4) (.t 14)⟩])))))
  (.seq (.seq (.reg [⟨(some 15), none, .fa 3 (.t 4)⟩,
    ⟨(some 16), none, .load none (.t 15)⟩,
    ⟨(some 17), none, .load none (.t 2)⟩,
    ⟨(some 18), none, .bin .gtr (.t 16) (.t 17)⟩])
  (.cond (.t 18) (.reg [⟨(some 19), none, .fa 3 (.t 4)⟩,
    ⟨(some 20), none, .load none (.t 19)⟩,
    ⟨(some 21), none, .bin .sub (.t 20) (.c (.p (.int .i64 1)))⟩,
    ⟨(some 22), none, .fa 3 (.t 4)⟩,
    ⟨none, none, .store none (.t 22) (.t 21)⟩])
  .skip))
  (.seq (.reg [⟨(some 23), none, .load (some 5) (.t 4)⟩,
    ⟨none, none, .store (some 5) (.t 6) (.t 23)⟩,
    ⟨(some 7), none, .mov (.c (.p (.bool true)))⟩])
  .ret)))), [.l 6 (some 5), .t 7]⟩
def cf149 : CF := ⟨1, 3, 1, true, false, false, false, (.seq (.reg [⟨(some 1), none, .box 0 (some 3) (.t 0)⟩,
    ⟨(some 2), none, .mov (.c (.p (.bool false)))⟩])
  (.seq (.reg [⟨(some 3), none, .load (some 3) (.t 1)⟩,
    ⟨(some 4), none, .build [(.p (.bool false)), (.p (.bool false)), (.p (.bool false))] []⟩,
    ⟨(some 5), none, .eqs [0, 0, 0] false (.t 3) (.t 4)⟩,
    ⟨(some 2), none, .mov (.t 5)⟩])
  .ret)), [.t 2]⟩
def cf86 : CF := ⟨1, 4, 1, false, false, false, false, (.seq (.reg [⟨(some 1), none, .hbox (some 7) (.t 0)⟩,
    ⟨(some 2), none, .alloc 0 [(.p (.int .u8 0)), (.p (.int .i64 0)), (.p (.int .i64 0)), (.p (.int .i64 0)), (.sl 0 [] .full)]⟩,
    ⟨(some 3), none, .mov (.c (.p (.bool false)))⟩])
  (.seq (.reg [⟨(some 4), none, .load (some 7) (.t 1)⟩,
    ⟨(some 5), none, .mkf 151 [] [(.t 1)]⟩,
    ⟨(some 6), none, .call 148 [(.t 4), (.c (.p (.func 150 [] []))), (.t 5)]⟩,
    ⟨(some 7), none, .ext (.t 6) 0⟩,
    ⟨(some 8), none, .ext (.t 6) 1⟩,
    ⟨none, none, .store (some 5) (.t 2) (.t 7)⟩,
    ⟨(some 3), none, .mov (.t 8)⟩])
  .ret)), [.l 2 (some 5), .t 3]⟩
def cf151 : CF := ⟨2, 4, 2, false, false, false, false, (.seq (.reg [⟨(some 2), none, .box 0 (some 5) (.t 0)⟩,
    ⟨(some 3), none, .alloc 1 [(.p (.int .u8 0)), (.p (.int .i64 0)), (.p (.int .i64 0)), (.p (.int .i64 0)), (.sl 0 [] .full)]⟩])
  (.seq (.reg [⟨(some 4), none, .fa 0 (.t 1)⟩,
    ⟨(some 5), none, .fa 2 (.t 4)⟩,
    ⟨(some 6), none, .load none (.t 5)⟩,
    ⟨(some 7), none, .fa 0 (.t 1)⟩,
    ⟨(some 8), none, .fa 1 (.t 7)⟩,
    ⟨(some 9), none, .load none (.t 8)⟩,
    ⟨(some 10), none, .call 128 [(.t 6), (.t 9)]⟩,
    ⟨none, none, .store (some 5) (.t 3) (.t 10)⟩])
  .ret)), [.l 3 (some 5)]⟩
def cf150 : CF := ⟨1, 3, 1, true, false, false, false, (.seq (.reg [⟨(some 1), none, .box 0 (some 3) (.t 0)⟩,
    ⟨(some 2), none, .mov (.c (.p (.bool false)))⟩])
  (.seq (.reg [⟨(some 3), none, .load (some 3) (.t 1)⟩,
    ⟨(some 4), none, .build [(.p (.bool false)), (.p (.bool false)), (.p (.bool false))] [(0, none, (.c (.p (.bool true))))]⟩,
    ⟨(some 5), none, .eqs [0, 0, 0] false (.t 3) (.t 4)⟩,
    ⟨(some 2), none, .mov (.t 5)⟩])
  .ret)), [.t 2]⟩
def cf87 : CF := ⟨1, 4, 2, false, false, false, false, (.seq (.reg [⟨(some 1), none, .box 0 (some 7) (.t 0)⟩,
    ⟨(some 2), none, .alloc 1 [(.p (.int .u8 0)), (.p (.int .i64 0)), (.p (.int .i64 0)), (.p (.int .i64 0)), (.sl 0 [] .full)]⟩,
    ⟨(some 3), none, .mov (.c (.p (.bool false)))⟩])
  (.seq (.reg [⟨(some 4), none, .mov (.c (.p (.func 152 [] [])))⟩])
  (.seq (.reg [⟨(some 5), none, .load (some 7) (.t 1)⟩,
    ⟨(some 6), none, .mov (.t 4)⟩,
    ⟨(some 7), none, .call 148 [(.t 5), (.c (.p (.func 153 [] []))), (.t 6)]⟩,
    ⟨(some 8), none, .ext (.t 7) 0⟩,
    ⟨(some 9), none, .ext (.t 7) 1⟩,
    ⟨none, none, .store (some 5) (.t 2) (.t 8)⟩,
    ⟨(some 3), none, .mov (.t 9)⟩])
  .ret))), [.l 2 (some 5), .t 3]⟩
def cf152 : CF := ⟨1, 4, 2, false, false, false, false, (.seq (.reg [⟨(some 1), none, .box 0 (some 5) (.t 0)⟩,
    ⟨(some 2), none, .alloc 1 [(.p (.int .u8 0)), (.p (.int .i64 0)), (.p (.int .i64 0)), (.p (.int .i64 0)), (.sl 0 [] .full)]⟩])
  (.seq (.seq (.reg [⟨(some 3), none, .fa 0 (.t 1)⟩,
    ⟨(some 4), none, .load none (.t 3)⟩,
    ⟨(some 5), none, .bin .eql (.t 4) (.c (.p (.int .u8 18)))⟩])
  (.cond (.t 5) (.seq (.reg [⟨(some 6), none, .fa 4 (.t 1)⟩,
    ⟨(some 7), none, .load none (.t 6)⟩,
    ⟨(some 8), none, .ia 5 (.t 7) (.c (.p (.int .i64 0)))⟩,
    ⟨(some 9), none, .load (some 5) (.t 8)⟩,
    ⟨none, none, .store (some 5) (.t 2) (.t 9)⟩])
  .ret)
  .skip))
  (.seq (.reg [⟨(some 10), none, .fa 4 (.t 1)⟩,
    ⟨(some 11), none, .load none (.t 10)⟩,
    ⟨(some 12), none, .ia 5 (.t 11) (.c (.p (.int .i64 0)))⟩,
    ⟨(some 13), none, .load (some 5) (.t 12)⟩,
    ⟨(some 14), none, .call 142 [(.t 13)]⟩,
    ⟨none, none, .store (some 5) (.t 2) (.t 14)⟩])
  .ret))), [.l 2 (some 5)]⟩
def cf153 : CF := ⟨1, 3, 1, true, false, false, false, (.seq (.reg [⟨(some 1), none, .box 0 (some 3) (.t 0)⟩,
    ⟨(some 2), none, .mov (.c (.p (.bool false)))⟩])
  (.seq (.reg [⟨(some 3), none, .load (some 3) (.t 1)⟩,
    ⟨(some 4), none, .build [(.p (.bool false)), (.p (.bool false)), (.p (.bool false))] [(1, none, (.c (.p (.bool true))))]⟩,
    ⟨(some 5), none, .eqs [0, 0, 0] false (.t 3) (.t 4)⟩,
    ⟨(some 2), none, .mov (.t 5)⟩])
  .ret)), [.t 2]⟩
def cf88 : CF := ⟨1, 6, 2, false, false, false, false, (.seq (.reg [⟨(some 1), none, .box 0 (some 7) (.t 0)⟩,
    ⟨(some 2), none, .alloc 1 [(.p (.int .u8 0)), (.p (.int .i64 0)), (.p (.int .i64 0)), (.p (.int .i64 0)), (.sl 0 [] .full)]⟩,
    ⟨(some 3), none, .mov (.c (.p (.bool false)))⟩])
  (.seq (.seq (.reg [⟨(some 7), none, .load (some 7) (.t 1)⟩,
    ⟨(some 8), none, .call 124 [(.t 7), (.c (.p (.int .u8 7)))]⟩,
    ⟨(some 9), none, .not (.t 8)⟩])
  (.cond (.t 9) (.seq (.reg [⟨(some 10), none, .call 98 []⟩,
    ⟨(some 11), none, .ext (.t 10) 0⟩,
    ⟨(some 12), none, .ext (.t 10) 1⟩,
    ⟨none, none, .store (some 5) (.t 2) (.t 11)⟩,
    ⟨(some 3), none, .mov (.t 12)⟩])
  .ret)
  .skip))
  (.seq (.regd [(2, [(.p (.int .u8 0)), (.p (.int .i64 0)), (.p (.int .i64 0)), (.p (.int .i64 0)), (.sl 0 [] .full)])] [(4, [(.p (.int .u8 0)), (.p (.int .i64 0)), (.p (.int .i64 0)), (.p (.int .i64 0)), (.sl 0 [] .full)])] [⟨(some 13), none, .fa 0 (.t 1)⟩,
    ⟨(some 14), none, .fa 4 (.t 13)⟩,
    ⟨(some 15), none, .load none (.t 14)⟩,
    ⟨(some 16), none, .ia 5 (.t 15) (.c (.p (.int .i64 0)))⟩,
    ⟨(some 17), none, .load (some 5) (.t 16)⟩,
    ⟨(some 18), none, .fa 0 (.t 1)⟩,
    ⟨(some 19), none, .fa 4 (.t 18)⟩,
    ⟨(some 20), none, .load none (.t 19)⟩,
    ⟨(some 21), none, .ia 5 (.t 20) (.c (.p (.int .i64 1)))⟩,
    ⟨(some 22), none, .load (some 5) (.t 21)⟩,
    ⟨(some 4), none, .halloced 4⟩,
    ⟨(some 5), none, .alloced 2⟩,
    ⟨none, none, .store (some 5) (.t 4) (.t 17)⟩,
    ⟨none, none, .store (some 5) (.t 5) (.t 22)⟩] [⟨7, none, (.t 19), [(12, 0)]⟩, ⟨9, (some 5), (.t 21), [(12, 0)]⟩])
  (.seq (.reg [⟨(some 23), none, .fa 0 (.t 4)⟩,
    ⟨(some 24), none, .load none (.t 23)⟩,
    ⟨(some 25), none, .bin .eql (.t 24) (.c (.p (.int .u8 4)))⟩,
    ⟨(some 26), none, .mov (.t 25)⟩,
    ⟨(some 27), (some (26, true)), .fa 0 (.t 5)⟩,
    ⟨(some 28), (some (26, true)), .load none (.t 27)⟩,
    ⟨(some 29), (some (26, true)), .bin .eql (.t 28) (.c (.p (.int .u8 3)))⟩,
    ⟨(some 30), none, .pick (.t 26) (.t 29) (.c (.p (.bool false)))⟩,
    ⟨(some 31), none, .mov (.t 30)⟩,
    ⟨(some 32), (some (31, true)), .fa 3 (.t 4)⟩,
    ⟨(some 33), (some (31, true)), .load none (.t 32)⟩,
    ⟨(some 34), (some (31, true)), .fa 3 (.t 5)⟩,
    ⟨(some 35), (some (31, true)), .load none (.t 34)⟩,
    ⟨(some 36), (some (31, true)), .bin .eql (.t 33) (.t 35)⟩,
    ⟨(some 37), none, .pick (.t 31) (.t 36) (.c (.p (.bool false)))⟩,
    ⟨(some 38), none, .mov (.t 37)⟩,
    ⟨(some 39), (some (38, true)), .fa 3 (.t 4)⟩,
    ⟨(some 40), (some (38, true)), .load none (.t 39)⟩,
    ⟨(some 41), (some (38, true)), .fa 6 (.t 1)⟩,
    ⟨(some 42), (some (38, true)), .load none (.t 41)⟩,
    ⟨(some 43), (some (38, true)), .bin .gtr (.t 40) (.t 42)⟩,
    ⟨(some 44), none, .pick (.t 38) (.t 43) (.c (.p (.bool false)))⟩,
    ⟨(some 45), none, .mov (.t 44)⟩,
    ⟨(some 46), (some (45, true)), .fa 4 (.t 4)⟩,
    ⟨(some 47), (some (45, true)), .load none (.t 46)⟩,
    ⟨(some 48), (some (45, true)), .ia 5 (.t 47) (.c (.p (.int .i64 0)))⟩,
    ⟨(some 49), (some (45, true)), .load (some 5) (.t 48)⟩,
    ⟨(some 50), (some (45, true)), .call 125 [(.t 49)]⟩,
    ⟨(some 51), none, .pick (.t 45) (.t 50) (.c (.p (.bool false)))⟩,
    ⟨(some 6), none, .mov (.t 51)⟩])
  (.seq (.reg [⟨(some 52), none, .mov (.t 6)⟩,
    ⟨(some 53), none, .mkf 154 [] [(.t 4)]⟩,
    ⟨(some 54), none, .call 126 [(.t 52), (.t 53)]⟩,
    ⟨(some 55), none, .ext (.t 54) 0⟩,
    ⟨(some 56), none, .ext (.t 54) 1⟩,
    ⟨none, none, .store (some 5) (.t 2) (.t 55)⟩,
    ⟨(some 3), none, .mov (.t 56)⟩])
  .ret))))), [.l 2 (some 5), .t 3]⟩
def cf154 : CF := ⟨1, 4, 1, false, false, false, false, (.seq (.reg [⟨(some 1), none, .alloc 0 [(.p (.int .u8 0)), (.p (.int .i64 0)), (.p (.int .i64 0)), (.p (.int .i64 0)), (.sl 0 [] .full)]⟩])
  (.seq (.regd [] [] [⟨(some 2), none, .load (some 5) (.t 0)⟩,
    ⟨(some 3), none, .fa 4 (.t 0)⟩,
    ⟨(some 4), none, .load none (.t 3)⟩,
    ⟨(some 5), none, .ia 5 (.t 4) (.c (.p (.int .i64 0)))⟩,
    ⟨(some 6), none, .load (some 5) (.t 5)⟩,
    ⟨(some 7), none, .call 141 [(.t 2), (.t 6)]⟩,
    ⟨none, none, .store (some 5) (.t 1) (.t 7)⟩] [])
  .ret)), [.l 1 (some 5)]⟩
def cf89 : CF := ⟨1, 5, 1, false, false, false, false, (.seq (.reg [⟨(some 1), none, .hbox (some 7) (.t 0)⟩,
    ⟨(some 2), none, .alloc 0 [(.p (.int .u8 0)), (.p (.int .i64 0)), (.p (.int .i64 0)), (.p (.int .i64 0)), (.sl 0 [] .full)]⟩,
    ⟨(some 3), none, .mov (.c (.p (.bool false)))⟩])
  (.seq (.reg [⟨(some 5), none, .load (some 7) (.t 1)⟩,
    ⟨(some 6), none, .call 124 [(.t 5), (.c (.p (.int .u8 11)))]⟩,
    ⟨(some 7), none, .mov (.t 6)⟩,
    ⟨(some 8), (some (7, true)), .fa 0 (.t 1)⟩,
    ⟨(some 9), (some (7, true)), .fa 4 (.t 8)⟩,
    ⟨(some 10), (some (7, true)), .load none (.t 9)⟩,
    ⟨(some 11), (some (7, true)), .ia 5 (.t 10) (.c (.p (.int .i64 0)))⟩,
    ⟨(some 12), (some (7, true)), .load (some 5) (.t 11)⟩,
    ⟨(some 13), (some (7, true)), .call 155 [(.t 12)]⟩,
    ⟨(some 14), (some (7, true)), .not (.t 13)⟩,
    ⟨(some 15), none, .pick (.t 7) (.t 14) (.c (.p (.bool false)))⟩,
    ⟨(some 4), none, .mov (.t 15)⟩])
  (.seq (.reg [⟨(some 16), none, .mov (.t 4)⟩,
    ⟨(some 17), none, .mkf 156 [] [(.t 1)]⟩,
    ⟨(some 18), none, .call 126 [(.t 16), (.t 17)]⟩,
    ⟨(some 19), none, .ext (.t 18) 0⟩,
    ⟨(some 20), none, .ext (.t 18) 1⟩,
    ⟨none, none, .store (some 5) (.t 2) (.t 19)⟩,
    ⟨(some 3), none, .mov (.t 20)⟩])
  .ret))), [.l 2 (some 5), .t 3]⟩
def cf155 : CF := ⟨1, 3, 1, false, false, false, false, (.seq (.reg [⟨(some 1), none, .box 0 (some 5) (.t 0)⟩,
    ⟨(some 2), none, .mov (.c (.p (.bool false)))⟩])
  (.seq (.reg [⟨(some 3), none, .load (some 5) (.t 1)⟩,
    ⟨(some 4), none, .call 159 [(.t 3), (.c (.p (.func 189 [] [])))]⟩,
    ⟨(some 2), none, .mov (.t 4)⟩])
  .ret)), [.t 2]⟩
def cf189 : CF := ⟨2, 4, 1, false, false, false, false, (.seq (.reg [⟨(some 2), none, .box 0 (some 5) (.t 0)⟩,
    ⟨(some 4), none, .mov (.c (.p (.bool false)))⟩])
  (.seq (.reg [⟨(some 5), none, .fa 0 (.t 2)⟩,
    ⟨(some 6), none, .load none (.t 5)⟩,
    ⟨(some 7), none, .bin .eql (.t 6) (.c (.p (.int .u8 12)))⟩,
    ⟨(some 8), none, .mov (.t 7)⟩,
    ⟨(some 9), (some (8, true)), .fa 1 (.t 2)⟩,
    ⟨(some 10), (some (8, true)), .load none (.t 9)⟩,
    ⟨(some 11), (some (8, true)), .mov (.t 1)⟩,
    ⟨(some 12), (some (8, true)), .bin .eql (.t 10) (.t 11)⟩,
    ⟨(some 13), none, .pick (.t 8) (.t 12) (.c (.p (.bool false)))⟩,
    ⟨(some 4), none, .mov (.t 13)⟩])
  .ret)), [.t 4]⟩
def cf156 : CF := ⟨1, 4, 1, false, false, false, false, (.seq (.reg [⟨(some 1), none, .alloc 0 [(.p (.int .u8 0)), (.p (.int .i64 0)), (.p (.int .i64 0)), (.p (.int .i64 0)), (.sl 0 [] .full)]⟩])
  (.seq (.reg [⟨(some 2), none, .fa 0 (.t 0)⟩,
    ⟨(some 3), none, .fa 4 (.t 2)⟩,
    ⟨(some 4), none, .load none (.t 3)⟩,
    ⟨(some 5), none, .ia 5 (.t 4) (.c (.p (.int .i64 0)))⟩,
    ⟨(some 6), none, .load (some 5) (.t 5)⟩,
    ⟨(some 7), none, .call 157 [(.t 6)]⟩,
    ⟨none, none, .store (some 5) (.t 1) (.t 7)⟩])
  .ret)), [.l 1 (some 5)]⟩
def cf157 : CF := ⟨1, 3, 2, false, false, false, false, (.seq (.reg [⟨(some 1), none, .box 0 (some 5) (.t 0)⟩,
    ⟨(some 2), none, .alloc 1 [(.p (.int .u8 0)), (.p (.int .i64 0)), (.p (.int .i64 0)), (.p (.int .i64 0)), (.sl 0 [] .full)]⟩])
  (.seq (.reg [⟨(some 3), none, .load (some 5) (.t 1)⟩,
    ⟨(some 4), none, .call 108 [(.t 3), (.c (.p (.int .i64 0))), (.c (.p (.func 190 [] [])))]⟩,
    ⟨none, none, .store (some 5) (.t 2) (.t 4)⟩])
  .ret)), [.l 2 (some 5)]⟩
def cf190 : CF := ⟨2, 5, 2, false, false, false, false, (.seq (.reg [⟨(some 2), none, .box 0 (some 5) (.t 0)⟩,
    ⟨(some 4), none, .alloc 1 [(.p (.int .u8 0)), (.p (.int .i64 0)), (.p (.int .i64 0)), (.p (.int .i64 0)), (.sl 0 [] .full)]⟩,
    ⟨(some 5), none, .mov (.c (.p (.bool false)))⟩])
  (.seq (.seq (.reg [⟨(some 6), none, .fa 0 (.t 2)⟩,
    ⟨(some 7), none, .load none (.t 6)⟩,
    ⟨(some 8), none, .bin .eql (.t 7) (.c (.p (.int .u8 12)))⟩,
    ⟨(some 9), none, .mov (.t 8)⟩,
    ⟨(some 10), (some (9, true)), .fa 1 (.t 2)⟩,
    ⟨(some 11), (some (9, true)), .load none (.t 10)⟩,
    ⟨(some 12), (some (9, true)), .mov (.t 1)⟩,
    ⟨(some 13), (some (9, true)), .bin .gtr (.t 11) (.t 12)⟩,
    ⟨(some 14), none, .pick (.t 9) (.t 13) (.c (.p (.bool false)))⟩])
  (.cond (.t 14) (.reg [⟨(some 15), none, .fa 1 (.t 2)⟩,
    ⟨(some 16), none, .load none (.t 15)⟩,
    ⟨(some 17), none, .bin .sub (.t 16) (.c (.p (.int .i64 1)))⟩,
    ⟨(some 18), none, .fa 1 (.t 2)⟩,
    ⟨none, none, .store none (.t 18) (.t 17)⟩])
  .skip))
  (.seq (.reg [⟨(some 19), none, .load (some 5) (.t 2)⟩,
    ⟨none, none, .store (some 5) (.t 4) (.t 19)⟩,
    ⟨(some 5), none, .mov (.c (.p (.bool true)))⟩])
  .ret))), [.l 4 (some 5), .t 5]⟩
def cf90 : CF := ⟨1, 5, 2, false, false, false, false, (.seq (.reg [⟨(some 1), none, .box 0 (some 7) (.t 0)⟩,
    ⟨(some 2), none, .alloc 1 [(.p (.int .u8 0)), (.p (.int .i64 0)), (.p (.int .i64 0)), (.p (.int .i64 0)), (.sl 0 [] .full)]⟩,
    ⟨(some 3), none, .mov (.c (.p (.bool false)))⟩])
  (.seq (.reg [⟨(some 5), none, .load (some 7) (.t 1)⟩,
    ⟨(some 6), none, .call 124 [(.t 5), (.c (.p (.int .u8 11)))]⟩,
    ⟨(some 7), none, .mov (.t 6)⟩,
    ⟨(some 8), (some (7, true)), .fa 0 (.t 1)⟩,
    ⟨(some 9), (some (7, true)), .fa 4 (.t 8)⟩,
    ⟨(some 10), (some (7, true)), .load none (.t 9)⟩,
    ⟨(some 11), (some (7, true)), .ia 5 (.t 10) (.c (.p (.int .i64 0)))⟩,
    ⟨(some 12), (some (7, true)), .fa 0 (.t 11)⟩,
    ⟨(some 13), (some (7, true)), .load none (.t 12)⟩,
    ⟨(some 14), (some (7, true)), .bin .eql (.t 13) (.c (.p (.int .u8 12)))⟩,
    ⟨(some 15), none, .pick (.t 7) (.t 14) (.c (.p (.bool false)))⟩,
    ⟨(some 16), none, .mov (.t 15)⟩,
    ⟨(some 17), (some (16, true)), .fa 0 (.t 1)⟩,
    ⟨(some 18), (some (16, true)), .fa 4 (.t 17)⟩,
    ⟨(some 19), (some (16, true)), .load none (.t 18)⟩,
    ⟨(some 20), (some (16, true)), .ia 5 (.t 19) (.c (.p (.int .i64 0)))⟩,
    ⟨(some 21), (some (16, true)), .fa 1 (.t 20)⟩,
    ⟨(some 22), (some (16, true)), .load none (.t 21)⟩,
    ⟨(some 23), (some (16, true)), .bin .eql (.t 22) (.c (.p (.int .i64 0)))⟩,
    ⟨(some 24), none, .pick (.t 16) (.t 23) (.c (.p (.bool false)))⟩,
    ⟨(some 4), none, .mov (.t 24)⟩])
  (.seq (.reg [⟨(some 25), none, .mov (.t 4)⟩,
    ⟨(some 26), none, .load (some 7) (.t 1)⟩,
    ⟨(some 27), none, .mkf 145 [(.t 26)] []⟩,
    ⟨(some 28), none, .call 126 [(.t 25), (.t 27)]⟩,
    ⟨(some 29), none, .ext (.t 28) 0⟩,
    ⟨(some 30), none, .ext (.t 28) 1⟩,
    ⟨none, none, .store (some 5) (.t 2) (.t 29)⟩,
    ⟨(some 3), none, .mov (.t 30)⟩])
  .ret))), [.l 2 (some 5), .t 3]⟩
def cf91 : CF := ⟨1, 5, 1, false, false, false, false, (.seq (.reg [⟨(some 1), none, .hbox (some 7) (.t 0)⟩,
    ⟨(some 2), none, .alloc 0 [(.p (.int .u8 0)), (.p (.int .i64 0)), (.p (.int .i64 0)), (.p (.int .i64 0)), (.sl 0 [] .full)]⟩,
    ⟨(some 3), none, .mov (.c (.p (.bool false)))⟩])
  (.seq (.reg [⟨(some 5), none, .mkf 158 [] [(.t 1)]⟩,
    ⟨(some 4), none, .mov (.t 5)⟩])
  (.seq (.regd [] [] [⟨(some 6), none, .load (some 7) (.t 1)⟩,
    ⟨(some 7), none, .call 124 [(.t 6), (.c (.p (.int .u8 18)))]⟩,
    ⟨(some 8), none, .mov (.t 7)⟩,
    ⟨(some 9), (some (8, true)), .fa 0 (.t 1)⟩,
    ⟨(some 10), (some (8, true)), .fa 4 (.t 9)⟩,
    ⟨(some 11), (some (8, true)), .load none (.t 10)⟩,
    ⟨(some 12), (some (8, true)), .ia 5 (.t 11) (.c (.p (.int .i64 0)))⟩,
    ⟨(some 13), (some (8, true)), .load (some 5) (.t 12)⟩,
    ⟨(some 14), (some (8, true)), .mov (.t 4)⟩,
    ⟨(some 15), (some (8, true)), .call 159 [(.t 13), (.t 14)]⟩,
    ⟨(some 16), (some (8, true)), .not (.t 15)⟩,
    ⟨(some 17), none, .pick (.t 8) (.t 16) (.c (.p (.bool false)))⟩,
    ⟨(some 18), none, .load (some 7) (.t 1)⟩,
    ⟨(some 19), none, .mkf 133 [(.t 18)] []⟩,
    ⟨(some 20), none, .call 126 [(.t 17), (.t 19)]⟩,
    ⟨(some 21), none, .ext (.t 20) 0⟩,
    ⟨(some 22), none, .ext (.t 20) 1⟩,
    ⟨none, none, .store (some 5) (.t 2) (.t 21)⟩,
    ⟨(some 3), none, .mov (.t 22)⟩] [⟨12, (some 7), (.t 1), [(1, 126), (9, 161)]⟩])
  .ret))), [.l 2 (some 5), .t 3]⟩
def cf158 : CF := ⟨3, 5, 1, false, false, false, false, (.seq (.reg [⟨(some 3), none, .box 0 (some 5) (.t 0)⟩,
    ⟨(some 5), none, .mov (.c (.p (.bool false)))⟩])
  (.seq (.reg [⟨(some 6), none, .fa 0 (.t 3)⟩,
    ⟨(some 7), none, .load none (.t 6)⟩,
    ⟨(some 8), none, .bin .eql (.t 7) (.c (.p (.int .u8 2)))⟩,
    ⟨(some 9), none, .mov (.t 8)⟩,
    ⟨(some 10), (some (9, false)), .fa 0 (.t 3)⟩,
    ⟨(some 11), (some (9, false)), .load none (.t 10)⟩,
    ⟨(some 12), (some (9, false)), .bin .eql (.t 11) (.c (.p (.int .u8 12)))⟩,
    ⟨(some 13), none, .pick (.t 9) (.c (.p (.bool true))) (.t 12)⟩,
    ⟨(some 14), none, .mov (.t 13)⟩,
    ⟨(some 15), (some (14, false)), .fa 3 (.t 3)⟩,
    ⟨(some 16), (some (14, false)), .load none (.t 15)⟩,
    ⟨(some 17), (some (14, false)), .bin .gtr (.t 16) (.c (.p (.int .i64 0)))⟩,
    ⟨(some 18), (some (14, false)), .mov (.t 17)⟩,
    ⟨(some 19), (some (18, true)), .fa 3 (.t 3)⟩,
    ⟨(some 20), (some (18, true)), .load none (.t 19)⟩,
    ⟨(some 21), (some (18, true)), .fa 6 (.t 2)⟩,
    ⟨(some 22), (some (18, true)), .load none (.t 21)⟩,
    ⟨(some 23), (some (18, true)), .bin .leq (.t 20) (.t 22)⟩,
    ⟨(some 24), (some (14, false)), .pick (.t 18) (.t 23) (.c (.p (.bool false)))⟩,
    ⟨(some 25), none, .pick (.t 14) (.c (.p (.bool true))) (.t 24)⟩,
    ⟨(some 5), none, .mov (.t 25)⟩])
  .ret)), [.t 5]⟩
def cf92 : CF := ⟨1, 5, 2, false, false, false, false, (.seq (.reg [⟨(some 1), none, .box 0 (some 7) (.t 0)⟩,
    ⟨(some 2), none, .alloc 1 [(.p (.int .u8 0)), (.p (.int .i64 0)), (.p (.int .i64 0)), (.p (.int .i64 0)), (.sl 0 [] .full)]⟩,
    ⟨(some 3), none, .mov (.c (.p (.bool false)))⟩])
  (.seq (.regd [] [] [⟨(some 4), none, .load (some 7) (.t 1)⟩,
    ⟨(some 5), none, .call 124 [(.t 4), (.c (.p (.int .u8 13)))]⟩,
    ⟨(some 6), none, .mov (.t 5)⟩,
    ⟨(some 7), (some (6, true)), .fa 0 (.t 1)⟩,
    ⟨(some 8), (some (6, true)), .fa 4 (.t 7)⟩,
    ⟨(some 9), (some (6, true)), .load none (.t 8)⟩,
    ⟨(some 10), (some (6, true)), .ia 5 (.t 9) (.c (.p (.int .i64 0)))⟩,
    ⟨(some 11), (some (6, true)), .load (some 5) (.t 10)⟩,
    ⟨(some 12), (some (6, true)), .fa 0 (.t 1)⟩,
    ⟨(some 13), (some (6, true)), .fa 4 (.t 12)⟩,
    ⟨(some 14), (some (6, true)), .load none (.t 13)⟩,
    ⟨(some 15), (some (6, true)), .ia 5 (.t 14) (.c (.p (.int .i64 1)))⟩,
    ⟨(some 16), (some (6, true)), .load (some 5) (.t 15)⟩,
    ⟨(some 17), (some (6, true)), .call 139 [(.t 11), (.t 16)]⟩,
    ⟨(some 18), none, .pick (.t 6) (.t 17) (.c (.p (.bool false)))⟩,
    ⟨(some 19), none, .load (some 7) (.t 1)⟩,
    ⟨(some 20), none, .mkf 133 [(.t 19)] []⟩,
    ⟨(some 21), none, .call 126 [(.t 18), (.t 20)]⟩,
    ⟨(some 22), none, .ext (.t 21) 0⟩,
    ⟨(some 23), none, .ext (.t 21) 1⟩,
    ⟨none, none, .store (some 5) (.t 2) (.t 22)⟩,
    ⟨(some 3), none, .mov (.t 23)⟩] [⟨15, (some 7), (.t 1), [(1, 126), (13, 141)]⟩])
  .ret)), [.l 2 (some 5), .t 3]⟩
def cf93 : CF := ⟨1, 6, 2, false, false, false, false, (.seq (.reg [⟨(some 1), none, .box 0 (some 7) (.t 0)⟩,
    ⟨(some 2), none, .alloc 1 [(.p (.int .u8 0)), (.p (.int .i64 0)), (.p (.int .i64 0)), (.p (.int .i64 0)), (.sl 0 [] .full)]⟩,
    ⟨(some 3), none, .mov (.c (.p (.bool false)))⟩])
  (.seq (.block 0 (.seq (.reg [⟨(some 5), none, .load (some 7) (.t 1)⟩,
    ⟨(some 6), none, .call 124 [(.t 5), (.c (.p (.int .u8 13)))]⟩,
    ⟨(some 7), none, .not (.t 6)⟩,
    ⟨(some 4), none, .mov (.t 7)⟩])
  (.cond (.t 4) (.seq (.reg [⟨(some 8), none, .call 98 []⟩,
    ⟨(some 9), none, .ext (.t 8) 0⟩,
    ⟨(some 10), none, .ext (.t 8) 1⟩,
    ⟨none, none, .store (some 5) (.t 2) (.t 9)⟩,
    ⟨(some 3), none, .mov (.t 10)⟩])
  .ret)
  (.seq (.reg [⟨(some 12), none, .fa 0 (.t 1)⟩,
    ⟨(some 13), none, .fa 4 (.t 12)⟩,
    ⟨(some 14), none, .load none (.t 13)⟩,
    ⟨(some 15), none, .ia 5 (.t 14) (.c (.p (.int .i64 0)))⟩,
    ⟨(some 16), none, .fa 0 (.t 15)⟩,
    ⟨(some 17), none, .load none (.t 16)⟩,
    ⟨(some 18), none, .bin .eql (.t 17) (.c (.p (.int .u8 14)))⟩,
    ⟨(some 11), none, .mov (.t 18)⟩])
  (.cond (.t 11) (.seq (.reg [⟨(some 19), none, .fa 0 (.t 1)⟩,
    ⟨(some 20), none, .fa 4 (.t 19)⟩,
    ⟨(some 21), none, .load none (.t 20)⟩,
    ⟨(some 22), none, .ia 5 (.t 21) (.c (.p (.int .i64 1)))⟩,
    ⟨(some 23), none, .load (some 5) (.t 22)⟩,
    ⟨none, none, .store (some 5) (.t 2) (.t 23)⟩,
    ⟨(some 3), none, .mov (.c (.p (.bool true)))⟩])
  .ret)
  .skip)))))
  (.seq (.regd [] [] [⟨(some 24), none, .fa 0 (.t 1)⟩,
    ⟨(some 25), none, .fa 4 (.t 24)⟩,
    ⟨(some 26), none, .load none (.t 25)⟩,
    ⟨(some 27), none, .ia 5 (.t 26) (.c (.p (.int .i64 1)))⟩,
    ⟨(some 28), none, .fa 0 (.t 27)⟩,
    ⟨(some 29), none, .load none (.t 28)⟩,
    ⟨(some 30), none, .bin .eql (.t 29) (.c (.p (.int .u8 14)))⟩,
    ⟨(some 31), none, .load (some 7) (.t 1)⟩,
    ⟨(some 32), none, .mkf 133 [(.t 31)] []⟩,
    ⟨(some 33), none, .call 126 [(.t 30), (.t 32)]⟩,
    ⟨(some 34), none, .ext (.t 33) 0⟩,
    ⟨(some 35), none, .ext (.t 33) 1⟩,
    ⟨none, none, .store (some 5) (.t 2) (.t 34)⟩,
    ⟨(some 3), none, .mov (.t 35)⟩] [])
  .ret))), [.l 2 (some 5), .t 3]⟩
def cf96 : CF := ⟨5, 6, 2, false, false, false, false, (.seq (.reg [⟨(some 5), none, .box 0 (some 7) (.t 0)⟩,
    ⟨(some 6), none, .mov (.c (.p (.bool false)))⟩])
  (.seq (.seq (.reg [⟨(some 12), none, .load none (.t 1)⟩,
    ⟨(some 13), none, .len false (.t 12)⟩,
    ⟨(some 14), none, .mov (.c (.p (.int .i64 0)))⟩])
  (.block 0 (.loop (.seq (.reg [⟨(some 15), none, .bin .lss (.t 14) (.t 13)⟩])
  (.seq (.cond (.t 15) .skip
  (.exit 0))
  (.seq (.block 1 (.seq (.reg [⟨(some 16), none, .mov (.t 14)⟩,
    ⟨(some 17), none, .ia 2 (.t 12) (.t 14)⟩,
    ⟨(some 18), none, .load (some 2) (.t 17)⟩,
    ⟨(some 8), none, .alloc 1 [(.p (.str ⟨#[]⟩)), (.p .nilFunc)]⟩,
    ⟨(some 7), none, .mov (.t 16)⟩,
    ⟨none, none, .store (some 2) (.t 8) (.t 18)⟩])
  (.seq (.reg [⟨(some 19), none, .mov (.t 7)⟩,
    ⟨(some 20), none, .bin .add (.t 19) (.c (.p (.int .i64 1)))⟩,
    ⟨(some 21), none, .cvt .u8 (.t 20)⟩,
    ⟨(some 9), none, .mov (.t 21)⟩])
  (.seq (.seq (.reg [⟨(some 22), none, .load none (.t 2)⟩,
    ⟨(some 23), none, .mov (.t 9)⟩,
    ⟨(some 24), none, .callv (.t 22) [(.t 23)]⟩,
    ⟨(some 25), none, .not (.t 24)⟩])
  (.cond (.t 25) (.exit 1)
  .skip))
  (.seq (.reg [⟨(some 27), none, .fa 1 (.t 8)⟩,
    ⟨(some 28), none, .load none (.t 27)⟩,
    ⟨(some 29), none, .load (some 7) (.t 5)⟩,
    ⟨(some 30), none, .callv (.t 28) [(.t 29)]⟩,
    ⟨(some 26), none, .mov (.t 30)⟩,
    ⟨(some 31), none, .ext (.t 26) 0⟩,
    ⟨(some 32), none, .ext (.t 26) 1⟩,
    ⟨(some 10), none, .alloc 2 [(.p (.int .u8 0)), (.p (.int .i64 0)), (.p (.int .i64 0)), (.p (.int .i64 0)), (.sl 0 [] .full)]⟩,
    ⟨none, none, .store (some 5) (.t 10) (.t 31)⟩,
    ⟨(some 11), none, .mov (.t 32)⟩])
  (.seq (.reg [⟨(some 33), none, .mov (.t 11)⟩,
    ⟨(some 34), none, .mov (.t 33)⟩,
    ⟨(some 35), (some (34, true)), .load none (.t 3)⟩,
    ⟨(some 36), (some (34, true)), .mov (.t 9)⟩,
    ⟨(some 37), (some (34, true)), .load none (.t 4)⟩,
    ⟨(some 38), (some (34, true)), .build [(.p (.int .u8 0)), (.p (.int .i64 0))] [(0, none, (.t 36)), (1, none, (.t 37))]⟩,
    ⟨(some 39), (some (34, true)), .load (some 5) (.t 10)⟩,
    ⟨(some 40), (some (34, true)), .callv (.t 35) [(.t 38), (.t 39)]⟩,
    ⟨(some 41), (some (34, true)), .not (.t 40)⟩,
    ⟨(some 42), none, .pick (.t 34) (.t 41) (.c (.p (.bool false)))⟩])
  (.cond (.t 42) (.seq (.reg [⟨(some 6), none, .mov (.c (.p (.bool false)))⟩])
  .ret)
  .skip)))))))
  (.reg [⟨(some 43), none, .bin .add (.t 14) (.c (.p (.int .i64 1)))⟩,
    ⟨(some 14), none, .mov (.t 43)⟩])))))))
  (.seq (.reg [⟨(some 44), none, .load none (.t 4)⟩,
    ⟨(some 45), none, .bin .add (.t 44) (.c (.p (.int .i64 1)))⟩,
    ⟨none, none, .store none (.t 4) (.t 45)⟩])
  (.seq (.reg [⟨(some 6), none, .mov (.c (.p (.bool true)))⟩])
  .ret)))), [.t 6]⟩
def cf95 : CF := ⟨2, 5, 1, false, false, false, false, (.seq (.reg [⟨(some 2), none, .box 0 (some 7) (.t 0)⟩,
    ⟨(some 4), none, .mov (.c (.p (.bool false)))⟩])
  (.seq (.seq (.reg [⟨(some 6), none, .mov (.t 1)⟩,
    ⟨(some 7), none, .load (some 7) (.t 2)⟩,
    ⟨(some 8), none, .callv (.t 6) [(.t 7)]⟩,
    ⟨(some 9), none, .not (.t 8)⟩])
  (.cond (.t 9) (.seq (.reg [⟨(some 4), none, .mov (.c (.p (.bool false)))⟩])
  .ret)
  .skip))
  (.seq (.seq (.reg [⟨(some 10), none, .fa 0 (.t 2)⟩,
    ⟨(some 11), none, .fa 4 (.t 10)⟩,
    ⟨(some 12), none, .load none (.t 11)⟩,
    ⟨(some 13), none, .len false (.t 12)⟩,
    ⟨(some 14), none, .mov (.c (.p (.int .i64 0)))⟩])
  (.block 0 (.loop (.seq (.reg [⟨(some 15), none, .bin .lss (.t 14) (.t 13)⟩])
  (.seq (.cond (.t 15) .skip
  (.exit 0))
  (.seq (.block 1 (.seq (.reg [⟨(some 16), none, .mov (.t 14)⟩,
    ⟨(some 5), none, .mov (.t 16)⟩])
  (.seq (.reg [⟨(some 17), none, .load (some 7) (.t 2)⟩,
    ⟨(some 18), none, .mov (.t 5)⟩,
    ⟨(some 19), none, .call 132 [(.t 17), (.t 18)]⟩,
    ⟨(some 20), none, .mov (.t 1)⟩,
    ⟨(some 21), none, .call 95 [(.t 19), (.t 20)]⟩,
    ⟨(some 22), none, .not (.t 21)⟩])
  (.cond (.t 22) (.seq (.reg [⟨(some 4), none, .mov (.c (.p (.bool false)))⟩])
  .ret)
  .skip))))
  (.reg [⟨(some 23), none, .bin .add (.t 14) (.c (.p (.int .i64 1)))⟩,
    ⟨(some 14), none, .mov (.t 23)⟩])))))))
  (.seq (.reg [⟨(some 4), none, .mov (.c (.p (.bool true)))⟩])
  .ret)))), [.t 4]⟩
def cf42 : CF := ⟨1, 2, 0, true, false, false, false, (.seq (.reg [⟨(some 2), none, .mov (.c (.p (.bool false)))⟩])
  (.seq (.reg [⟨(some 2), none, .mov (.c (.p (.bool true)))⟩])
  .ret)), [.t 2]⟩
def cf13 : CF := ⟨2, 5, 3, false, false, false, false, (.seq (.reg [⟨(some 2), none, .box 0 (some 4) (.t 0)⟩,
    ⟨(some 3), none, .box 1 (some 5) (.t 1)⟩,
    ⟨(some 4), none, .alloc 2 [(.p (.int .u8 0)), (.p (.int .i64 0)), (.p (.int .i64 0)), (.p (.int .i64 0)), (.sl 0 [] .full)]⟩,
    ⟨(some 5), none, .mov (.c (.sl 0 [] .full))⟩,
    ⟨(some 6), none, .mov (.c (.p (.int .i64 0)))⟩])
  (.seq (.seq (.reg [⟨(some 10), none, .load (some 4) (.t 2)⟩,
    ⟨(some 11), none, .load (some 5) (.t 3)⟩,
    ⟨(some 12), none, .call 40 [(.t 10), (.t 11)]⟩,
    ⟨(some 9), none, .mov (.t 12)⟩,
    ⟨(some 13), none, .ext (.t 9) 0⟩,
    ⟨(some 14), none, .ext (.t 9) 1⟩,
    ⟨(some 7), none, .alloc 3 [(.p (.int .u8 0)), (.p (.int .i64 0)), (.p (.int .i64 0)), (.p (.int .i64 0)), (.sl 0 [] .full), (.sl 0 [] .full), (.p (.int .i64 0))]⟩,
    ⟨none, none, .store (some 7) (.t 7) (.t 13)⟩,
    ⟨(some 8), none, .mov (.t 14)⟩])
  (.seq (.reg [⟨(some 15), none, .mov (.t 8)⟩,
    ⟨(some 16), none, .bin .neq (.t 15) (.c (.p (.int .i64 0)))⟩])
  (.cond (.t 16) (.seq (.reg [⟨(some 17), none, .build [(.p (.int .u8 0)), (.p (.int .i64 0)), (.p (.int .i64 0)), (.p (.int .i64 0)), (.sl 0 [] .full)] []⟩,
    ⟨(some 18), none, .mov (.t 8)⟩,
    ⟨none, none, .store (some 5) (.t 4) (.t 17)⟩,
    ⟨(some 5), none, .mov (.c (.sl 0 [] .full))⟩,
    ⟨(some 6), none, .mov (.t 18)⟩])
  .ret)
  .skip)))
  (.seq (.reg [⟨(some 19), none, .load (some 4) (.t 2)⟩,
    ⟨(some 20), none, .load (some 5) (.t 3)⟩,
    ⟨(some 21), none, .call 41 [(.t 19), (.t 20), (.c (.p (.func 42 [] [])))]⟩,
    ⟨(some 22), none, .ext (.t 21) 0⟩,
    ⟨(some 23), none, .ext (.t 21) 1⟩,
    ⟨(some 24), none, .ext (.t 21) 2⟩,
    ⟨none, none, .store (some 5) (.t 4) (.t 22)⟩,
    ⟨(some 5), none, .mov (.t 23)⟩,
    ⟨(some 6), none, .mov (.t 24)⟩])
  .ret))), [.l 4 (some 5), .t 5, .t 6]⟩
def cf41 : CF := ⟨3, 6, 2, false, false, false, false, (.seq (.reg [⟨(some 3), none, .box 0 (some 4) (.t 0)⟩,
    ⟨(some 4), none, .hbox (some 5) (.t 1)⟩,
    ⟨(some 6), none, .halloc [(.p (.int .u8 0)), (.p (.int .i64 0)), (.p (.int .i64 0)), (.p (.int .i64 0)), (.sl 0 [] .full)]⟩,
    ⟨(some 7), none, .halloc [(.sl 0 [] .full)]⟩,
    ⟨(some 8), none, .halloc [(.p (.int .i64 0))]⟩])
  (.seq (.reg [⟨(some 9), none, .halloc [(.sl 0 [] .full)]⟩])
  (.seq (.reg [⟨(some 13), none, .load (some 5) (.t 4)⟩,
    ⟨(some 14), none, .call 60 [(.t 13)]⟩,
    ⟨none, none, .store (some 5) (.t 4) (.t 14)⟩])
  (.seq (.seq (.reg [⟨(some 10), none, .halloc [(.p (.bool false))]⟩,
    ⟨none, none, .store none (.t 10) (.c (.p (.bool true)))⟩])
  (.block 0 (.loop (.seq (.seq (.reg [⟨(some 15), none, .load none (.t 10)⟩])
  (.cond (.t 15) .skip
  (.exit 0)))
  (.seq (.block 1 (.seq (.reg [⟨none, none, .store none (.t 10) (.c (.p (.bool false)))⟩])
  (.seq (.reg [⟨(some 16), none, .load (some 4) (.t 3)⟩,
    ⟨(some 17), none, .load (some 5) (.t 4)⟩,
    ⟨(some 18), none, .call 65 [(.t 16), (.t 17)]⟩,
    ⟨(some 19), none, .mov (.t 2)⟩,
    ⟨(some 20), none, .call 54 [(.t 18), (.t 19)]⟩])
  (.block 2 (.rangeFunc (.t 20) [21, 22] (.seq (.reg [⟨(some 11), none, .alloc 1 [(.p (.int .u8 0)), (.p (.int .i64 0))]⟩,
    ⟨none, none, .store (some 2) (.t 11) (.t 21)⟩])
  (.reg [⟨(some 12), none, .alloc 2 [(.p (.int .u8 0)), (.p (.int .i64 0)), (.p (.int .i64 0)), (.p (.int .i64 0)), (.sl 0 [] .full)]⟩,
    ⟨none, none, .store (some 5) (.t 12) (.t 22)⟩]))
  (.block 3 (.seq (.seq (.reg [⟨(some 23), none, .load none (.t 9)⟩,
    ⟨(some 24), none, .len false (.t 23)⟩,
    ⟨(some 25), none, .bin .eql (.t 24) (.c (.p (.int .i64 2000)))⟩])
  (.cond (.t 25) (.seq (.reg [⟨(some 26), none, .build [(.p (.int .u8 0)), (.p (.int .i64 0)), (.p (.int .i64 0)), (.p (.int .i64 0)), (.sl 0 [] .full)] []⟩,
    ⟨none, none, .store (some 5) (.t 6) (.t 26)⟩,
    ⟨none, none, .store none (.t 7) (.c (.sl 0 [] .full))⟩,
    ⟨none, none, .store none (.t 8) (.c (.p (.int .i64 5)))⟩])
  .ret)
  .skip))
  (.seq (.regd [] [] [⟨(some 27), none, .load (some 5) (.t 4)⟩,
    ⟨(some 28), none, .fa 1 (.t 11)⟩,
    ⟨(some 29), none, .load none (.t 28)⟩,
    ⟨(some 30), none, .load (some 5) (.t 12)⟩,
    ⟨(some 31), none, .call 66 [(.t 27), (.t 29), (.t 30)]⟩,
    ⟨(some 32), none, .load none (.t 9)⟩,
    ⟨(some 33), none, .load (some 2) (.t 11)⟩,
    ⟨(some 34), none, .mks 1 [(.int .u8 0), (.int .i64 0)] [(0, (some 2), (.t 33))]⟩,
    ⟨(some 35), none, .app 2 16 (.t 32) (.t 34)⟩,
    ⟨none, none, .store (some 5) (.t 4) (.t 31)⟩,
    ⟨none, none, .store none (.t 9) (.t 35)⟩,
    ⟨none, none, .store none (.t 10) (.c (.p (.bool true)))⟩] [⟨5, none, (.t 9), [(4, 68)]⟩, ⟨6, (some 2), (.t 11), [(4, 68)]⟩])
  (.exit 2)))))))))
  (.seq (.reg [⟨(some 36), none, .load none (.t 10)⟩])
  (.reg [⟨(some 10), none, .halloc [(.p (.bool false))]⟩,
    ⟨none, none, .store none (.t 10) (.t 36)⟩])))))))
  (.seq (.regd [] [] [⟨(some 37), none, .load (some 5) (.t 4)⟩,
    ⟨(some 38), none, .load none (.t 9)⟩,
    ⟨none, none, .store (some 5) (.t 6) (.t 37)⟩,
    ⟨none, none, .store none (.t 7) (.t 38)⟩,
    ⟨none, none, .store none (.t 8) (.c (.p (.int .i64 0)))⟩] [⟨1, none, (.t 9), [(2, 0)]⟩])
  .ret))))), [.l 6 (some 5), .l 7 none, .l 8 none]⟩
def cf60 : CF := ⟨1, 3, 2, false, false, false, false, (.seq (.reg [⟨(some 1), none, .box 0 (some 5) (.t 0)⟩,
    ⟨(some 2), none, .alloc 1 [(.p (.int .u8 0)), (.p (.int .i64 0)), (.p (.int .i64 0)), (.p (.int .i64 0)), (.sl 0 [] .full)]⟩])
  (.seq (.reg [⟨(some 3), none, .load (some 5) (.t 1)⟩,
    ⟨(some 4), none, .call 108 [(.t 3), (.c (.p (.int .i64 0))), (.c (.p (.func 109 [] [])))]⟩,
    ⟨none, none, .store (some 5) (.t 2) (.t 4)⟩])
  .ret)), [.l 2 (some 5)]⟩
def cf109 : CF := ⟨2, 3, 2, false, false, false, false, (.seq (.reg [⟨(some 2), none, .box 0 (some 5) (.t 0)⟩,
    ⟨(some 4), none, .alloc 1 [(.p (.int .u8 0)), (.p (.int .i64 0)), (.p (.int .i64 0)), (.p (.int .i64 0)), (.sl 0 [] .full)]⟩,
    ⟨(some 5), none, .mov (.c (.p (.bool false)))⟩])
  (.seq (.reg [⟨(some 6), none, .load (some 5) (.t 2)⟩,
    ⟨none, none, .store (some 5) (.t 4) (.t 6)⟩,
    ⟨(some 5), none, .mov (.c (.p (.bool true)))⟩])
  .ret)), [.l 4 (some 5), .t 5]⟩
def cf66 : CF := ⟨3, 4, 2, false, false, false, false, (.seq (.reg [⟨(some 3), none, .box 0 (some 5) (.t 0)⟩,
    ⟨(some 4), none, .hbox none (.t 1)⟩,
    ⟨(some 5), none, .hbox (some 5) (.t 2)⟩,
    ⟨(some 6), none, .alloc 1 [(.p (.int .u8 0)), (.p (.int .i64 0)), (.p (.int .i64 0)), (.p (.int .i64 0)), (.sl 0 [] .full)]⟩])
  (.seq (.reg [⟨(some 7), none, .halloc [(.p (.int .i64 0))]⟩,
    ⟨none, none, .store none (.t 7) (.c (.p (.int .i64 0)))⟩])
  (.seq (.reg [⟨(some 8), none, .load (some 5) (.t 3)⟩,
    ⟨(some 9), none, .mkf 115 [] [(.t 7), (.t 4), (.t 5)]⟩,
    ⟨(some 10), none, .call 108 [(.t 8), (.c (.p (.int .i64 0))), (.t 9)]⟩,
    ⟨(some 11), none, .call 60 [(.t 10)]⟩,
    ⟨none, none, .store (some 5) (.t 6) (.t 11)⟩])
  .ret))), [.l 6 (some 5)]⟩
def cf115 : CF := ⟨5, 5, 2, false, false, false, false, (.seq (.reg [⟨(some 5), none, .box 0 (some 5) (.t 0)⟩,
    ⟨(some 7), none, .alloc 1 [(.p (.int .u8 0)), (.p (.int .i64 0)), (.p (.int .i64 0)), (.p (.int .i64 0)), (.sl 0 [] .full)]⟩,
    ⟨(some 8), none, .mov (.c (.p (.bool false)))⟩])
  (.seq (.reg [⟨(some 9), none, .load none (.t 2)⟩,
    ⟨(some 10), none, .bin .add (.t 9) (.c (.p (.int .i64 1)))⟩,
    ⟨none, none, .store none (.t 2) (.t 10)⟩])
  (.seq (.seq (.reg [⟨(some 11), none, .load none (.t 2)⟩,
    ⟨(some 12), none, .bin .sub (.t 11) (.c (.p (.int .i64 1)))⟩,
    ⟨(some 13), none, .load none (.t 3)⟩,
    ⟨(some 14), none, .bin .eql (.t 12) (.t 13)⟩])
  (.cond (.t 14) (.seq (.reg [⟨(some 15), none, .load (some 5) (.t 4)⟩,
    ⟨none, none, .store (some 5) (.t 7) (.t 15)⟩,
    ⟨(some 8), none, .mov (.c (.p (.bool false)))⟩])
  .ret)
  .skip))
  (.seq (.reg [⟨(some 16), none, .load (some 5) (.t 5)⟩,
    ⟨none, none, .store (some 5) (.t 7) (.t 16)⟩,
    ⟨(some 8), none, .mov (.c (.p (.bool true)))⟩])
  .ret)))), [.l 7 (some 5), .t 8]⟩
def cf23 : CF := ⟨1, 5, 0, true, false, false, false, (.seq (.reg [⟨(some 2), none, .mov (.c (.p (.str ⟨#[]⟩)))⟩,
    ⟨(some 3), none, .mov (.c (.p (.int .i64 0)))⟩])
  (.seq (.reg [⟨(some 5), none, .call 50 []⟩,
    ⟨(some 4), none, .mov (.t 5)⟩])
  (.seq (.seq (.reg [⟨(some 6), none, .mov (.t 0)⟩,
    ⟨(some 7), none, .bin .lss (.t 6) (.c (.p (.int .u8 1)))⟩,
    ⟨(some 8), none, .mov (.t 7)⟩,
    ⟨(some 9), (some (8, false)), .mov (.t 0)⟩,
    ⟨(some 10), (some (8, false)), .cvt .i64 (.t 9)⟩,
    ⟨(some 11), (some (8, false)), .mov (.t 4)⟩,
    ⟨(some 12), (some (8, false)), .len false (.t 11)⟩,
    ⟨(some 13), (some (8, false)), .bin .gtr (.t 10) (.t 12)⟩,
    ⟨(some 14), none, .pick (.t 8) (.c (.p (.bool true))) (.t 13)⟩])
  (.cond (.t 14) (.seq (.reg [⟨(some 2), none, .mov (.c (.p (.str ⟨#[]⟩)))⟩,
    ⟨(some 3), none, .mov (.c (.p (.int .i64 3)))⟩])
  .ret)
  .skip))
  (.seq (.reg [⟨(some 15), none, .mov (.t 4)⟩,
    ⟨(some 16), none, .mov (.t 0)⟩,
    ⟨(some 17), none, .bin .sub (.t 16) (.c (.p (.int .u8 1)))⟩,
    ⟨(some 18), none, .ia 2 (.t 15) (.t 17)⟩,
    ⟨(some 19), none, .fa 0 (.t 18)⟩,
    ⟨(some 20), none, .load none (.t 19)⟩,
    ⟨(some 2), none, .mov (.t 20)⟩,
    ⟨(some 3), none, .mov (.c (.p (.int .i64 0)))⟩])
  .ret)))), [.t 2, .t 3]⟩
def cf24 : CF := ⟨1, 5, 0, true, false, false, false, (.seq (.reg [⟨(some 2), none, .mov (.c (.p (.str ⟨#[]⟩)))⟩,
    ⟨(some 3), none, .mov (.c (.p (.int .i64 0)))⟩])
  (.seq (.reg [⟨(some 5), none, .call 51 []⟩,
    ⟨(some 4), none, .mov (.t 5)⟩])
  (.seq (.seq (.reg [⟨(some 6), none, .mov (.t 0)⟩,
    ⟨(some 7), none, .bin .lss (.t 6) (.c (.p (.int .u8 1)))⟩,
    ⟨(some 8), none, .mov (.t 7)⟩,
    ⟨(some 9), (some (8, false)), .mov (.t 0)⟩,
    ⟨(some 10), (some (8, false)), .cvt .i64 (.t 9)⟩,
    ⟨(some 11), (some (8, false)), .mov (.t 4)⟩,
    ⟨(some 12), (some (8, false)), .len false (.t 11)⟩,
    ⟨(some 13), (some (8, false)), .bin .gtr (.t 10) (.t 12)⟩,
    ⟨(some 14), none, .pick (.t 8) (.c (.p (.bool true))) (.t 13)⟩])
  (.cond (.t 14) (.seq (.reg [⟨(some 2), none, .mov (.c (.p (.str ⟨#[]⟩)))⟩,
    ⟨(some 3), none, .mov (.c (.p (.int .i64 3)))⟩])
  .ret)
  .skip))
  (.seq (.reg [⟨(some 15), none, .mov (.t 4)⟩,
    ⟨(some 16), none, .mov (.t 0)⟩,
    ⟨(some 17), none, .bin .sub (.t 16) (.c (.p (.int .u8 1)))⟩,
    ⟨(some 18), none, .ia 1 (.t 15) (.t 17)⟩,
    ⟨(some 19), none, .load none (.t 18)⟩,
    ⟨(some 2), none, .mov (.t 19)⟩,
    ⟨(some 3), none, .mov (.c (.p (.int .i64 0)))⟩])
  .ret)))), [.t 2, .t 3]⟩
def cf51 : CF := ⟨0, 2, 0, true, false, false, false, (.seq (.reg [⟨(some 0), none, .mov (.c (.sl 0 [] .full))⟩])
  (.seq (.reg [⟨(some 1), none, .mks 22 [(.str ⟨#[]⟩), (.str ⟨#[]⟩), (.str ⟨#[]⟩), (.str ⟨#[]⟩), (.str ⟨#[]⟩), (.str ⟨#[]⟩), (.str ⟨#[]⟩), (.str ⟨#[]⟩), (.str ⟨#[]⟩), (.str ⟨#[]⟩), (.str ⟨#[]⟩), (.str ⟨#[]⟩), (.str ⟨#[]⟩), (.str ⟨#[]⟩), (.str ⟨#[]⟩), (.str ⟨#[]⟩), (.str ⟨#[]⟩), (.str ⟨#[]⟩), (.str ⟨#[]⟩), (.str ⟨#[]⟩), (.str ⟨#[]⟩), (.str ⟨#[]⟩)] [(0, none, (.c (.p (.str ⟨#[111, 112]⟩)))), (1, none, (.c (.p (.str ⟨#[97, 115]⟩)))), (2, none, (.c (.p (.str ⟨#[115, 105, 122, 101]⟩)))), (3, none, (.c (.p (.str ⟨#[110, 101, 117, 116, 114, 97, 108]⟩)))), (4, none, (.c (.p (.str ⟨#[115, 119, 97, 112]⟩)))), (5, none, (.c (.p (.str ⟨#[105, 102]⟩)))), (6, none, (.c (.p (.str ⟨#[115, 97, 109, 101]⟩)))), (7, none, (.c (.p (.str ⟨#[110, 111, 116]⟩)))), (8, none, (.c (.p (.str ⟨#[98, 111, 111, 108]⟩)))), (9, none, (.c (.p (.str ⟨#[115, 107, 105, 112]⟩)))), (10, none, (.c (.p (.str ⟨#[110, 101, 115, 116]⟩)))), (11, none, (.c (.p (.str ⟨#[100, 101, 97, 100]⟩)))), (12, none, (.c (.p (.str ⟨#[119, 104, 105, 108, 101]⟩)))), (13, none, (.c (.p (.str ⟨#[117, 110, 117, 115, 101, 100]⟩)))), (14, none, (.c (.p (.str ⟨#[114, 101, 97, 100]⟩)))), (15, none, (.c (.p (.str ⟨#[119, 114, 105, 116, 101]⟩)))), (16, none, (.c (.p (.str ⟨#[107, 110, 111, 119, 110]⟩)))), (17, none, (.c (.p (.str ⟨#[108, 97, 98, 101, 108]⟩)))), (18, none, (.c (.p (.str ⟨#[106, 117, 109, 112]⟩)))), (19, none, (.c (.p (.str ⟨#[110, 111, 116, 105, 99, 101]⟩)))), (20, none, (.c (.p (.str ⟨#[99, 104, 111, 111, 115, 101]⟩)))), (21, none, (.c (.p (.str ⟨#[110, 101, 118, 101, 114]⟩))))]⟩,
    ⟨(some 0), none, .mov (.t 1)⟩])
  .ret)), [.t 0]⟩
def cf25 : CF := ⟨1, 4, 0, true, false, false, false, (.seq (.reg [⟨(some 1), none, .hbox none (.t 0)⟩,
    ⟨(some 2), none, .mov (.c (.p (.int .u8 0)))⟩,
    ⟨(some 3), none, .mov (.c (.p (.int .i64 0)))⟩])
  (.seq (.reg [⟨(some 5), none, .call 50 []⟩,
    ⟨(some 6), none, .mkf 53 [] [(.t 1)]⟩,
    ⟨(some 7), none, .call 52 [(.t 5), (.t 6)]⟩,
    ⟨(some 4), none, .mov (.t 7)⟩])
  (.seq (.seq (.reg [⟨(some 8), none, .mov (.t 4)⟩,
    ⟨(some 9), none, .bin .lss (.t 8) (.c (.p (.int .i64 0)))⟩])
  (.cond (.t 9) (.seq (.reg [⟨(some 2), none, .mov (.c (.p (.int .u8 0)))⟩,
    ⟨(some 3), none, .mov (.c (.p (.int .i64 7)))⟩])
  .ret)
  .skip))
  (.seq (.reg [⟨(some 10), none, .mov (.t 4)⟩,
    ⟨(some 11), none, .bin .add (.t 10) (.c (.p (.int .i64 1)))⟩,
    ⟨(some 12), none, .cvt .u8 (.t 11)⟩,
    ⟨(some 2), none, .mov (.t 12)⟩,
    ⟨(some 3), none, .mov (.c (.p (.int .i64 0)))⟩])
  .ret)))), [.t 2, .t 3]⟩
def cf53 : CF := ⟨2, 4, 1, false, false, false, false, (.seq (.reg [⟨(some 2), none, .box 0 (some 2) (.t 0)⟩,
    ⟨(some 3), none, .mov (.c (.p (.bool false)))⟩])
  (.seq (.reg [⟨(some 4), none, .fa 0 (.t 2)⟩,
    ⟨(some 5), none, .load none (.t 4)⟩,
    ⟨(some 6), none, .load none (.t 1)⟩,
    ⟨(some 7), none, .bin .eql (.t 5) (.t 6)⟩,
    ⟨(some 3), none, .mov (.t 7)⟩])
  .ret)), [.t 3]⟩
def cf52 : CF := ⟨2, 5, 0, false, false, false, false, (.seq (.reg [⟨(some 4), none, .mov (.c (.p (.int .i64 0)))⟩])
  (.seq (.seq (.reg [⟨(some 6), none, .mov (.t 0)⟩,
    ⟨(some 7), none, .len false (.t 6)⟩,
    ⟨(some 8), none, .mov (.c (.p (.int .i64 0)))⟩])
  (.block 0 (.loop (.seq (.reg [⟨(some 9), none, .bin .lss (.t 8) (.t 7)⟩])
  (.seq (.cond (.t 9) .skip
  (.exit 0))
  (.seq (.block 1 (.seq (.reg [⟨(some 10), none, .mov (.t 8)⟩,
    ⟨(some 5), none, .mov (.t 10)⟩])
  (.seq (.reg [⟨(some 11), none, .mov (.t 1)⟩,
    ⟨(some 12), none, .mov (.t 0)⟩,
    ⟨(some 13), none, .mov (.t 5)⟩,
    ⟨(some 14), none, .ia 2 (.t 12) (.t 13)⟩,
    ⟨(some 15), none, .load (some 2) (.t 14)⟩,
    ⟨(some 16), none, .callv (.t 11) [(.t 15)]⟩])
  (.cond (.t 16) (.seq (.reg [⟨(some 17), none, .mov (.t 5)⟩,
    ⟨(some 4), none, .mov (.t 17)⟩])
  .ret)
  .skip))))
  (.reg [⟨(some 18), none, .bin .add (.t 8) (.c (.p (.int .i64 1)))⟩,
    ⟨(some 8), none, .mov (.t 18)⟩])))))))
  (.seq (.reg [⟨(some 4), none, .mov (.c (.p (.int .i64 (-1))))⟩])
  .ret))), [.t 4]⟩
def cf26 : CF := ⟨1, 5, 0, true, false, false, false, (.seq (.reg [⟨(some 2), none, .mov (.c (.p (.int .u8 0)))⟩,
    ⟨(some 3), none, .mov (.c (.p (.int .i64 0)))⟩])
  (.seq (.reg [⟨(some 6), none, .call 51 []⟩,
    ⟨(some 4), none, .mov (.t 6)⟩])
  (.seq (.seq (.reg [⟨(some 5), none, .mov (.c (.p (.int .i64 0)))⟩])
  (.block 0 (.loop (.seq (.seq (.reg [⟨(some 7), none, .mov (.t 5)⟩,
    ⟨(some 8), none, .mov (.t 4)⟩,
    ⟨(some 9), none, .len false (.t 8)⟩,
    ⟨(some 10), none, .bin .lss (.t 7) (.t 9)⟩])
  (.cond (.t 10) .skip
  (.exit 0)))
  (.seq (.block 1 (.seq (.reg [⟨(some 13), none, .mov (.t 4)⟩,
    ⟨(some 14), none, .mov (.t 5)⟩,
    ⟨(some 15), none, .ia 1 (.t 13) (.t 14)⟩,
    ⟨(some 16), none, .load none (.t 15)⟩,
    ⟨(some 17), none, .mov (.t 0)⟩,
    ⟨(some 18), none, .bin .eql (.t 16) (.t 17)⟩])
  (.cond (.t 18) (.seq (.reg [⟨(some 19), none, .mov (.t 5)⟩,
    ⟨(some 20), none, .bin .add (.t 19) (.c (.p (.int .i64 1)))⟩,
    ⟨(some 21), none, .cvt .u8 (.t 20)⟩,
    ⟨(some 2), none, .mov (.t 21)⟩,
    ⟨(some 3), none, .mov (.c (.p (.int .i64 0)))⟩])
  .ret)
  .skip)))
  (.reg [⟨(some 11), none, .mov (.t 5)⟩,
    ⟨(some 12), none, .bin .add (.t 11) (.c (.p (.int .i64 1)))⟩,
    ⟨(some 5), none, .mov (.t 12)⟩]))))))
  (.seq (.reg [⟨(some 2), none, .mov (.c (.p (.int .u8 0)))⟩,
    ⟨(some 3), none, .mov (.c (.p (.int .i64 7)))⟩])
  .ret)))), [.t 2, .t 3]⟩
def cpT : Tr (Option CF) := (.node none (.node none (.node none (.node none (.node (some cf15) (.node (some cf31) (.node (some cf63) (.node (some cf127) .nil .nil) (.node (some cf191) .nil .nil)) (.node (some cf95) (.node (some cf159) .nil .nil) (.node none .nil .nil))) (.node none (.node (some cf79) (.node (some cf143) .nil .nil) (.node none .nil .nil)) (.node (some cf111) (.node none .nil .nil) (.node none .nil .nil)))) (.node (some cf23) (.node none (.node none (.node (some cf135) .nil .nil) (.node none .nil .nil)) (.node (some cf103) (.node (some cf167) .nil .nil) (.node none .nil .nil))) (.node none (.node (some cf87) (.node (some cf151) .nil .nil) (.node none .nil .nil)) (.node (some cf119) (.node (some cf183) .nil .nil) (.node none .nil .nil))))) (.node none (.node none (.node (some cf35) (.node none (.node (some cf131) .nil .nil) (.node (some cf195) .nil .nil)) (.node (some cf99) (.node (some cf163) .nil .nil) (.node none .nil .nil))) (.node (some cf51) (.node (some cf83) (.node (some cf147) .nil .nil) (.node none .nil .nil)) (.node (some cf115) (.node none .nil .nil) (.node none .nil .nil)))) (.node (some cf27) (.node none (.node (some cf75) (.node (some cf139) .nil .nil) (.node (some cf203) .nil .nil)) (.node (some cf107) (.node (some cf171) .nil .nil) (.node none .nil .nil))) (.node (some cf59) (.node (some cf91) (.node (some cf155) .nil .nil) (.node none .nil .nil)) (.node none (.node (some cf187) .nil .nil) (.node none .nil .nil)))))) (.node (some cf5) (.node none (.node none (.node none (.node (some cf65) (.node (some cf129) .nil .nil) (.node (some cf193) .nil .nil)) (.node none (.node (some cf161) .nil .nil) (.node none .nil .nil))) (.node none (.node (some cf81) (.node (some cf145) .nil .nil) (.node none .nil .nil)) (.node (some cf113) (.node none .nil .nil) (.node none .nil .nil)))) (.node (some cf25) (.node (some cf41) (.node (some cf73) (.node (some cf137) .nil .nil) (.node none .nil .nil)) (.node (some cf105) (.node (some cf169) .nil .nil) (.node none .nil .nil))) (.node (some cf57) (.node (some cf89) (.node (some cf153) .nil .nil) (.node none .nil .nil)) (.node none (.node (some cf185) .nil .nil) (.node none .nil .nil))))) (.node (some cf13) (.node none (.node (some cf37) (.node (some cf69) (.node (some cf133) .nil .nil) (.node (some cf197) .nil .nil)) (.node (some cf101) (.node (some cf165) .nil .nil) (.node none .nil .nil))) (.node (some cf53) (.node (some cf85) (.node (some cf149) .nil .nil) (.node none .nil .nil)) (.node (some cf117) (.node none .nil .nil) (.node none .nil .nil)))) (.node none (.node none (.node (some cf77) (.node (some cf141) .nil .nil) (.node (some cf205) .nil .nil)) (.node (some cf109) (.node (some cf173) .nil .nil) (.node none .nil .nil))) (.node (some cf61) (.node (some cf93) (.node (some cf157) .nil .nil) (.node none .nil .nil)) (.node (some cf125) (.node (some cf189) .nil .nil) (.node none .nil .nil))))))) (.node none (.node none (.node none (.node none (.node (some cf32) (.node none (.node (some cf128) .nil .nil) (.node (some cf192) .nil .nil)) (.node (some cf96) (.node (some cf160) .nil .nil) (.node none .nil .nil))) (.node none (.node (some cf80) (.node (some cf144) .nil .nil) (.node none .nil .nil)) (.node (some cf112) (.node none .nil .nil) (.node none .nil .nil)))) (.node (some cf24) (.node (some cf40) (.node (some cf72) (.node (some cf136) .nil .nil) (.node none .nil .nil)) (.node (some cf104) (.node (some cf168) .nil .nil) (.node none .nil .nil))) (.node (some cf56) (.node (some cf88) (.node (some cf152) .nil .nil) (.node none .nil .nil)) (.node (some cf120) (.node (some cf184) .nil .nil) (.node none .nil .nil))))) (.node (some cf12) (.node none (.node (some cf36) (.node (some cf68) (.node (some cf132) .nil .nil) (.node (some cf196) .nil .nil)) (.node (some cf100) (.node (some cf164) .nil .nil) (.node none .nil .nil))) (.node (some cf52) (.node (some cf84) (.node (some cf148) .nil .nil) (.node none .nil .nil)) (.node (some cf116) (.node none .nil .nil) (.node none .nil .nil)))) (.node none (.node none (.node (some cf76) (.node (some cf140) .nil .nil) (.node (some cf204) .nil .nil)) (.node (some cf108) (.node (some cf172) .nil .nil) (.node none .nil .nil))) (.node (some cf60) (.node (some cf92) (.node (some cf156) .nil .nil) (.node none .nil .nil)) (.node (some cf124) (.node (some cf188) .nil .nil) (.node none .nil .nil)))))) (.node none (.node none (.node none (.node none (.node (some cf66) (.node (some cf130) .nil .nil) (.node (some cf194) .nil .nil)) (.node (some cf98) (.node (some cf162) .nil .nil) (.node none .nil .nil))) (.node (some cf50) (.node (some cf82) (.node (some cf146) .nil .nil) (.node none .nil .nil)) (.node (some cf114) (.node none .nil .nil) (.node none .nil .nil)))) (.node (some cf26) (.node (some cf42) (.node (some cf74) (.node (some cf138) .nil .nil) (.node none .nil .nil)) (.node (some cf106) (.node (some cf170) .nil .nil) (.node none .nil .nil))) (.node (some cf58) (.node (some cf90) (.node (some cf154) .nil .nil) (.node none .nil .nil)) (.node (some cf122) (.node (some cf186) .nil .nil) (.node none .nil .nil))))) (.node none (.node none (.node none (.node none (.node (some cf134) .nil .nil) (.node none .nil .nil)) (.node (some cf102) (.node (some cf166) .nil .nil) (.node none .nil .nil))) (.node (some cf54) (.node (some cf86) (.node (some cf150) .nil .nil) (.node none .nil .nil)) (.node (some cf118) (.node none .nil .nil) (.node none .nil .nil)))) (.node none (.node (some cf46) (.node (some cf78) (.node (some cf142) .nil .nil) (.node (some cf206) .nil .nil)) (.node (some cf110) (.node none .nil .nil) (.node none .nil .nil))) (.node (some cf62) (.node (some cf94) (.node (some cf158) .nil .nil) (.node none .nil .nil)) (.node (some cf126) (.node (some cf190) .nil .nil) (.node none .nil .nil))))))))
def CP (n : Nat) : Option CF := cpT.get none n
end Go.AI.Tryz
