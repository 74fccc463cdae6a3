/- The code of the functions, as the interpreter reads it. No condition. -/
import Derived.Test.YtgecccghlgpmjaaGreatAi1
namespace Go.AI.Tryz
def cf5 : CF := ⟨2, 6, 0, true, false, false, false, (.seq (.reg [⟨(some 4), none, .mov (.c (.p (.bool false)))⟩])
  (.seq (.seq (.reg [⟨(some 13), none, .mov (.t 1)⟩,
    ⟨(some 14), none, .len true (.t 13)⟩,
    ⟨(some 15), none, .bin .gtr (.t 14) (.c (.p (.int .i64 100)))⟩])
  (.cond (.t 15) (.seq (.reg [⟨(some 16), none, .call 12 []⟩,
    ⟨(some 4), none, .mov (.t 16)⟩])
  .ret)
  .skip))
  (.seq (.reg [⟨(some 18), none, .mov (.t 0)⟩,
    ⟨(some 19), none, .call 23 [(.t 18)]⟩,
    ⟨(some 17), none, .mov (.t 19)⟩,
    ⟨(some 20), none, .ext (.t 17) 0⟩,
    ⟨(some 21), none, .ext (.t 17) 1⟩,
    ⟨(some 5), none, .mov (.t 20)⟩,
    ⟨(some 6), none, .mov (.t 21)⟩])
  (.seq (.reg [⟨(some 23), none, .mov (.t 0)⟩,
    ⟨(some 24), none, .call 24 [(.t 23)]⟩,
    ⟨(some 22), none, .mov (.t 24)⟩,
    ⟨(some 25), none, .ext (.t 22) 0⟩,
    ⟨(some 26), none, .ext (.t 22) 1⟩,
    ⟨(some 7), none, .mov (.t 25)⟩,
    ⟨(some 8), none, .mov (.t 26)⟩])
  (.seq (.reg [⟨(some 28), none, .mov (.t 1)⟩,
    ⟨(some 29), none, .call 25 [(.t 28)]⟩,
    ⟨(some 27), none, .mov (.t 29)⟩,
    ⟨(some 30), none, .ext (.t 27) 0⟩,
    ⟨(some 31), none, .ext (.t 27) 1⟩,
    ⟨(some 9), none, .mov (.t 30)⟩,
    ⟨(some 10), none, .mov (.t 31)⟩])
  (.seq (.reg [⟨(some 33), none, .mov (.t 1)⟩,
    ⟨(some 34), none, .call 26 [(.t 33)]⟩,
    ⟨(some 32), none, .mov (.t 34)⟩,
    ⟨(some 35), none, .ext (.t 32) 0⟩,
    ⟨(some 36), none, .ext (.t 32) 1⟩,
    ⟨(some 11), none, .mov (.t 35)⟩,
    ⟨(some 12), none, .mov (.t 36)⟩])
  (.seq (.reg [⟨(some 37), none, .mov (.t 6)⟩,
    ⟨(some 38), none, .mov (.t 8)⟩,
    ⟨(some 39), none, .bin .eql (.t 37) (.t 38)⟩,
    ⟨(some 40), none, .mov (.t 39)⟩,
    ⟨(some 41), (some (40, true)), .mov (.t 5)⟩,
    ⟨(some 42), (some (40, true)), .mov (.t 7)⟩,
    ⟨(some 43), (some (40, true)), .bin .eql (.t 41) (.t 42)⟩,
    ⟨(some 44), none, .pick (.t 40) (.t 43) (.c (.p (.bool false)))⟩,
    ⟨(some 45), none, .mov (.t 44)⟩,
    ⟨(some 46), (some (45, true)), .mov (.t 10)⟩,
    ⟨(some 47), (some (45, true)), .mov (.t 12)⟩,
    ⟨(some 48), (some (45, true)), .bin .eql (.t 46) (.t 47)⟩,
    ⟨(some 49), none, .pick (.t 45) (.t 48) (.c (.p (.bool false)))⟩,
    ⟨(some 50), none, .mov (.t 49)⟩,
    ⟨(some 51), (some (50, true)), .mov (.t 9)⟩,
    ⟨(some 52), (some (50, true)), .mov (.t 11)⟩,
    ⟨(some 53), (some (50, true)), .bin .eql (.t 51) (.t 52)⟩,
    ⟨(some 54), none, .pick (.t 50) (.t 53) (.c (.p (.bool false)))⟩,
    ⟨(some 55), none, .mov (.t 54)⟩,
    ⟨(some 56), (some (55, true)), .call 12 []⟩,
    ⟨(some 57), none, .pick (.t 55) (.t 56) (.c (.p (.bool false)))⟩,
    ⟨(some 4), none, .mov (.t 57)⟩])
  .ret))))))), [.t 4]⟩
def cf12 : CF := ⟨0, 4, 0, true, false, false, false, (.seq (.reg [⟨(some 0), none, .mov (.c (.p (.bool false)))⟩])
  (.seq (.reg [⟨(some 1), none, .call 35 [(.c (.p (.str ⟨#[105, 102, 40, 49, 47, 50, 44, 120, 49, 44, 48, 47, 50, 41]⟩))), (.c (.p (.int .u8 6))), (.c (.p (.int .i64 0))), (.c (.p (.str ⟨#[120, 49]⟩)))]⟩,
    ⟨(some 2), none, .mov (.t 1)⟩,
    ⟨(some 3), (some (2, true)), .call 35 [(.c (.p (.str ⟨#[101, 113, 47, 50, 40, 49, 47, 50, 44, 120, 49, 41]⟩))), (.c (.p (.int .u8 5))), (.c (.p (.int .i64 0))), (.c (.p (.str ⟨#[101, 113, 47, 50, 40, 120, 49, 44, 49, 47, 50, 41]⟩)))]⟩,
    ⟨(some 4), none, .pick (.t 2) (.t 3) (.c (.p (.bool false)))⟩,
    ⟨(some 5), none, .mov (.t 4)⟩,
    ⟨(some 6), (some (5, true)), .call 35 [(.c (.p (.str ⟨#[110, 101, 119, 47, 51, 47, 49, 40, 97, 115, 47, 50, 40, 33, 51, 41, 41]⟩))), (.c (.p (.int .u8 15))), (.c (.p (.int .i64 0))), (.c (.p (.str ⟨#[49, 47, 50]⟩)))]⟩,
    ⟨(some 7), none, .pick (.t 5) (.t 6) (.c (.p (.bool false)))⟩,
    ⟨(some 0), none, .mov (.t 7)⟩])
  .ret)), [.t 0]⟩
def cf35 : CF := ⟨4, 7, 2, true, false, false, false, (.seq (.reg [⟨(some 8), none, .mov (.c (.p (.bool false)))⟩])
  (.seq (.reg [⟨(some 17), none, .call 37 []⟩,
    ⟨(some 18), none, .mov (.t 0)⟩,
    ⟨(some 19), none, .call 36 [(.t 17), (.t 18)]⟩,
    ⟨(some 16), none, .mov (.t 19)⟩,
    ⟨(some 20), none, .ext (.t 16) 0⟩,
    ⟨(some 21), none, .ext (.t 16) 1⟩,
    ⟨(some 9), none, .alloc 0 [(.p (.int .u8 0)), (.p (.int .i64 0)), (.p (.int .i64 0)), (.p (.int .i64 0)), (.sl 0 [] .full)]⟩,
    ⟨none, none, .store (some 5) (.t 9) (.t 20)⟩,
    ⟨(some 10), none, .mov (.t 21)⟩])
  (.seq (.regd [] [] [⟨(some 23), none, .call 37 []⟩,
    ⟨(some 24), none, .load (some 5) (.t 9)⟩,
    ⟨(some 25), none, .call 15 [(.t 24)]⟩,
    ⟨(some 26), none, .call 27 [(.t 23), (.t 25)]⟩,
    ⟨(some 22), none, .mov (.t 26)⟩,
    ⟨(some 27), none, .ext (.t 22) 0⟩,
    ⟨(some 28), none, .ext (.t 22) 1⟩,
    ⟨(some 11), none, .mov (.t 27)⟩,
    ⟨(some 12), none, .mov (.t 28)⟩] [⟨1, (some 5), (.t 9), [(0, 39)]⟩])
  (.seq (.regd [(1, [(.p (.int .u8 0)), (.p (.int .i64 0)), (.p (.int .i64 0)), (.p (.int .i64 0)), (.sl 0 [] .full)])] [] [⟨(some 30), none, .call 37 []⟩,
    ⟨(some 31), none, .load (some 5) (.t 9)⟩,
    ⟨(some 32), none, .call 15 [(.t 31)]⟩,
    ⟨(some 33), none, .call 13 [(.t 30), (.t 32)]⟩,
    ⟨(some 29), none, .mov (.t 33)⟩,
    ⟨(some 34), none, .ext (.t 29) 0⟩,
    ⟨(some 35), none, .ext (.t 29) 1⟩,
    ⟨(some 36), none, .ext (.t 29) 2⟩,
    ⟨(some 13), none, .alloced 1⟩,
    ⟨none, none, .store (some 5) (.t 13) (.t 34)⟩,
    ⟨(some 14), none, .mov (.t 35)⟩,
    ⟨(some 15), none, .mov (.t 36)⟩] [⟨1, (some 5), (.t 9), [(0, 39)]⟩])
  (.seq (.regd [] [] [⟨(some 37), none, .mov (.t 10)⟩,
    ⟨(some 38), none, .bin .eql (.t 37) (.c (.p (.int .i64 0)))⟩,
    ⟨(some 39), none, .mov (.t 38)⟩,
    ⟨(some 40), (some (39, true)), .mov (.t 12)⟩,
    ⟨(some 41), (some (39, true)), .bin .eql (.t 40) (.c (.p (.int .i64 0)))⟩,
    ⟨(some 42), none, .pick (.t 39) (.t 41) (.c (.p (.bool false)))⟩,
    ⟨(some 43), none, .mov (.t 42)⟩,
    ⟨(some 44), (some (43, true)), .mov (.t 15)⟩,
    ⟨(some 45), (some (43, true)), .bin .eql (.t 44) (.c (.p (.int .i64 0)))⟩,
    ⟨(some 46), none, .pick (.t 43) (.t 45) (.c (.p (.bool false)))⟩,
    ⟨(some 47), none, .mov (.t 46)⟩,
    ⟨(some 48), (some (47, true)), .mov (.t 11)⟩,
    ⟨(some 49), (some (47, true)), .len false (.t 48)⟩,
    ⟨(some 50), (some (47, true)), .bin .gtr (.t 49) (.c (.p (.int .i64 0)))⟩,
    ⟨(some 51), none, .pick (.t 47) (.t 50) (.c (.p (.bool false)))⟩,
    ⟨(some 52), none, .mov (.t 51)⟩,
    ⟨(some 53), (some (52, true)), .mov (.t 11)⟩,
    ⟨(some 54), (some (52, true)), .ia 2 (.t 53) (.c (.p (.int .i64 0)))⟩,
    ⟨(some 55), (some (52, true)), .load (some 2) (.t 54)⟩,
    ⟨(some 56), (some (52, true)), .mov (.t 1)⟩,
    ⟨(some 57), (some (52, true)), .mov (.t 2)⟩,
    ⟨(some 58), (some (52, true)), .build [(.p (.int .u8 0)), (.p (.int .i64 0))] [(0, none, (.t 56)), (1, none, (.t 57))]⟩,
    ⟨(some 59), (some (52, true)), .eqs [1, 1] false (.t 55) (.t 58)⟩,
    ⟨(some 60), none, .pick (.t 52) (.t 59) (.c (.p (.bool false)))⟩,
    ⟨(some 61), none, .mov (.t 60)⟩,
    ⟨(some 62), (some (61, true)), .mov (.t 14)⟩,
    ⟨(some 63), (some (61, true)), .len false (.t 62)⟩,
    ⟨(some 64), (some (61, true)), .bin .gtr (.t 63) (.c (.p (.int .i64 0)))⟩,
    ⟨(some 65), none, .pick (.t 61) (.t 64) (.c (.p (.bool false)))⟩,
    ⟨(some 66), none, .mov (.t 65)⟩,
    ⟨(some 67), (some (66, true)), .mov (.t 14)⟩,
    ⟨(some 68), (some (66, true)), .ia 2 (.t 67) (.c (.p (.int .i64 0)))⟩,
    ⟨(some 69), (some (66, true)), .load (some 2) (.t 68)⟩,
    ⟨(some 70), (some (66, true)), .mov (.t 11)⟩,
    ⟨(some 71), (some (66, true)), .ia 2 (.t 70) (.c (.p (.int .i64 0)))⟩,
    ⟨(some 72), (some (66, true)), .load (some 2) (.t 71)⟩,
    ⟨(some 73), (some (66, true)), .eqs [1, 1] false (.t 69) (.t 72)⟩,
    ⟨(some 74), none, .pick (.t 66) (.t 73) (.c (.p (.bool false)))⟩,
    ⟨(some 75), none, .mov (.t 74)⟩,
    ⟨(some 76), (some (75, true)), .load (some 5) (.t 13)⟩,
    ⟨(some 77), (some (75, true)), .call 61 [(.t 76)]⟩,
    ⟨(some 78), (some (75, true)), .mov (.t 3)⟩,
    ⟨(some 79), (some (75, true)), .bin .eql (.t 77) (.t 78)⟩,
    ⟨(some 80), none, .pick (.t 75) (.t 79) (.c (.p (.bool false)))⟩,
    ⟨(some 8), none, .mov (.t 80)⟩] [])
  .ret))))), [.t 8]⟩
def cf37 : CF := ⟨0, 4, 1, true, false, false, false, (.seq (.reg [⟨(some 0), none, .alloc 0 [(.sl 0 [] .full), (.p (.bool false)), (.p (.int .i64 0)), (.p (.bool false))]⟩])
  (.seq (.reg [⟨(some 1), none, .build [(.p (.bool false)), (.p (.int .i64 0))] [(1, none, (.c (.p (.int .i64 2))))]⟩,
    ⟨(some 2), none, .build [(.sl 0 [] .full), (.p (.bool false)), (.p (.int .i64 0))] [(1, (some 2), (.t 1))]⟩,
    ⟨(some 3), none, .build [(.p (.bool false)), (.p (.int .i64 0))] [(0, none, (.c (.p (.bool true)))), (1, none, (.c (.p (.int .i64 3))))]⟩,
    ⟨(some 4), none, .build [(.sl 0 [] .full), (.p (.bool false)), (.p (.int .i64 0))] [(1, (some 2), (.t 3))]⟩,
    ⟨(some 5), none, .mks 2 [(.sl 0 []), (.bool false), (.int .i64 0), (.sl 0 []), (.bool false), (.int .i64 0)] [(0, (some 3), (.t 2)), (3, (some 3), (.t 4))]⟩,
    ⟨(some 6), none, .build [(.p (.bool false)), (.p (.int .i64 0))] [(1, none, (.c (.p (.int .i64 2))))]⟩,
    ⟨(some 7), none, .build [(.sl 0 [] .full), (.p (.bool false)), (.p (.int .i64 0)), (.p (.bool false))] [(0, none, (.t 5)), (1, (some 2), (.t 6))]⟩,
    ⟨none, none, .store (some 4) (.t 0) (.t 7)⟩])
  .ret)), [.l 0 (some 4)]⟩
def cf36 : CF := ⟨2, 6, 2, false, false, false, false, (.seq (.reg [⟨(some 2), none, .box 0 (some 4) (.t 0)⟩,
    ⟨(some 4), none, .alloc 1 [(.p (.int .u8 0)), (.p (.int .i64 0)), (.p (.int .i64 0)), (.p (.int .i64 0)), (.sl 0 [] .full)]⟩,
    ⟨(some 5), none, .mov (.c (.p (.int .i64 0)))⟩])
  (.seq (.seq (.reg [⟨(some 9), none, .load (some 4) (.t 2)⟩,
    ⟨(some 10), none, .call 62 [(.t 9)]⟩,
    ⟨(some 6), none, .mov (.t 10)⟩])
  (.seq (.reg [⟨(some 11), none, .mov (.t 6)⟩,
    ⟨(some 12), none, .bin .neq (.t 11) (.c (.p (.int .i64 0)))⟩])
  (.cond (.t 12) (.seq (.reg [⟨(some 13), none, .build [(.p (.int .u8 0)), (.p (.int .i64 0)), (.p (.int .i64 0)), (.p (.int .i64 0)), (.sl 0 [] .full)] []⟩,
    ⟨(some 14), none, .mov (.t 6)⟩,
    ⟨none, none, .store (some 5) (.t 4) (.t 13)⟩,
    ⟨(some 5), none, .mov (.t 14)⟩])
  .ret)
  .skip)))
  (.seq (.seq (.reg [⟨(some 15), none, .mov (.t 1)⟩,
    ⟨(some 16), none, .len true (.t 15)⟩,
    ⟨(some 17), none, .bin .gtr (.t 16) (.c (.p (.int .i64 9000)))⟩])
  (.cond (.t 17) (.seq (.reg [⟨(some 18), none, .build [(.p (.int .u8 0)), (.p (.int .i64 0)), (.p (.int .i64 0)), (.p (.int .i64 0)), (.sl 0 [] .full)] []⟩,
    ⟨none, none, .store (some 5) (.t 4) (.t 18)⟩,
    ⟨(some 5), none, .mov (.c (.p (.int .i64 5)))⟩])
  .ret)
  .skip))
  (.seq (.reg [⟨(some 19), none, .mov (.t 1)⟩,
    ⟨(some 20), none, .build [(.p (.str ⟨#[]⟩)), (.p (.int .i64 0)), (.p (.bool false))] [(0, none, (.t 19))]⟩,
    ⟨(some 21), none, .hbox (some 3) (.t 20)⟩,
    ⟨(some 7), none, .mov (.t 21)⟩])
  (.seq (.reg [⟨(some 22), none, .mov (.t 7)⟩,
    ⟨(some 23), none, .call 63 [(.t 22)]⟩,
    ⟨(some 8), none, .alloc 2 [(.p (.int .u8 0)), (.p (.int .i64 0)), (.p (.int .i64 0)), (.p (.int .i64 0)), (.sl 0 [] .full)]⟩,
    ⟨none, none, .store (some 5) (.t 8) (.t 23)⟩])
  (.seq (.seq (.reg [⟨(some 24), none, .mov (.t 7)⟩,
    ⟨(some 25), none, .nck (.t 24)⟩,
    ⟨(some 26), none, .fa 2 (.t 25)⟩,
    ⟨(some 27), none, .load none (.t 26)⟩,
    ⟨(some 28), none, .mov (.t 27)⟩,
    ⟨(some 29), (some (28, false)), .mov (.t 7)⟩,
    ⟨(some 30), (some (28, false)), .nck (.t 29)⟩,
    ⟨(some 31), (some (28, false)), .fa 1 (.t 30)⟩,
    ⟨(some 32), (some (28, false)), .load none (.t 31)⟩,
    ⟨(some 33), (some (28, false)), .mov (.t 1)⟩,
    ⟨(some 34), (some (28, false)), .len true (.t 33)⟩,
    ⟨(some 35), (some (28, false)), .bin .neq (.t 32) (.t 34)⟩,
    ⟨(some 36), none, .pick (.t 28) (.c (.p (.bool true))) (.t 35)⟩,
    ⟨(some 37), none, .mov (.t 36)⟩,
    ⟨(some 38), (some (37, false)), .load (some 4) (.t 2)⟩,
    ⟨(some 39), (some (37, false)), .load (some 5) (.t 8)⟩,
    ⟨(some 40), (some (37, false)), .call 46 [(.t 38), (.t 39)]⟩,
    ⟨(some 41), (some (37, false)), .bin .neq (.t 40) (.c (.p (.int .i64 0)))⟩,
    ⟨(some 42), none, .pick (.t 37) (.c (.p (.bool true))) (.t 41)⟩,
    ⟨(some 43), none, .mov (.t 42)⟩,
    ⟨(some 44), (some (43, false)), .load (some 5) (.t 8)⟩,
    ⟨(some 45), (some (43, false)), .call 61 [(.t 44)]⟩,
    ⟨(some 46), (some (43, false)), .mov (.t 1)⟩,
    ⟨(some 47), (some (43, false)), .bin .neq (.t 45) (.t 46)⟩,
    ⟨(some 48), none, .pick (.t 43) (.c (.p (.bool true))) (.t 47)⟩])
  (.cond (.t 48) (.seq (.reg [⟨(some 49), none, .build [(.p (.int .u8 0)), (.p (.int .i64 0)), (.p (.int .i64 0)), (.p (.int .i64 0)), (.sl 0 [] .full)] []⟩,
    ⟨none, none, .store (some 5) (.t 4) (.t 49)⟩,
    ⟨(some 5), none, .mov (.c (.p (.int .i64 4)))⟩])
  .ret)
  .skip))
  (.seq (.reg [⟨(some 50), none, .load (some 5) (.t 8)⟩,
    ⟨none, none, .store (some 5) (.t 4) (.t 50)⟩,
    ⟨(some 5), none, .mov (.c (.p (.int .i64 0)))⟩])
  .ret))))))), [.l 4 (some 5), .t 5]⟩
def cf62 : CF := ⟨1, 6, 1, true, false, false, false, (.seq (.reg [⟨(some 1), none, .box 0 (some 4) (.t 0)⟩,
    ⟨(some 2), none, .mov (.c (.p (.int .i64 0)))⟩])
  (.seq (.seq (.reg [⟨(some 5), none, .fa 0 (.t 1)⟩,
    ⟨(some 6), none, .load none (.t 5)⟩,
    ⟨(some 7), none, .len false (.t 6)⟩,
    ⟨(some 8), none, .bin .gtr (.t 7) (.c (.p (.int .i64 8)))⟩])
  (.cond (.t 8) (.seq (.reg [⟨(some 2), none, .mov (.c (.p (.int .i64 5)))⟩])
  .ret)
  .skip))
  (.seq (.seq (.reg [⟨(some 3), none, .mov (.c (.p (.int .i64 0)))⟩])
  (.block 0 (.loop (.seq (.seq (.reg [⟨(some 9), none, .mov (.t 3)⟩,
    ⟨(some 10), none, .fa 0 (.t 1)⟩,
    ⟨(some 11), none, .load none (.t 10)⟩,
    ⟨(some 12), none, .len false (.t 11)⟩,
    ⟨(some 13), none, .bin .lss (.t 9) (.t 12)⟩])
  (.cond (.t 13) .skip
  (.exit 0)))
  (.seq (.block 1 (.seq (.reg [⟨(some 16), none, .fa 0 (.t 1)⟩,
    ⟨(some 17), none, .load none (.t 16)⟩,
    ⟨(some 18), none, .mov (.t 3)⟩,
    ⟨(some 19), none, .ia 3 (.t 17) (.t 18)⟩,
    ⟨(some 20), none, .fa 0 (.t 19)⟩,
    ⟨(some 21), none, .load none (.t 20)⟩,
    ⟨(some 22), none, .len false (.t 21)⟩,
    ⟨(some 23), none, .bin .gtr (.t 22) (.c (.p (.int .i64 5)))⟩])
  (.cond (.t 23) (.seq (.reg [⟨(some 2), none, .mov (.c (.p (.int .i64 5)))⟩])
  .ret)
  .skip)))
  (.reg [⟨(some 14), none, .mov (.t 3)⟩,
    ⟨(some 15), none, .bin .add (.t 14) (.c (.p (.int .i64 1)))⟩,
    ⟨(some 3), none, .mov (.t 15)⟩]))))))
  (.seq (.seq (.reg [⟨(some 4), none, .mov (.c (.p (.int .i64 0)))⟩])
  (.block 2 (.loop (.seq (.seq (.reg [⟨(some 24), none, .mov (.t 4)⟩,
    ⟨(some 25), none, .fa 0 (.t 1)⟩,
    ⟨(some 26), none, .load none (.t 25)⟩,
    ⟨(some 27), none, .len false (.t 26)⟩,
    ⟨(some 28), none, .bin .lss (.t 24) (.t 27)⟩])
  (.cond (.t 28) .skip
  (.exit 2)))
  (.seq (.block 3 (.seq (.reg [⟨(some 31), none, .fa 0 (.t 1)⟩,
    ⟨(some 32), none, .load none (.t 31)⟩,
    ⟨(some 33), none, .mov (.t 4)⟩,
    ⟨(some 34), none, .ia 3 (.t 32) (.t 33)⟩,
    ⟨(some 35), none, .load (some 3) (.t 34)⟩,
    ⟨(some 36), none, .call 111 [(.t 35)]⟩,
    ⟨(some 37), none, .not (.t 36)⟩])
  (.cond (.t 37) (.seq (.reg [⟨(some 2), none, .mov (.c (.p (.int .i64 4)))⟩])
  .ret)
  .skip)))
  (.reg [⟨(some 29), none, .mov (.t 4)⟩,
    ⟨(some 30), none, .bin .add (.t 29) (.c (.p (.int .i64 1)))⟩,
    ⟨(some 4), none, .mov (.t 30)⟩]))))))
  (.seq (.seq (.reg [⟨(some 38), none, .fa 1 (.t 1)⟩,
    ⟨(some 39), none, .load (some 2) (.t 38)⟩,
    ⟨(some 40), none, .call 112 [(.t 39)]⟩,
    ⟨(some 41), none, .not (.t 40)⟩])
  (.cond (.t 41) (.seq (.reg [⟨(some 2), none, .mov (.c (.p (.int .i64 4)))⟩])
  .ret)
  .skip))
  (.seq (.reg [⟨(some 2), none, .mov (.c (.p (.int .i64 0)))⟩])
  .ret)))))), [.t 2]⟩
def cf111 : CF := ⟨1, 6, 1, true, false, false, false, (.seq (.reg [⟨(some 1), none, .box 0 (some 3) (.t 0)⟩,
    ⟨(some 2), none, .mov (.c (.p (.bool false)))⟩])
  (.seq (.seq (.reg [⟨(some 3), none, .mov (.c (.p (.int .i64 0)))⟩])
  (.block 0 (.loop (.seq (.seq (.reg [⟨(some 4), none, .mov (.t 3)⟩,
    ⟨(some 5), none, .fa 0 (.t 1)⟩,
    ⟨(some 6), none, .load none (.t 5)⟩,
    ⟨(some 7), none, .len false (.t 6)⟩,
    ⟨(some 8), none, .bin .lss (.t 4) (.t 7)⟩])
  (.cond (.t 8) .skip
  (.exit 0)))
  (.seq (.block 1 (.seq (.reg [⟨(some 11), none, .fa 0 (.t 1)⟩,
    ⟨(some 12), none, .load none (.t 11)⟩,
    ⟨(some 13), none, .mov (.t 3)⟩,
    ⟨(some 14), none, .ia 2 (.t 12) (.t 13)⟩,
    ⟨(some 15), none, .load (some 2) (.t 14)⟩,
    ⟨(some 16), none, .call 112 [(.t 15)]⟩,
    ⟨(some 17), none, .not (.t 16)⟩])
  (.cond (.t 17) (.seq (.reg [⟨(some 2), none, .mov (.c (.p (.bool false)))⟩])
  .ret)
  .skip)))
  (.reg [⟨(some 9), none, .mov (.t 3)⟩,
    ⟨(some 10), none, .bin .add (.t 9) (.c (.p (.int .i64 1)))⟩,
    ⟨(some 3), none, .mov (.t 10)⟩]))))))
  (.seq (.reg [⟨(some 18), none, .fa 1 (.t 1)⟩,
    ⟨(some 19), none, .load (some 2) (.t 18)⟩,
    ⟨(some 20), none, .call 112 [(.t 19)]⟩,
    ⟨(some 21), none, .mov (.t 20)⟩,
    ⟨(some 22), (some (21, true)), .fa 0 (.t 1)⟩,
    ⟨(some 23), (some (21, true)), .load none (.t 22)⟩,
    ⟨(some 24), (some (21, true)), .len false (.t 23)⟩,
    ⟨(some 25), (some (21, true)), .bin .eql (.t 24) (.c (.p (.int .i64 0)))⟩,
    ⟨(some 26), (some (21, true)), .mov (.t 25)⟩,
    ⟨(some 27), (some (26, false)), .fa 1 (.t 1)⟩,
    ⟨(some 28), (some (26, false)), .fa 0 (.t 27)⟩,
    ⟨(some 29), (some (26, false)), .load none (.t 28)⟩,
    ⟨(some 30), (some (26, false)), .not (.t 29)⟩,
    ⟨(some 31), (some (21, true)), .pick (.t 26) (.c (.p (.bool true))) (.t 30)⟩,
    ⟨(some 32), none, .pick (.t 21) (.t 31) (.c (.p (.bool false)))⟩,
    ⟨(some 2), none, .mov (.t 32)⟩])
  .ret))), [.t 2]⟩
def cf112 : CF := ⟨1, 3, 1, true, false, false, false, (.seq (.reg [⟨(some 1), none, .box 0 (some 2) (.t 0)⟩,
    ⟨(some 2), none, .mov (.c (.p (.bool false)))⟩])
  (.seq (.reg [⟨(some 3), none, .fa 1 (.t 1)⟩,
    ⟨(some 4), none, .load none (.t 3)⟩,
    ⟨(some 5), none, .call 167 [(.t 4), (.c (.p (.int .i64 1))), (.c (.p (.int .i64 64)))]⟩,
    ⟨(some 2), none, .mov (.t 5)⟩])
  .ret)), [.t 2]⟩
def cf167 : CF := ⟨3, 4, 0, true, false, false, false, (.seq (.reg [⟨(some 6), none, .mov (.c (.p (.bool false)))⟩])
  (.seq (.reg [⟨(some 7), none, .mov (.t 0)⟩,
    ⟨(some 8), none, .mov (.t 1)⟩,
    ⟨(some 9), none, .bin .geq (.t 7) (.t 8)⟩,
    ⟨(some 10), none, .mov (.t 9)⟩,
    ⟨(some 11), (some (10, true)), .mov (.t 0)⟩,
    ⟨(some 12), (some (10, true)), .mov (.t 2)⟩,
    ⟨(some 13), (some (10, true)), .bin .leq (.t 11) (.t 12)⟩,
    ⟨(some 14), none, .pick (.t 10) (.t 13) (.c (.p (.bool false)))⟩,
    ⟨(some 6), none, .mov (.t 14)⟩])
  .ret)), [.t 6]⟩
def cf63 : CF := ⟨1, 6, 2, false, false, false, false, (.seq (.reg [⟨(some 2), none, .alloc 0 [(.p (.int .u8 0)), (.p (.int .i64 0)), (.p (.int .i64 0)), (.p (.int .i64 0)), (.sl 0 [] .full)]⟩])
  (.seq (.reg [⟨(some 4), none, .mov (.t 0)⟩,
    ⟨(some 5), none, .call 113 [(.t 4)]⟩,
    ⟨(some 3), none, .alloc 1 [(.p (.int .u8 0)), (.p (.int .i64 0)), (.p (.int .i64 0)), (.p (.int .i64 0)), (.sl 0 [] .full)]⟩,
    ⟨none, none, .store (some 5) (.t 3) (.t 5)⟩])
  (.seq (.seq (.reg [⟨(some 6), none, .mov (.t 0)⟩,
    ⟨(some 7), none, .nck (.t 6)⟩,
    ⟨(some 8), none, .fa 2 (.t 7)⟩,
    ⟨(some 9), none, .load none (.t 8)⟩,
    ⟨(some 10), none, .not (.t 9)⟩,
    ⟨(some 11), none, .mov (.t 10)⟩,
    ⟨(some 12), (some (11, true)), .mov (.t 0)⟩,
    ⟨(some 13), (some (11, true)), .call 114 [(.t 12), (.c (.p (.str ⟨#[40]⟩)))]⟩,
    ⟨(some 14), none, .pick (.t 11) (.t 13) (.c (.p (.bool false)))⟩])
  (.cond (.t 14) (.seq (.regd [] [] [⟨(some 15), none, .fa 4 (.t 3)⟩,
    ⟨(some 16), none, .load none (.t 15)⟩,
    ⟨(some 17), none, .mov (.t 0)⟩,
    ⟨(some 18), none, .call 63 [(.t 17)]⟩,
    ⟨(some 19), none, .mks 1 [(.int .u8 0), (.int .i64 0), (.int .i64 0), (.int .i64 0), (.sl 0 [])] [(0, (some 5), (.t 18))]⟩,
    ⟨(some 20), none, .app 5 56 (.t 16) (.t 19)⟩,
    ⟨(some 21), none, .fa 4 (.t 3)⟩,
    ⟨none, none, .store none (.t 21) (.t 20)⟩] [⟨1, none, (.t 15), [(3, 65)]⟩])
  (.seq (.block 0 (.loop (.seq (.seq (.reg [⟨(some 22), none, .mov (.t 0)⟩,
    ⟨(some 23), none, .nck (.t 22)⟩,
    ⟨(some 24), none, .fa 2 (.t 23)⟩,
    ⟨(some 25), none, .load none (.t 24)⟩,
    ⟨(some 26), none, .not (.t 25)⟩,
    ⟨(some 27), none, .mov (.t 26)⟩,
    ⟨(some 28), (some (27, true)), .mov (.t 0)⟩,
    ⟨(some 29), (some (27, true)), .call 114 [(.t 28), (.c (.p (.str ⟨#[44]⟩)))]⟩,
    ⟨(some 30), none, .pick (.t 27) (.t 29) (.c (.p (.bool false)))⟩])
  (.cond (.t 30) .skip
  (.exit 0)))
  (.block 1 (.regd [] [] [⟨(some 31), none, .fa 4 (.t 3)⟩,
    ⟨(some 32), none, .load none (.t 31)⟩,
    ⟨(some 33), none, .mov (.t 0)⟩,
    ⟨(some 34), none, .call 63 [(.t 33)]⟩,
    ⟨(some 35), none, .mks 1 [(.int .u8 0), (.int .i64 0), (.int .i64 0), (.int .i64 0), (.sl 0 [])] [(0, (some 5), (.t 34))]⟩,
    ⟨(some 36), none, .app 5 56 (.t 32) (.t 35)⟩,
    ⟨(some 37), none, .fa 4 (.t 3)⟩,
    ⟨none, none, .store none (.t 37) (.t 36)⟩] [⟨1, none, (.t 31), [(3, 65)]⟩])))))
  (.seq (.reg [⟨(some 38), none, .mov (.t 0)⟩,
    ⟨(some 39), none, .call 114 [(.t 38), (.c (.p (.str ⟨#[41]⟩)))]⟩,
    ⟨(some 40), none, .not (.t 39)⟩])
  (.cond (.t 40) (.reg [⟨(some 41), none, .mov (.t 0)⟩,
    ⟨(some 42), none, .nck (.t 41)⟩,
    ⟨(some 43), none, .fa 2 (.t 42)⟩,
    ⟨none, none, .store none (.t 43) (.c (.p (.bool true)))⟩])
  .skip))))
  .skip))
  (.seq (.reg [⟨(some 44), none, .load (some 5) (.t 3)⟩,
    ⟨none, none, .store (some 5) (.t 2) (.t 44)⟩])
  .ret)))), [.l 2 (some 5)]⟩
def cf113 : CF := ⟨1, 7, 1, false, false, true, false, (.seq (.reg [⟨(some 2), none, .alloc 0 [(.p (.int .u8 0)), (.p (.int .i64 0)), (.p (.int .i64 0)), (.p (.int .i64 0)), (.sl 0 [] .full)]⟩])
  (.seq (.reg [⟨(some 13), none, .mks 5 [(.str ⟨#[]⟩), (.str ⟨#[]⟩), (.str ⟨#[]⟩), (.str ⟨#[]⟩), (.str ⟨#[]⟩)] [(0, none, (.c (.p (.str ⟨#[120]⟩)))), (1, none, (.c (.p (.str ⟨#[33]⟩)))), (2, none, (.c (.p (.str ⟨#[61]⟩)))), (3, none, (.c (.p (.str ⟨#[35]⟩)))), (4, none, (.c (.p (.str ⟨#[38]⟩))))]⟩,
    ⟨(some 14), none, .mks 5 [(.int .u8 0), (.int .u8 0), (.int .u8 0), (.int .u8 0), (.int .u8 0)] [(0, none, (.c (.p (.int .u8 2)))), (1, none, (.c (.p (.int .u8 3)))), (2, none, (.c (.p (.int .u8 4)))), (3, none, (.c (.p (.int .u8 15)))), (4, none, (.c (.p (.int .u8 16))))]⟩,
    ⟨(some 3), none, .mov (.t 13)⟩,
    ⟨(some 4), none, .mov (.t 14)⟩])
  (.seq (.seq (.reg [⟨(some 5), none, .mov (.c (.p (.int .i64 0)))⟩])
  (.block 0 (.loop (.seq (.seq (.reg [⟨(some 15), none, .mov (.t 5)⟩,
    ⟨(some 16), none, .mov (.t 3)⟩,
    ⟨(some 17), none, .len false (.t 16)⟩,
    ⟨(some 18), none, .bin .lss (.t 15) (.t 17)⟩])
  (.cond (.t 18) .skip
  (.exit 0)))
  (.seq (.block 1 (.seq (.reg [⟨(some 21), none, .mov (.t 0)⟩,
    ⟨(some 22), none, .mov (.t 3)⟩,
    ⟨(some 23), none, .mov (.t 5)⟩,
    ⟨(some 24), none, .ia 1 (.t 22) (.t 23)⟩,
    ⟨(some 25), none, .load none (.t 24)⟩,
    ⟨(some 26), none, .call 114 [(.t 21), (.t 25)]⟩])
  (.cond (.t 26) (.seq (.regd [] [] [⟨(some 27), none, .mov (.t 4)⟩,
    ⟨(some 28), none, .mov (.t 5)⟩,
    ⟨(some 29), none, .ia 1 (.t 27) (.t 28)⟩,
    ⟨(some 30), none, .load none (.t 29)⟩,
    ⟨(some 31), none, .mov (.t 0)⟩,
    ⟨(some 32), none, .call 168 [(.t 31)]⟩,
    ⟨(some 33), none, .build [(.p (.int .u8 0)), (.p (.int .i64 0)), (.p (.int .i64 0)), (.p (.int .i64 0)), (.sl 0 [] .full)] [(0, none, (.t 30)), (3, none, (.t 32))]⟩,
    ⟨none, none, .store (some 5) (.t 2) (.t 33)⟩] [⟨3, none, (.t 29), [(5, 170)]⟩])
  .ret)
  .skip)))
  (.reg [⟨(some 19), none, .mov (.t 5)⟩,
    ⟨(some 20), none, .bin .add (.t 19) (.c (.p (.int .i64 1)))⟩,
    ⟨(some 5), none, .mov (.t 20)⟩]))))))
  (.seq (.reg [⟨(some 34), none, .mks 5 [(.str ⟨#[]⟩), (.str ⟨#[]⟩), (.str ⟨#[]⟩), (.str ⟨#[]⟩), (.str ⟨#[]⟩)] [(0, none, (.c (.p (.str ⟨#[97, 100, 100]⟩)))), (1, none, (.c (.p (.str ⟨#[115, 117, 98]⟩)))), (2, none, (.c (.p (.str ⟨#[109, 117, 108]⟩)))), (3, none, (.c (.p (.str ⟨#[101, 113]⟩)))), (4, none, (.c (.p (.str ⟨#[108, 101, 115, 115]⟩))))]⟩,
    ⟨(some 6), none, .mov (.t 34)⟩])
  (.seq (.seq (.reg [⟨(some 7), none, .mov (.c (.p (.int .i64 0)))⟩])
  (.block 2 (.loop (.seq (.seq (.reg [⟨(some 35), none, .mov (.t 7)⟩,
    ⟨(some 36), none, .mov (.t 6)⟩,
    ⟨(some 37), none, .len false (.t 36)⟩,
    ⟨(some 38), none, .bin .lss (.t 35) (.t 37)⟩])
  (.cond (.t 38) .skip
  (.exit 2)))
  (.seq (.block 3 (.seq (.reg [⟨(some 41), none, .mov (.t 0)⟩,
    ⟨(some 42), none, .mov (.t 6)⟩,
    ⟨(some 43), none, .mov (.t 7)⟩,
    ⟨(some 44), none, .ia 1 (.t 42) (.t 43)⟩,
    ⟨(some 45), none, .load none (.t 44)⟩,
    ⟨(some 46), none, .call 114 [(.t 41), (.t 45)]⟩])
  (.cond (.t 46) (.seq (.reg [⟨(some 47), none, .mov (.t 7)⟩,
    ⟨(some 48), none, .bin .add (.t 47) (.c (.p (.int .i64 1)))⟩,
    ⟨(some 49), none, .mov (.t 0)⟩,
    ⟨(some 50), none, .call 169 [(.t 49)]⟩,
    ⟨(some 51), none, .build [(.p (.int .u8 0)), (.p (.int .i64 0)), (.p (.int .i64 0)), (.p (.int .i64 0)), (.sl 0 [] .full)] [(0, none, (.c (.p (.int .u8 5)))), (1, none, (.t 48)), (2, none, (.t 50))]⟩,
    ⟨none, none, .store (some 5) (.t 2) (.t 51)⟩])
  .ret)
  .skip)))
  (.reg [⟨(some 39), none, .mov (.t 7)⟩,
    ⟨(some 40), none, .bin .add (.t 39) (.c (.p (.int .i64 1)))⟩,
    ⟨(some 7), none, .mov (.t 40)⟩]))))))
  (.seq (.reg [⟨(some 52), none, .mks 7 [(.str ⟨#[]⟩), (.str ⟨#[]⟩), (.str ⟨#[]⟩), (.str ⟨#[]⟩), (.str ⟨#[]⟩), (.str ⟨#[]⟩), (.str ⟨#[]⟩)] [(0, none, (.c (.p (.str ⟨#[115, 101, 113]⟩)))), (1, none, (.c (.p (.str ⟨#[105, 102]⟩)))), (2, none, (.c (.p (.str ⟨#[119, 104, 105, 108, 101]⟩)))), (3, none, (.c (.p (.str ⟨#[108, 97, 98, 101, 108]⟩)))), (4, none, (.c (.p (.str ⟨#[99, 104, 111, 111, 115, 101]⟩)))), (5, none, (.c (.p (.str ⟨#[104, 97, 110, 103]⟩)))), (6, none, (.c (.p (.str ⟨#[111, 98, 106]⟩))))]⟩,
    ⟨(some 53), none, .mks 7 [(.int .u8 0), (.int .u8 0), (.int .u8 0), (.int .u8 0), (.int .u8 0), (.int .u8 0), (.int .u8 0)] [(0, none, (.c (.p (.int .u8 7)))), (1, none, (.c (.p (.int .u8 8)))), (2, none, (.c (.p (.int .u8 9)))), (3, none, (.c (.p (.int .u8 11)))), (4, none, (.c (.p (.int .u8 13)))), (5, none, (.c (.p (.int .u8 14)))), (6, none, (.c (.p (.int .u8 17))))]⟩,
    ⟨(some 8), none, .mov (.t 52)⟩,
    ⟨(some 4), none, .mov (.t 53)⟩])
  (.seq (.seq (.reg [⟨(some 9), none, .mov (.c (.p (.int .i64 0)))⟩])
  (.block 4 (.loop (.seq (.seq (.reg [⟨(some 54), none, .mov (.t 9)⟩,
    ⟨(some 55), none, .mov (.t 8)⟩,
    ⟨(some 56), none, .len false (.t 55)⟩,
    ⟨(some 57), none, .bin .lss (.t 54) (.t 56)⟩])
  (.cond (.t 57) .skip
  (.exit 4)))
  (.seq (.block 5 (.seq (.reg [⟨(some 60), none, .mov (.t 0)⟩,
    ⟨(some 61), none, .mov (.t 8)⟩,
    ⟨(some 62), none, .mov (.t 9)⟩,
    ⟨(some 63), none, .ia 1 (.t 61) (.t 62)⟩,
    ⟨(some 64), none, .load none (.t 63)⟩,
    ⟨(some 65), none, .call 114 [(.t 60), (.t 64)]⟩])
  (.cond (.t 65) (.seq (.reg [⟨(some 66), none, .mov (.t 4)⟩,
    ⟨(some 67), none, .mov (.t 9)⟩,
    ⟨(some 68), none, .ia 1 (.t 66) (.t 67)⟩,
    ⟨(some 69), none, .load none (.t 68)⟩,
    ⟨(some 70), none, .build [(.p (.int .u8 0)), (.p (.int .i64 0)), (.p (.int .i64 0)), (.p (.int .i64 0)), (.sl 0 [] .full)] [(0, none, (.t 69))]⟩,
    ⟨none, none, .store (some 5) (.t 2) (.t 70)⟩])
  .ret)
  .skip)))
  (.reg [⟨(some 58), none, .mov (.t 9)⟩,
    ⟨(some 59), none, .bin .add (.t 58) (.c (.p (.int .i64 1)))⟩,
    ⟨(some 9), none, .mov (.t 59)⟩]))))))
  (.seq (.block 6 (.seq (.reg [⟨(some 72), none, .mov (.t 0)⟩,
    ⟨(some 73), none, .call 114 [(.t 72), (.c (.p (.str ⟨#[97, 115]⟩)))]⟩,
    ⟨(some 71), none, .mov (.t 73)⟩])
  (.cond (.t 71) (.seq (.reg [⟨(some 74), none, .mov (.t 0)⟩,
    ⟨(some 75), none, .call 169 [(.t 74)]⟩,
    ⟨(some 76), none, .build [(.p (.int .u8 0)), (.p (.int .i64 0)), (.p (.int .i64 0)), (.p (.int .i64 0)), (.sl 0 [] .full)] [(0, none, (.c (.p (.int .u8 6)))), (1, none, (.t 75))]⟩,
    ⟨none, none, .store (some 5) (.t 2) (.t 76)⟩])
  .ret)
  (.seq (.reg [⟨(some 78), none, .mov (.t 0)⟩,
    ⟨(some 79), none, .call 114 [(.t 78), (.c (.p (.str ⟨#[106, 117, 109, 112]⟩)))]⟩,
    ⟨(some 77), none, .mov (.t 79)⟩])
  (.cond (.t 77) (.seq (.reg [⟨(some 80), none, .mov (.t 0)⟩,
    ⟨(some 81), none, .call 169 [(.t 80)]⟩,
    ⟨(some 82), none, .build [(.p (.int .u8 0)), (.p (.int .i64 0)), (.p (.int .i64 0)), (.p (.int .i64 0)), (.sl 0 [] .full)] [(0, none, (.c (.p (.int .u8 12)))), (1, none, (.t 81))]⟩,
    ⟨none, none, .store (some 5) (.t 2) (.t 82)⟩])
  .ret)
  (.seq (.reg [⟨(some 84), none, .mov (.t 0)⟩,
    ⟨(some 85), none, .call 114 [(.t 84), (.c (.p (.str ⟨#[110, 111, 116, 105, 99, 101]⟩)))]⟩,
    ⟨(some 83), none, .mov (.t 85)⟩])
  (.cond (.t 83) (.seq (.reg [⟨(some 86), none, .mov (.t 0)⟩,
    ⟨(some 87), none, .call 169 [(.t 86)]⟩,
    ⟨(some 10), none, .mov (.t 87)⟩])
  (.seq (.reg [⟨(some 88), none, .mov (.t 10)⟩,
    ⟨(some 89), none, .mov (.t 0)⟩,
    ⟨(some 90), none, .call 169 [(.t 89)]⟩,
    ⟨(some 91), none, .build [(.p (.int .u8 0)), (.p (.int .i64 0)), (.p (.int .i64 0)), (.p (.int .i64 0)), (.sl 0 [] .full)] [(0, none, (.c (.p (.int .u8 18)))), (3, none, (.t 88)), (1, none, (.t 90))]⟩,
    ⟨none, none, .store (some 5) (.t 2) (.t 91)⟩])
  .ret))
  (.seq (.reg [⟨(some 93), none, .mov (.t 0)⟩,
    ⟨(some 94), none, .call 114 [(.t 93), (.c (.p (.str ⟨#[110, 101, 119]⟩)))]⟩,
    ⟨(some 92), none, .mov (.t 94)⟩])
  (.cond (.t 92) (.seq (.reg [⟨(some 95), none, .mov (.t 0)⟩,
    ⟨(some 96), none, .call 169 [(.t 95)]⟩,
    ⟨(some 11), none, .mov (.t 96)⟩])
  (.seq (.reg [⟨(some 97), none, .mov (.t 11)⟩,
    ⟨(some 98), none, .mov (.t 0)⟩,
    ⟨(some 99), none, .call 169 [(.t 98)]⟩,
    ⟨(some 100), none, .build [(.p (.int .u8 0)), (.p (.int .i64 0)), (.p (.int .i64 0)), (.p (.int .i64 0)), (.sl 0 [] .full)] [(0, none, (.c (.p (.int .u8 10)))), (1, none, (.t 97)), (2, none, (.t 99))]⟩,
    ⟨none, none, .store (some 5) (.t 2) (.t 100)⟩])
  .ret))
  .skip)))))))))
  (.seq (.reg [⟨(some 101), none, .mov (.t 0)⟩,
    ⟨(some 102), none, .call 168 [(.t 101)]⟩,
    ⟨(some 12), none, .mov (.t 102)⟩])
  (.seq (.reg [⟨(some 103), none, .mov (.t 12)⟩,
    ⟨(some 104), none, .mov (.t 0)⟩,
    ⟨(some 105), none, .call 169 [(.t 104)]⟩,
    ⟨(some 106), none, .build [(.p (.int .u8 0)), (.p (.int .i64 0)), (.p (.int .i64 0)), (.p (.int .i64 0)), (.sl 0 [] .full)] [(0, none, (.c (.p (.int .u8 1)))), (1, none, (.t 103)), (2, none, (.t 105))]⟩,
    ⟨none, none, .store (some 5) (.t 2) (.t 106)⟩])
  .ret)))))))))), [.l 2 (some 5)]⟩
def cf114 : CF := ⟨2, 6, 0, false, false, false, false, (.seq (.reg [⟨(some 4), none, .mov (.c (.p (.bool false)))⟩])
  (.seq (.seq (.regd [] [] [⟨(some 5), none, .mov (.t 0)⟩,
    ⟨(some 6), none, .nck (.t 5)⟩,
    ⟨(some 7), none, .fa 2 (.t 6)⟩,
    ⟨(some 8), none, .load none (.t 7)⟩,
    ⟨(some 9), none, .mov (.t 8)⟩,
    ⟨(some 10), (some (9, false)), .mov (.t 0)⟩,
    ⟨(some 11), (some (9, false)), .nck (.t 10)⟩,
    ⟨(some 12), (some (9, false)), .fa 0 (.t 11)⟩,
    ⟨(some 13), (some (9, false)), .load none (.t 12)⟩,
    ⟨(some 14), (some (9, false)), .len true (.t 13)⟩,
    ⟨(some 15), (some (9, false)), .mov (.t 0)⟩,
    ⟨(some 16), (some (9, false)), .nck (.t 15)⟩,
    ⟨(some 17), (some (9, false)), .fa 1 (.t 16)⟩,
    ⟨(some 18), (some (9, false)), .load none (.t 17)⟩,
    ⟨(some 19), (some (9, false)), .bin .sub (.t 14) (.t 18)⟩,
    ⟨(some 20), (some (9, false)), .mov (.t 1)⟩,
    ⟨(some 21), (some (9, false)), .len true (.t 20)⟩,
    ⟨(some 22), (some (9, false)), .bin .lss (.t 19) (.t 21)⟩,
    ⟨(some 23), none, .pick (.t 9) (.c (.p (.bool true))) (.t 22)⟩,
    ⟨(some 24), none, .mov (.t 23)⟩,
    ⟨(some 25), (some (24, false)), .mov (.t 0)⟩,
    ⟨(some 26), (some (24, false)), .nck (.t 25)⟩,
    ⟨(some 27), (some (24, false)), .fa 0 (.t 26)⟩,
    ⟨(some 28), (some (24, false)), .load none (.t 27)⟩,
    ⟨(some 29), (some (24, false)), .mov (.t 0)⟩,
    ⟨(some 30), (some (24, false)), .nck (.t 29)⟩,
    ⟨(some 31), (some (24, false)), .fa 1 (.t 30)⟩,
    ⟨(some 32), (some (24, false)), .load none (.t 31)⟩,
    ⟨(some 33), (some (24, false)), .mov (.t 0)⟩,
    ⟨(some 34), (some (24, false)), .nck (.t 33)⟩,
    ⟨(some 35), (some (24, false)), .fa 1 (.t 34)⟩,
    ⟨(some 36), (some (24, false)), .load none (.t 35)⟩,
    ⟨(some 37), (some (24, false)), .mov (.t 1)⟩,
    ⟨(some 38), (some (24, false)), .len true (.t 37)⟩,
    ⟨(some 39), (some (24, false)), .bin .add (.t 36) (.t 38)⟩,
    ⟨(some 40), (some (24, false)), .sstr (.t 28) (some (.t 32)) (some (.t 39))⟩,
    ⟨(some 41), (some (24, false)), .mov (.t 1)⟩,
    ⟨(some 42), (some (24, false)), .bin .neq (.t 40) (.t 41)⟩,
    ⟨(some 43), none, .pick (.t 24) (.c (.p (.bool true))) (.t 42)⟩] [])
  (.cond (.t 43) (.seq (.reg [⟨(some 4), none, .mov (.c (.p (.bool false)))⟩])
  .ret)
  .skip))
  (.seq (.reg [⟨(some 44), none, .mov (.t 0)⟩,
    ⟨(some 45), none, .nck (.t 44)⟩,
    ⟨(some 46), none, .fa 1 (.t 45)⟩,
    ⟨(some 47), none, .load none (.t 46)⟩,
    ⟨(some 48), none, .mov (.t 1)⟩,
    ⟨(some 49), none, .len true (.t 48)⟩,
    ⟨(some 50), none, .bin .add (.t 47) (.t 49)⟩,
    ⟨(some 51), none, .nck (.t 44)⟩,
    ⟨(some 52), none, .fa 1 (.t 51)⟩,
    ⟨none, none, .store none (.t 52) (.t 50)⟩])
  (.seq (.reg [⟨(some 4), none, .mov (.c (.p (.bool true)))⟩])
  .ret)))), [.t 4]⟩
def cf168 : CF := ⟨1, 7, 0, false, false, false, false, (.seq (.reg [⟨(some 2), none, .mov (.c (.p (.int .i64 0)))⟩])
  (.seq (.regd [] [] [⟨(some 5), none, .mov (.t 0)⟩,
    ⟨(some 6), none, .nck (.t 5)⟩,
    ⟨(some 7), none, .fa 1 (.t 6)⟩,
    ⟨(some 8), none, .load none (.t 7)⟩,
    ⟨(some 3), none, .mov (.c (.p (.int .i64 0)))⟩,
    ⟨(some 4), none, .mov (.t 8)⟩] [])
  (.seq (.block 0 (.loop (.seq (.seq (.regd [] [] [⟨(some 9), none, .mov (.t 0)⟩,
    ⟨(some 10), none, .nck (.t 9)⟩,
    ⟨(some 11), none, .fa 1 (.t 10)⟩,
    ⟨(some 12), none, .load none (.t 11)⟩,
    ⟨(some 13), none, .mov (.t 0)⟩,
    ⟨(some 14), none, .nck (.t 13)⟩,
    ⟨(some 15), none, .fa 0 (.t 14)⟩,
    ⟨(some 16), none, .load none (.t 15)⟩,
    ⟨(some 17), none, .len true (.t 16)⟩,
    ⟨(some 18), none, .bin .lss (.t 12) (.t 17)⟩,
    ⟨(some 19), none, .mov (.t 18)⟩,
    ⟨(some 20), (some (19, true)), .mov (.t 0)⟩,
    ⟨(some 21), (some (19, true)), .nck (.t 20)⟩,
    ⟨(some 22), (some (19, true)), .fa 0 (.t 21)⟩,
    ⟨(some 23), (some (19, true)), .load none (.t 22)⟩,
    ⟨(some 24), (some (19, true)), .mov (.t 0)⟩,
    ⟨(some 25), (some (19, true)), .nck (.t 24)⟩,
    ⟨(some 26), (some (19, true)), .fa 1 (.t 25)⟩,
    ⟨(some 27), (some (19, true)), .load none (.t 26)⟩,
    ⟨(some 28), (some (19, true)), .idx (.t 23) (.t 27)⟩,
    ⟨(some 29), (some (19, true)), .bin .geq (.t 28) (.c (.p (.int .u8 48)))⟩,
    ⟨(some 30), none, .pick (.t 19) (.t 29) (.c (.p (.bool false)))⟩,
    ⟨(some 31), none, .mov (.t 30)⟩,
    ⟨(some 32), (some (31, true)), .mov (.t 0)⟩,
    ⟨(some 33), (some (31, true)), .nck (.t 32)⟩,
    ⟨(some 34), (some (31, true)), .fa 0 (.t 33)⟩,
    ⟨(some 35), (some (31, true)), .load none (.t 34)⟩,
    ⟨(some 36), (some (31, true)), .mov (.t 0)⟩,
    ⟨(some 37), (some (31, true)), .nck (.t 36)⟩,
    ⟨(some 38), (some (31, true)), .fa 1 (.t 37)⟩,
    ⟨(some 39), (some (31, true)), .load none (.t 38)⟩,
    ⟨(some 40), (some (31, true)), .idx (.t 35) (.t 39)⟩,
    ⟨(some 41), (some (31, true)), .bin .leq (.t 40) (.c (.p (.int .u8 57)))⟩,
    ⟨(some 42), none, .pick (.t 31) (.t 41) (.c (.p (.bool false)))⟩,
    ⟨(some 43), none, .mov (.t 42)⟩,
    ⟨(some 44), (some (43, true)), .mov (.t 3)⟩,
    ⟨(some 45), (some (43, true)), .bin .leq (.t 44) (.c (.p (.int .i64 360000)))⟩,
    ⟨(some 46), none, .pick (.t 43) (.t 45) (.c (.p (.bool false)))⟩] [])
  (.cond (.t 46) .skip
  (.exit 0)))
  (.block 1 (.seq (.regd [] [] [⟨(some 47), none, .mov (.t 3)⟩,
    ⟨(some 48), none, .bin .mul (.c (.p (.int .i64 10))) (.t 47)⟩,
    ⟨(some 49), none, .mov (.t 0)⟩,
    ⟨(some 50), none, .nck (.t 49)⟩,
    ⟨(some 51), none, .fa 0 (.t 50)⟩,
    ⟨(some 52), none, .load none (.t 51)⟩,
    ⟨(some 53), none, .mov (.t 0)⟩,
    ⟨(some 54), none, .nck (.t 53)⟩,
    ⟨(some 55), none, .fa 1 (.t 54)⟩,
    ⟨(some 56), none, .load none (.t 55)⟩,
    ⟨(some 57), none, .idx (.t 52) (.t 56)⟩,
    ⟨(some 58), none, .bin .sub (.t 57) (.c (.p (.int .u8 48)))⟩,
    ⟨(some 59), none, .cvt .i64 (.t 58)⟩,
    ⟨(some 60), none, .bin .add (.t 48) (.t 59)⟩,
    ⟨(some 3), none, .mov (.t 60)⟩] [])
  (.reg [⟨(some 61), none, .mov (.t 0)⟩,
    ⟨(some 62), none, .nck (.t 61)⟩,
    ⟨(some 63), none, .fa 1 (.t 62)⟩,
    ⟨(some 64), none, .load none (.t 63)⟩,
    ⟨(some 65), none, .bin .add (.t 64) (.c (.p (.int .i64 1)))⟩,
    ⟨(some 66), none, .nck (.t 61)⟩,
    ⟨(some 67), none, .fa 1 (.t 66)⟩,
    ⟨none, none, .store none (.t 67) (.t 65)⟩]))))))
  (.seq (.seq (.reg [⟨(some 68), none, .mov (.t 0)⟩,
    ⟨(some 69), none, .nck (.t 68)⟩,
    ⟨(some 70), none, .fa 1 (.t 69)⟩,
    ⟨(some 71), none, .load none (.t 70)⟩,
    ⟨(some 72), none, .mov (.t 4)⟩,
    ⟨(some 73), none, .bin .eql (.t 71) (.t 72)⟩])
  (.cond (.t 73) (.reg [⟨(some 74), none, .mov (.t 0)⟩,
    ⟨(some 75), none, .nck (.t 74)⟩,
    ⟨(some 76), none, .fa 2 (.t 75)⟩,
    ⟨none, none, .store none (.t 76) (.c (.p (.bool true)))⟩])
  .skip))
  (.seq (.reg [⟨(some 77), none, .mov (.t 3)⟩,
    ⟨(some 2), none, .mov (.t 77)⟩])
  .ret))))), [.t 2]⟩
def cf169 : CF := ⟨1, 4, 0, false, false, false, false, (.seq (.reg [⟨(some 2), none, .mov (.c (.p (.int .i64 0)))⟩])
  (.seq (.seq (.reg [⟨(some 3), none, .mov (.t 0)⟩,
    ⟨(some 4), none, .call 114 [(.t 3), (.c (.p (.str ⟨#[47]⟩)))]⟩,
    ⟨(some 5), none, .not (.t 4)⟩])
  (.cond (.t 5) (.reg [⟨(some 6), none, .mov (.t 0)⟩,
    ⟨(some 7), none, .nck (.t 6)⟩,
    ⟨(some 8), none, .fa 2 (.t 7)⟩,
    ⟨none, none, .store none (.t 8) (.c (.p (.bool true)))⟩])
  .skip))
  (.seq (.reg [⟨(some 9), none, .mov (.t 0)⟩,
    ⟨(some 10), none, .call 168 [(.t 9)]⟩,
    ⟨(some 2), none, .mov (.t 10)⟩])
  .ret))), [.t 2]⟩
def cf46 : CF := ⟨2, 5, 2, false, false, false, false, (.seq (.reg [⟨(some 2), none, .box 0 (some 4) (.t 0)⟩,
    ⟨(some 3), none, .box 1 (some 5) (.t 1)⟩,
    ⟨(some 4), none, .mov (.c (.p (.int .i64 0)))⟩])
  (.seq (.seq (.reg [⟨(some 6), none, .load (some 4) (.t 2)⟩,
    ⟨(some 7), none, .call 62 [(.t 6)]⟩,
    ⟨(some 5), none, .mov (.t 7)⟩])
  (.seq (.reg [⟨(some 8), none, .mov (.t 5)⟩,
    ⟨(some 9), none, .bin .neq (.t 8) (.c (.p (.int .i64 0)))⟩])
  (.cond (.t 9) (.seq (.reg [⟨(some 10), none, .mov (.t 5)⟩,
    ⟨(some 4), none, .mov (.t 10)⟩])
  .ret)
  .skip)))
  (.seq (.seq (.reg [⟨(some 11), none, .load (some 5) (.t 3)⟩,
    ⟨(some 12), none, .call 32 [(.t 11)]⟩,
    ⟨(some 13), none, .bin .gtr (.t 12) (.c (.p (.int .i64 600)))⟩])
  (.cond (.t 13) (.seq (.reg [⟨(some 4), none, .mov (.c (.p (.int .i64 5)))⟩])
  .ret)
  .skip))
  (.seq (.seq (.regd [] [] [⟨(some 14), none, .load (some 5) (.t 3)⟩,
    ⟨(some 15), none, .fa 1 (.t 2)⟩,
    ⟨(some 16), none, .load (some 2) (.t 15)⟩,
    ⟨(some 17), none, .load (some 4) (.t 2)⟩,
    ⟨(some 18), none, .call 69 [(.t 17)]⟩,
    ⟨(some 19), none, .call 68 [(.t 14), (.t 16), (.t 18), (.c (.p (.int .i64 0)))]⟩,
    ⟨(some 20), none, .not (.t 19)⟩] [⟨0, (some 5), (.t 3), [(4, 71)]⟩, ⟨2, (some 2), (.t 15), [(4, 71)]⟩])
  (.cond (.t 20) (.seq (.reg [⟨(some 4), none, .mov (.c (.p (.int .i64 4)))⟩])
  .ret)
  .skip))
  (.seq (.reg [⟨(some 4), none, .mov (.c (.p (.int .i64 0)))⟩])
  .ret))))), [.t 4]⟩
def cf32 : CF := ⟨1, 5, 1, false, false, false, false, (.seq (.reg [⟨(some 1), none, .box 0 (some 5) (.t 0)⟩,
    ⟨(some 2), none, .mov (.c (.p (.int .i64 0)))⟩])
  (.seq (.reg [⟨(some 3), none, .mov (.c (.p (.int .i64 1)))⟩])
  (.seq (.seq (.reg [⟨(some 4), none, .mov (.c (.p (.int .i64 0)))⟩])
  (.block 0 (.loop (.seq (.seq (.reg [⟨(some 5), none, .mov (.t 4)⟩,
    ⟨(some 6), none, .fa 4 (.t 1)⟩,
    ⟨(some 7), none, .load none (.t 6)⟩,
    ⟨(some 8), none, .len false (.t 7)⟩,
    ⟨(some 9), none, .bin .lss (.t 5) (.t 8)⟩,
    ⟨(some 10), none, .mov (.t 9)⟩,
    ⟨(some 11), (some (10, true)), .mov (.t 3)⟩,
    ⟨(some 12), (some (10, true)), .bin .leq (.t 11) (.c (.p (.int .i64 600)))⟩,
    ⟨(some 13), none, .pick (.t 10) (.t 12) (.c (.p (.bool false)))⟩])
  (.cond (.t 13) .skip
  (.exit 0)))
  (.seq (.block 1 (.reg [⟨(some 16), none, .mov (.t 3)⟩,
    ⟨(some 17), none, .fa 4 (.t 1)⟩,
    ⟨(some 18), none, .load none (.t 17)⟩,
    ⟨(some 19), none, .mov (.t 4)⟩,
    ⟨(some 20), none, .ia 5 (.t 18) (.t 19)⟩,
    ⟨(some 21), none, .load (some 5) (.t 20)⟩,
    ⟨(some 22), none, .call 32 [(.t 21)]⟩,
    ⟨(some 23), none, .bin .add (.t 16) (.t 22)⟩,
    ⟨(some 3), none, .mov (.t 23)⟩]))
  (.reg [⟨(some 14), none, .mov (.t 4)⟩,
    ⟨(some 15), none, .bin .add (.t 14) (.c (.p (.int .i64 1)))⟩,
    ⟨(some 4), none, .mov (.t 15)⟩]))))))
  (.seq (.reg [⟨(some 24), none, .mov (.t 3)⟩,
    ⟨(some 25), none, .minmax false (.t 24) (.c (.p (.int .i64 601)))⟩,
    ⟨(some 2), none, .mov (.t 25)⟩])
  .ret)))), [.t 2]⟩
def cf69 : CF := ⟨1, 5, 1, true, false, false, false, (.seq (.reg [⟨(some 1), none, .box 0 (some 4) (.t 0)⟩,
    ⟨(some 2), none, .mov (.c (.sl 0 [] .full))⟩])
  (.seq (.reg [⟨(some 3), none, .mov (.c (.sl 0 [] .full))⟩])
  (.seq (.seq (.reg [⟨(some 4), none, .mov (.c (.p (.int .i64 0)))⟩])
  (.block 0 (.loop (.seq (.seq (.reg [⟨(some 5), none, .mov (.t 4)⟩,
    ⟨(some 6), none, .fa 0 (.t 1)⟩,
    ⟨(some 7), none, .load none (.t 6)⟩,
    ⟨(some 8), none, .len false (.t 7)⟩,
    ⟨(some 9), none, .bin .lss (.t 5) (.t 8)⟩])
  (.cond (.t 9) .skip
  (.exit 0)))
  (.seq (.block 1 (.reg [⟨(some 12), none, .mov (.t 3)⟩,
    ⟨(some 13), none, .fa 0 (.t 1)⟩,
    ⟨(some 14), none, .load none (.t 13)⟩,
    ⟨(some 15), none, .mov (.t 4)⟩,
    ⟨(some 16), none, .ia 3 (.t 14) (.t 15)⟩,
    ⟨(some 17), none, .load (some 3) (.t 16)⟩,
    ⟨(some 18), none, .build [(.sl 0 [] .full), (.p (.bool false)), (.p (.int .i64 0)), (.p (.bool false)), (.p (.bool false))] [(0, (some 3), (.t 17))]⟩,
    ⟨(some 19), none, .mks 1 [(.sl 0 []), (.bool false), (.int .i64 0), (.bool false), (.bool false)] [(0, (some 5), (.t 18))]⟩,
    ⟨(some 20), none, .app 5 48 (.t 12) (.t 19)⟩,
    ⟨(some 3), none, .mov (.t 20)⟩]))
  (.reg [⟨(some 10), none, .mov (.t 4)⟩,
    ⟨(some 11), none, .bin .add (.t 10) (.c (.p (.int .i64 1)))⟩,
    ⟨(some 4), none, .mov (.t 11)⟩]))))))
  (.seq (.reg [⟨(some 21), none, .mov (.t 3)⟩,
    ⟨(some 2), none, .mov (.t 21)⟩])
  .ret)))), [.t 2]⟩
def cf68 : CF := ⟨4, 7, 2, false, false, false, false, (.seq (.reg [⟨(some 4), none, .box 0 (some 5) (.t 0)⟩,
    ⟨(some 5), none, .box 1 (some 2) (.t 1)⟩,
    ⟨(some 8), none, .mov (.c (.p (.bool false)))⟩])
  (.seq (.block 0 (.seq (.reg [⟨(some 10), none, .fa 0 (.t 5)⟩,
    ⟨(some 11), none, .load none (.t 10)⟩,
    ⟨(some 12), none, .not (.t 11)⟩,
    ⟨(some 9), none, .mov (.t 12)⟩])
  (.cond (.t 9) (.seq (.regd [] [] [⟨(some 13), none, .fa 0 (.t 4)⟩,
    ⟨(some 14), none, .load none (.t 13)⟩,
    ⟨(some 15), none, .bin .neq (.t 14) (.c (.p (.int .u8 16)))⟩,
    ⟨(some 16), none, .mov (.t 15)⟩,
    ⟨(some 17), (some (16, true)), .fa 0 (.t 4)⟩,
    ⟨(some 18), (some (16, true)), .load none (.t 17)⟩,
    ⟨(some 19), (some (16, true)), .bin .neq (.t 18) (.c (.p (.int .u8 17)))⟩,
    ⟨(some 20), none, .pick (.t 16) (.t 19) (.c (.p (.bool false)))⟩,
    ⟨(some 21), none, .mov (.t 20)⟩,
    ⟨(some 22), (some (21, true)), .load (some 5) (.t 4)⟩,
    ⟨(some 23), (some (21, true)), .mov (.t 2)⟩,
    ⟨(some 24), (some (21, true)), .mov (.t 3)⟩,
    ⟨(some 25), (some (21, true)), .call 116 [(.t 22), (.t 23), (.t 24)]⟩,
    ⟨(some 26), (some (21, true)), .fa 1 (.t 5)⟩,
    ⟨(some 27), (some (21, true)), .load none (.t 26)⟩,
    ⟨(some 28), (some (21, true)), .bin .eql (.t 25) (.t 27)⟩,
    ⟨(some 29), none, .pick (.t 21) (.t 28) (.c (.p (.bool false)))⟩,
    ⟨(some 8), none, .mov (.t 29)⟩] [⟨14, none, (.t 26), [(12, 118)]⟩])
  .ret)
  (.seq (.reg [⟨(some 31), none, .load (some 5) (.t 4)⟩,
    ⟨(some 32), none, .call 117 [(.t 31)]⟩,
    ⟨(some 33), none, .not (.t 32)⟩,
    ⟨(some 30), none, .mov (.t 33)⟩])
  (.cond (.t 30) (.seq (.reg [⟨(some 8), none, .mov (.c (.p (.bool false)))⟩])
  .ret)
  (.seq (.reg [⟨(some 35), none, .fa 0 (.t 4)⟩,
    ⟨(some 36), none, .load none (.t 35)⟩,
    ⟨(some 37), none, .bin .eql (.t 36) (.c (.p (.int .u8 16)))⟩,
    ⟨(some 34), none, .mov (.t 37)⟩])
  (.cond (.t 34) (.seq (.reg [⟨(some 38), none, .fa 4 (.t 4)⟩,
    ⟨(some 39), none, .load none (.t 38)⟩,
    ⟨(some 40), none, .len false (.t 39)⟩,
    ⟨(some 41), none, .bin .eql (.t 40) (.c (.p (.int .i64 0)))⟩,
    ⟨(some 42), none, .mov (.t 41)⟩,
    ⟨(some 43), (some (42, true)), .mov (.t 2)⟩,
    ⟨(some 44), (some (42, true)), .fa 3 (.t 4)⟩,
    ⟨(some 45), (some (42, true)), .load none (.t 44)⟩,
    ⟨(some 46), (some (42, true)), .fa 1 (.t 5)⟩,
    ⟨(some 47), (some (42, true)), .load none (.t 46)⟩,
    ⟨(some 48), (some (42, true)), .call 118 [(.t 43), (.t 45), (.t 47)]⟩,
    ⟨(some 49), none, .pick (.t 42) (.t 48) (.c (.p (.bool false)))⟩,
    ⟨(some 8), none, .mov (.t 49)⟩])
  .ret)
  (.seq (.reg [⟨(some 51), none, .fa 0 (.t 4)⟩,
    ⟨(some 52), none, .load none (.t 51)⟩,
    ⟨(some 53), none, .bin .eql (.t 52) (.c (.p (.int .u8 17)))⟩,
    ⟨(some 54), none, .mov (.t 53)⟩,
    ⟨(some 55), (some (54, true)), .fa 4 (.t 4)⟩,
    ⟨(some 56), (some (54, true)), .load none (.t 55)⟩,
    ⟨(some 57), (some (54, true)), .len false (.t 56)⟩,
    ⟨(some 58), (some (54, true)), .bin .eql (.t 57) (.c (.p (.int .i64 2)))⟩,
    ⟨(some 59), none, .pick (.t 54) (.t 58) (.c (.p (.bool false)))⟩,
    ⟨(some 50), none, .mov (.t 59)⟩])
  (.cond (.t 50) (.seq (.regd [] [] [⟨(some 60), none, .fa 4 (.t 4)⟩,
    ⟨(some 61), none, .load none (.t 60)⟩,
    ⟨(some 62), none, .ia 5 (.t 61) (.c (.p (.int .i64 0)))⟩,
    ⟨(some 63), none, .load (some 5) (.t 62)⟩,
    ⟨(some 64), none, .mov (.t 2)⟩,
    ⟨(some 65), none, .mov (.t 3)⟩,
    ⟨(some 66), none, .call 116 [(.t 63), (.t 64), (.t 65)]⟩,
    ⟨(some 67), none, .fa 1 (.t 5)⟩,
    ⟨(some 68), none, .load none (.t 67)⟩,
    ⟨(some 69), none, .bin .eql (.t 66) (.t 68)⟩,
    ⟨(some 70), none, .mov (.t 69)⟩,
    ⟨(some 71), (some (70, true)), .fa 4 (.t 4)⟩,
    ⟨(some 72), (some (70, true)), .load none (.t 71)⟩,
    ⟨(some 73), (some (70, true)), .ia 5 (.t 72) (.c (.p (.int .i64 1)))⟩,
    ⟨(some 74), (some (70, true)), .load (some 5) (.t 73)⟩,
    ⟨(some 75), (some (70, true)), .mov (.t 2)⟩,
    ⟨(some 76), (some (70, true)), .fa 1 (.t 5)⟩,
    ⟨(some 77), (some (70, true)), .load none (.t 76)⟩,
    ⟨(some 78), (some (70, true)), .call 120 [(.t 77)]⟩,
    ⟨(some 79), (some (70, true)), .call 119 [(.t 75), (.t 78)]⟩,
    ⟨(some 80), (some (70, true)), .mov (.t 3)⟩,
    ⟨(some 81), (some (70, true)), .call 116 [(.t 74), (.t 79), (.t 80)]⟩,
    ⟨(some 82), (some (70, true)), .bin .eql (.t 81) (.c (.p (.int .i64 1)))⟩,
    ⟨(some 83), none, .pick (.t 70) (.t 82) (.c (.p (.bool false)))⟩,
    ⟨(some 8), none, .mov (.t 83)⟩] [⟨8, none, (.t 67), [(6, 118)]⟩, ⟨12, none, (.t 71), [(18, 122), (19, 121)]⟩, ⟨14, (some 5), (.t 73), [(18, 122), (19, 121)]⟩])
  .ret)
  .skip)))))))))
  (.seq (.reg [⟨(some 8), none, .mov (.c (.p (.bool false)))⟩])
  .ret))), [.t 8]⟩
def cf116 : CF := ⟨3, 8, 1, false, false, false, false, (.seq (.reg [⟨(some 3), none, .box 0 (some 5) (.t 0)⟩,
    ⟨(some 6), none, .mov (.c (.p (.int .i64 0)))⟩])
  (.seq (.seq (.regd [] [] [⟨(some 12), none, .load (some 5) (.t 3)⟩,
    ⟨(some 13), none, .call 117 [(.t 12)]⟩,
    ⟨(some 14), none, .not (.t 13)⟩,
    ⟨(some 15), none, .mov (.t 14)⟩,
    ⟨(some 16), (some (15, false)), .fa 0 (.t 3)⟩,
    ⟨(some 17), (some (15, false)), .load none (.t 16)⟩,
    ⟨(some 18), (some (15, false)), .call 170 [(.t 17)]⟩,
    ⟨(some 19), (some (15, false)), .bin .geq (.t 18) (.c (.p (.int .i64 0)))⟩,
    ⟨(some 20), (some (15, false)), .mov (.t 19)⟩,
    ⟨(some 21), (some (20, true)), .fa 0 (.t 3)⟩,
    ⟨(some 22), (some (20, true)), .load none (.t 21)⟩,
    ⟨(some 23), (some (20, true)), .call 170 [(.t 22)]⟩,
    ⟨(some 24), (some (20, true)), .fa 4 (.t 3)⟩,
    ⟨(some 25), (some (20, true)), .load none (.t 24)⟩,
    ⟨(some 26), (some (20, true)), .len false (.t 25)⟩,
    ⟨(some 27), (some (20, true)), .bin .neq (.t 23) (.t 26)⟩,
    ⟨(some 28), (some (15, false)), .pick (.t 20) (.t 27) (.c (.p (.bool false)))⟩,
    ⟨(some 29), none, .pick (.t 15) (.c (.p (.bool true))) (.t 28)⟩] [⟨13, none, (.t 24), [(11, 172)]⟩])
  (.cond (.t 29) (.seq (.reg [⟨(some 6), none, .mov (.c (.p (.int .i64 0)))⟩])
  .ret)
  .skip))
  (.seq (.reg [⟨(some 7), none, .mov (.c (.sl 0 [] .full))⟩])
  (.seq (.seq (.reg [⟨(some 30), none, .fa 0 (.t 3)⟩,
    ⟨(some 31), none, .load none (.t 30)⟩,
    ⟨(some 32), none, .bin .neq (.t 31) (.c (.p (.int .u8 2)))⟩,
    ⟨(some 33), none, .mov (.t 32)⟩,
    ⟨(some 34), (some (33, true)), .fa 0 (.t 3)⟩,
    ⟨(some 35), (some (33, true)), .load none (.t 34)⟩,
    ⟨(some 36), (some (33, true)), .bin .neq (.t 35) (.c (.p (.int .u8 17)))⟩,
    ⟨(some 37), none, .pick (.t 33) (.t 36) (.c (.p (.bool false)))⟩])
  (.cond (.t 37) (.seq (.reg [⟨(some 8), none, .mov (.c (.p (.int .i64 0)))⟩])
  (.block 0 (.loop (.seq (.seq (.reg [⟨(some 38), none, .mov (.t 8)⟩,
    ⟨(some 39), none, .fa 4 (.t 3)⟩,
    ⟨(some 40), none, .load none (.t 39)⟩,
    ⟨(some 41), none, .len false (.t 40)⟩,
    ⟨(some 42), none, .bin .lss (.t 38) (.t 41)⟩])
  (.cond (.t 42) .skip
  (.exit 0)))
  (.seq (.block 1 (.seq (.reg [⟨(some 45), none, .mov (.t 1)⟩,
    ⟨(some 46), none, .mov (.t 2)⟩,
    ⟨(some 9), none, .mov (.t 45)⟩,
    ⟨(some 10), none, .mov (.t 46)⟩])
  (.seq (.seq (.reg [⟨(some 47), none, .fa 0 (.t 3)⟩,
    ⟨(some 48), none, .load none (.t 47)⟩,
    ⟨(some 49), none, .bin .eql (.t 48) (.c (.p (.int .u8 10)))⟩])
  (.cond (.t 49) (.reg [⟨(some 50), none, .mov (.t 1)⟩,
    ⟨(some 51), none, .fa 1 (.t 3)⟩,
    ⟨(some 52), none, .load none (.t 51)⟩,
    ⟨(some 53), none, .call 122 [(.t 52)]⟩,
    ⟨(some 54), none, .call 119 [(.t 50), (.t 53)]⟩,
    ⟨(some 9), none, .mov (.t 54)⟩])
  .skip))
  (.seq (.seq (.reg [⟨(some 55), none, .fa 0 (.t 3)⟩,
    ⟨(some 56), none, .load none (.t 55)⟩,
    ⟨(some 57), none, .bin .eql (.t 56) (.c (.p (.int .u8 11)))⟩,
    ⟨(some 58), none, .mov (.t 57)⟩,
    ⟨(some 59), (some (58, true)), .mov (.t 8)⟩,
    ⟨(some 60), (some (58, true)), .bin .eql (.t 59) (.c (.p (.int .i64 0)))⟩,
    ⟨(some 61), none, .pick (.t 58) (.t 60) (.c (.p (.bool false)))⟩])
  (.cond (.t 61) (.reg [⟨(some 62), none, .mov (.t 10)⟩,
    ⟨(some 63), none, .bin .add (.t 62) (.c (.p (.int .i64 1)))⟩,
    ⟨(some 10), none, .mov (.t 63)⟩])
  .skip))
  (.seq (.reg [⟨(some 64), none, .fa 4 (.t 3)⟩,
    ⟨(some 65), none, .load none (.t 64)⟩,
    ⟨(some 66), none, .mov (.t 8)⟩,
    ⟨(some 67), none, .ia 5 (.t 65) (.t 66)⟩,
    ⟨(some 68), none, .load (some 5) (.t 67)⟩,
    ⟨(some 69), none, .mov (.t 9)⟩,
    ⟨(some 70), none, .mov (.t 10)⟩,
    ⟨(some 71), none, .call 116 [(.t 68), (.t 69), (.t 70)]⟩,
    ⟨(some 11), none, .mov (.t 71)⟩])
  (.seq (.seq (.reg [⟨(some 72), none, .mov (.t 11)⟩,
    ⟨(some 73), none, .bin .eql (.t 72) (.c (.p (.int .i64 0)))⟩])
  (.cond (.t 73) (.seq (.reg [⟨(some 6), none, .mov (.c (.p (.int .i64 0)))⟩])
  .ret)
  .skip))
  (.reg [⟨(some 74), none, .mov (.t 7)⟩,
    ⟨(some 75), none, .mov (.t 11)⟩,
    ⟨(some 76), none, .mks 1 [(.int .i64 0)] [(0, none, (.t 75))]⟩,
    ⟨(some 77), none, .app 1 8 (.t 74) (.t 76)⟩,
    ⟨(some 7), none, .mov (.t 77)⟩])))))))
  (.reg [⟨(some 43), none, .mov (.t 8)⟩,
    ⟨(some 44), none, .bin .add (.t 43) (.c (.p (.int .i64 1)))⟩,
    ⟨(some 8), none, .mov (.t 44)⟩]))))))
  .skip))
  (.seq (.seq (.reg [⟨(some 78), none, .fa 0 (.t 3)⟩,
    ⟨(some 79), none, .load none (.t 78)⟩])
  (.block 2 (.seq (.reg [⟨(some 85), none, .bin .eql (.t 79) (.c (.p (.int .u8 1)))⟩,
    ⟨(some 84), none, .mov (.t 85)⟩])
  (.cond (.t 84) (.seq (.reg [⟨(some 86), none, .fa 2 (.t 3)⟩,
    ⟨(some 87), none, .load none (.t 86)⟩,
    ⟨(some 88), none, .call 171 [(.t 87)]⟩,
    ⟨(some 89), none, .mov (.t 88)⟩,
    ⟨(some 90), (some (89, true)), .fa 1 (.t 3)⟩,
    ⟨(some 91), (some (89, true)), .load none (.t 90)⟩,
    ⟨(some 92), (some (89, true)), .bin .geq (.t 91) (.c (.p (.int .i64 0)))⟩,
    ⟨(some 93), none, .pick (.t 89) (.t 92) (.c (.p (.bool false)))⟩,
    ⟨(some 94), none, .mov (.t 93)⟩,
    ⟨(some 95), (some (94, true)), .fa 1 (.t 3)⟩,
    ⟨(some 96), (some (94, true)), .load none (.t 95)⟩,
    ⟨(some 97), (some (94, true)), .fa 2 (.t 3)⟩,
    ⟨(some 98), (some (94, true)), .load none (.t 97)⟩,
    ⟨(some 99), (some (94, true)), .bin .lss (.t 96) (.t 98)⟩,
    ⟨(some 100), none, .pick (.t 94) (.t 99) (.c (.p (.bool false)))⟩])
  (.cond (.t 100) (.seq (.reg [⟨(some 101), none, .fa 2 (.t 3)⟩,
    ⟨(some 102), none, .load none (.t 101)⟩,
    ⟨(some 6), none, .mov (.t 102)⟩])
  .ret)
  .skip))
  (.seq (.reg [⟨(some 104), none, .bin .eql (.t 79) (.c (.p (.int .u8 2)))⟩,
    ⟨(some 103), none, .mov (.t 104)⟩])
  (.cond (.t 103) (.seq (.reg [⟨(some 105), none, .load (some 5) (.t 3)⟩,
    ⟨(some 106), none, .mov (.t 1)⟩,
    ⟨(some 107), none, .mov (.t 2)⟩,
    ⟨(some 108), none, .call 172 [(.t 105), (.t 106), (.t 107)]⟩,
    ⟨(some 6), none, .mov (.t 108)⟩])
  .ret)
  (.seq (.reg [⟨(some 110), none, .bin .eql (.t 79) (.c (.p (.int .u8 3)))⟩,
    ⟨(some 109), none, .mov (.t 110)⟩])
  (.cond (.t 109) (.seq (.reg [⟨(some 111), none, .mov (.t 1)⟩,
    ⟨(some 112), none, .fa 3 (.t 3)⟩,
    ⟨(some 113), none, .load none (.t 112)⟩,
    ⟨(some 114), none, .call 118 [(.t 111), (.t 113), (.c (.p (.int .i64 0)))]⟩])
  (.cond (.t 114) (.seq (.reg [⟨(some 115), none, .mov (.t 1)⟩,
    ⟨(some 116), none, .fa 3 (.t 3)⟩,
    ⟨(some 117), none, .load none (.t 116)⟩,
    ⟨(some 118), none, .bin .sub (.t 117) (.c (.p (.int .i64 1)))⟩,
    ⟨(some 119), none, .ia 5 (.t 115) (.t 118)⟩,
    ⟨(some 120), none, .fa 0 (.t 119)⟩,
    ⟨(some 121), none, .fa 1 (.t 120)⟩,
    ⟨(some 122), none, .fa 1 (.t 121)⟩,
    ⟨(some 123), none, .load none (.t 122)⟩,
    ⟨(some 6), none, .mov (.t 123)⟩])
  .ret)
  .skip))
  (.seq (.reg [⟨(some 125), none, .bin .eql (.t 79) (.c (.p (.int .u8 4)))⟩,
    ⟨(some 124), none, .mov (.t 125)⟩])
  (.cond (.t 124) (.seq (.regd [] [] [⟨(some 126), none, .mov (.t 1)⟩,
    ⟨(some 127), none, .fa 3 (.t 3)⟩,
    ⟨(some 128), none, .load none (.t 127)⟩,
    ⟨(some 129), none, .mov (.t 7)⟩,
    ⟨(some 130), none, .ia 1 (.t 129) (.c (.p (.int .i64 0)))⟩,
    ⟨(some 131), none, .load none (.t 130)⟩,
    ⟨(some 132), none, .call 118 [(.t 126), (.t 128), (.t 131)]⟩] [])
  (.cond (.t 132) (.seq (.reg [⟨(some 6), none, .mov (.c (.p (.int .i64 1)))⟩])
  .ret)
  .skip))
  (.seq (.reg [⟨(some 134), none, .bin .eql (.t 79) (.c (.p (.int .u8 5)))⟩,
    ⟨(some 133), none, .mov (.t 134)⟩])
  (.cond (.t 133) (.seq (.seq (.regd [] [] [⟨(some 135), none, .fa 1 (.t 3)⟩,
    ⟨(some 136), none, .load none (.t 135)⟩,
    ⟨(some 137), none, .bin .lss (.t 136) (.c (.p (.int .i64 1)))⟩,
    ⟨(some 138), none, .mov (.t 137)⟩,
    ⟨(some 139), (some (138, false)), .fa 1 (.t 3)⟩,
    ⟨(some 140), (some (138, false)), .load none (.t 139)⟩,
    ⟨(some 141), (some (138, false)), .bin .gtr (.t 140) (.c (.p (.int .i64 5)))⟩,
    ⟨(some 142), none, .pick (.t 138) (.c (.p (.bool true))) (.t 141)⟩,
    ⟨(some 143), none, .mov (.t 142)⟩,
    ⟨(some 144), (some (143, false)), .fa 2 (.t 3)⟩,
    ⟨(some 145), (some (143, false)), .load none (.t 144)⟩,
    ⟨(some 146), (some (143, false)), .call 171 [(.t 145)]⟩,
    ⟨(some 147), (some (143, false)), .not (.t 146)⟩,
    ⟨(some 148), none, .pick (.t 143) (.c (.p (.bool true))) (.t 147)⟩,
    ⟨(some 149), none, .mov (.t 148)⟩,
    ⟨(some 150), (some (149, false)), .mov (.t 7)⟩,
    ⟨(some 151), (some (149, false)), .ia 1 (.t 150) (.c (.p (.int .i64 0)))⟩,
    ⟨(some 152), (some (149, false)), .load none (.t 151)⟩,
    ⟨(some 153), (some (149, false)), .fa 2 (.t 3)⟩,
    ⟨(some 154), (some (149, false)), .load none (.t 153)⟩,
    ⟨(some 155), (some (149, false)), .bin .neq (.t 152) (.t 154)⟩,
    ⟨(some 156), none, .pick (.t 149) (.c (.p (.bool true))) (.t 155)⟩,
    ⟨(some 157), none, .mov (.t 156)⟩,
    ⟨(some 158), (some (157, false)), .mov (.t 7)⟩,
    ⟨(some 159), (some (157, false)), .ia 1 (.t 158) (.c (.p (.int .i64 1)))⟩,
    ⟨(some 160), (some (157, false)), .load none (.t 159)⟩,
    ⟨(some 161), (some (157, false)), .fa 2 (.t 3)⟩,
    ⟨(some 162), (some (157, false)), .load none (.t 161)⟩,
    ⟨(some 163), (some (157, false)), .bin .neq (.t 160) (.t 162)⟩,
    ⟨(some 164), none, .pick (.t 157) (.c (.p (.bool true))) (.t 163)⟩] [])
  (.cond (.t 164) (.seq (.reg [⟨(some 6), none, .mov (.c (.p (.int .i64 0)))⟩])
  .ret)
  .skip))
  (.seq (.seq (.reg [⟨(some 165), none, .fa 1 (.t 3)⟩,
    ⟨(some 166), none, .load none (.t 165)⟩,
    ⟨(some 167), none, .bin .geq (.t 166) (.c (.p (.int .i64 4)))⟩])
  (.cond (.t 167) (.seq (.reg [⟨(some 6), none, .mov (.c (.p (.int .i64 2)))⟩])
  .ret)
  .skip))
  (.seq (.reg [⟨(some 168), none, .fa 2 (.t 3)⟩,
    ⟨(some 169), none, .load none (.t 168)⟩,
    ⟨(some 6), none, .mov (.t 169)⟩])
  .ret)))
  (.seq (.reg [⟨(some 171), none, .bin .eql (.t 79) (.c (.p (.int .u8 18)))⟩,
    ⟨(some 170), none, .mov (.t 171)⟩])
  (.cond (.t 170) (.seq (.regd [] [] [⟨(some 172), none, .mov (.t 1)⟩,
    ⟨(some 173), none, .fa 3 (.t 3)⟩,
    ⟨(some 174), none, .load none (.t 173)⟩,
    ⟨(some 175), none, .call 118 [(.t 172), (.t 174), (.c (.p (.int .i64 0)))]⟩,
    ⟨(some 176), none, .mov (.t 175)⟩,
    ⟨(some 177), (some (176, true)), .mov (.t 1)⟩,
    ⟨(some 178), (some (176, true)), .fa 3 (.t 3)⟩,
    ⟨(some 179), (some (176, true)), .load none (.t 178)⟩,
    ⟨(some 180), (some (176, true)), .bin .sub (.t 179) (.c (.p (.int .i64 1)))⟩,
    ⟨(some 181), (some (176, true)), .ia 5 (.t 177) (.t 180)⟩,
    ⟨(some 182), (some (176, true)), .fa 4 (.t 181)⟩,
    ⟨(some 183), (some (176, true)), .load none (.t 182)⟩,
    ⟨(some 184), none, .pick (.t 176) (.t 183) (.c (.p (.bool false)))⟩,
    ⟨(some 185), none, .mov (.t 184)⟩,
    ⟨(some 186), (some (185, true)), .fa 1 (.t 3)⟩,
    ⟨(some 187), (some (185, true)), .load none (.t 186)⟩,
    ⟨(some 188), (some (185, true)), .bin .geq (.t 187) (.c (.p (.int .i64 0)))⟩,
    ⟨(some 189), none, .pick (.t 185) (.t 188) (.c (.p (.bool false)))⟩,
    ⟨(some 190), none, .mov (.t 189)⟩,
    ⟨(some 191), (some (190, true)), .fa 1 (.t 3)⟩,
    ⟨(some 192), (some (190, true)), .load none (.t 191)⟩,
    ⟨(some 193), (some (190, true)), .mov (.t 1)⟩,
    ⟨(some 194), (some (190, true)), .fa 3 (.t 3)⟩,
    ⟨(some 195), (some (190, true)), .load none (.t 194)⟩,
    ⟨(some 196), (some (190, true)), .bin .sub (.t 195) (.c (.p (.int .i64 1)))⟩,
    ⟨(some 197), (some (190, true)), .ia 5 (.t 193) (.t 196)⟩,
    ⟨(some 198), (some (190, true)), .fa 0 (.t 197)⟩,
    ⟨(some 199), (some (190, true)), .fa 1 (.t 198)⟩,
    ⟨(some 200), (some (190, true)), .fa 1 (.t 199)⟩,
    ⟨(some 201), (some (190, true)), .load none (.t 200)⟩,
    ⟨(some 202), (some (190, true)), .bin .lss (.t 192) (.t 201)⟩,
    ⟨(some 203), none, .pick (.t 190) (.t 202) (.c (.p (.bool false)))⟩] [])
  (.cond (.t 203) (.seq (.reg [⟨(some 204), none, .mov (.t 7)⟩,
    ⟨(some 205), none, .ia 1 (.t 204) (.c (.p (.int .i64 0)))⟩,
    ⟨(some 206), none, .load none (.t 205)⟩,
    ⟨(some 6), none, .mov (.t 206)⟩])
  .ret)
  .skip))
  (.seq (.reg [⟨(some 208), none, .bin .eql (.t 79) (.c (.p (.int .u8 15)))⟩,
    ⟨(some 207), none, .mov (.t 208)⟩])
  (.cond (.t 207) (.seq (.reg [⟨(some 209), none, .fa 3 (.t 3)⟩,
    ⟨(some 210), none, .load none (.t 209)⟩,
    ⟨(some 211), none, .bin .geq (.t 210) (.c (.p (.int .i64 1)))⟩,
    ⟨(some 212), none, .mov (.t 211)⟩,
    ⟨(some 213), (some (212, true)), .fa 3 (.t 3)⟩,
    ⟨(some 214), (some (212, true)), .load none (.t 213)⟩,
    ⟨(some 215), (some (212, true)), .mov (.t 1)⟩,
    ⟨(some 216), (some (212, true)), .len false (.t 215)⟩,
    ⟨(some 217), (some (212, true)), .bin .leq (.t 214) (.t 216)⟩,
    ⟨(some 218), none, .pick (.t 212) (.t 217) (.c (.p (.bool false)))⟩,
    ⟨(some 219), none, .mov (.t 218)⟩,
    ⟨(some 220), (some (219, true)), .mov (.t 1)⟩,
    ⟨(some 221), (some (219, true)), .fa 3 (.t 3)⟩,
    ⟨(some 222), (some (219, true)), .load none (.t 221)⟩,
    ⟨(some 223), (some (219, true)), .bin .sub (.t 222) (.c (.p (.int .i64 1)))⟩,
    ⟨(some 224), (some (219, true)), .ia 5 (.t 220) (.t 223)⟩,
    ⟨(some 225), (some (219, true)), .fa 3 (.t 224)⟩,
    ⟨(some 226), (some (219, true)), .load none (.t 225)⟩,
    ⟨(some 227), none, .pick (.t 219) (.t 226) (.c (.p (.bool false)))⟩])
  (.cond (.t 227) (.seq (.reg [⟨(some 228), none, .mov (.t 1)⟩,
    ⟨(some 229), none, .fa 3 (.t 3)⟩,
    ⟨(some 230), none, .load none (.t 229)⟩,
    ⟨(some 231), none, .bin .sub (.t 230) (.c (.p (.int .i64 1)))⟩,
    ⟨(some 232), none, .ia 5 (.t 228) (.t 231)⟩,
    ⟨(some 233), none, .fa 0 (.t 232)⟩,
    ⟨(some 234), none, .fa 1 (.t 233)⟩,
    ⟨(some 235), none, .fa 1 (.t 234)⟩,
    ⟨(some 236), none, .load none (.t 235)⟩,
    ⟨(some 6), none, .mov (.t 236)⟩])
  .ret)
  .skip))
  (.seq (.reg [⟨(some 80), none, .load (some 5) (.t 3)⟩,
    ⟨(some 81), none, .mov (.t 7)⟩,
    ⟨(some 82), none, .mov (.t 2)⟩,
    ⟨(some 83), none, .call 173 [(.t 80), (.t 81), (.t 82)]⟩,
    ⟨(some 6), none, .mov (.t 83)⟩])
  .ret)))))))))))))))))
  (.seq (.reg [⟨(some 6), none, .mov (.c (.p (.int .i64 0)))⟩])
  .ret)))))), [.t 6]⟩
def cf117 : CF := ⟨1, 6, 1, false, false, false, false, (.seq (.reg [⟨(some 1), none, .box 0 (some 5) (.t 0)⟩,
    ⟨(some 2), none, .mov (.c (.p (.bool false)))⟩])
  (.seq (.reg [⟨(some 3), none, .mov (.c (.p (.bool false)))⟩,
    ⟨(some 4), none, .mov (.c (.p (.bool false)))⟩,
    ⟨(some 5), none, .mov (.c (.p (.bool false)))⟩])
  (.seq (.seq (.reg [⟨(some 6), none, .fa 0 (.t 1)⟩,
    ⟨(some 7), none, .load none (.t 6)⟩])
  (.block 0 (.seq (.seq (.reg [⟨(some 9), none, .bin .eql (.t 7) (.c (.p (.int .u8 1)))⟩,
    ⟨(some 8), none, .mov (.t 9)⟩])
  (.cond (.t 8) .skip
  (.seq (.reg [⟨(some 10), none, .bin .eql (.t 7) (.c (.p (.int .u8 5)))⟩,
    ⟨(some 8), none, .mov (.t 10)⟩])
  (.cond (.t 8) .skip
  (.reg [⟨(some 11), none, .bin .eql (.t 7) (.c (.p (.int .u8 10)))⟩,
    ⟨(some 8), none, .mov (.t 11)⟩])))))
  (.cond (.t 8) (.reg [⟨(some 3), none, .mov (.c (.p (.bool true)))⟩,
    ⟨(some 4), none, .mov (.c (.p (.bool true)))⟩])
  (.seq (.seq (.reg [⟨(some 13), none, .bin .eql (.t 7) (.c (.p (.int .u8 6)))⟩,
    ⟨(some 12), none, .mov (.t 13)⟩])
  (.cond (.t 12) .skip
  (.reg [⟨(some 14), none, .bin .eql (.t 7) (.c (.p (.int .u8 12)))⟩,
    ⟨(some 12), none, .mov (.t 14)⟩])))
  (.cond (.t 12) (.reg [⟨(some 3), none, .mov (.c (.p (.bool true)))⟩])
  (.seq (.seq (.reg [⟨(some 16), none, .bin .eql (.t 7) (.c (.p (.int .u8 2)))⟩,
    ⟨(some 15), none, .mov (.t 16)⟩])
  (.cond (.t 15) .skip
  (.seq (.reg [⟨(some 17), none, .bin .eql (.t 7) (.c (.p (.int .u8 3)))⟩,
    ⟨(some 15), none, .mov (.t 17)⟩])
  (.cond (.t 15) .skip
  (.seq (.reg [⟨(some 18), none, .bin .eql (.t 7) (.c (.p (.int .u8 4)))⟩,
    ⟨(some 15), none, .mov (.t 18)⟩])
  (.cond (.t 15) .skip
  (.seq (.reg [⟨(some 19), none, .bin .eql (.t 7) (.c (.p (.int .u8 15)))⟩,
    ⟨(some 15), none, .mov (.t 19)⟩])
  (.cond (.t 15) .skip
  (.reg [⟨(some 20), none, .bin .eql (.t 7) (.c (.p (.int .u8 16)))⟩,
    ⟨(some 15), none, .mov (.t 20)⟩])))))))))
  (.cond (.t 15) (.reg [⟨(some 5), none, .mov (.c (.p (.bool true)))⟩])
  (.seq (.reg [⟨(some 22), none, .bin .eql (.t 7) (.c (.p (.int .u8 18)))⟩,
    ⟨(some 21), none, .mov (.t 22)⟩])
  (.cond (.t 21) (.reg [⟨(some 3), none, .mov (.c (.p (.bool true)))⟩,
    ⟨(some 5), none, .mov (.c (.p (.bool true)))⟩])
  .skip))))))))))
  (.seq (.reg [⟨(some 23), none, .mov (.t 3)⟩,
    ⟨(some 24), none, .mov (.t 23)⟩,
    ⟨(some 25), (some (24, false)), .fa 1 (.t 1)⟩,
    ⟨(some 26), (some (24, false)), .load none (.t 25)⟩,
    ⟨(some 27), (some (24, false)), .bin .eql (.t 26) (.c (.p (.int .i64 0)))⟩,
    ⟨(some 28), none, .pick (.t 24) (.c (.p (.bool true))) (.t 27)⟩,
    ⟨(some 29), none, .mov (.t 28)⟩,
    ⟨(some 30), (some (29, true)), .mov (.t 4)⟩,
    ⟨(some 31), (some (29, true)), .mov (.t 30)⟩,
    ⟨(some 32), (some (31, false)), .fa 2 (.t 1)⟩,
    ⟨(some 33), (some (31, false)), .load none (.t 32)⟩,
    ⟨(some 34), (some (31, false)), .bin .eql (.t 33) (.c (.p (.int .i64 0)))⟩,
    ⟨(some 35), (some (29, true)), .pick (.t 31) (.c (.p (.bool true))) (.t 34)⟩,
    ⟨(some 36), none, .pick (.t 29) (.t 35) (.c (.p (.bool false)))⟩,
    ⟨(some 37), none, .mov (.t 36)⟩,
    ⟨(some 38), (some (37, true)), .mov (.t 5)⟩,
    ⟨(some 39), (some (37, true)), .mov (.t 38)⟩,
    ⟨(some 40), (some (39, false)), .fa 3 (.t 1)⟩,
    ⟨(some 41), (some (39, false)), .load none (.t 40)⟩,
    ⟨(some 42), (some (39, false)), .bin .eql (.t 41) (.c (.p (.int .i64 0)))⟩,
    ⟨(some 43), (some (37, true)), .pick (.t 39) (.c (.p (.bool true))) (.t 42)⟩,
    ⟨(some 44), none, .pick (.t 37) (.t 43) (.c (.p (.bool false)))⟩,
    ⟨(some 2), none, .mov (.t 44)⟩])
  .ret)))), [.t 2]⟩
def cf170 : CF := ⟨1, 5, 0, true, false, false, false, (.seq (.reg [⟨(some 2), none, .mov (.c (.p (.int .i64 0)))⟩])
  (.seq (.seq (.reg [⟨(some 3), none, .mov (.t 0)⟩])
  (.block 0 (.seq (.reg [⟨(some 5), none, .bin .eql (.t 3) (.c (.p (.int .u8 2)))⟩,
    ⟨(some 4), none, .mov (.t 5)⟩])
  (.cond (.t 4) (.seq (.reg [⟨(some 2), none, .mov (.c (.p (.int .i64 (-1))))⟩])
  .ret)
  (.seq (.seq (.reg [⟨(some 7), none, .bin .eql (.t 3) (.c (.p (.int .u8 4)))⟩,
    ⟨(some 6), none, .mov (.t 7)⟩])
  (.cond (.t 6) .skip
  (.seq (.reg [⟨(some 8), none, .bin .eql (.t 3) (.c (.p (.int .u8 6)))⟩,
    ⟨(some 6), none, .mov (.t 8)⟩])
  (.cond (.t 6) .skip
  (.seq (.reg [⟨(some 9), none, .bin .eql (.t 3) (.c (.p (.int .u8 10)))⟩,
    ⟨(some 6), none, .mov (.t 9)⟩])
  (.cond (.t 6) .skip
  (.reg [⟨(some 10), none, .bin .eql (.t 3) (.c (.p (.int .u8 18)))⟩,
    ⟨(some 6), none, .mov (.t 10)⟩])))))))
  (.cond (.t 6) (.seq (.reg [⟨(some 2), none, .mov (.c (.p (.int .i64 1)))⟩])
  .ret)
  (.seq (.seq (.reg [⟨(some 12), none, .bin .eql (.t 3) (.c (.p (.int .u8 5)))⟩,
    ⟨(some 11), none, .mov (.t 12)⟩])
  (.cond (.t 11) .skip
  (.seq (.reg [⟨(some 13), none, .bin .eql (.t 3) (.c (.p (.int .u8 7)))⟩,
    ⟨(some 11), none, .mov (.t 13)⟩])
  (.cond (.t 11) .skip
  (.seq (.reg [⟨(some 14), none, .bin .eql (.t 3) (.c (.p (.int .u8 9)))⟩,
    ⟨(some 11), none, .mov (.t 14)⟩])
  (.cond (.t 11) .skip
  (.seq (.reg [⟨(some 15), none, .bin .eql (.t 3) (.c (.p (.int .u8 11)))⟩,
    ⟨(some 11), none, .mov (.t 15)⟩])
  (.cond (.t 11) .skip
  (.seq (.reg [⟨(some 16), none, .bin .eql (.t 3) (.c (.p (.int .u8 13)))⟩,
    ⟨(some 11), none, .mov (.t 16)⟩])
  (.cond (.t 11) .skip
  (.reg [⟨(some 17), none, .bin .eql (.t 3) (.c (.p (.int .u8 17)))⟩,
    ⟨(some 11), none, .mov (.t 17)⟩])))))))))))
  (.cond (.t 11) (.seq (.reg [⟨(some 2), none, .mov (.c (.p (.int .i64 2)))⟩])
  .ret)
  (.seq (.reg [⟨(some 19), none, .bin .eql (.t 3) (.c (.p (.int .u8 8)))⟩,
    ⟨(some 18), none, .mov (.t 19)⟩])
  (.cond (.t 18) (.seq (.reg [⟨(some 2), none, .mov (.c (.p (.int .i64 3)))⟩])
  .ret)
  .skip))))))))))
  (.seq (.reg [⟨(some 2), none, .mov (.c (.p (.int .i64 0)))⟩])
  .ret))), [.t 2]⟩
def cf122 : CF := ⟨1, 3, 1, true, false, false, false, (.seq (.reg [⟨(some 2), none, .alloc 0 [(.sl 0 [] .full), (.p (.bool false)), (.p (.int .i64 0)), (.p (.bool false)), (.p (.bool false))]⟩])
  (.seq (.reg [⟨(some 3), none, .mov (.t 0)⟩,
    ⟨(some 4), none, .build [(.p (.bool false)), (.p (.int .i64 0))] [(0, none, (.c (.p (.bool true)))), (1, none, (.t 3))]⟩,
    ⟨(some 5), none, .build [(.sl 0 [] .full), (.p (.bool false)), (.p (.int .i64 0))] [(1, (some 2), (.t 4))]⟩,
    ⟨(some 6), none, .build [(.sl 0 [] .full), (.p (.bool false)), (.p (.int .i64 0)), (.p (.bool false)), (.p (.bool false))] [(0, (some 3), (.t 5)), (4, none, (.c (.p (.bool true))))]⟩,
    ⟨none, none, .store (some 5) (.t 2) (.t 6)⟩])
  .ret)), [.l 2 (some 5)]⟩
def cf119 : CF := ⟨2, 4, 1, true, false, false, false, (.seq (.reg [⟨(some 3), none, .box 0 (some 5) (.t 1)⟩,
    ⟨(some 4), none, .mov (.c (.sl 0 [] .full))⟩])
  (.seq (.regd [] [] [⟨(some 5), none, .mov (.t 0)⟩,
    ⟨(some 6), none, .app 5 48 (.c (.sl 0 [] .full)) (.t 5)⟩,
    ⟨(some 7), none, .load (some 5) (.t 3)⟩,
    ⟨(some 8), none, .mks 1 [(.sl 0 []), (.bool false), (.int .i64 0), (.bool false), (.bool false)] [(0, (some 5), (.t 7))]⟩,
    ⟨(some 9), none, .app 5 48 (.t 6) (.t 8)⟩,
    ⟨(some 4), none, .mov (.t 9)⟩] [⟨2, (some 5), (.t 3), [(1, 0)]⟩])
  .ret)), [.t 4]⟩
def cf171 : CF := ⟨1, 4, 0, true, false, false, false, (.seq (.reg [⟨(some 2), none, .mov (.c (.p (.bool false)))⟩])
  (.seq (.reg [⟨(some 3), none, .mov (.t 0)⟩,
    ⟨(some 4), none, .bin .geq (.t 3) (.c (.p (.int .i64 1)))⟩,
    ⟨(some 5), none, .mov (.t 4)⟩,
    ⟨(some 6), (some (5, true)), .mov (.t 0)⟩,
    ⟨(some 7), (some (5, true)), .bin .leq (.t 6) (.c (.p (.int .i64 64)))⟩,
    ⟨(some 8), none, .pick (.t 5) (.t 7) (.c (.p (.bool false)))⟩,
    ⟨(some 2), none, .mov (.t 8)⟩])
  .ret)), [.t 2]⟩
def cf172 : CF := ⟨3, 7, 2, false, false, false, false, (.seq (.reg [⟨(some 3), none, .box 0 (some 5) (.t 0)⟩,
    ⟨(some 6), none, .mov (.c (.p (.int .i64 0)))⟩])
  (.seq (.seq (.reg [⟨(some 9), none, .fa 3 (.t 3)⟩,
    ⟨(some 10), none, .load none (.t 9)⟩,
    ⟨(some 11), none, .bin .lss (.t 10) (.c (.p (.int .i64 1)))⟩,
    ⟨(some 12), none, .mov (.t 11)⟩,
    ⟨(some 13), (some (12, false)), .fa 3 (.t 3)⟩,
    ⟨(some 14), (some (12, false)), .load none (.t 13)⟩,
    ⟨(some 15), (some (12, false)), .mov (.t 1)⟩,
    ⟨(some 16), (some (12, false)), .len false (.t 15)⟩,
    ⟨(some 17), (some (12, false)), .bin .gtr (.t 14) (.t 16)⟩,
    ⟨(some 18), none, .pick (.t 12) (.c (.p (.bool true))) (.t 17)⟩,
    ⟨(some 19), none, .mov (.t 18)⟩,
    ⟨(some 20), (some (19, false)), .mov (.t 1)⟩,
    ⟨(some 21), (some (19, false)), .fa 3 (.t 3)⟩,
    ⟨(some 22), (some (19, false)), .load none (.t 21)⟩,
    ⟨(some 23), (some (19, false)), .bin .sub (.t 22) (.c (.p (.int .i64 1)))⟩,
    ⟨(some 24), (some (19, false)), .ia 5 (.t 20) (.t 23)⟩,
    ⟨(some 25), (some (19, false)), .fa 3 (.t 24)⟩,
    ⟨(some 26), (some (19, false)), .load none (.t 25)⟩,
    ⟨(some 27), none, .pick (.t 19) (.c (.p (.bool true))) (.t 26)⟩])
  (.cond (.t 27) (.seq (.reg [⟨(some 6), none, .mov (.c (.p (.int .i64 0)))⟩])
  .ret)
  .skip))
  (.seq (.reg [⟨(some 28), none, .mov (.t 1)⟩,
    ⟨(some 29), none, .fa 3 (.t 3)⟩,
    ⟨(some 30), none, .load none (.t 29)⟩,
    ⟨(some 31), none, .bin .sub (.t 30) (.c (.p (.int .i64 1)))⟩,
    ⟨(some 32), none, .ia 5 (.t 28) (.t 31)⟩,
    ⟨(some 33), none, .fa 0 (.t 32)⟩,
    ⟨(some 34), none, .load (some 3) (.t 33)⟩,
    ⟨(some 7), none, .alloc 1 [(.sl 0 [] .full), (.p (.bool false)), (.p (.int .i64 0))]⟩,
    ⟨none, none, .store (some 3) (.t 7) (.t 34)⟩])
  (.seq (.seq (.reg [⟨(some 35), none, .fa 1 (.t 7)⟩,
    ⟨(some 36), none, .fa 0 (.t 35)⟩,
    ⟨(some 37), none, .load none (.t 36)⟩,
    ⟨(some 38), none, .mov (.t 37)⟩,
    ⟨(some 39), (some (38, false)), .fa 0 (.t 7)⟩,
    ⟨(some 40), (some (38, false)), .load none (.t 39)⟩,
    ⟨(some 41), (some (38, false)), .len false (.t 40)⟩,
    ⟨(some 42), (some (38, false)), .fa 4 (.t 3)⟩,
    ⟨(some 43), (some (38, false)), .load none (.t 42)⟩,
    ⟨(some 44), (some (38, false)), .len false (.t 43)⟩,
    ⟨(some 45), (some (38, false)), .bin .neq (.t 41) (.t 44)⟩,
    ⟨(some 46), none, .pick (.t 38) (.c (.p (.bool true))) (.t 45)⟩])
  (.cond (.t 46) (.seq (.reg [⟨(some 6), none, .mov (.c (.p (.int .i64 0)))⟩])
  .ret)
  .skip))
  (.seq (.seq (.reg [⟨(some 8), none, .mov (.c (.p (.int .i64 0)))⟩])
  (.block 0 (.loop (.seq (.seq (.reg [⟨(some 47), none, .mov (.t 8)⟩,
    ⟨(some 48), none, .fa 4 (.t 3)⟩,
    ⟨(some 49), none, .load none (.t 48)⟩,
    ⟨(some 50), none, .len false (.t 49)⟩,
    ⟨(some 51), none, .bin .lss (.t 47) (.t 50)⟩])
  (.cond (.t 51) .skip
  (.exit 0)))
  (.seq (.block 1 (.seq (.regd [] [] [⟨(some 54), none, .fa 4 (.t 3)⟩,
    ⟨(some 55), none, .load none (.t 54)⟩,
    ⟨(some 56), none, .mov (.t 8)⟩,
    ⟨(some 57), none, .ia 5 (.t 55) (.t 56)⟩,
    ⟨(some 58), none, .load (some 5) (.t 57)⟩,
    ⟨(some 59), none, .fa 0 (.t 7)⟩,
    ⟨(some 60), none, .load none (.t 59)⟩,
    ⟨(some 61), none, .mov (.t 8)⟩,
    ⟨(some 62), none, .ia 2 (.t 60) (.t 61)⟩,
    ⟨(some 63), none, .load (some 2) (.t 62)⟩,
    ⟨(some 64), none, .mov (.t 1)⟩,
    ⟨(some 65), none, .mov (.t 2)⟩,
    ⟨(some 66), none, .call 68 [(.t 58), (.t 63), (.t 64), (.t 65)]⟩,
    ⟨(some 67), none, .not (.t 66)⟩] [])
  (.cond (.t 67) (.seq (.reg [⟨(some 6), none, .mov (.c (.p (.int .i64 0)))⟩])
  .ret)
  .skip)))
  (.reg [⟨(some 52), none, .mov (.t 8)⟩,
    ⟨(some 53), none, .bin .add (.t 52) (.c (.p (.int .i64 1)))⟩,
    ⟨(some 8), none, .mov (.t 53)⟩]))))))
  (.seq (.reg [⟨(some 68), none, .fa 1 (.t 7)⟩,
    ⟨(some 69), none, .fa 1 (.t 68)⟩,
    ⟨(some 70), none, .load none (.t 69)⟩,
    ⟨(some 6), none, .mov (.t 70)⟩])
  .ret)))))), [.t 6]⟩
def cf118 : CF := ⟨3, 6, 1, true, false, false, false, (.seq (.reg [⟨(some 6), none, .mov (.c (.p (.bool false)))⟩])
  (.seq (.seq (.reg [⟨(some 8), none, .mov (.t 1)⟩,
    ⟨(some 9), none, .bin .lss (.t 8) (.c (.p (.int .i64 1)))⟩,
    ⟨(some 10), none, .mov (.t 9)⟩,
    ⟨(some 11), (some (10, false)), .mov (.t 1)⟩,
    ⟨(some 12), (some (10, false)), .mov (.t 0)⟩,
    ⟨(some 13), (some (10, false)), .len false (.t 12)⟩,
    ⟨(some 14), (some (10, false)), .bin .gtr (.t 11) (.t 13)⟩,
    ⟨(some 15), none, .pick (.t 10) (.c (.p (.bool true))) (.t 14)⟩])
  (.cond (.t 15) (.seq (.reg [⟨(some 6), none, .mov (.c (.p (.bool false)))⟩])
  .ret)
  .skip))
  (.seq (.reg [⟨(some 16), none, .mov (.t 0)⟩,
    ⟨(some 17), none, .mov (.t 1)⟩,
    ⟨(some 18), none, .bin .sub (.t 17) (.c (.p (.int .i64 1)))⟩,
    ⟨(some 19), none, .ia 5 (.t 16) (.t 18)⟩,
    ⟨(some 20), none, .load (some 5) (.t 19)⟩,
    ⟨(some 7), none, .alloc 0 [(.sl 0 [] .full), (.p (.bool false)), (.p (.int .i64 0)), (.p (.bool false)), (.p (.bool false))]⟩,
    ⟨none, none, .store (some 5) (.t 7) (.t 20)⟩])
  (.seq (.reg [⟨(some 21), none, .fa 3 (.t 7)⟩,
    ⟨(some 22), none, .load none (.t 21)⟩,
    ⟨(some 23), none, .not (.t 22)⟩,
    ⟨(some 24), none, .mov (.t 23)⟩,
    ⟨(some 25), (some (24, true)), .fa 0 (.t 7)⟩,
    ⟨(some 26), (some (24, true)), .fa 0 (.t 25)⟩,
    ⟨(some 27), (some (24, true)), .load none (.t 26)⟩,
    ⟨(some 28), (some (24, true)), .len false (.t 27)⟩,
    ⟨(some 29), (some (24, true)), .bin .eql (.t 28) (.c (.p (.int .i64 0)))⟩,
    ⟨(some 30), none, .pick (.t 24) (.t 29) (.c (.p (.bool false)))⟩,
    ⟨(some 31), none, .mov (.t 30)⟩,
    ⟨(some 32), (some (31, true)), .fa 0 (.t 7)⟩,
    ⟨(some 33), (some (31, true)), .fa 1 (.t 32)⟩,
    ⟨(some 34), (some (31, true)), .fa 0 (.t 33)⟩,
    ⟨(some 35), (some (31, true)), .load none (.t 34)⟩,
    ⟨(some 36), none, .pick (.t 31) (.t 35) (.c (.p (.bool false)))⟩,
    ⟨(some 37), none, .mov (.t 36)⟩,
    ⟨(some 38), (some (37, true)), .mov (.t 2)⟩,
    ⟨(some 39), (some (37, true)), .bin .eql (.t 38) (.c (.p (.int .i64 0)))⟩,
    ⟨(some 40), (some (37, true)), .mov (.t 39)⟩,
    ⟨(some 41), (some (40, false)), .fa 0 (.t 7)⟩,
    ⟨(some 42), (some (40, false)), .fa 1 (.t 41)⟩,
    ⟨(some 43), (some (40, false)), .fa 1 (.t 42)⟩,
    ⟨(some 44), (some (40, false)), .load none (.t 43)⟩,
    ⟨(some 45), (some (40, false)), .mov (.t 2)⟩,
    ⟨(some 46), (some (40, false)), .bin .eql (.t 44) (.t 45)⟩,
    ⟨(some 47), (some (37, true)), .pick (.t 40) (.c (.p (.bool true))) (.t 46)⟩,
    ⟨(some 48), none, .pick (.t 37) (.t 47) (.c (.p (.bool false)))⟩,
    ⟨(some 6), none, .mov (.t 48)⟩])
  .ret)))), [.t 6]⟩
def cf173 : CF := ⟨3, 7, 1, false, false, false, false, (.seq (.reg [⟨(some 3), none, .box 0 (some 5) (.t 0)⟩,
    ⟨(some 6), none, .mov (.c (.p (.int .i64 0)))⟩])
  (.seq (.seq (.reg [⟨(some 7), none, .fa 0 (.t 3)⟩,
    ⟨(some 8), none, .load none (.t 7)⟩])
  (.block 0 (.seq (.reg [⟨(some 10), none, .bin .eql (.t 8) (.c (.p (.int .u8 6)))⟩,
    ⟨(some 9), none, .mov (.t 10)⟩])
  (.cond (.t 9) (.seq (.reg [⟨(some 11), none, .fa 1 (.t 3)⟩,
    ⟨(some 12), none, .load none (.t 11)⟩,
    ⟨(some 13), none, .call 171 [(.t 12)]⟩])
  (.cond (.t 13) (.seq (.reg [⟨(some 14), none, .fa 1 (.t 3)⟩,
    ⟨(some 15), none, .load none (.t 14)⟩,
    ⟨(some 6), none, .mov (.t 15)⟩])
  .ret)
  .skip))
  (.seq (.reg [⟨(some 17), none, .bin .eql (.t 8) (.c (.p (.int .u8 7)))⟩,
    ⟨(some 16), none, .mov (.t 17)⟩])
  (.cond (.t 16) (.seq (.reg [⟨(some 18), none, .mov (.t 1)⟩,
    ⟨(some 19), none, .ia 1 (.t 18) (.c (.p (.int .i64 0)))⟩,
    ⟨(some 20), none, .load none (.t 19)⟩,
    ⟨(some 21), none, .bin .eql (.t 20) (.c (.p (.int .i64 1)))⟩])
  (.cond (.t 21) (.seq (.reg [⟨(some 22), none, .mov (.t 1)⟩,
    ⟨(some 23), none, .ia 1 (.t 22) (.c (.p (.int .i64 1)))⟩,
    ⟨(some 24), none, .load none (.t 23)⟩,
    ⟨(some 6), none, .mov (.t 24)⟩])
  .ret)
  .skip))
  (.seq (.reg [⟨(some 26), none, .bin .eql (.t 8) (.c (.p (.int .u8 8)))⟩,
    ⟨(some 25), none, .mov (.t 26)⟩])
  (.cond (.t 25) (.seq (.regd [] [] [⟨(some 27), none, .mov (.t 1)⟩,
    ⟨(some 28), none, .ia 1 (.t 27) (.c (.p (.int .i64 1)))⟩,
    ⟨(some 29), none, .load none (.t 28)⟩,
    ⟨(some 30), none, .mov (.t 1)⟩,
    ⟨(some 31), none, .ia 1 (.t 30) (.c (.p (.int .i64 2)))⟩,
    ⟨(some 32), none, .load none (.t 31)⟩,
    ⟨(some 33), none, .bin .eql (.t 29) (.t 32)⟩] [])
  (.cond (.t 33) (.seq (.reg [⟨(some 34), none, .mov (.t 1)⟩,
    ⟨(some 35), none, .ia 1 (.t 34) (.c (.p (.int .i64 1)))⟩,
    ⟨(some 36), none, .load none (.t 35)⟩,
    ⟨(some 6), none, .mov (.t 36)⟩])
  .ret)
  .skip))
  (.seq (.reg [⟨(some 38), none, .bin .eql (.t 8) (.c (.p (.int .u8 9)))⟩,
    ⟨(some 37), none, .mov (.t 38)⟩])
  (.cond (.t 37) (.seq (.reg [⟨(some 39), none, .mov (.t 1)⟩,
    ⟨(some 40), none, .ia 1 (.t 39) (.c (.p (.int .i64 1)))⟩,
    ⟨(some 41), none, .load none (.t 40)⟩,
    ⟨(some 42), none, .bin .eql (.t 41) (.c (.p (.int .i64 1)))⟩])
  (.cond (.t 42) (.seq (.reg [⟨(some 6), none, .mov (.c (.p (.int .i64 1)))⟩])
  .ret)
  .skip))
  (.seq (.reg [⟨(some 44), none, .bin .eql (.t 8) (.c (.p (.int .u8 10)))⟩,
    ⟨(some 43), none, .mov (.t 44)⟩])
  (.cond (.t 43) (.seq (.reg [⟨(some 45), none, .fa 1 (.t 3)⟩,
    ⟨(some 46), none, .load none (.t 45)⟩,
    ⟨(some 47), none, .call 171 [(.t 46)]⟩,
    ⟨(some 48), none, .mov (.t 47)⟩,
    ⟨(some 49), (some (48, true)), .fa 2 (.t 3)⟩,
    ⟨(some 50), (some (48, true)), .load none (.t 49)⟩,
    ⟨(some 51), (some (48, true)), .bin .geq (.t 50) (.c (.p (.int .i64 0)))⟩,
    ⟨(some 52), none, .pick (.t 48) (.t 51) (.c (.p (.bool false)))⟩,
    ⟨(some 53), none, .mov (.t 52)⟩,
    ⟨(some 54), (some (53, true)), .fa 2 (.t 3)⟩,
    ⟨(some 55), (some (53, true)), .load none (.t 54)⟩,
    ⟨(some 56), (some (53, true)), .fa 1 (.t 3)⟩,
    ⟨(some 57), (some (53, true)), .load none (.t 56)⟩,
    ⟨(some 58), (some (53, true)), .bin .lss (.t 55) (.t 57)⟩,
    ⟨(some 59), none, .pick (.t 53) (.t 58) (.c (.p (.bool false)))⟩])
  (.cond (.t 59) (.seq (.reg [⟨(some 60), none, .mov (.t 1)⟩,
    ⟨(some 61), none, .ia 1 (.t 60) (.c (.p (.int .i64 0)))⟩,
    ⟨(some 62), none, .load none (.t 61)⟩,
    ⟨(some 6), none, .mov (.t 62)⟩])
  .ret)
  .skip))
  (.seq (.seq (.reg [⟨(some 64), none, .bin .eql (.t 8) (.c (.p (.int .u8 11)))⟩,
    ⟨(some 63), none, .mov (.t 64)⟩])
  (.cond (.t 63) .skip
  (.reg [⟨(some 65), none, .bin .eql (.t 8) (.c (.p (.int .u8 13)))⟩,
    ⟨(some 63), none, .mov (.t 65)⟩])))
  (.cond (.t 63) (.seq (.regd [] [] [⟨(some 66), none, .mov (.t 1)⟩,
    ⟨(some 67), none, .ia 1 (.t 66) (.c (.p (.int .i64 0)))⟩,
    ⟨(some 68), none, .load none (.t 67)⟩,
    ⟨(some 69), none, .mov (.t 1)⟩,
    ⟨(some 70), none, .ia 1 (.t 69) (.c (.p (.int .i64 1)))⟩,
    ⟨(some 71), none, .load none (.t 70)⟩,
    ⟨(some 72), none, .bin .eql (.t 68) (.t 71)⟩] [])
  (.cond (.t 72) (.seq (.reg [⟨(some 73), none, .mov (.t 1)⟩,
    ⟨(some 74), none, .ia 1 (.t 73) (.c (.p (.int .i64 0)))⟩,
    ⟨(some 75), none, .load none (.t 74)⟩,
    ⟨(some 6), none, .mov (.t 75)⟩])
  .ret)
  .skip))
  (.seq (.reg [⟨(some 77), none, .bin .eql (.t 8) (.c (.p (.int .u8 12)))⟩,
    ⟨(some 76), none, .mov (.t 77)⟩])
  (.cond (.t 76) (.seq (.reg [⟨(some 78), none, .fa 1 (.t 3)⟩,
    ⟨(some 79), none, .load none (.t 78)⟩,
    ⟨(some 80), none, .bin .geq (.t 79) (.c (.p (.int .i64 0)))⟩,
    ⟨(some 81), none, .mov (.t 80)⟩,
    ⟨(some 82), (some (81, true)), .fa 1 (.t 3)⟩,
    ⟨(some 83), (some (81, true)), .load none (.t 82)⟩,
    ⟨(some 84), (some (81, true)), .mov (.t 2)⟩,
    ⟨(some 85), (some (81, true)), .bin .lss (.t 83) (.t 84)⟩,
    ⟨(some 86), none, .pick (.t 81) (.t 85) (.c (.p (.bool false)))⟩])
  (.cond (.t 86) (.seq (.reg [⟨(some 6), none, .mov (.c (.p (.int .i64 1)))⟩])
  .ret)
  .skip))
  (.seq (.reg [⟨(some 88), none, .bin .eql (.t 8) (.c (.p (.int .u8 14)))⟩,
    ⟨(some 87), none, .mov (.t 88)⟩])
  (.cond (.t 87) (.seq (.reg [⟨(some 6), none, .mov (.c (.p (.int .i64 1)))⟩])
  .ret)
  .skip))))))))))))))))))
  (.seq (.reg [⟨(some 6), none, .mov (.c (.p (.int .i64 0)))⟩])
  .ret))), [.t 6]⟩
def cf120 : CF := ⟨1, 3, 1, true, false, false, false, (.seq (.reg [⟨(some 2), none, .alloc 0 [(.sl 0 [] .full), (.p (.bool false)), (.p (.int .i64 0)), (.p (.bool false)), (.p (.bool false))]⟩])
  (.seq (.reg [⟨(some 3), none, .mov (.t 0)⟩,
    ⟨(some 4), none, .build [(.p (.bool false)), (.p (.int .i64 0))] [(1, none, (.t 3))]⟩,
    ⟨(some 5), none, .build [(.sl 0 [] .full), (.p (.bool false)), (.p (.int .i64 0))] [(1, (some 2), (.t 4))]⟩,
    ⟨(some 6), none, .build [(.sl 0 [] .full), (.p (.bool false)), (.p (.int .i64 0)), (.p (.bool false)), (.p (.bool false))] [(0, (some 3), (.t 5)), (3, none, (.c (.p (.bool true))))]⟩,
    ⟨none, none, .store (some 5) (.t 2) (.t 6)⟩])
  .ret)), [.l 2 (some 5)]⟩
def cf61 : CF := ⟨1, 6, 1, false, false, false, false, (.seq (.reg [⟨(some 1), none, .box 0 (some 5) (.t 0)⟩,
    ⟨(some 2), none, .mov (.c (.p (.str ⟨#[]⟩)))⟩])
  (.seq (.reg [⟨(some 5), none, .load (some 5) (.t 1)⟩,
    ⟨(some 6), none, .call 110 [(.t 5)]⟩,
    ⟨(some 3), none, .mov (.t 6)⟩])
  (.seq (.seq (.reg [⟨(some 4), none, .mov (.c (.p (.int .i64 0)))⟩])
  (.block 0 (.loop (.seq (.seq (.reg [⟨(some 7), none, .mov (.t 4)⟩,
    ⟨(some 8), none, .fa 4 (.t 1)⟩,
    ⟨(some 9), none, .load none (.t 8)⟩,
    ⟨(some 10), none, .len false (.t 9)⟩,
    ⟨(some 11), none, .bin .lss (.t 7) (.t 10)⟩])
  (.cond (.t 11) .skip
  (.exit 0)))
  (.seq (.block 1 (.seq (.seq (.reg [⟨(some 14), none, .mov (.t 4)⟩,
    ⟨(some 15), none, .bin .eql (.t 14) (.c (.p (.int .i64 0)))⟩])
  (.cond (.t 15) (.reg [⟨(some 16), none, .mov (.t 3)⟩,
    ⟨(some 17), none, .bin .add (.t 16) (.c (.p (.str ⟨#[40]⟩)))⟩,
    ⟨(some 3), none, .mov (.t 17)⟩])
  (.reg [⟨(some 18), none, .mov (.t 3)⟩,
    ⟨(some 19), none, .bin .add (.t 18) (.c (.p (.str ⟨#[44]⟩)))⟩,
    ⟨(some 3), none, .mov (.t 19)⟩])))
  (.reg [⟨(some 20), none, .mov (.t 3)⟩,
    ⟨(some 21), none, .fa 4 (.t 1)⟩,
    ⟨(some 22), none, .load none (.t 21)⟩,
    ⟨(some 23), none, .mov (.t 4)⟩,
    ⟨(some 24), none, .ia 5 (.t 22) (.t 23)⟩,
    ⟨(some 25), none, .load (some 5) (.t 24)⟩,
    ⟨(some 26), none, .call 61 [(.t 25)]⟩,
    ⟨(some 27), none, .bin .add (.t 20) (.t 26)⟩,
    ⟨(some 3), none, .mov (.t 27)⟩])))
  (.reg [⟨(some 12), none, .mov (.t 4)⟩,
    ⟨(some 13), none, .bin .add (.t 12) (.c (.p (.int .i64 1)))⟩,
    ⟨(some 4), none, .mov (.t 13)⟩]))))))
  (.seq (.seq (.reg [⟨(some 28), none, .fa 4 (.t 1)⟩,
    ⟨(some 29), none, .load none (.t 28)⟩,
    ⟨(some 30), none, .len false (.t 29)⟩,
    ⟨(some 31), none, .bin .gtr (.t 30) (.c (.p (.int .i64 0)))⟩])
  (.cond (.t 31) (.reg [⟨(some 32), none, .mov (.t 3)⟩,
    ⟨(some 33), none, .bin .add (.t 32) (.c (.p (.str ⟨#[41]⟩)))⟩,
    ⟨(some 3), none, .mov (.t 33)⟩])
  .skip))
  (.seq (.reg [⟨(some 34), none, .mov (.t 3)⟩,
    ⟨(some 2), none, .mov (.t 34)⟩])
  .ret))))), [.t 2]⟩
def cf110 : CF := ⟨1, 7, 1, false, false, false, false, (.seq (.reg [⟨(some 1), none, .box 0 (some 5) (.t 0)⟩,
    ⟨(some 2), none, .mov (.c (.p (.str ⟨#[]⟩)))⟩])
  (.seq (.seq (.reg [⟨(some 4), none, .fa 0 (.t 1)⟩,
    ⟨(some 5), none, .load none (.t 4)⟩])
  (.block 0 (.seq (.reg [⟨(some 7), none, .bin .eql (.t 5) (.c (.p (.int .u8 1)))⟩,
    ⟨(some 6), none, .mov (.t 7)⟩])
  (.cond (.t 6) (.seq (.regd [] [] [⟨(some 8), none, .fa 1 (.t 1)⟩,
    ⟨(some 9), none, .load none (.t 8)⟩,
    ⟨(some 10), none, .call 166 [(.t 9)]⟩,
    ⟨(some 11), none, .bin .add (.t 10) (.c (.p (.str ⟨#[47]⟩)))⟩,
    ⟨(some 12), none, .fa 2 (.t 1)⟩,
    ⟨(some 13), none, .load none (.t 12)⟩,
    ⟨(some 14), none, .call 166 [(.t 13)]⟩,
    ⟨(some 15), none, .bin .add (.t 11) (.t 14)⟩,
    ⟨(some 2), none, .mov (.t 15)⟩] [⟨5, none, (.t 12), [(2, 168)]⟩])
  .ret)
  (.seq (.reg [⟨(some 17), none, .bin .eql (.t 5) (.c (.p (.int .u8 2)))⟩,
    ⟨(some 16), none, .mov (.t 17)⟩])
  (.cond (.t 16) (.seq (.reg [⟨(some 18), none, .fa 3 (.t 1)⟩,
    ⟨(some 19), none, .load none (.t 18)⟩,
    ⟨(some 20), none, .call 166 [(.t 19)]⟩,
    ⟨(some 21), none, .bin .add (.c (.p (.str ⟨#[120]⟩))) (.t 20)⟩,
    ⟨(some 2), none, .mov (.t 21)⟩])
  .ret)
  (.seq (.reg [⟨(some 23), none, .bin .eql (.t 5) (.c (.p (.int .u8 3)))⟩,
    ⟨(some 22), none, .mov (.t 23)⟩])
  (.cond (.t 22) (.seq (.reg [⟨(some 24), none, .fa 3 (.t 1)⟩,
    ⟨(some 25), none, .load none (.t 24)⟩,
    ⟨(some 26), none, .call 166 [(.t 25)]⟩,
    ⟨(some 27), none, .bin .add (.c (.p (.str ⟨#[33]⟩))) (.t 26)⟩,
    ⟨(some 2), none, .mov (.t 27)⟩])
  .ret)
  (.seq (.reg [⟨(some 29), none, .bin .eql (.t 5) (.c (.p (.int .u8 4)))⟩,
    ⟨(some 28), none, .mov (.t 29)⟩])
  (.cond (.t 28) (.seq (.reg [⟨(some 30), none, .fa 3 (.t 1)⟩,
    ⟨(some 31), none, .load none (.t 30)⟩,
    ⟨(some 32), none, .call 166 [(.t 31)]⟩,
    ⟨(some 33), none, .bin .add (.c (.p (.str ⟨#[61]⟩))) (.t 32)⟩,
    ⟨(some 2), none, .mov (.t 33)⟩])
  .ret)
  (.seq (.reg [⟨(some 35), none, .bin .eql (.t 5) (.c (.p (.int .u8 5)))⟩,
    ⟨(some 34), none, .mov (.t 35)⟩])
  (.cond (.t 34) (.seq (.reg [⟨(some 36), none, .mks 5 [(.str ⟨#[]⟩), (.str ⟨#[]⟩), (.str ⟨#[]⟩), (.str ⟨#[]⟩), (.str ⟨#[]⟩)] [(0, none, (.c (.p (.str ⟨#[97, 100, 100]⟩)))), (1, none, (.c (.p (.str ⟨#[115, 117, 98]⟩)))), (2, none, (.c (.p (.str ⟨#[109, 117, 108]⟩)))), (3, none, (.c (.p (.str ⟨#[101, 113]⟩)))), (4, none, (.c (.p (.str ⟨#[108, 101, 115, 115]⟩))))]⟩,
    ⟨(some 3), none, .mov (.t 36)⟩])
  (.seq (.regd [] [] [⟨(some 37), none, .mov (.t 3)⟩,
    ⟨(some 38), none, .fa 1 (.t 1)⟩,
    ⟨(some 39), none, .load none (.t 38)⟩,
    ⟨(some 40), none, .bin .sub (.t 39) (.c (.p (.int .i64 1)))⟩,
    ⟨(some 41), none, .ia 1 (.t 37) (.t 40)⟩,
    ⟨(some 42), none, .load none (.t 41)⟩,
    ⟨(some 43), none, .bin .add (.t 42) (.c (.p (.str ⟨#[47]⟩)))⟩,
    ⟨(some 44), none, .fa 2 (.t 1)⟩,
    ⟨(some 45), none, .load none (.t 44)⟩,
    ⟨(some 46), none, .call 166 [(.t 45)]⟩,
    ⟨(some 47), none, .bin .add (.t 43) (.t 46)⟩,
    ⟨(some 2), none, .mov (.t 47)⟩] [⟨2, none, (.t 38), [(9, 168)]⟩, ⟨5, none, (.t 41), [(9, 168)]⟩])
  .ret))
  (.seq (.reg [⟨(some 49), none, .bin .eql (.t 5) (.c (.p (.int .u8 6)))⟩,
    ⟨(some 48), none, .mov (.t 49)⟩])
  (.cond (.t 48) (.seq (.reg [⟨(some 50), none, .fa 1 (.t 1)⟩,
    ⟨(some 51), none, .load none (.t 50)⟩,
    ⟨(some 52), none, .call 166 [(.t 51)]⟩,
    ⟨(some 53), none, .bin .add (.c (.p (.str ⟨#[97, 115, 47]⟩))) (.t 52)⟩,
    ⟨(some 2), none, .mov (.t 53)⟩])
  .ret)
  (.seq (.reg [⟨(some 55), none, .bin .eql (.t 5) (.c (.p (.int .u8 7)))⟩,
    ⟨(some 54), none, .mov (.t 55)⟩])
  (.cond (.t 54) (.seq (.reg [⟨(some 2), none, .mov (.c (.p (.str ⟨#[115, 101, 113]⟩)))⟩])
  .ret)
  (.seq (.reg [⟨(some 57), none, .bin .eql (.t 5) (.c (.p (.int .u8 8)))⟩,
    ⟨(some 56), none, .mov (.t 57)⟩])
  (.cond (.t 56) (.seq (.reg [⟨(some 2), none, .mov (.c (.p (.str ⟨#[105, 102]⟩)))⟩])
  .ret)
  (.seq (.reg [⟨(some 59), none, .bin .eql (.t 5) (.c (.p (.int .u8 9)))⟩,
    ⟨(some 58), none, .mov (.t 59)⟩])
  (.cond (.t 58) (.seq (.reg [⟨(some 2), none, .mov (.c (.p (.str ⟨#[119, 104, 105, 108, 101]⟩)))⟩])
  .ret)
  (.seq (.reg [⟨(some 61), none, .bin .eql (.t 5) (.c (.p (.int .u8 10)))⟩,
    ⟨(some 60), none, .mov (.t 61)⟩])
  (.cond (.t 60) (.seq (.regd [] [] [⟨(some 62), none, .fa 1 (.t 1)⟩,
    ⟨(some 63), none, .load none (.t 62)⟩,
    ⟨(some 64), none, .call 166 [(.t 63)]⟩,
    ⟨(some 65), none, .bin .add (.c (.p (.str ⟨#[110, 101, 119, 47]⟩))) (.t 64)⟩,
    ⟨(some 66), none, .bin .add (.t 65) (.c (.p (.str ⟨#[47]⟩)))⟩,
    ⟨(some 67), none, .fa 2 (.t 1)⟩,
    ⟨(some 68), none, .load none (.t 67)⟩,
    ⟨(some 69), none, .call 166 [(.t 68)]⟩,
    ⟨(some 70), none, .bin .add (.t 66) (.t 69)⟩,
    ⟨(some 2), none, .mov (.t 70)⟩] [⟨6, none, (.t 67), [(2, 168)]⟩])
  .ret)
  (.seq (.reg [⟨(some 72), none, .bin .eql (.t 5) (.c (.p (.int .u8 11)))⟩,
    ⟨(some 71), none, .mov (.t 72)⟩])
  (.cond (.t 71) (.seq (.reg [⟨(some 2), none, .mov (.c (.p (.str ⟨#[108, 97, 98, 101, 108]⟩)))⟩])
  .ret)
  (.seq (.reg [⟨(some 74), none, .bin .eql (.t 5) (.c (.p (.int .u8 12)))⟩,
    ⟨(some 73), none, .mov (.t 74)⟩])
  (.cond (.t 73) (.seq (.reg [⟨(some 75), none, .fa 1 (.t 1)⟩,
    ⟨(some 76), none, .load none (.t 75)⟩,
    ⟨(some 77), none, .call 166 [(.t 76)]⟩,
    ⟨(some 78), none, .bin .add (.c (.p (.str ⟨#[106, 117, 109, 112, 47]⟩))) (.t 77)⟩,
    ⟨(some 2), none, .mov (.t 78)⟩])
  .ret)
  (.seq (.reg [⟨(some 80), none, .bin .eql (.t 5) (.c (.p (.int .u8 18)))⟩,
    ⟨(some 79), none, .mov (.t 80)⟩])
  (.cond (.t 79) (.seq (.regd [] [] [⟨(some 81), none, .fa 3 (.t 1)⟩,
    ⟨(some 82), none, .load none (.t 81)⟩,
    ⟨(some 83), none, .call 166 [(.t 82)]⟩,
    ⟨(some 84), none, .bin .add (.c (.p (.str ⟨#[110, 111, 116, 105, 99, 101, 47]⟩))) (.t 83)⟩,
    ⟨(some 85), none, .bin .add (.t 84) (.c (.p (.str ⟨#[47]⟩)))⟩,
    ⟨(some 86), none, .fa 1 (.t 1)⟩,
    ⟨(some 87), none, .load none (.t 86)⟩,
    ⟨(some 88), none, .call 166 [(.t 87)]⟩,
    ⟨(some 89), none, .bin .add (.t 85) (.t 88)⟩,
    ⟨(some 2), none, .mov (.t 89)⟩] [⟨6, none, (.t 86), [(2, 168)]⟩])
  .ret)
  (.seq (.reg [⟨(some 91), none, .bin .eql (.t 5) (.c (.p (.int .u8 13)))⟩,
    ⟨(some 90), none, .mov (.t 91)⟩])
  (.cond (.t 90) (.seq (.reg [⟨(some 2), none, .mov (.c (.p (.str ⟨#[99, 104, 111, 111, 115, 101]⟩)))⟩])
  .ret)
  (.seq (.reg [⟨(some 93), none, .bin .eql (.t 5) (.c (.p (.int .u8 14)))⟩,
    ⟨(some 92), none, .mov (.t 93)⟩])
  (.cond (.t 92) (.seq (.reg [⟨(some 2), none, .mov (.c (.p (.str ⟨#[104, 97, 110, 103]⟩)))⟩])
  .ret)
  (.seq (.reg [⟨(some 95), none, .bin .eql (.t 5) (.c (.p (.int .u8 15)))⟩,
    ⟨(some 94), none, .mov (.t 95)⟩])
  (.cond (.t 94) (.seq (.reg [⟨(some 96), none, .fa 3 (.t 1)⟩,
    ⟨(some 97), none, .load none (.t 96)⟩,
    ⟨(some 98), none, .call 166 [(.t 97)]⟩,
    ⟨(some 99), none, .bin .add (.c (.p (.str ⟨#[35]⟩))) (.t 98)⟩,
    ⟨(some 2), none, .mov (.t 99)⟩])
  .ret)
  (.seq (.reg [⟨(some 101), none, .bin .eql (.t 5) (.c (.p (.int .u8 16)))⟩,
    ⟨(some 100), none, .mov (.t 101)⟩])
  (.cond (.t 100) (.seq (.reg [⟨(some 102), none, .fa 3 (.t 1)⟩,
    ⟨(some 103), none, .load none (.t 102)⟩,
    ⟨(some 104), none, .call 166 [(.t 103)]⟩,
    ⟨(some 105), none, .bin .add (.c (.p (.str ⟨#[38]⟩))) (.t 104)⟩,
    ⟨(some 2), none, .mov (.t 105)⟩])
  .ret)
  .skip))))))))))))))))))))))))))))))))))))
  (.seq (.reg [⟨(some 2), none, .mov (.c (.p (.str ⟨#[111, 98, 106]⟩)))⟩])
  .ret))), [.t 2]⟩
def cf166 : CF := ⟨1, 5, 0, true, false, false, false, (.seq (.reg [⟨(some 2), none, .mov (.c (.p (.str ⟨#[]⟩)))⟩])
  (.seq (.seq (.reg [⟨(some 3), none, .mov (.t 0)⟩,
    ⟨(some 4), none, .bin .lss (.t 3) (.c (.p (.int .i64 10)))⟩])
  (.cond (.t 4) (.seq (.reg [⟨(some 5), none, .mov (.t 0)⟩,
    ⟨(some 6), none, .mov (.t 0)⟩,
    ⟨(some 7), none, .bin .add (.t 6) (.c (.p (.int .i64 1)))⟩,
    ⟨(some 8), none, .sstr (.c (.p (.str ⟨#[48, 49, 50, 51, 52, 53, 54, 55, 56, 57]⟩))) (some (.t 5)) (some (.t 7))⟩,
    ⟨(some 2), none, .mov (.t 8)⟩])
  .ret)
  .skip))
  (.seq (.reg [⟨(some 9), none, .mov (.t 0)⟩,
    ⟨(some 10), none, .bin .quo (.t 9) (.c (.p (.int .i64 10)))⟩,
    ⟨(some 11), none, .call 166 [(.t 10)]⟩,
    ⟨(some 12), none, .mov (.t 0)⟩,
    ⟨(some 13), none, .bin .rem (.t 12) (.c (.p (.int .i64 10)))⟩,
    ⟨(some 14), none, .call 166 [(.t 13)]⟩,
    ⟨(some 15), none, .bin .add (.t 11) (.t 14)⟩,
    ⟨(some 2), none, .mov (.t 15)⟩])
  .ret))), [.t 2]⟩
def cf15 : CF := ⟨1, 5, 2, false, false, false, false, (.seq (.reg [⟨(some 1), none, .box 0 (some 5) (.t 0)⟩,
    ⟨(some 2), none, .alloc 1 [(.p (.int .u8 0)), (.p (.int .i64 0)), (.p (.int .i64 0)), (.p (.int .i64 0)), (.sl 0 [] .full)]⟩])
  (.seq (.reg [⟨(some 5), none, .load (some 5) (.t 1)⟩,
    ⟨(some 3), none, .alloc 2 [(.p (.int .u8 0)), (.p (.int .i64 0)), (.p (.int .i64 0)), (.p (.int .i64 0)), (.sl 0 [] .full)]⟩,
    ⟨none, none, .store (some 5) (.t 3) (.t 5)⟩])
  (.seq (.reg [⟨(some 6), none, .fa 4 (.t 3)⟩,
    ⟨none, none, .store none (.t 6) (.c (.sl 0 [] .full))⟩])
  (.seq (.seq (.reg [⟨(some 4), none, .mov (.c (.p (.int .i64 0)))⟩])
  (.block 0 (.loop (.seq (.seq (.reg [⟨(some 7), none, .mov (.t 4)⟩,
    ⟨(some 8), none, .fa 4 (.t 1)⟩,
    ⟨(some 9), none, .load none (.t 8)⟩,
    ⟨(some 10), none, .len false (.t 9)⟩,
    ⟨(some 11), none, .bin .lss (.t 7) (.t 10)⟩])
  (.cond (.t 11) .skip
  (.exit 0)))
  (.seq (.block 1 (.regd [] [] [⟨(some 14), none, .fa 4 (.t 3)⟩,
    ⟨(some 15), none, .load none (.t 14)⟩,
    ⟨(some 16), none, .fa 4 (.t 1)⟩,
    ⟨(some 17), none, .load none (.t 16)⟩,
    ⟨(some 18), none, .mov (.t 4)⟩,
    ⟨(some 19), none, .ia 5 (.t 17) (.t 18)⟩,
    ⟨(some 20), none, .load (some 5) (.t 19)⟩,
    ⟨(some 21), none, .call 15 [(.t 20)]⟩,
    ⟨(some 22), none, .mks 1 [(.int .u8 0), (.int .i64 0), (.int .i64 0), (.int .i64 0), (.sl 0 [])] [(0, (some 5), (.t 21))]⟩,
    ⟨(some 23), none, .app 5 56 (.t 15) (.t 22)⟩,
    ⟨(some 24), none, .fa 4 (.t 3)⟩,
    ⟨none, none, .store none (.t 24) (.t 23)⟩] [⟨1, none, (.t 14), [(7, 17)]⟩]))
  (.reg [⟨(some 12), none, .mov (.t 4)⟩,
    ⟨(some 13), none, .bin .add (.t 12) (.c (.p (.int .i64 1)))⟩,
    ⟨(some 4), none, .mov (.t 13)⟩]))))))
  (.seq (.reg [⟨(some 25), none, .load (some 5) (.t 3)⟩,
    ⟨none, none, .store (some 5) (.t 2) (.t 25)⟩])
  .ret))))), [.l 2 (some 5)]⟩
def cf27 : CF := ⟨2, 5, 3, false, false, false, false, (.seq (.reg [⟨(some 2), none, .box 0 (some 4) (.t 0)⟩,
    ⟨(some 3), none, .box 1 (some 5) (.t 1)⟩,
    ⟨(some 4), none, .halloc [(.sl 0 [] .full)]⟩,
    ⟨(some 5), none, .mov (.c (.p (.int .i64 0)))⟩])
  (.seq (.reg [⟨(some 9), none, .load (some 4) (.t 2)⟩,
    ⟨(some 10), none, .load (some 5) (.t 3)⟩,
    ⟨(some 11), none, .call 40 [(.t 9), (.t 10)]⟩,
    ⟨(some 8), none, .mov (.t 11)⟩,
    ⟨(some 12), none, .ext (.t 8) 0⟩,
    ⟨(some 13), none, .ext (.t 8) 1⟩,
    ⟨(some 6), none, .alloc 2 [(.p (.int .u8 0)), (.p (.int .i64 0)), (.p (.int .i64 0)), (.p (.int .i64 0)), (.sl 0 [] .full), (.sl 0 [] .full), (.p (.int .i64 0))]⟩,
    ⟨none, none, .store (some 7) (.t 6) (.t 12)⟩,
    ⟨(some 5), none, .mov (.t 13)⟩])
  (.seq (.seq (.reg [⟨(some 14), none, .mov (.t 5)⟩,
    ⟨(some 15), none, .bin .neq (.t 14) (.c (.p (.int .i64 0)))⟩])
  (.cond (.t 15) (.seq (.reg [⟨(some 16), none, .mov (.t 5)⟩,
    ⟨none, none, .store none (.t 4) (.c (.sl 0 [] .full))⟩,
    ⟨(some 5), none, .mov (.t 16)⟩])
  .ret)
  .skip))
  (.seq (.seq (.reg [⟨(some 17), none, .load (some 7) (.t 6)⟩,
    ⟨(some 18), none, .call 54 [(.t 17), (.c (.p (.func 42 [] [])))]⟩])
  (.block 0 (.rangeFunc (.t 18) [19, 20] (.reg [⟨(some 7), none, .alloc 3 [(.p (.int .u8 0)), (.p (.int .i64 0))]⟩,
    ⟨none, none, .store (some 2) (.t 7) (.t 19)⟩])
  (.block 1 (.reg [⟨(some 21), none, .load none (.t 4)⟩,
    ⟨(some 22), none, .load (some 2) (.t 7)⟩,
    ⟨(some 23), none, .mks 1 [(.int .u8 0), (.int .i64 0)] [(0, (some 2), (.t 22))]⟩,
    ⟨(some 24), none, .app 2 16 (.t 21) (.t 23)⟩,
    ⟨none, none, .store none (.t 4) (.t 24)⟩])))))
  (.seq (.reg [⟨(some 25), none, .load none (.t 4)⟩,
    ⟨none, none, .store none (.t 4) (.t 25)⟩,
    ⟨(some 5), none, .mov (.c (.p (.int .i64 0)))⟩])
  .ret))))), [.l 4 none, .t 5]⟩
def cf40 : CF := ⟨2, 4, 2, false, false, false, false, (.seq (.reg [⟨(some 2), none, .box 0 (some 4) (.t 0)⟩,
    ⟨(some 3), none, .box 1 (some 5) (.t 1)⟩,
    ⟨(some 4), none, .alloc 2 [(.p (.int .u8 0)), (.p (.int .i64 0)), (.p (.int .i64 0)), (.p (.int .i64 0)), (.sl 0 [] .full), (.sl 0 [] .full), (.p (.int .i64 0))]⟩,
    ⟨(some 5), none, .mov (.c (.p (.int .i64 0)))⟩])
  (.seq (.regd [] [] [⟨(some 6), none, .load (some 4) (.t 2)⟩,
    ⟨(some 7), none, .load (some 5) (.t 3)⟩,
    ⟨(some 8), none, .call 65 [(.t 6), (.t 7)]⟩,
    ⟨(some 9), none, .load (some 4) (.t 2)⟩,
    ⟨(some 10), none, .load (some 5) (.t 3)⟩,
    ⟨(some 11), none, .call 31 [(.t 9), (.t 10)]⟩,
    ⟨none, none, .store (some 7) (.t 4) (.t 8)⟩,
    ⟨(some 5), none, .mov (.t 11)⟩] [⟨3, (some 4), (.t 2), [(2, 67)]⟩, ⟨4, (some 5), (.t 3), [(2, 67)]⟩])
  .ret)), [.l 4 (some 7), .t 5]⟩
def cf65 : CF := ⟨2, 5, 3, false, false, false, false, (.seq (.reg [⟨(some 2), none, .box 0 (some 4) (.t 0)⟩,
    ⟨(some 3), none, .box 1 (some 5) (.t 1)⟩,
    ⟨(some 4), none, .alloc 2 [(.p (.int .u8 0)), (.p (.int .i64 0)), (.p (.int .i64 0)), (.p (.int .i64 0)), (.sl 0 [] .full), (.sl 0 [] .full), (.p (.int .i64 0))]⟩])
  (.seq (.reg [⟨(some 8), none, .load (some 5) (.t 3)⟩,
    ⟨(some 9), none, .fa 0 (.t 2)⟩,
    ⟨(some 10), none, .load none (.t 9)⟩,
    ⟨(some 11), none, .len false (.t 10)⟩,
    ⟨(some 12), none, .build [(.p (.int .u8 0)), (.p (.int .i64 0)), (.p (.int .i64 0)), (.p (.int .i64 0)), (.sl 0 [] .full), (.sl 0 [] .full), (.p (.int .i64 0))] [(0, (some 5), (.t 8)), (6, none, (.t 11))]⟩,
    ⟨(some 5), none, .alloc 3 [(.p (.int .u8 0)), (.p (.int .i64 0)), (.p (.int .i64 0)), (.p (.int .i64 0)), (.sl 0 [] .full), (.sl 0 [] .full), (.p (.int .i64 0))]⟩,
    ⟨none, none, .store (some 7) (.t 5) (.t 12)⟩])
  (.seq (.seq (.reg [⟨(some 13), none, .fa 0 (.t 2)⟩,
    ⟨(some 14), none, .load none (.t 13)⟩,
    ⟨(some 15), none, .len false (.t 14)⟩,
    ⟨(some 16), none, .mov (.c (.p (.int .i64 0)))⟩])
  (.block 0 (.loop (.seq (.reg [⟨(some 17), none, .bin .lss (.t 16) (.t 15)⟩])
  (.seq (.cond (.t 17) .skip
  (.exit 0))
  (.seq (.block 1 (.seq (.reg [⟨(some 18), none, .ia 3 (.t 14) (.t 16)⟩,
    ⟨(some 19), none, .load (some 3) (.t 18)⟩,
    ⟨(some 7), none, .alloc 4 [(.sl 0 [] .full), (.p (.bool false)), (.p (.int .i64 0))]⟩,
    ⟨none, none, .store (some 3) (.t 7) (.t 19)⟩])
  (.reg [⟨(some 20), none, .fa 5 (.t 5)⟩,
    ⟨(some 21), none, .load none (.t 20)⟩,
    ⟨(some 22), none, .fa 1 (.t 7)⟩,
    ⟨(some 23), none, .fa 1 (.t 22)⟩,
    ⟨(some 24), none, .load none (.t 23)⟩,
    ⟨(some 25), none, .mks 1 [(.int .i64 0)] [(0, none, (.t 24))]⟩,
    ⟨(some 26), none, .app 1 8 (.t 21) (.t 25)⟩,
    ⟨(some 27), none, .fa 5 (.t 5)⟩,
    ⟨none, none, .store none (.t 27) (.t 26)⟩])))
  (.reg [⟨(some 28), none, .bin .add (.t 16) (.c (.p (.int .i64 1)))⟩,
    ⟨(some 16), none, .mov (.t 28)⟩])))))))
  (.seq (.reg [⟨(some 29), none, .load (some 7) (.t 5)⟩,
    ⟨none, none, .store (some 7) (.t 4) (.t 29)⟩])
  .ret)))), [.l 4 (some 7)]⟩
def cf31 : CF := ⟨2, 6, 3, false, false, false, false, (.seq (.reg [⟨(some 2), none, .box 0 (some 4) (.t 0)⟩,
    ⟨(some 3), none, .box 1 (some 5) (.t 1)⟩,
    ⟨(some 4), none, .mov (.c (.p (.int .i64 0)))⟩])
  (.seq (.seq (.reg [⟨(some 9), none, .load (some 4) (.t 2)⟩,
    ⟨(some 10), none, .call 56 [(.t 9)]⟩,
    ⟨(some 5), none, .mov (.t 10)⟩])
  (.seq (.reg [⟨(some 11), none, .mov (.t 5)⟩,
    ⟨(some 12), none, .bin .neq (.t 11) (.c (.p (.int .i64 0)))⟩])
  (.cond (.t 12) (.seq (.reg [⟨(some 13), none, .mov (.t 5)⟩,
    ⟨(some 4), none, .mov (.t 13)⟩])
  .ret)
  .skip)))
  (.seq (.seq (.reg [⟨(some 14), none, .load (some 5) (.t 3)⟩,
    ⟨(some 15), none, .call 57 [(.t 14)]⟩,
    ⟨(some 16), none, .bin .gtr (.t 15) (.c (.p (.int .i64 600)))⟩])
  (.cond (.t 16) (.seq (.reg [⟨(some 4), none, .mov (.c (.p (.int .i64 5)))⟩])
  .ret)
  .skip))
  (.seq (.regd [(2, [(.sl 0 [] .full), (.p (.int .i64 0)), (.p (.int .i64 0)), (.p .nilMap)])] [] [⟨(some 17), none, .fa 0 (.t 2)⟩,
    ⟨(some 18), none, .load none (.t 17)⟩,
    ⟨(some 19), none, .len false (.t 18)⟩,
    ⟨(some 20), none, .call 58 []⟩,
    ⟨(some 21), none, .build [(.sl 0 [] .full), (.p (.int .i64 0)), (.p (.int .i64 0)), (.p .nilMap)] [(1, none, (.t 19)), (3, none, (.t 20))]⟩,
    ⟨(some 6), none, .alloced 2⟩,
    ⟨none, none, .store (some 4) (.t 6) (.t 21)⟩] [⟨1, none, (.t 17), [(3, 60)]⟩])
  (.seq (.seq (.reg [⟨(some 22), none, .fa 0 (.t 2)⟩,
    ⟨(some 23), none, .load none (.t 22)⟩,
    ⟨(some 24), none, .len false (.t 23)⟩,
    ⟨(some 25), none, .mov (.c (.p (.int .i64 0)))⟩])
  (.block 0 (.loop (.seq (.reg [⟨(some 26), none, .bin .lss (.t 25) (.t 24)⟩])
  (.seq (.cond (.t 26) .skip
  (.exit 0))
  (.seq (.block 1 (.seq (.reg [⟨(some 27), none, .ia 3 (.t 23) (.t 25)⟩,
    ⟨(some 28), none, .load (some 3) (.t 27)⟩,
    ⟨(some 8), none, .alloc 3 [(.sl 0 [] .full), (.p (.bool false)), (.p (.int .i64 0))]⟩,
    ⟨none, none, .store (some 3) (.t 8) (.t 28)⟩])
  (.reg [⟨(some 29), none, .fa 0 (.t 6)⟩,
    ⟨(some 30), none, .load none (.t 29)⟩,
    ⟨(some 31), none, .load (some 3) (.t 8)⟩,
    ⟨(some 32), none, .build [(.sl 0 [] .full), (.p (.bool false)), (.p (.int .i64 0)), (.p (.bool false))] [(0, (some 3), (.t 31))]⟩,
    ⟨(some 33), none, .mks 1 [(.sl 0 []), (.bool false), (.int .i64 0), (.bool false)] [(0, (some 4), (.t 32))]⟩,
    ⟨(some 34), none, .app 4 48 (.t 30) (.t 33)⟩,
    ⟨(some 35), none, .fa 0 (.t 6)⟩,
    ⟨none, none, .store none (.t 35) (.t 34)⟩])))
  (.reg [⟨(some 36), none, .bin .add (.t 25) (.c (.p (.int .i64 1)))⟩,
    ⟨(some 25), none, .mov (.t 36)⟩])))))))
  (.seq (.seq (.reg [⟨(some 37), none, .load (some 4) (.t 6)⟩,
    ⟨(some 38), none, .load (some 5) (.t 3)⟩,
    ⟨(some 39), none, .fa 1 (.t 2)⟩,
    ⟨(some 40), none, .load (some 2) (.t 39)⟩,
    ⟨(some 41), none, .call 59 [(.t 37), (.t 38), (.t 40)]⟩,
    ⟨(some 42), none, .not (.t 41)⟩])
  (.cond (.t 42) (.seq (.reg [⟨(some 4), none, .mov (.c (.p (.int .i64 4)))⟩])
  .ret)
  .skip))
  (.seq (.reg [⟨(some 4), none, .mov (.c (.p (.int .i64 0)))⟩])
  .ret))))))), [.t 4]⟩
def cf56 : CF := ⟨1, 5, 1, true, false, false, false, (.seq (.reg [⟨(some 1), none, .box 0 (some 4) (.t 0)⟩,
    ⟨(some 2), none, .mov (.c (.p (.int .i64 0)))⟩])
  (.seq (.reg [⟨(some 3), none, .mov (.c (.p (.func 99 [] [])))⟩])
  (.seq (.reg [⟨(some 4), none, .mov (.c (.p (.func 100 [] [])))⟩])
  (.seq (.block 0 (.seq (.reg [⟨(some 6), none, .fa 0 (.t 1)⟩,
    ⟨(some 7), none, .load none (.t 6)⟩,
    ⟨(some 8), none, .len false (.t 7)⟩,
    ⟨(some 9), none, .bin .gtr (.t 8) (.c (.p (.int .i64 8)))⟩,
    ⟨(some 10), none, .mov (.t 9)⟩,
    ⟨(some 11), (some (10, false)), .fa 0 (.t 1)⟩,
    ⟨(some 12), (some (10, false)), .load none (.t 11)⟩,
    ⟨(some 13), (some (10, false)), .mov (.t 3)⟩,
    ⟨(some 14), (some (10, false)), .call 102 [(.t 12), (.t 13)]⟩,
    ⟨(some 15), none, .pick (.t 10) (.c (.p (.bool true))) (.t 14)⟩,
    ⟨(some 5), none, .mov (.t 15)⟩])
  (.cond (.t 5) (.seq (.reg [⟨(some 2), none, .mov (.c (.p (.int .i64 5)))⟩])
  .ret)
  (.seq (.reg [⟨(some 17), none, .fa 1 (.t 1)⟩,
    ⟨(some 18), none, .load (some 2) (.t 17)⟩,
    ⟨(some 19), none, .call 103 [(.t 18)]⟩,
    ⟨(some 20), none, .not (.t 19)⟩,
    ⟨(some 21), none, .mov (.t 20)⟩,
    ⟨(some 22), (some (21, false)), .fa 0 (.t 1)⟩,
    ⟨(some 23), (some (21, false)), .load none (.t 22)⟩,
    ⟨(some 24), (some (21, false)), .mov (.t 4)⟩,
    ⟨(some 25), (some (21, false)), .call 102 [(.t 23), (.t 24)]⟩,
    ⟨(some 26), none, .pick (.t 21) (.c (.p (.bool true))) (.t 25)⟩,
    ⟨(some 16), none, .mov (.t 26)⟩])
  (.cond (.t 16) (.seq (.reg [⟨(some 2), none, .mov (.c (.p (.int .i64 4)))⟩])
  .ret)
  .skip)))))
  (.seq (.reg [⟨(some 2), none, .mov (.c (.p (.int .i64 0)))⟩])
  .ret))))), [.t 2]⟩
def cf99 : CF := ⟨1, 3, 1, true, false, false, false, (.seq (.reg [⟨(some 1), none, .box 0 (some 3) (.t 0)⟩,
    ⟨(some 2), none, .mov (.c (.p (.bool false)))⟩])
  (.seq (.reg [⟨(some 3), none, .fa 0 (.t 1)⟩,
    ⟨(some 4), none, .load none (.t 3)⟩,
    ⟨(some 5), none, .len false (.t 4)⟩,
    ⟨(some 6), none, .bin .gtr (.t 5) (.c (.p (.int .i64 5)))⟩,
    ⟨(some 2), none, .mov (.t 6)⟩])
  .ret)), [.t 2]⟩
def cf100 : CF := ⟨1, 3, 1, true, false, false, false, (.seq (.reg [⟨(some 1), none, .box 0 (some 3) (.t 0)⟩,
    ⟨(some 2), none, .mov (.c (.p (.bool false)))⟩])
  (.seq (.reg [⟨(some 3), none, .load (some 3) (.t 1)⟩,
    ⟨(some 4), none, .call 101 [(.t 3)]⟩,
    ⟨(some 5), none, .not (.t 4)⟩,
    ⟨(some 2), none, .mov (.t 5)⟩])
  .ret)), [.t 2]⟩
def cf101 : CF := ⟨1, 5, 1, true, false, false, false, (.seq (.reg [⟨(some 1), none, .box 0 (some 3) (.t 0)⟩,
    ⟨(some 2), none, .mov (.c (.p (.bool false)))⟩])
  (.seq (.reg [⟨(some 3), none, .mov (.c (.p (.func 160 [] [])))⟩])
  (.seq (.reg [⟨(some 4), none, .fa 1 (.t 1)⟩,
    ⟨(some 5), none, .load (some 2) (.t 4)⟩,
    ⟨(some 6), none, .call 103 [(.t 5)]⟩,
    ⟨(some 7), none, .mov (.t 6)⟩,
    ⟨(some 8), (some (7, true)), .fa 0 (.t 1)⟩,
    ⟨(some 9), (some (7, true)), .load none (.t 8)⟩,
    ⟨(some 10), (some (7, true)), .mov (.t 3)⟩,
    ⟨(some 11), (some (7, true)), .call 161 [(.t 9), (.t 10)]⟩,
    ⟨(some 12), (some (7, true)), .not (.t 11)⟩,
    ⟨(some 13), none, .pick (.t 7) (.t 12) (.c (.p (.bool false)))⟩,
    ⟨(some 14), none, .mov (.t 13)⟩,
    ⟨(some 15), (some (14, true)), .fa 0 (.t 1)⟩,
    ⟨(some 16), (some (14, true)), .load none (.t 15)⟩,
    ⟨(some 17), (some (14, true)), .len false (.t 16)⟩,
    ⟨(some 18), (some (14, true)), .bin .eql (.t 17) (.c (.p (.int .i64 0)))⟩,
    ⟨(some 19), (some (14, true)), .mov (.t 18)⟩,
    ⟨(some 20), (some (19, false)), .fa 1 (.t 1)⟩,
    ⟨(some 21), (some (19, false)), .fa 0 (.t 20)⟩,
    ⟨(some 22), (some (19, false)), .load none (.t 21)⟩,
    ⟨(some 23), (some (19, false)), .not (.t 22)⟩,
    ⟨(some 24), (some (14, true)), .pick (.t 19) (.c (.p (.bool true))) (.t 23)⟩,
    ⟨(some 25), none, .pick (.t 14) (.t 24) (.c (.p (.bool false)))⟩,
    ⟨(some 2), none, .mov (.t 25)⟩])
  .ret))), [.t 2]⟩
def cf160 : CF := ⟨1, 3, 1, true, false, false, false, (.seq (.reg [⟨(some 1), none, .box 0 (some 2) (.t 0)⟩,
    ⟨(some 2), none, .mov (.c (.p (.bool false)))⟩])
  (.seq (.reg [⟨(some 3), none, .load (some 2) (.t 1)⟩,
    ⟨(some 4), none, .call 103 [(.t 3)]⟩,
    ⟨(some 5), none, .not (.t 4)⟩,
    ⟨(some 2), none, .mov (.t 5)⟩])
  .ret)), [.t 2]⟩
def cf103 : CF := ⟨1, 4, 1, true, false, false, false, (.seq (.reg [⟨(some 1), none, .box 0 (some 2) (.t 0)⟩,
    ⟨(some 2), none, .mov (.c (.p (.bool false)))⟩])
  (.seq (.reg [⟨(some 3), none, .fa 1 (.t 1)⟩,
    ⟨(some 4), none, .load none (.t 3)⟩,
    ⟨(some 5), none, .bin .geq (.t 4) (.c (.p (.int .i64 1)))⟩,
    ⟨(some 6), none, .mov (.t 5)⟩,
    ⟨(some 7), (some (6, true)), .fa 1 (.t 1)⟩,
    ⟨(some 8), (some (6, true)), .load none (.t 7)⟩,
    ⟨(some 9), (some (6, true)), .bin .leq (.t 8) (.c (.p (.int .i64 64)))⟩,
    ⟨(some 10), none, .pick (.t 6) (.t 9) (.c (.p (.bool false)))⟩,
    ⟨(some 2), none, .mov (.t 10)⟩])
  .ret)), [.t 2]⟩
def cf161 : CF := ⟨2, 4, 0, false, false, false, false, (.seq (.reg [⟨(some 4), none, .mov (.c (.p (.bool false)))⟩])
  (.seq (.reg [⟨(some 5), none, .mov (.t 0)⟩,
    ⟨(some 6), none, .mov (.t 1)⟩,
    ⟨(some 7), none, .call 192 [(.t 5), (.t 6)]⟩,
    ⟨(some 8), none, .bin .geq (.t 7) (.c (.p (.int .i64 0)))⟩,
    ⟨(some 4), none, .mov (.t 8)⟩])
  .ret)), [.t 4]⟩
def cf192 : CF := ⟨2, 5, 0, false, false, false, false, (.seq (.reg [⟨(some 4), none, .mov (.c (.p (.int .i64 0)))⟩])
  (.seq (.seq (.reg [⟨(some 6), none, .mov (.t 0)⟩,
    ⟨(some 7), none, .len false (.t 6)⟩,
    ⟨(some 8), none, .mov (.c (.p (.int .i64 0)))⟩])
  (.block 0 (.loop (.seq (.reg [⟨(some 9), none, .bin .lss (.t 8) (.t 7)⟩])
  (.seq (.cond (.t 9) .skip
  (.exit 0))
  (.seq (.block 1 (.seq (.reg [⟨(some 10), none, .mov (.t 8)⟩,
    ⟨(some 5), none, .mov (.t 10)⟩])
  (.seq (.reg [⟨(some 11), none, .mov (.t 1)⟩,
    ⟨(some 12), none, .mov (.t 0)⟩,
    ⟨(some 13), none, .mov (.t 5)⟩,
    ⟨(some 14), none, .ia 2 (.t 12) (.t 13)⟩,
    ⟨(some 15), none, .load (some 2) (.t 14)⟩,
    ⟨(some 16), none, .callv (.t 11) [(.t 15)]⟩])
  (.cond (.t 16) (.seq (.reg [⟨(some 17), none, .mov (.t 5)⟩,
    ⟨(some 4), none, .mov (.t 17)⟩])
  .ret)
  .skip))))
  (.reg [⟨(some 18), none, .bin .add (.t 8) (.c (.p (.int .i64 1)))⟩,
    ⟨(some 8), none, .mov (.t 18)⟩])))))))
  (.seq (.reg [⟨(some 4), none, .mov (.c (.p (.int .i64 (-1))))⟩])
  .ret))), [.t 4]⟩
def cf102 : CF := ⟨2, 4, 0, false, false, false, false, (.seq (.reg [⟨(some 4), none, .mov (.c (.p (.bool false)))⟩])
  (.seq (.reg [⟨(some 5), none, .mov (.t 0)⟩,
    ⟨(some 6), none, .mov (.t 1)⟩,
    ⟨(some 7), none, .call 162 [(.t 5), (.t 6)]⟩,
    ⟨(some 8), none, .bin .geq (.t 7) (.c (.p (.int .i64 0)))⟩,
    ⟨(some 4), none, .mov (.t 8)⟩])
  .ret)), [.t 4]⟩
def cf162 : CF := ⟨2, 5, 0, false, false, false, false, (.seq (.reg [⟨(some 4), none, .mov (.c (.p (.int .i64 0)))⟩])
  (.seq (.seq (.reg [⟨(some 6), none, .mov (.t 0)⟩,
    ⟨(some 7), none, .len false (.t 6)⟩,
    ⟨(some 8), none, .mov (.c (.p (.int .i64 0)))⟩])
  (.block 0 (.loop (.seq (.reg [⟨(some 9), none, .bin .lss (.t 8) (.t 7)⟩])
  (.seq (.cond (.t 9) .skip
  (.exit 0))
  (.seq (.block 1 (.seq (.reg [⟨(some 10), none, .mov (.t 8)⟩,
    ⟨(some 5), none, .mov (.t 10)⟩])
  (.seq (.reg [⟨(some 11), none, .mov (.t 1)⟩,
    ⟨(some 12), none, .mov (.t 0)⟩,
    ⟨(some 13), none, .mov (.t 5)⟩,
    ⟨(some 14), none, .ia 3 (.t 12) (.t 13)⟩,
    ⟨(some 15), none, .load (some 3) (.t 14)⟩,
    ⟨(some 16), none, .callv (.t 11) [(.t 15)]⟩])
  (.cond (.t 16) (.seq (.reg [⟨(some 17), none, .mov (.t 5)⟩,
    ⟨(some 4), none, .mov (.t 17)⟩])
  .ret)
  .skip))))
  (.reg [⟨(some 18), none, .bin .add (.t 8) (.c (.p (.int .i64 1)))⟩,
    ⟨(some 8), none, .mov (.t 18)⟩])))))))
  (.seq (.reg [⟨(some 4), none, .mov (.c (.p (.int .i64 (-1))))⟩])
  .ret))), [.t 4]⟩
def cf57 : CF := ⟨1, 5, 2, false, false, false, false, (.seq (.reg [⟨(some 1), none, .box 0 (some 5) (.t 0)⟩,
    ⟨(some 2), none, .mov (.c (.p (.int .i64 0)))⟩])
  (.seq (.reg [⟨(some 3), none, .mov (.c (.p (.int .i64 1)))⟩])
  (.seq (.seq (.reg [⟨(some 6), none, .fa 4 (.t 1)⟩,
    ⟨(some 7), none, .load none (.t 6)⟩,
    ⟨(some 8), none, .len false (.t 7)⟩,
    ⟨(some 9), none, .mov (.c (.p (.int .i64 0)))⟩])
  (.block 0 (.loop (.seq (.reg [⟨(some 10), none, .bin .lss (.t 9) (.t 8)⟩])
  (.seq (.cond (.t 10) .skip
  (.exit 0))
  (.seq (.block 1 (.seq (.reg [⟨(some 11), none, .ia 5 (.t 7) (.t 9)⟩,
    ⟨(some 12), none, .load (some 5) (.t 11)⟩,
    ⟨(some 5), none, .alloc 1 [(.p (.int .u8 0)), (.p (.int .i64 0)), (.p (.int .i64 0)), (.p (.int .i64 0)), (.sl 0 [] .full)]⟩,
    ⟨none, none, .store (some 5) (.t 5) (.t 12)⟩])
  (.seq (.seq (.reg [⟨(some 13), none, .mov (.t 3)⟩,
    ⟨(some 14), none, .bin .gtr (.t 13) (.c (.p (.int .i64 600)))⟩])
  (.cond (.t 14) (.exit 0)
  .skip))
  (.reg [⟨(some 15), none, .mov (.t 3)⟩,
    ⟨(some 16), none, .load (some 5) (.t 5)⟩,
    ⟨(some 17), none, .call 57 [(.t 16)]⟩,
    ⟨(some 18), none, .bin .add (.t 15) (.t 17)⟩,
    ⟨(some 3), none, .mov (.t 18)⟩]))))
  (.reg [⟨(some 19), none, .bin .add (.t 9) (.c (.p (.int .i64 1)))⟩,
    ⟨(some 9), none, .mov (.t 19)⟩])))))))
  (.seq (.reg [⟨(some 20), none, .mov (.t 3)⟩,
    ⟨(some 2), none, .mov (.t 20)⟩])
  .ret)))), [.t 2]⟩
def cf58 : CF := ⟨0, 5, 0, false, false, false, false, (.seq (.reg [⟨(some 0), none, .mov (.c (.p .nilMap))⟩])
  (.seq (.reg [⟨(some 1), none, .mkmap⟩,
    ⟨(some 2), none, .build [(.p (.bool false)), (.p (.bool false)), (.p (.bool false)), (.p (.int .i64 0))] [(0, none, (.c (.p (.bool true)))), (1, none, (.c (.p (.bool true))))]⟩,
    ⟨none, none, .insert 1 (.t 1) (.c (.p (.int .u8 1))) (.t 2)⟩,
    ⟨(some 3), none, .build [(.p (.bool false)), (.p (.bool false)), (.p (.bool false)), (.p (.int .i64 0))] [(2, none, (.c (.p (.bool true)))), (3, none, (.c (.p (.int .i64 (-1)))))]⟩,
    ⟨none, none, .insert 1 (.t 1) (.c (.p (.int .u8 2))) (.t 3)⟩,
    ⟨(some 4), none, .build [(.p (.bool false)), (.p (.bool false)), (.p (.bool false)), (.p (.int .i64 0))] [(2, none, (.c (.p (.bool true))))]⟩,
    ⟨none, none, .insert 1 (.t 1) (.c (.p (.int .u8 3))) (.t 4)⟩,
    ⟨(some 5), none, .build [(.p (.bool false)), (.p (.bool false)), (.p (.bool false)), (.p (.int .i64 0))] [(2, none, (.c (.p (.bool true)))), (3, none, (.c (.p (.int .i64 1))))]⟩,
    ⟨none, none, .insert 1 (.t 1) (.c (.p (.int .u8 4))) (.t 5)⟩,
    ⟨(some 6), none, .build [(.p (.bool false)), (.p (.bool false)), (.p (.bool false)), (.p (.int .i64 0))] [(0, none, (.c (.p (.bool true)))), (1, none, (.c (.p (.bool true)))), (3, none, (.c (.p (.int .i64 2))))]⟩,
    ⟨none, none, .insert 1 (.t 1) (.c (.p (.int .u8 5))) (.t 6)⟩,
    ⟨(some 7), none, .build [(.p (.bool false)), (.p (.bool false)), (.p (.bool false)), (.p (.int .i64 0))] [(0, none, (.c (.p (.bool true)))), (3, none, (.c (.p (.int .i64 1))))]⟩,
    ⟨none, none, .insert 1 (.t 1) (.c (.p (.int .u8 6))) (.t 7)⟩,
    ⟨(some 8), none, .build [(.p (.bool false)), (.p (.bool false)), (.p (.bool false)), (.p (.int .i64 0))] [(3, none, (.c (.p (.int .i64 2))))]⟩,
    ⟨none, none, .insert 1 (.t 1) (.c (.p (.int .u8 7))) (.t 8)⟩,
    ⟨(some 9), none, .build [(.p (.bool false)), (.p (.bool false)), (.p (.bool false)), (.p (.int .i64 0))] [(3, none, (.c (.p (.int .i64 3))))]⟩,
    ⟨none, none, .insert 1 (.t 1) (.c (.p (.int .u8 8))) (.t 9)⟩,
    ⟨(some 10), none, .build [(.p (.bool false)), (.p (.bool false)), (.p (.bool false)), (.p (.int .i64 0))] [(3, none, (.c (.p (.int .i64 2))))]⟩,
    ⟨none, none, .insert 1 (.t 1) (.c (.p (.int .u8 9))) (.t 10)⟩,
    ⟨(some 11), none, .build [(.p (.bool false)), (.p (.bool false)), (.p (.bool false)), (.p (.int .i64 0))] [(0, none, (.c (.p (.bool true)))), (1, none, (.c (.p (.bool true)))), (3, none, (.c (.p (.int .i64 1))))]⟩,
    ⟨none, none, .insert 1 (.t 1) (.c (.p (.int .u8 10))) (.t 11)⟩,
    ⟨(some 12), none, .build [(.p (.bool false)), (.p (.bool false)), (.p (.bool false)), (.p (.int .i64 0))] [(3, none, (.c (.p (.int .i64 2))))]⟩,
    ⟨none, none, .insert 1 (.t 1) (.c (.p (.int .u8 11))) (.t 12)⟩,
    ⟨(some 13), none, .build [(.p (.bool false)), (.p (.bool false)), (.p (.bool false)), (.p (.int .i64 0))] [(0, none, (.c (.p (.bool true))))]⟩,
    ⟨none, none, .insert 1 (.t 1) (.c (.p (.int .u8 12))) (.t 13)⟩,
    ⟨(some 14), none, .build [(.p (.bool false)), (.p (.bool false)), (.p (.bool false)), (.p (.int .i64 0))] [(3, none, (.c (.p (.int .i64 2))))]⟩,
    ⟨none, none, .insert 1 (.t 1) (.c (.p (.int .u8 13))) (.t 14)⟩,
    ⟨(some 15), none, .build [(.p (.bool false)), (.p (.bool false)), (.p (.bool false)), (.p (.int .i64 0))] []⟩,
    ⟨none, none, .insert 1 (.t 1) (.c (.p (.int .u8 14))) (.t 15)⟩,
    ⟨(some 16), none, .build [(.p (.bool false)), (.p (.bool false)), (.p (.bool false)), (.p (.int .i64 0))] [(2, none, (.c (.p (.bool true))))]⟩,
    ⟨none, none, .insert 1 (.t 1) (.c (.p (.int .u8 15))) (.t 16)⟩,
    ⟨(some 17), none, .build [(.p (.bool false)), (.p (.bool false)), (.p (.bool false)), (.p (.int .i64 0))] [(2, none, (.c (.p (.bool true))))]⟩,
    ⟨none, none, .insert 1 (.t 1) (.c (.p (.int .u8 16))) (.t 17)⟩,
    ⟨(some 18), none, .build [(.p (.bool false)), (.p (.bool false)), (.p (.bool false)), (.p (.int .i64 0))] [(3, none, (.c (.p (.int .i64 2))))]⟩,
    ⟨none, none, .insert 1 (.t 1) (.c (.p (.int .u8 17))) (.t 18)⟩,
    ⟨(some 19), none, .build [(.p (.bool false)), (.p (.bool false)), (.p (.bool false)), (.p (.int .i64 0))] [(0, none, (.c (.p (.bool true)))), (2, none, (.c (.p (.bool true)))), (3, none, (.c (.p (.int .i64 1))))]⟩,
    ⟨none, none, .insert 1 (.t 1) (.c (.p (.int .u8 18))) (.t 19)⟩,
    ⟨(some 20), none, .mov (.t 1)⟩,
    ⟨(some 0), none, .mov (.t 20)⟩])
  .ret)), [.t 0]⟩
def cf59 : CF := ⟨3, 6, 2, false, false, false, false, (.seq (.reg [⟨(some 3), none, .box 0 (some 4) (.t 0)⟩,
    ⟨(some 4), none, .box 1 (some 5) (.t 1)⟩,
    ⟨(some 5), none, .box 2 (some 2) (.t 2)⟩,
    ⟨(some 6), none, .mov (.c (.p (.bool false)))⟩])
  (.seq (.seq (.reg [⟨(some 9), none, .fa 0 (.t 5)⟩,
    ⟨(some 10), none, .load none (.t 9)⟩,
    ⟨(some 11), none, .not (.t 10)⟩])
  (.cond (.t 11) (.seq (.reg [⟨(some 12), none, .load (some 4) (.t 3)⟩,
    ⟨(some 13), none, .load (some 5) (.t 4)⟩,
    ⟨(some 14), none, .fa 1 (.t 5)⟩,
    ⟨(some 15), none, .load none (.t 14)⟩,
    ⟨(some 16), none, .call 104 [(.t 12), (.t 13), (.t 15)]⟩,
    ⟨(some 6), none, .mov (.t 16)⟩])
  .ret)
  .skip))
  (.seq (.seq (.reg [⟨(some 17), none, .load (some 4) (.t 3)⟩,
    ⟨(some 18), none, .load (some 5) (.t 4)⟩,
    ⟨(some 19), none, .call 105 [(.t 17), (.t 18)]⟩,
    ⟨(some 20), none, .not (.t 19)⟩])
  (.cond (.t 20) (.seq (.reg [⟨(some 6), none, .mov (.c (.p (.bool false)))⟩])
  .ret)
  .skip))
  (.seq (.seq (.reg [⟨(some 21), none, .fa 0 (.t 4)⟩,
    ⟨(some 22), none, .load none (.t 21)⟩])
  (.block 0 (.seq (.reg [⟨(some 24), none, .bin .eql (.t 22) (.c (.p (.int .u8 16)))⟩,
    ⟨(some 23), none, .mov (.t 24)⟩])
  (.cond (.t 23) (.seq (.reg [⟨(some 26), none, .load (some 4) (.t 3)⟩,
    ⟨(some 27), none, .fa 3 (.t 4)⟩,
    ⟨(some 28), none, .load none (.t 27)⟩,
    ⟨(some 29), none, .call 106 [(.t 26), (.t 28)]⟩,
    ⟨(some 25), none, .mov (.t 29)⟩,
    ⟨(some 30), none, .ext (.t 25) 0⟩,
    ⟨(some 31), none, .ext (.t 25) 1⟩,
    ⟨(some 7), none, .mov (.t 30)⟩,
    ⟨(some 8), none, .mov (.t 31)⟩])
  (.seq (.reg [⟨(some 32), none, .mov (.t 8)⟩,
    ⟨(some 33), none, .mov (.t 32)⟩,
    ⟨(some 34), (some (33, true)), .mov (.t 7)⟩,
    ⟨(some 35), (some (33, true)), .fa 1 (.t 5)⟩,
    ⟨(some 36), (some (33, true)), .load none (.t 35)⟩,
    ⟨(some 37), (some (33, true)), .bin .eql (.t 34) (.t 36)⟩,
    ⟨(some 38), none, .pick (.t 33) (.t 37) (.c (.p (.bool false)))⟩,
    ⟨(some 6), none, .mov (.t 38)⟩])
  .ret))
  (.seq (.reg [⟨(some 40), none, .bin .eql (.t 22) (.c (.p (.int .u8 17)))⟩,
    ⟨(some 39), none, .mov (.t 40)⟩])
  (.cond (.t 39) (.seq (.regd [] [] [⟨(some 41), none, .load (some 4) (.t 3)⟩,
    ⟨(some 42), none, .fa 4 (.t 4)⟩,
    ⟨(some 43), none, .load none (.t 42)⟩,
    ⟨(some 44), none, .ia 5 (.t 43) (.c (.p (.int .i64 0)))⟩,
    ⟨(some 45), none, .load (some 5) (.t 44)⟩,
    ⟨(some 46), none, .fa 1 (.t 5)⟩,
    ⟨(some 47), none, .load none (.t 46)⟩,
    ⟨(some 48), none, .call 104 [(.t 41), (.t 45), (.t 47)]⟩,
    ⟨(some 49), none, .mov (.t 48)⟩,
    ⟨(some 50), (some (49, true)), .load (some 4) (.t 3)⟩,
    ⟨(some 51), (some (49, true)), .fa 1 (.t 5)⟩,
    ⟨(some 52), (some (49, true)), .load none (.t 51)⟩,
    ⟨(some 53), (some (49, true)), .build [(.p (.bool false)), (.p (.int .i64 0))] [(1, none, (.t 52))]⟩,
    ⟨(some 54), (some (49, true)), .build [(.sl 0 [] .full), (.p (.bool false)), (.p (.int .i64 0))] [(1, (some 2), (.t 53))]⟩,
    ⟨(some 55), (some (49, true)), .build [(.sl 0 [] .full), (.p (.bool false)), (.p (.int .i64 0)), (.p (.bool false))] [(0, (some 3), (.t 54)), (3, none, (.c (.p (.bool true))))]⟩,
    ⟨(some 56), (some (49, true)), .call 107 [(.t 50), (.t 55)]⟩,
    ⟨(some 57), (some (49, true)), .fa 4 (.t 4)⟩,
    ⟨(some 58), (some (49, true)), .load none (.t 57)⟩,
    ⟨(some 59), (some (49, true)), .ia 5 (.t 58) (.c (.p (.int .i64 1)))⟩,
    ⟨(some 60), (some (49, true)), .load (some 5) (.t 59)⟩,
    ⟨(some 61), (some (49, true)), .call 104 [(.t 56), (.t 60), (.c (.p (.int .i64 1)))]⟩,
    ⟨(some 62), none, .pick (.t 49) (.t 61) (.c (.p (.bool false)))⟩,
    ⟨(some 6), none, .mov (.t 62)⟩] [⟨17, none, (.t 57), [(15, 109)]⟩, ⟨19, (some 5), (.t 59), [(15, 109)]⟩])
  .ret)
  .skip))))))
  (.seq (.reg [⟨(some 6), none, .mov (.c (.p (.bool false)))⟩])
  .ret))))), [.t 6]⟩
def cf104 : CF := ⟨3, 5, 2, false, false, false, false, (.seq (.reg [⟨(some 3), none, .box 0 (some 4) (.t 0)⟩,
    ⟨(some 4), none, .box 1 (some 5) (.t 1)⟩,
    ⟨(some 6), none, .mov (.c (.p (.bool false)))⟩])
  (.seq (.reg [⟨(some 10), none, .load (some 4) (.t 3)⟩,
    ⟨(some 11), none, .load (some 5) (.t 4)⟩,
    ⟨(some 12), none, .call 163 [(.t 10), (.t 11)]⟩,
    ⟨(some 9), none, .mov (.t 12)⟩,
    ⟨(some 13), none, .ext (.t 9) 0⟩,
    ⟨(some 14), none, .ext (.t 9) 1⟩,
    ⟨(some 7), none, .mov (.t 13)⟩,
    ⟨(some 8), none, .mov (.t 14)⟩])
  (.seq (.reg [⟨(some 15), none, .mov (.t 8)⟩,
    ⟨(some 16), none, .mov (.t 15)⟩,
    ⟨(some 17), (some (16, true)), .mov (.t 7)⟩,
    ⟨(some 18), (some (16, true)), .mov (.t 2)⟩,
    ⟨(some 19), (some (16, true)), .bin .eql (.t 17) (.t 18)⟩,
    ⟨(some 20), none, .pick (.t 16) (.t 19) (.c (.p (.bool false)))⟩,
    ⟨(some 6), none, .mov (.t 20)⟩])
  .ret))), [.t 6]⟩
def cf163 : CF := ⟨2, 8, 3, false, false, false, false, (.seq (.reg [⟨(some 2), none, .box 0 (some 4) (.t 0)⟩,
    ⟨(some 3), none, .box 1 (some 5) (.t 1)⟩,
    ⟨(some 4), none, .mov (.c (.p (.int .i64 0)))⟩,
    ⟨(some 5), none, .mov (.c (.p (.bool false)))⟩])
  (.seq (.seq (.reg [⟨(some 12), none, .load (some 4) (.t 2)⟩,
    ⟨(some 13), none, .load (some 5) (.t 3)⟩,
    ⟨(some 14), none, .call 105 [(.t 12), (.t 13)]⟩,
    ⟨(some 15), none, .not (.t 14)⟩])
  (.cond (.t 15) (.seq (.reg [⟨(some 4), none, .mov (.c (.p (.int .i64 0)))⟩,
    ⟨(some 5), none, .mov (.c (.p (.bool false)))⟩])
  .ret)
  .skip))
  (.seq (.seq (.reg [⟨(some 16), none, .fa 0 (.t 3)⟩,
    ⟨(some 17), none, .load none (.t 16)⟩])
  (.block 0 (.seq (.reg [⟨(some 19), none, .bin .eql (.t 17) (.c (.p (.int .u8 1)))⟩,
    ⟨(some 18), none, .mov (.t 19)⟩])
  (.cond (.t 18) (.seq (.regd [] [] [⟨(some 20), none, .fa 2 (.t 3)⟩,
    ⟨(some 21), none, .load none (.t 20)⟩,
    ⟨(some 22), none, .fa 2 (.t 3)⟩,
    ⟨(some 23), none, .load none (.t 22)⟩,
    ⟨(some 24), none, .call 193 [(.t 23)]⟩,
    ⟨(some 25), none, .mov (.t 24)⟩,
    ⟨(some 26), (some (25, true)), .fa 1 (.t 3)⟩,
    ⟨(some 27), (some (25, true)), .load none (.t 26)⟩,
    ⟨(some 28), (some (25, true)), .fa 2 (.t 3)⟩,
    ⟨(some 29), (some (25, true)), .load none (.t 28)⟩,
    ⟨(some 30), (some (25, true)), .call 194 [(.t 27), (.t 29)]⟩,
    ⟨(some 31), none, .pick (.t 25) (.t 30) (.c (.p (.bool false)))⟩,
    ⟨(some 4), none, .mov (.t 21)⟩,
    ⟨(some 5), none, .mov (.t 31)⟩] [⟨1, none, (.t 20), [(4, 195), (10, 196)]⟩])
  .ret)
  (.seq (.reg [⟨(some 33), none, .bin .eql (.t 17) (.c (.p (.int .u8 2)))⟩,
    ⟨(some 32), none, .mov (.t 33)⟩])
  (.cond (.t 32) (.seq (.reg [⟨(some 35), none, .load (some 4) (.t 2)⟩,
    ⟨(some 36), none, .fa 3 (.t 3)⟩,
    ⟨(some 37), none, .load none (.t 36)⟩,
    ⟨(some 38), none, .call 164 [(.t 35), (.t 37)]⟩,
    ⟨(some 34), none, .mov (.t 38)⟩,
    ⟨(some 39), none, .ext (.t 34) 0⟩,
    ⟨(some 40), none, .ext (.t 34) 1⟩,
    ⟨(some 6), none, .alloc 2 [(.sl 0 [] .full), (.p (.bool false)), (.p (.int .i64 0)), (.p (.bool false))]⟩,
    ⟨none, none, .store (some 4) (.t 6) (.t 39)⟩,
    ⟨(some 7), none, .mov (.t 40)⟩])
  (.seq (.regd [] [] [⟨(some 41), none, .fa 0 (.t 6)⟩,
    ⟨(some 42), none, .fa 1 (.t 41)⟩,
    ⟨(some 43), none, .fa 1 (.t 42)⟩,
    ⟨(some 44), none, .load none (.t 43)⟩,
    ⟨(some 45), none, .mov (.t 7)⟩,
    ⟨(some 46), none, .mov (.t 45)⟩,
    ⟨(some 47), (some (46, true)), .fa 0 (.t 6)⟩,
    ⟨(some 48), (some (46, true)), .fa 1 (.t 47)⟩,
    ⟨(some 49), (some (46, true)), .fa 0 (.t 48)⟩,
    ⟨(some 50), (some (46, true)), .load none (.t 49)⟩,
    ⟨(some 51), (some (46, true)), .not (.t 50)⟩,
    ⟨(some 52), none, .pick (.t 46) (.t 51) (.c (.p (.bool false)))⟩,
    ⟨(some 53), none, .mov (.t 52)⟩,
    ⟨(some 54), (some (53, true)), .fa 3 (.t 6)⟩,
    ⟨(some 55), (some (53, true)), .load none (.t 54)⟩,
    ⟨(some 56), (some (53, true)), .not (.t 55)⟩,
    ⟨(some 57), none, .pick (.t 53) (.t 56) (.c (.p (.bool false)))⟩,
    ⟨(some 58), none, .mov (.t 57)⟩,
    ⟨(some 59), (some (58, true)), .load (some 4) (.t 2)⟩,
    ⟨(some 60), (some (58, true)), .fa 4 (.t 3)⟩,
    ⟨(some 61), (some (58, true)), .load none (.t 60)⟩,
    ⟨(some 62), (some (58, true)), .fa 0 (.t 6)⟩,
    ⟨(some 63), (some (58, true)), .fa 0 (.t 62)⟩,
    ⟨(some 64), (some (58, true)), .load none (.t 63)⟩,
    ⟨(some 65), (some (58, true)), .call 195 [(.t 59), (.t 61), (.t 64)]⟩,
    ⟨(some 66), none, .pick (.t 58) (.t 65) (.c (.p (.bool false)))⟩,
    ⟨(some 4), none, .mov (.t 44)⟩,
    ⟨(some 5), none, .mov (.t 66)⟩] [⟨3, none, (.t 43), [(24, 197)]⟩])
  .ret))
  (.seq (.reg [⟨(some 68), none, .bin .eql (.t 17) (.c (.p (.int .u8 3)))⟩,
    ⟨(some 67), none, .mov (.t 68)⟩])
  (.cond (.t 67) (.seq (.reg [⟨(some 69), none, .load (some 4) (.t 2)⟩,
    ⟨(some 70), none, .fa 3 (.t 3)⟩,
    ⟨(some 71), none, .load none (.t 70)⟩,
    ⟨(some 72), none, .call 106 [(.t 69), (.t 71)]⟩,
    ⟨(some 73), none, .ext (.t 72) 0⟩,
    ⟨(some 74), none, .ext (.t 72) 1⟩,
    ⟨(some 4), none, .mov (.t 73)⟩,
    ⟨(some 5), none, .mov (.t 74)⟩])
  .ret)
  (.seq (.reg [⟨(some 76), none, .bin .eql (.t 17) (.c (.p (.int .u8 4)))⟩,
    ⟨(some 75), none, .mov (.t 76)⟩])
  (.cond (.t 75) (.seq (.reg [⟨(some 78), none, .load (some 4) (.t 2)⟩,
    ⟨(some 79), none, .fa 3 (.t 3)⟩,
    ⟨(some 80), none, .load none (.t 79)⟩,
    ⟨(some 81), none, .call 106 [(.t 78), (.t 80)]⟩,
    ⟨(some 77), none, .mov (.t 81)⟩,
    ⟨(some 82), none, .ext (.t 77) 0⟩,
    ⟨(some 83), none, .ext (.t 77) 1⟩,
    ⟨(some 8), none, .mov (.t 82)⟩,
    ⟨(some 9), none, .mov (.t 83)⟩])
  (.seq (.regd [] [] [⟨(some 84), none, .mov (.t 9)⟩,
    ⟨(some 85), none, .mov (.t 84)⟩,
    ⟨(some 86), (some (85, true)), .load (some 4) (.t 2)⟩,
    ⟨(some 87), (some (85, true)), .fa 4 (.t 3)⟩,
    ⟨(some 88), (some (85, true)), .load none (.t 87)⟩,
    ⟨(some 89), (some (85, true)), .ia 5 (.t 88) (.c (.p (.int .i64 0)))⟩,
    ⟨(some 90), (some (85, true)), .load (some 5) (.t 89)⟩,
    ⟨(some 91), (some (85, true)), .mov (.t 8)⟩,
    ⟨(some 92), (some (85, true)), .call 104 [(.t 86), (.t 90), (.t 91)]⟩,
    ⟨(some 93), none, .pick (.t 85) (.t 92) (.c (.p (.bool false)))⟩,
    ⟨(some 4), none, .mov (.c (.p (.int .i64 1)))⟩,
    ⟨(some 5), none, .mov (.t 93)⟩] [])
  .ret))
  (.seq (.reg [⟨(some 95), none, .bin .eql (.t 17) (.c (.p (.int .u8 15)))⟩,
    ⟨(some 94), none, .mov (.t 95)⟩])
  (.cond (.t 94) (.seq (.reg [⟨(some 97), none, .load (some 4) (.t 2)⟩,
    ⟨(some 98), none, .fa 3 (.t 3)⟩,
    ⟨(some 99), none, .load none (.t 98)⟩,
    ⟨(some 100), none, .call 164 [(.t 97), (.t 99)]⟩,
    ⟨(some 96), none, .mov (.t 100)⟩,
    ⟨(some 101), none, .ext (.t 96) 0⟩,
    ⟨(some 102), none, .ext (.t 96) 1⟩,
    ⟨(some 10), none, .alloc 3 [(.sl 0 [] .full), (.p (.bool false)), (.p (.int .i64 0)), (.p (.bool false))]⟩,
    ⟨none, none, .store (some 4) (.t 10) (.t 101)⟩,
    ⟨(some 11), none, .mov (.t 102)⟩])
  (.seq (.regd [] [] [⟨(some 103), none, .fa 0 (.t 10)⟩,
    ⟨(some 104), none, .fa 1 (.t 103)⟩,
    ⟨(some 105), none, .fa 1 (.t 104)⟩,
    ⟨(some 106), none, .load none (.t 105)⟩,
    ⟨(some 107), none, .mov (.t 11)⟩,
    ⟨(some 108), none, .mov (.t 107)⟩,
    ⟨(some 109), (some (108, true)), .fa 3 (.t 10)⟩,
    ⟨(some 110), (some (108, true)), .load none (.t 109)⟩,
    ⟨(some 111), none, .pick (.t 108) (.t 110) (.c (.p (.bool false)))⟩,
    ⟨(some 4), none, .mov (.t 106)⟩,
    ⟨(some 5), none, .mov (.t 111)⟩] [])
  .ret))
  (.seq (.reg [⟨(some 113), none, .bin .eql (.t 17) (.c (.p (.int .u8 12)))⟩,
    ⟨(some 112), none, .mov (.t 113)⟩])
  (.cond (.t 112) (.seq (.reg [⟨(some 114), none, .fa 1 (.t 3)⟩,
    ⟨(some 115), none, .load none (.t 114)⟩,
    ⟨(some 116), none, .fa 2 (.t 2)⟩,
    ⟨(some 117), none, .load none (.t 116)⟩,
    ⟨(some 118), none, .call 194 [(.t 115), (.t 117)]⟩,
    ⟨(some 4), none, .mov (.c (.p (.int .i64 1)))⟩,
    ⟨(some 5), none, .mov (.t 118)⟩])
  .ret)
  (.seq (.reg [⟨(some 120), none, .bin .eql (.t 17) (.c (.p (.int .u8 14)))⟩,
    ⟨(some 119), none, .mov (.t 120)⟩])
  (.cond (.t 119) (.seq (.reg [⟨(some 4), none, .mov (.c (.p (.int .i64 1)))⟩,
    ⟨(some 5), none, .mov (.c (.p (.bool true)))⟩])
  .ret)
  (.seq (.seq (.reg [⟨(some 122), none, .bin .eql (.t 17) (.c (.p (.int .u8 5)))⟩,
    ⟨(some 121), none, .mov (.t 122)⟩])
  (.cond (.t 121) .skip
  (.reg [⟨(some 123), none, .bin .eql (.t 17) (.c (.p (.int .u8 6)))⟩,
    ⟨(some 121), none, .mov (.t 123)⟩])))
  (.cond (.t 121) (.seq (.reg [⟨(some 124), none, .load (some 4) (.t 2)⟩,
    ⟨(some 125), none, .load (some 5) (.t 3)⟩,
    ⟨(some 126), none, .call 196 [(.t 124), (.t 125)]⟩,
    ⟨(some 127), none, .ext (.t 126) 0⟩,
    ⟨(some 128), none, .ext (.t 126) 1⟩,
    ⟨(some 4), none, .mov (.t 127)⟩,
    ⟨(some 5), none, .mov (.t 128)⟩])
  .ret)
  .skip))))))))))))))))))
  (.seq (.reg [⟨(some 129), none, .load (some 4) (.t 2)⟩,
    ⟨(some 130), none, .load (some 5) (.t 3)⟩,
    ⟨(some 131), none, .call 197 [(.t 129), (.t 130)]⟩,
    ⟨(some 132), none, .ext (.t 131) 0⟩,
    ⟨(some 133), none, .ext (.t 131) 1⟩,
    ⟨(some 4), none, .mov (.t 132)⟩,
    ⟨(some 5), none, .mov (.t 133)⟩])
  .ret)))), [.t 4, .t 5]⟩
def cf105 : CF := ⟨2, 6, 2, false, false, false, false, (.seq (.reg [⟨(some 2), none, .box 0 (some 4) (.t 0)⟩,
    ⟨(some 3), none, .box 1 (some 5) (.t 1)⟩,
    ⟨(some 4), none, .mov (.c (.p (.bool false)))⟩])
  (.seq (.reg [⟨(some 8), none, .fa 3 (.t 2)⟩,
    ⟨(some 9), none, .load none (.t 8)⟩,
    ⟨(some 10), none, .fa 0 (.t 3)⟩,
    ⟨(some 11), none, .load none (.t 10)⟩,
    ⟨(some 12), none, .look 1 (.agg [(.p (.bool false)), (.p (.bool false)), (.p (.bool false)), (.p (.int .i64 0))]) true (.t 9) (.t 11)⟩,
    ⟨(some 7), none, .mov (.t 12)⟩,
    ⟨(some 13), none, .ext (.t 7) 0⟩,
    ⟨(some 14), none, .ext (.t 7) 1⟩,
    ⟨(some 5), none, .alloc 2 [(.p (.bool false)), (.p (.bool false)), (.p (.bool false)), (.p (.int .i64 0))]⟩,
    ⟨none, none, .store (some 4) (.t 5) (.t 13)⟩,
    ⟨(some 6), none, .mov (.t 14)⟩])
  (.seq (.reg [⟨(some 15), none, .mov (.t 6)⟩,
    ⟨(some 16), none, .mov (.t 15)⟩,
    ⟨(some 17), (some (16, true)), .fa 0 (.t 5)⟩,
    ⟨(some 18), (some (16, true)), .load none (.t 17)⟩,
    ⟨(some 19), (some (16, true)), .mov (.t 18)⟩,
    ⟨(some 20), (some (19, false)), .fa 1 (.t 3)⟩,
    ⟨(some 21), (some (19, false)), .load none (.t 20)⟩,
    ⟨(some 22), (some (19, false)), .bin .eql (.t 21) (.c (.p (.int .i64 0)))⟩,
    ⟨(some 23), (some (16, true)), .pick (.t 19) (.c (.p (.bool true))) (.t 22)⟩,
    ⟨(some 24), none, .pick (.t 16) (.t 23) (.c (.p (.bool false)))⟩,
    ⟨(some 25), none, .mov (.t 24)⟩,
    ⟨(some 26), (some (25, true)), .fa 1 (.t 5)⟩,
    ⟨(some 27), (some (25, true)), .load none (.t 26)⟩,
    ⟨(some 28), (some (25, true)), .mov (.t 27)⟩,
    ⟨(some 29), (some (28, false)), .fa 2 (.t 3)⟩,
    ⟨(some 30), (some (28, false)), .load none (.t 29)⟩,
    ⟨(some 31), (some (28, false)), .bin .eql (.t 30) (.c (.p (.int .i64 0)))⟩,
    ⟨(some 32), (some (25, true)), .pick (.t 28) (.c (.p (.bool true))) (.t 31)⟩,
    ⟨(some 33), none, .pick (.t 25) (.t 32) (.c (.p (.bool false)))⟩,
    ⟨(some 34), none, .mov (.t 33)⟩,
    ⟨(some 35), (some (34, true)), .fa 2 (.t 5)⟩,
    ⟨(some 36), (some (34, true)), .load none (.t 35)⟩,
    ⟨(some 37), (some (34, true)), .mov (.t 36)⟩,
    ⟨(some 38), (some (37, false)), .fa 3 (.t 3)⟩,
    ⟨(some 39), (some (37, false)), .load none (.t 38)⟩,
    ⟨(some 40), (some (37, false)), .bin .eql (.t 39) (.c (.p (.int .i64 0)))⟩,
    ⟨(some 41), (some (34, true)), .pick (.t 37) (.c (.p (.bool true))) (.t 40)⟩,
    ⟨(some 42), none, .pick (.t 34) (.t 41) (.c (.p (.bool false)))⟩,
    ⟨(some 43), none, .mov (.t 42)⟩,
    ⟨(some 44), (some (43, true)), .fa 3 (.t 5)⟩,
    ⟨(some 45), (some (43, true)), .load none (.t 44)⟩,
    ⟨(some 46), (some (43, true)), .bin .lss (.t 45) (.c (.p (.int .i64 0)))⟩,
    ⟨(some 47), (some (43, true)), .mov (.t 46)⟩,
    ⟨(some 48), (some (47, false)), .fa 3 (.t 5)⟩,
    ⟨(some 49), (some (47, false)), .load none (.t 48)⟩,
    ⟨(some 50), (some (47, false)), .fa 4 (.t 3)⟩,
    ⟨(some 51), (some (47, false)), .load none (.t 50)⟩,
    ⟨(some 52), (some (47, false)), .len false (.t 51)⟩,
    ⟨(some 53), (some (47, false)), .bin .eql (.t 49) (.t 52)⟩,
    ⟨(some 54), (some (43, true)), .pick (.t 47) (.c (.p (.bool true))) (.t 53)⟩,
    ⟨(some 55), none, .pick (.t 43) (.t 54) (.c (.p (.bool false)))⟩,
    ⟨(some 4), none, .mov (.t 55)⟩])
  .ret))), [.t 4]⟩
def cf193 : CF := ⟨1, 4, 0, true, false, false, false, (.seq (.reg [⟨(some 2), none, .mov (.c (.p (.bool false)))⟩])
  (.seq (.reg [⟨(some 3), none, .mov (.t 0)⟩,
    ⟨(some 4), none, .bin .geq (.t 3) (.c (.p (.int .i64 1)))⟩,
    ⟨(some 5), none, .mov (.t 4)⟩,
    ⟨(some 6), (some (5, true)), .mov (.t 0)⟩,
    ⟨(some 7), (some (5, true)), .bin .leq (.t 6) (.c (.p (.int .i64 64)))⟩,
    ⟨(some 8), none, .pick (.t 5) (.t 7) (.c (.p (.bool false)))⟩,
    ⟨(some 2), none, .mov (.t 8)⟩])
  .ret)), [.t 2]⟩
def cf194 : CF := ⟨2, 4, 0, true, false, false, false, (.seq (.reg [⟨(some 4), none, .mov (.c (.p (.bool false)))⟩])
  (.seq (.reg [⟨(some 5), none, .mov (.t 0)⟩,
    ⟨(some 6), none, .bin .geq (.t 5) (.c (.p (.int .i64 0)))⟩,
    ⟨(some 7), none, .mov (.t 6)⟩,
    ⟨(some 8), (some (7, true)), .mov (.t 0)⟩,
    ⟨(some 9), (some (7, true)), .mov (.t 1)⟩,
    ⟨(some 10), (some (7, true)), .bin .lss (.t 8) (.t 9)⟩,
    ⟨(some 11), none, .pick (.t 7) (.t 10) (.c (.p (.bool false)))⟩,
    ⟨(some 4), none, .mov (.t 11)⟩])
  .ret)), [.t 4]⟩
def cf164 : CF := ⟨2, 5, 2, false, false, false, false, (.seq (.reg [⟨(some 2), none, .box 0 (some 4) (.t 0)⟩,
    ⟨(some 4), none, .alloc 1 [(.sl 0 [] .full), (.p (.bool false)), (.p (.int .i64 0)), (.p (.bool false))]⟩,
    ⟨(some 5), none, .mov (.c (.p (.bool false)))⟩])
  (.seq (.seq (.reg [⟨(some 6), none, .mov (.t 1)⟩,
    ⟨(some 7), none, .bin .lss (.t 6) (.c (.p (.int .i64 1)))⟩,
    ⟨(some 8), none, .mov (.t 7)⟩,
    ⟨(some 9), (some (8, false)), .mov (.t 1)⟩,
    ⟨(some 10), (some (8, false)), .fa 0 (.t 2)⟩,
    ⟨(some 11), (some (8, false)), .load none (.t 10)⟩,
    ⟨(some 12), (some (8, false)), .len false (.t 11)⟩,
    ⟨(some 13), (some (8, false)), .bin .gtr (.t 9) (.t 12)⟩,
    ⟨(some 14), none, .pick (.t 8) (.c (.p (.bool true))) (.t 13)⟩])
  (.cond (.t 14) (.seq (.reg [⟨(some 15), none, .build [(.sl 0 [] .full), (.p (.bool false)), (.p (.int .i64 0)), (.p (.bool false))] []⟩,
    ⟨none, none, .store (some 4) (.t 4) (.t 15)⟩,
    ⟨(some 5), none, .mov (.c (.p (.bool false)))⟩])
  .ret)
  .skip))
  (.seq (.reg [⟨(some 16), none, .fa 0 (.t 2)⟩,
    ⟨(some 17), none, .load none (.t 16)⟩,
    ⟨(some 18), none, .mov (.t 1)⟩,
    ⟨(some 19), none, .bin .sub (.t 18) (.c (.p (.int .i64 1)))⟩,
    ⟨(some 20), none, .ia 4 (.t 17) (.t 19)⟩,
    ⟨(some 21), none, .load (some 4) (.t 20)⟩,
    ⟨none, none, .store (some 4) (.t 4) (.t 21)⟩,
    ⟨(some 5), none, .mov (.c (.p (.bool true)))⟩])
  .ret))), [.l 4 (some 4), .t 5]⟩
def cf195 : CF := ⟨3, 4, 1, false, false, false, false, (.seq (.reg [⟨(some 3), none, .box 0 (some 4) (.t 0)⟩,
    ⟨(some 6), none, .mov (.c (.p (.bool false)))⟩])
  (.seq (.reg [⟨(some 7), none, .mov (.t 1)⟩,
    ⟨(some 8), none, .mov (.t 2)⟩,
    ⟨(some 9), none, .load (some 4) (.t 3)⟩,
    ⟨(some 10), none, .mkf 59 [(.t 9)] []⟩,
    ⟨(some 11), none, .call 205 [(.t 7), (.t 8), (.t 10)]⟩,
    ⟨(some 6), none, .mov (.t 11)⟩])
  .ret)), [.t 6]⟩
def cf205 : CF := ⟨3, 6, 2, false, false, false, false, (.seq (.reg [⟨(some 6), none, .mov (.c (.p (.bool false)))⟩])
  (.seq (.seq (.reg [⟨(some 10), none, .mov (.t 0)⟩,
    ⟨(some 11), none, .len false (.t 10)⟩,
    ⟨(some 12), none, .mov (.t 1)⟩,
    ⟨(some 13), none, .len false (.t 12)⟩,
    ⟨(some 14), none, .bin .neq (.t 11) (.t 13)⟩])
  (.cond (.t 14) (.seq (.reg [⟨(some 6), none, .mov (.c (.p (.bool false)))⟩])
  .ret)
  .skip))
  (.seq (.seq (.reg [⟨(some 15), none, .mov (.t 0)⟩,
    ⟨(some 16), none, .len false (.t 15)⟩,
    ⟨(some 17), none, .mov (.c (.p (.int .i64 0)))⟩])
  (.block 0 (.loop (.seq (.reg [⟨(some 18), none, .bin .lss (.t 17) (.t 16)⟩])
  (.seq (.cond (.t 18) .skip
  (.exit 0))
  (.seq (.block 1 (.seq (.reg [⟨(some 19), none, .mov (.t 17)⟩,
    ⟨(some 20), none, .ia 5 (.t 15) (.t 17)⟩,
    ⟨(some 21), none, .load (some 5) (.t 20)⟩,
    ⟨(some 8), none, .alloc 0 [(.p (.int .u8 0)), (.p (.int .i64 0)), (.p (.int .i64 0)), (.p (.int .i64 0)), (.sl 0 [] .full)]⟩,
    ⟨(some 7), none, .mov (.t 19)⟩,
    ⟨none, none, .store (some 5) (.t 8) (.t 21)⟩])
  (.seq (.reg [⟨(some 22), none, .mov (.t 1)⟩,
    ⟨(some 23), none, .mov (.t 7)⟩,
    ⟨(some 24), none, .ia 2 (.t 22) (.t 23)⟩,
    ⟨(some 25), none, .load (some 2) (.t 24)⟩,
    ⟨(some 9), none, .alloc 1 [(.p (.bool false)), (.p (.int .i64 0))]⟩,
    ⟨none, none, .store (some 2) (.t 9) (.t 25)⟩])
  (.seq (.reg [⟨(some 26), none, .mov (.t 2)⟩,
    ⟨(some 27), none, .load (some 5) (.t 8)⟩,
    ⟨(some 28), none, .load (some 2) (.t 9)⟩,
    ⟨(some 29), none, .callv (.t 26) [(.t 27), (.t 28)]⟩,
    ⟨(some 30), none, .not (.t 29)⟩])
  (.cond (.t 30) (.seq (.reg [⟨(some 6), none, .mov (.c (.p (.bool false)))⟩])
  .ret)
  .skip)))))
  (.reg [⟨(some 31), none, .bin .add (.t 17) (.c (.p (.int .i64 1)))⟩,
    ⟨(some 17), none, .mov (.t 31)⟩])))))))
  (.seq (.reg [⟨(some 6), none, .mov (.c (.p (.bool true)))⟩])
  .ret)))), [.t 6]⟩
def cf106 : CF := ⟨2, 5, 2, false, false, false, false, (.seq (.reg [⟨(some 2), none, .box 0 (some 4) (.t 0)⟩,
    ⟨(some 4), none, .mov (.c (.p (.int .i64 0)))⟩,
    ⟨(some 5), none, .mov (.c (.p (.bool false)))⟩])
  (.seq (.reg [⟨(some 9), none, .load (some 4) (.t 2)⟩,
    ⟨(some 10), none, .mov (.t 1)⟩,
    ⟨(some 11), none, .call 164 [(.t 9), (.t 10)]⟩,
    ⟨(some 8), none, .mov (.t 11)⟩,
    ⟨(some 12), none, .ext (.t 8) 0⟩,
    ⟨(some 13), none, .ext (.t 8) 1⟩,
    ⟨(some 6), none, .alloc 1 [(.sl 0 [] .full), (.p (.bool false)), (.p (.int .i64 0)), (.p (.bool false))]⟩,
    ⟨none, none, .store (some 4) (.t 6) (.t 12)⟩,
    ⟨(some 7), none, .mov (.t 13)⟩])
  (.seq (.regd [] [] [⟨(some 14), none, .fa 0 (.t 6)⟩,
    ⟨(some 15), none, .fa 1 (.t 14)⟩,
    ⟨(some 16), none, .fa 1 (.t 15)⟩,
    ⟨(some 17), none, .load none (.t 16)⟩,
    ⟨(some 18), none, .mov (.t 7)⟩,
    ⟨(some 19), none, .mov (.t 18)⟩,
    ⟨(some 20), (some (19, true)), .fa 0 (.t 6)⟩,
    ⟨(some 21), (some (19, true)), .fa 1 (.t 20)⟩,
    ⟨(some 22), (some (19, true)), .fa 0 (.t 21)⟩,
    ⟨(some 23), (some (19, true)), .load none (.t 22)⟩,
    ⟨(some 24), none, .pick (.t 19) (.t 23) (.c (.p (.bool false)))⟩,
    ⟨(some 4), none, .mov (.t 17)⟩,
    ⟨(some 5), none, .mov (.t 24)⟩] [])
  .ret))), [.t 4, .t 5]⟩
def cf196 : CF := ⟨2, 7, 2, false, false, false, false, (.seq (.reg [⟨(some 2), none, .box 0 (some 4) (.t 0)⟩,
    ⟨(some 3), none, .box 1 (some 5) (.t 1)⟩,
    ⟨(some 4), none, .mov (.c (.p (.int .i64 0)))⟩,
    ⟨(some 5), none, .mov (.c (.p (.bool false)))⟩])
  (.seq (.seq (.reg [⟨(some 9), none, .fa 0 (.t 3)⟩,
    ⟨(some 10), none, .load none (.t 9)⟩,
    ⟨(some 11), none, .bin .eql (.t 10) (.c (.p (.int .u8 6)))⟩])
  (.cond (.t 11) (.seq (.regd [] [] [⟨(some 13), none, .load (some 4) (.t 2)⟩,
    ⟨(some 14), none, .fa 4 (.t 3)⟩,
    ⟨(some 15), none, .load none (.t 14)⟩,
    ⟨(some 16), none, .ia 5 (.t 15) (.c (.p (.int .i64 0)))⟩,
    ⟨(some 17), none, .load (some 5) (.t 16)⟩,
    ⟨(some 18), none, .call 163 [(.t 13), (.t 17)]⟩,
    ⟨(some 12), none, .mov (.t 18)⟩,
    ⟨(some 19), none, .ext (.t 12) 0⟩,
    ⟨(some 20), none, .ext (.t 12) 1⟩,
    ⟨(some 6), none, .mov (.t 19)⟩,
    ⟨(some 7), none, .mov (.t 20)⟩] [])
  (.seq (.regd [] [] [⟨(some 21), none, .fa 1 (.t 3)⟩,
    ⟨(some 22), none, .load none (.t 21)⟩,
    ⟨(some 23), none, .mov (.t 7)⟩,
    ⟨(some 24), none, .mov (.t 23)⟩,
    ⟨(some 25), (some (24, true)), .fa 1 (.t 3)⟩,
    ⟨(some 26), (some (24, true)), .load none (.t 25)⟩,
    ⟨(some 27), (some (24, true)), .call 193 [(.t 26)]⟩,
    ⟨(some 28), none, .pick (.t 24) (.t 27) (.c (.p (.bool false)))⟩,
    ⟨(some 4), none, .mov (.t 22)⟩,
    ⟨(some 5), none, .mov (.t 28)⟩] [⟨1, none, (.t 21), [(6, 195)]⟩])
  .ret))
  .skip))
  (.seq (.regd [] [] [⟨(some 29), none, .fa 2 (.t 3)⟩,
    ⟨(some 30), none, .load none (.t 29)⟩,
    ⟨(some 31), none, .call 193 [(.t 30)]⟩,
    ⟨(some 32), none, .mov (.t 31)⟩,
    ⟨(some 33), (some (32, true)), .load (some 4) (.t 2)⟩,
    ⟨(some 34), (some (32, true)), .fa 4 (.t 3)⟩,
    ⟨(some 35), (some (32, true)), .load none (.t 34)⟩,
    ⟨(some 36), (some (32, true)), .ia 5 (.t 35) (.c (.p (.int .i64 0)))⟩,
    ⟨(some 37), (some (32, true)), .load (some 5) (.t 36)⟩,
    ⟨(some 38), (some (32, true)), .fa 2 (.t 3)⟩,
    ⟨(some 39), (some (32, true)), .load none (.t 38)⟩,
    ⟨(some 40), (some (32, true)), .call 104 [(.t 33), (.t 37), (.t 39)]⟩,
    ⟨(some 41), none, .pick (.t 32) (.t 40) (.c (.p (.bool false)))⟩,
    ⟨(some 42), none, .mov (.t 41)⟩,
    ⟨(some 43), (some (42, true)), .load (some 4) (.t 2)⟩,
    ⟨(some 44), (some (42, true)), .fa 4 (.t 3)⟩,
    ⟨(some 45), (some (42, true)), .load none (.t 44)⟩,
    ⟨(some 46), (some (42, true)), .ia 5 (.t 45) (.c (.p (.int .i64 1)))⟩,
    ⟨(some 47), (some (42, true)), .load (some 5) (.t 46)⟩,
    ⟨(some 48), (some (42, true)), .fa 2 (.t 3)⟩,
    ⟨(some 49), (some (42, true)), .load none (.t 48)⟩,
    ⟨(some 50), (some (42, true)), .call 104 [(.t 43), (.t 47), (.t 49)]⟩,
    ⟨(some 51), none, .pick (.t 42) (.t 50) (.c (.p (.bool false)))⟩,
    ⟨(some 8), none, .mov (.t 51)⟩] [])
  (.seq (.seq (.reg [⟨(some 52), none, .fa 1 (.t 3)⟩,
    ⟨(some 53), none, .load none (.t 52)⟩])
  (.block 0 (.seq (.seq (.reg [⟨(some 55), none, .bin .eql (.t 53) (.c (.p (.int .i64 1)))⟩,
    ⟨(some 54), none, .mov (.t 55)⟩])
  (.cond (.t 54) .skip
  (.seq (.reg [⟨(some 56), none, .bin .eql (.t 53) (.c (.p (.int .i64 2)))⟩,
    ⟨(some 54), none, .mov (.t 56)⟩])
  (.cond (.t 54) .skip
  (.reg [⟨(some 57), none, .bin .eql (.t 53) (.c (.p (.int .i64 3)))⟩,
    ⟨(some 54), none, .mov (.t 57)⟩])))))
  (.cond (.t 54) (.seq (.reg [⟨(some 58), none, .fa 2 (.t 3)⟩,
    ⟨(some 59), none, .load none (.t 58)⟩,
    ⟨(some 60), none, .mov (.t 8)⟩,
    ⟨(some 4), none, .mov (.t 59)⟩,
    ⟨(some 5), none, .mov (.t 60)⟩])
  .ret)
  (.seq (.seq (.reg [⟨(some 62), none, .bin .eql (.t 53) (.c (.p (.int .i64 4)))⟩,
    ⟨(some 61), none, .mov (.t 62)⟩])
  (.cond (.t 61) .skip
  (.reg [⟨(some 63), none, .bin .eql (.t 53) (.c (.p (.int .i64 5)))⟩,
    ⟨(some 61), none, .mov (.t 63)⟩])))
  (.cond (.t 61) (.seq (.reg [⟨(some 64), none, .mov (.t 8)⟩,
    ⟨(some 4), none, .mov (.c (.p (.int .i64 2)))⟩,
    ⟨(some 5), none, .mov (.t 64)⟩])
  .ret)
  .skip))))))
  (.seq (.reg [⟨(some 4), none, .mov (.c (.p (.int .i64 0)))⟩,
    ⟨(some 5), none, .mov (.c (.p (.bool false)))⟩])
  .ret))))), [.t 4, .t 5]⟩
def cf197 : CF := ⟨2, 8, 2, false, false, false, false, (.seq (.reg [⟨(some 2), none, .box 0 (some 4) (.t 0)⟩,
    ⟨(some 3), none, .box 1 (some 5) (.t 1)⟩,
    ⟨(some 4), none, .mov (.c (.p (.int .i64 0)))⟩,
    ⟨(some 5), none, .mov (.c (.p (.bool false)))⟩])
  (.seq (.seq (.reg [⟨(some 21), none, .fa 0 (.t 3)⟩,
    ⟨(some 22), none, .load none (.t 21)⟩])
  (.block 0 (.seq (.reg [⟨(some 24), none, .bin .eql (.t 22) (.c (.p (.int .u8 7)))⟩,
    ⟨(some 23), none, .mov (.t 24)⟩])
  (.cond (.t 23) (.seq (.regd [] [] [⟨(some 26), none, .load (some 4) (.t 2)⟩,
    ⟨(some 27), none, .fa 4 (.t 3)⟩,
    ⟨(some 28), none, .load none (.t 27)⟩,
    ⟨(some 29), none, .ia 5 (.t 28) (.c (.p (.int .i64 1)))⟩,
    ⟨(some 30), none, .load (some 5) (.t 29)⟩,
    ⟨(some 31), none, .call 163 [(.t 26), (.t 30)]⟩,
    ⟨(some 25), none, .mov (.t 31)⟩,
    ⟨(some 32), none, .ext (.t 25) 0⟩,
    ⟨(some 33), none, .ext (.t 25) 1⟩,
    ⟨(some 6), none, .mov (.t 32)⟩,
    ⟨(some 7), none, .mov (.t 33)⟩] [])
  (.seq (.regd [] [] [⟨(some 34), none, .mov (.t 6)⟩,
    ⟨(some 35), none, .mov (.t 7)⟩,
    ⟨(some 36), none, .mov (.t 35)⟩,
    ⟨(some 37), (some (36, true)), .load (some 4) (.t 2)⟩,
    ⟨(some 38), (some (36, true)), .fa 4 (.t 3)⟩,
    ⟨(some 39), (some (36, true)), .load none (.t 38)⟩,
    ⟨(some 40), (some (36, true)), .ia 5 (.t 39) (.c (.p (.int .i64 0)))⟩,
    ⟨(some 41), (some (36, true)), .load (some 5) (.t 40)⟩,
    ⟨(some 42), (some (36, true)), .call 104 [(.t 37), (.t 41), (.c (.p (.int .i64 1)))]⟩,
    ⟨(some 43), none, .pick (.t 36) (.t 42) (.c (.p (.bool false)))⟩,
    ⟨(some 4), none, .mov (.t 34)⟩,
    ⟨(some 5), none, .mov (.t 43)⟩] [])
  .ret))
  (.seq (.reg [⟨(some 45), none, .bin .eql (.t 22) (.c (.p (.int .u8 8)))⟩,
    ⟨(some 44), none, .mov (.t 45)⟩])
  (.cond (.t 44) (.seq (.regd [] [] [⟨(some 47), none, .load (some 4) (.t 2)⟩,
    ⟨(some 48), none, .load (some 4) (.t 2)⟩,
    ⟨(some 49), none, .fa 4 (.t 3)⟩,
    ⟨(some 50), none, .load none (.t 49)⟩,
    ⟨(some 51), none, .ia 5 (.t 50) (.c (.p (.int .i64 1)))⟩,
    ⟨(some 52), none, .load (some 5) (.t 51)⟩,
    ⟨(some 53), none, .fa 4 (.t 3)⟩,
    ⟨(some 54), none, .load none (.t 53)⟩,
    ⟨(some 55), none, .ia 5 (.t 54) (.c (.p (.int .i64 2)))⟩,
    ⟨(some 56), none, .load (some 5) (.t 55)⟩,
    ⟨(some 57), none, .call 206 [(.t 47), (.t 48), (.t 52), (.t 56)]⟩,
    ⟨(some 46), none, .mov (.t 57)⟩,
    ⟨(some 58), none, .ext (.t 46) 0⟩,
    ⟨(some 59), none, .ext (.t 46) 1⟩,
    ⟨(some 8), none, .mov (.t 58)⟩,
    ⟨(some 9), none, .mov (.t 59)⟩] [])
  (.seq (.regd [] [] [⟨(some 61), none, .load (some 4) (.t 2)⟩,
    ⟨(some 62), none, .fa 4 (.t 3)⟩,
    ⟨(some 63), none, .load none (.t 62)⟩,
    ⟨(some 64), none, .ia 5 (.t 63) (.c (.p (.int .i64 0)))⟩,
    ⟨(some 65), none, .load (some 5) (.t 64)⟩,
    ⟨(some 66), none, .call 163 [(.t 61), (.t 65)]⟩,
    ⟨(some 60), none, .mov (.t 66)⟩,
    ⟨(some 67), none, .ext (.t 60) 0⟩,
    ⟨(some 68), none, .ext (.t 60) 1⟩,
    ⟨(some 10), none, .mov (.t 67)⟩,
    ⟨(some 11), none, .mov (.t 68)⟩] [])
  (.seq (.reg [⟨(some 69), none, .mov (.t 8)⟩,
    ⟨(some 70), none, .mov (.t 9)⟩,
    ⟨(some 71), none, .mov (.t 70)⟩,
    ⟨(some 72), (some (71, true)), .mov (.t 11)⟩,
    ⟨(some 73), none, .pick (.t 71) (.t 72) (.c (.p (.bool false)))⟩,
    ⟨(some 4), none, .mov (.t 69)⟩,
    ⟨(some 5), none, .mov (.t 73)⟩])
  .ret)))
  (.seq (.reg [⟨(some 75), none, .bin .eql (.t 22) (.c (.p (.int .u8 9)))⟩,
    ⟨(some 74), none, .mov (.t 75)⟩])
  (.cond (.t 74) (.seq (.regd [] [] [⟨(some 77), none, .load (some 4) (.t 2)⟩,
    ⟨(some 78), none, .fa 4 (.t 3)⟩,
    ⟨(some 79), none, .load none (.t 78)⟩,
    ⟨(some 80), none, .ia 5 (.t 79) (.c (.p (.int .i64 0)))⟩,
    ⟨(some 81), none, .load (some 5) (.t 80)⟩,
    ⟨(some 82), none, .call 163 [(.t 77), (.t 81)]⟩,
    ⟨(some 76), none, .mov (.t 82)⟩,
    ⟨(some 83), none, .ext (.t 76) 0⟩,
    ⟨(some 84), none, .ext (.t 76) 1⟩,
    ⟨(some 12), none, .mov (.t 83)⟩,
    ⟨(some 13), none, .mov (.t 84)⟩] [])
  (.seq (.regd [] [] [⟨(some 85), none, .mov (.t 13)⟩,
    ⟨(some 86), none, .mov (.t 85)⟩,
    ⟨(some 87), (some (86, true)), .load (some 4) (.t 2)⟩,
    ⟨(some 88), (some (86, true)), .fa 4 (.t 3)⟩,
    ⟨(some 89), (some (86, true)), .load none (.t 88)⟩,
    ⟨(some 90), (some (86, true)), .ia 5 (.t 89) (.c (.p (.int .i64 1)))⟩,
    ⟨(some 91), (some (86, true)), .load (some 5) (.t 90)⟩,
    ⟨(some 92), (some (86, true)), .call 104 [(.t 87), (.t 91), (.c (.p (.int .i64 1)))]⟩,
    ⟨(some 93), none, .pick (.t 86) (.t 92) (.c (.p (.bool false)))⟩,
    ⟨(some 4), none, .mov (.c (.p (.int .i64 1)))⟩,
    ⟨(some 5), none, .mov (.t 93)⟩] [])
  .ret))
  (.seq (.reg [⟨(some 95), none, .bin .eql (.t 22) (.c (.p (.int .u8 10)))⟩,
    ⟨(some 94), none, .mov (.t 95)⟩])
  (.cond (.t 94) (.seq (.regd [] [] [⟨(some 97), none, .load (some 4) (.t 2)⟩,
    ⟨(some 98), none, .fa 1 (.t 3)⟩,
    ⟨(some 99), none, .load none (.t 98)⟩,
    ⟨(some 100), none, .build [(.p (.bool false)), (.p (.int .i64 0))] [(0, none, (.c (.p (.bool true)))), (1, none, (.t 99))]⟩,
    ⟨(some 101), none, .build [(.sl 0 [] .full), (.p (.bool false)), (.p (.int .i64 0))] [(1, (some 2), (.t 100))]⟩,
    ⟨(some 102), none, .build [(.sl 0 [] .full), (.p (.bool false)), (.p (.int .i64 0)), (.p (.bool false))] [(0, (some 3), (.t 101))]⟩,
    ⟨(some 103), none, .call 107 [(.t 97), (.t 102)]⟩,
    ⟨(some 104), none, .fa 4 (.t 3)⟩,
    ⟨(some 105), none, .load none (.t 104)⟩,
    ⟨(some 106), none, .ia 5 (.t 105) (.c (.p (.int .i64 0)))⟩,
    ⟨(some 107), none, .load (some 5) (.t 106)⟩,
    ⟨(some 108), none, .call 163 [(.t 103), (.t 107)]⟩,
    ⟨(some 96), none, .mov (.t 108)⟩,
    ⟨(some 109), none, .ext (.t 96) 0⟩,
    ⟨(some 110), none, .ext (.t 96) 1⟩,
    ⟨(some 14), none, .mov (.t 109)⟩,
    ⟨(some 15), none, .mov (.t 110)⟩] [⟨8, none, (.t 104), [(6, 109)]⟩, ⟨10, (some 5), (.t 106), [(6, 109)]⟩])
  (.seq (.reg [⟨(some 111), none, .mov (.t 14)⟩,
    ⟨(some 112), none, .mov (.t 15)⟩,
    ⟨(some 113), none, .mov (.t 112)⟩,
    ⟨(some 114), (some (113, true)), .fa 1 (.t 3)⟩,
    ⟨(some 115), (some (113, true)), .load none (.t 114)⟩,
    ⟨(some 116), (some (113, true)), .call 193 [(.t 115)]⟩,
    ⟨(some 117), none, .pick (.t 113) (.t 116) (.c (.p (.bool false)))⟩,
    ⟨(some 118), none, .mov (.t 117)⟩,
    ⟨(some 119), (some (118, true)), .fa 2 (.t 3)⟩,
    ⟨(some 120), (some (118, true)), .load none (.t 119)⟩,
    ⟨(some 121), (some (118, true)), .fa 1 (.t 3)⟩,
    ⟨(some 122), (some (118, true)), .load none (.t 121)⟩,
    ⟨(some 123), (some (118, true)), .call 194 [(.t 120), (.t 122)]⟩,
    ⟨(some 124), none, .pick (.t 118) (.t 123) (.c (.p (.bool false)))⟩,
    ⟨(some 4), none, .mov (.t 111)⟩,
    ⟨(some 5), none, .mov (.t 124)⟩])
  .ret))
  (.seq (.reg [⟨(some 126), none, .bin .eql (.t 22) (.c (.p (.int .u8 11)))⟩,
    ⟨(some 125), none, .mov (.t 126)⟩])
  (.cond (.t 125) (.seq (.reg [⟨(some 127), none, .load (some 4) (.t 2)⟩,
    ⟨(some 16), none, .alloc 2 [(.sl 0 [] .full), (.p (.int .i64 0)), (.p (.int .i64 0)), (.p .nilMap)]⟩,
    ⟨none, none, .store (some 4) (.t 16) (.t 127)⟩])
  (.seq (.reg [⟨(some 128), none, .fa 2 (.t 16)⟩,
    ⟨(some 129), none, .load none (.t 128)⟩,
    ⟨(some 130), none, .bin .add (.t 129) (.c (.p (.int .i64 1)))⟩,
    ⟨(some 131), none, .fa 2 (.t 16)⟩,
    ⟨none, none, .store none (.t 131) (.t 130)⟩])
  (.seq (.regd [] [] [⟨(some 132), none, .load (some 4) (.t 2)⟩,
    ⟨(some 133), none, .load (some 4) (.t 16)⟩,
    ⟨(some 134), none, .fa 4 (.t 3)⟩,
    ⟨(some 135), none, .load none (.t 134)⟩,
    ⟨(some 136), none, .ia 5 (.t 135) (.c (.p (.int .i64 0)))⟩,
    ⟨(some 137), none, .load (some 5) (.t 136)⟩,
    ⟨(some 138), none, .fa 4 (.t 3)⟩,
    ⟨(some 139), none, .load none (.t 138)⟩,
    ⟨(some 140), none, .ia 5 (.t 139) (.c (.p (.int .i64 1)))⟩,
    ⟨(some 141), none, .load (some 5) (.t 140)⟩,
    ⟨(some 142), none, .call 206 [(.t 132), (.t 133), (.t 137), (.t 141)]⟩,
    ⟨(some 143), none, .ext (.t 142) 0⟩,
    ⟨(some 144), none, .ext (.t 142) 1⟩,
    ⟨(some 4), none, .mov (.t 143)⟩,
    ⟨(some 5), none, .mov (.t 144)⟩] [])
  .ret)))
  (.seq (.reg [⟨(some 146), none, .bin .eql (.t 22) (.c (.p (.int .u8 13)))⟩,
    ⟨(some 145), none, .mov (.t 146)⟩])
  (.cond (.t 145) (.seq (.regd [] [] [⟨(some 147), none, .load (some 4) (.t 2)⟩,
    ⟨(some 148), none, .load (some 4) (.t 2)⟩,
    ⟨(some 149), none, .fa 4 (.t 3)⟩,
    ⟨(some 150), none, .load none (.t 149)⟩,
    ⟨(some 151), none, .ia 5 (.t 150) (.c (.p (.int .i64 0)))⟩,
    ⟨(some 152), none, .load (some 5) (.t 151)⟩,
    ⟨(some 153), none, .fa 4 (.t 3)⟩,
    ⟨(some 154), none, .load none (.t 153)⟩,
    ⟨(some 155), none, .ia 5 (.t 154) (.c (.p (.int .i64 1)))⟩,
    ⟨(some 156), none, .load (some 5) (.t 155)⟩,
    ⟨(some 157), none, .call 206 [(.t 147), (.t 148), (.t 152), (.t 156)]⟩,
    ⟨(some 158), none, .ext (.t 157) 0⟩,
    ⟨(some 159), none, .ext (.t 157) 1⟩,
    ⟨(some 4), none, .mov (.t 158)⟩,
    ⟨(some 5), none, .mov (.t 159)⟩] [])
  .ret)
  (.seq (.reg [⟨(some 161), none, .bin .eql (.t 22) (.c (.p (.int .u8 18)))⟩,
    ⟨(some 160), none, .mov (.t 161)⟩])
  (.cond (.t 160) (.seq (.regd [] [] [⟨(some 163), none, .load (some 4) (.t 2)⟩,
    ⟨(some 164), none, .fa 4 (.t 3)⟩,
    ⟨(some 165), none, .load none (.t 164)⟩,
    ⟨(some 166), none, .ia 5 (.t 165) (.c (.p (.int .i64 0)))⟩,
    ⟨(some 167), none, .load (some 5) (.t 166)⟩,
    ⟨(some 168), none, .call 163 [(.t 163), (.t 167)]⟩,
    ⟨(some 162), none, .mov (.t 168)⟩,
    ⟨(some 169), none, .ext (.t 162) 0⟩,
    ⟨(some 170), none, .ext (.t 162) 1⟩,
    ⟨(some 17), none, .mov (.t 169)⟩,
    ⟨(some 18), none, .mov (.t 170)⟩] [])
  (.seq (.reg [⟨(some 172), none, .load (some 4) (.t 2)⟩,
    ⟨(some 173), none, .fa 3 (.t 3)⟩,
    ⟨(some 174), none, .load none (.t 173)⟩,
    ⟨(some 175), none, .call 106 [(.t 172), (.t 174)]⟩,
    ⟨(some 171), none, .mov (.t 175)⟩,
    ⟨(some 176), none, .ext (.t 171) 0⟩,
    ⟨(some 177), none, .ext (.t 171) 1⟩,
    ⟨(some 19), none, .mov (.t 176)⟩,
    ⟨(some 20), none, .mov (.t 177)⟩])
  (.seq (.reg [⟨(some 178), none, .mov (.t 17)⟩,
    ⟨(some 179), none, .mov (.t 18)⟩,
    ⟨(some 180), none, .mov (.t 179)⟩,
    ⟨(some 181), (some (180, true)), .mov (.t 20)⟩,
    ⟨(some 182), none, .pick (.t 180) (.t 181) (.c (.p (.bool false)))⟩,
    ⟨(some 183), none, .mov (.t 182)⟩,
    ⟨(some 184), (some (183, true)), .fa 3 (.t 3)⟩,
    ⟨(some 185), (some (183, true)), .load none (.t 184)⟩,
    ⟨(some 186), (some (183, true)), .fa 1 (.t 2)⟩,
    ⟨(some 187), (some (183, true)), .load none (.t 186)⟩,
    ⟨(some 188), (some (183, true)), .bin .gtr (.t 185) (.t 187)⟩,
    ⟨(some 189), none, .pick (.t 183) (.t 188) (.c (.p (.bool false)))⟩,
    ⟨(some 190), none, .mov (.t 189)⟩,
    ⟨(some 191), (some (190, true)), .fa 1 (.t 3)⟩,
    ⟨(some 192), (some (190, true)), .load none (.t 191)⟩,
    ⟨(some 193), (some (190, true)), .mov (.t 19)⟩,
    ⟨(some 194), (some (190, true)), .call 194 [(.t 192), (.t 193)]⟩,
    ⟨(some 195), none, .pick (.t 190) (.t 194) (.c (.p (.bool false)))⟩,
    ⟨(some 4), none, .mov (.t 178)⟩,
    ⟨(some 5), none, .mov (.t 195)⟩])
  .ret)))
  .skip))))))))))))))))
  (.seq (.reg [⟨(some 4), none, .mov (.c (.p (.int .i64 0)))⟩,
    ⟨(some 5), none, .mov (.c (.p (.bool false)))⟩])
  .ret))), [.t 4, .t 5]⟩
def cf206 : CF := ⟨4, 5, 3, false, false, false, false, (.seq (.reg [⟨(some 4), none, .box 0 (some 4) (.t 0)⟩,
    ⟨(some 5), none, .box 1 (some 4) (.t 1)⟩,
    ⟨(some 6), none, .box 2 (some 5) (.t 2)⟩,
    ⟨(some 7), none, .box 3 (some 5) (.t 3)⟩,
    ⟨(some 8), none, .mov (.c (.p (.int .i64 0)))⟩,
    ⟨(some 9), none, .mov (.c (.p (.bool false)))⟩])
  (.seq (.reg [⟨(some 13), none, .load (some 4) (.t 5)⟩,
    ⟨(some 14), none, .load (some 5) (.t 6)⟩,
    ⟨(some 15), none, .call 163 [(.t 13), (.t 14)]⟩,
    ⟨(some 12), none, .mov (.t 15)⟩,
    ⟨(some 16), none, .ext (.t 12) 0⟩,
    ⟨(some 17), none, .ext (.t 12) 1⟩,
    ⟨(some 10), none, .mov (.t 16)⟩,
    ⟨(some 11), none, .mov (.t 17)⟩])
  (.seq (.reg [⟨(some 18), none, .mov (.t 10)⟩,
    ⟨(some 19), none, .mov (.t 11)⟩,
    ⟨(some 20), none, .mov (.t 19)⟩,
    ⟨(some 21), (some (20, true)), .load (some 4) (.t 4)⟩,
    ⟨(some 22), (some (20, true)), .load (some 5) (.t 7)⟩,
    ⟨(some 23), (some (20, true)), .mov (.t 10)⟩,
    ⟨(some 24), (some (20, true)), .call 104 [(.t 21), (.t 22), (.t 23)]⟩,
    ⟨(some 25), none, .pick (.t 20) (.t 24) (.c (.p (.bool false)))⟩,
    ⟨(some 8), none, .mov (.t 18)⟩,
    ⟨(some 9), none, .mov (.t 25)⟩])
  .ret))), [.t 8, .t 9]⟩
def cf107 : CF := ⟨2, 4, 2, false, false, false, false, (.seq (.reg [⟨(some 2), none, .box 0 (some 4) (.t 0)⟩,
    ⟨(some 3), none, .box 1 (some 4) (.t 1)⟩,
    ⟨(some 4), none, .alloc 2 [(.sl 0 [] .full), (.p (.int .i64 0)), (.p (.int .i64 0)), (.p .nilMap)]⟩])
  (.seq (.regd [] [] [⟨(some 5), none, .fa 0 (.t 2)⟩,
    ⟨(some 6), none, .load none (.t 5)⟩,
    ⟨(some 7), none, .call 165 [(.t 6)]⟩,
    ⟨(some 8), none, .load (some 4) (.t 3)⟩,
    ⟨(some 9), none, .mks 1 [(.sl 0 []), (.bool false), (.int .i64 0), (.bool false)] [(0, (some 4), (.t 8))]⟩,
    ⟨(some 10), none, .app 4 48 (.t 7) (.t 9)⟩,
    ⟨(some 11), none, .fa 0 (.t 2)⟩,
    ⟨none, none, .store none (.t 11) (.t 10)⟩] [⟨3, (some 4), (.t 3), [(2, 167)]⟩])
  (.seq (.reg [⟨(some 12), none, .load (some 4) (.t 2)⟩,
    ⟨none, none, .store (some 4) (.t 4) (.t 12)⟩])
  .ret))), [.l 4 (some 4)]⟩
def cf165 : CF := ⟨1, 4, 0, false, false, true, true, (.seq (.reg [⟨(some 2), none, .mov (.c (.sl 0 [] .full))⟩])
  (.seq (.seq (.reg [⟨(some 3), none, .mov (.t 0)⟩,
    ⟨(some 4), none, .eqv 5 false (.t 3) (.c (.sl 0 [] .full))⟩])
  (.cond (.t 4) (.seq (.reg [⟨(some 2), none, .mov (.c (.sl 0 [] .full))⟩])
  .ret)
  .skip))
  (.seq (.reg [⟨(some 5), none, .mks 0 [] []⟩,
    ⟨(some 6), none, .mov (.t 0)⟩,
    ⟨(some 7), none, .app 4 48 (.t 5) (.t 6)⟩,
    ⟨(some 2), none, .mov (.t 7)⟩])
  .ret))), [.t 2]⟩
def cf54 : CF := ⟨2, 3, 0, false, false, false, false, (.seq (.reg [⟨(some 2), none, .hbox (some 7) (.t 0)⟩,
    ⟨(some 3), none, .hbox none (.t 1)⟩,
    ⟨(some 4), none, .mov (.c (.p .nilFunc))⟩])
  (.seq (.reg [⟨(some 5), none, .mkf 94 [] [(.t 2), (.t 3)]⟩,
    ⟨(some 4), none, .mov (.t 5)⟩])
  .ret)), [.t 4]⟩
def cf94 : CF := ⟨3, 4, 0, false, false, false, false, (.seq (.reg [⟨(some 3), none, .hbox none (.t 0)⟩])
  (.seq (.reg [⟨(some 6), none, .call 50 []⟩,
    ⟨(some 4), none, .halloc [(.p (.int .i64 0))]⟩,
    ⟨(some 5), none, .halloc [(.sl 0 [] .full)]⟩,
    ⟨none, none, .store none (.t 4) (.c (.p (.int .i64 0)))⟩,
    ⟨none, none, .store none (.t 5) (.t 6)⟩])
  (.reg [⟨(some 7), none, .load (some 7) (.t 1)⟩,
    ⟨(some 8), none, .mkf 96 [] [(.t 5), (.t 2), (.t 3), (.t 4)]⟩,
    ⟨(some 9), none, .call 95 [(.t 7), (.t 8)]⟩]))), []⟩
def cf50 : CF := ⟨0, 5, 0, false, false, false, false, (.seq (.reg [⟨(some 0), none, .mov (.c (.sl 0 [] .full))⟩])
  (.seq (.reg [⟨(some 1), none, .build [(.p (.str ⟨#[]⟩)), (.p .nilFunc)] [(0, none, (.c (.p (.str ⟨#[111, 112]⟩)))), (1, none, (.c (.p (.func 72 [] []))))]⟩,
    ⟨(some 2), none, .build [(.p (.str ⟨#[]⟩)), (.p .nilFunc)] [(0, none, (.c (.p (.str ⟨#[97, 115]⟩)))), (1, none, (.c (.p (.func 73 [] []))))]⟩,
    ⟨(some 3), none, .build [(.p (.str ⟨#[]⟩)), (.p .nilFunc)] [(0, none, (.c (.p (.str ⟨#[115, 105, 122, 101]⟩)))), (1, none, (.c (.p (.func 74 [] []))))]⟩,
    ⟨(some 4), none, .build [(.p (.str ⟨#[]⟩)), (.p .nilFunc)] [(0, none, (.c (.p (.str ⟨#[110, 101, 117, 116, 114, 97, 108]⟩)))), (1, none, (.c (.p (.func 75 [] []))))]⟩,
    ⟨(some 5), none, .build [(.p (.str ⟨#[]⟩)), (.p .nilFunc)] [(0, none, (.c (.p (.str ⟨#[115, 119, 97, 112]⟩)))), (1, none, (.c (.p (.func 76 [] []))))]⟩,
    ⟨(some 6), none, .build [(.p (.str ⟨#[]⟩)), (.p .nilFunc)] [(0, none, (.c (.p (.str ⟨#[105, 102]⟩)))), (1, none, (.c (.p (.func 77 [] []))))]⟩,
    ⟨(some 7), none, .build [(.p (.str ⟨#[]⟩)), (.p .nilFunc)] [(0, none, (.c (.p (.str ⟨#[115, 97, 109, 101]⟩)))), (1, none, (.c (.p (.func 78 [] []))))]⟩,
    ⟨(some 8), none, .build [(.p (.str ⟨#[]⟩)), (.p .nilFunc)] [(0, none, (.c (.p (.str ⟨#[110, 111, 116]⟩)))), (1, none, (.c (.p (.func 79 [] []))))]⟩,
    ⟨(some 9), none, .build [(.p (.str ⟨#[]⟩)), (.p .nilFunc)] [(0, none, (.c (.p (.str ⟨#[98, 111, 111, 108]⟩)))), (1, none, (.c (.p (.func 80 [] []))))]⟩,
    ⟨(some 10), none, .build [(.p (.str ⟨#[]⟩)), (.p .nilFunc)] [(0, none, (.c (.p (.str ⟨#[115, 107, 105, 112]⟩)))), (1, none, (.c (.p (.func 81 [] []))))]⟩,
    ⟨(some 11), none, .build [(.p (.str ⟨#[]⟩)), (.p .nilFunc)] [(0, none, (.c (.p (.str ⟨#[110, 101, 115, 116]⟩)))), (1, none, (.c (.p (.func 82 [] []))))]⟩,
    ⟨(some 12), none, .build [(.p (.str ⟨#[]⟩)), (.p .nilFunc)] [(0, none, (.c (.p (.str ⟨#[100, 101, 97, 100]⟩)))), (1, none, (.c (.p (.func 83 [] []))))]⟩,
    ⟨(some 13), none, .build [(.p (.str ⟨#[]⟩)), (.p .nilFunc)] [(0, none, (.c (.p (.str ⟨#[119, 104, 105, 108, 101]⟩)))), (1, none, (.c (.p (.func 84 [] []))))]⟩,
    ⟨(some 14), none, .build [(.p (.str ⟨#[]⟩)), (.p .nilFunc)] [(0, none, (.c (.p (.str ⟨#[117, 110, 117, 115, 101, 100]⟩)))), (1, none, (.c (.p (.func 85 [] []))))]⟩,
    ⟨(some 15), none, .build [(.p (.str ⟨#[]⟩)), (.p .nilFunc)] [(0, none, (.c (.p (.str ⟨#[114, 101, 97, 100]⟩)))), (1, none, (.c (.p (.func 86 [] []))))]⟩,
    ⟨(some 16), none, .build [(.p (.str ⟨#[]⟩)), (.p .nilFunc)] [(0, none, (.c (.p (.str ⟨#[119, 114, 105, 116, 101]⟩)))), (1, none, (.c (.p (.func 87 [] []))))]⟩,
    ⟨(some 17), none, .build [(.p (.str ⟨#[]⟩)), (.p .nilFunc)] [(0, none, (.c (.p (.str ⟨#[107, 110, 111, 119, 110]⟩)))), (1, none, (.c (.p (.func 88 [] []))))]⟩,
    ⟨(some 18), none, .build [(.p (.str ⟨#[]⟩)), (.p .nilFunc)] [(0, none, (.c (.p (.str ⟨#[108, 97, 98, 101, 108]⟩)))), (1, none, (.c (.p (.func 89 [] []))))]⟩,
    ⟨(some 19), none, .build [(.p (.str ⟨#[]⟩)), (.p .nilFunc)] [(0, none, (.c (.p (.str ⟨#[106, 117, 109, 112]⟩)))), (1, none, (.c (.p (.func 90 [] []))))]⟩,
    ⟨(some 20), none, .build [(.p (.str ⟨#[]⟩)), (.p .nilFunc)] [(0, none, (.c (.p (.str ⟨#[110, 111, 116, 105, 99, 101]⟩)))), (1, none, (.c (.p (.func 91 [] []))))]⟩,
    ⟨(some 21), none, .build [(.p (.str ⟨#[]⟩)), (.p .nilFunc)] [(0, none, (.c (.p (.str ⟨#[99, 104, 111, 111, 115, 101]⟩)))), (1, none, (.c (.p (.func 92 [] []))))]⟩,
    ⟨(some 22), none, .build [(.p (.str ⟨#[]⟩)), (.p .nilFunc)] [(0, none, (.c (.p (.str ⟨#[110, 101, 118, 101, 114]⟩)))), (1, none, (.c (.p (.func 93 [] []))))]⟩,
    ⟨(some 23), none, .mks 22 [(.str ⟨#[]⟩), .nilFunc, (.str ⟨#[]⟩), .nilFunc, (.str ⟨#[]⟩), .nilFunc, (.str ⟨#[]⟩), .nilFunc, (.str ⟨#[]⟩), .nilFunc, (.str ⟨#[]⟩), .nilFunc, (.str ⟨#[]⟩), .nilFunc, (.str ⟨#[]⟩), .nilFunc, (.str ⟨#[]⟩), .nilFunc, (.str ⟨#[]⟩), .nilFunc, (.str ⟨#[]⟩), .nilFunc, (.str ⟨#[]⟩), .nilFunc, (.str ⟨#[]⟩), .nilFunc, (.str ⟨#[]⟩), .nilFunc, (.str ⟨#[]⟩), .nilFunc, (.str ⟨#[]⟩), .nilFunc, (.str ⟨#[]⟩), .nilFunc, (.str ⟨#[]⟩), .nilFunc, (.str ⟨#[]⟩), .nilFunc, (.str ⟨#[]⟩), .nilFunc, (.str ⟨#[]⟩), .nilFunc, (.str ⟨#[]⟩), .nilFunc] [(0, (some 2), (.t 1)), (2, (some 2), (.t 2)), (4, (some 2), (.t 3)), (6, (some 2), (.t 4)), (8, (some 2), (.t 5)), (10, (some 2), (.t 6)), (12, (some 2), (.t 7)), (14, (some 2), (.t 8)), (16, (some 2), (.t 9)), (18, (some 2), (.t 10)), (20, (some 2), (.t 11)), (22, (some 2), (.t 12)), (24, (some 2), (.t 13)), (26, (some 2), (.t 14)), (28, (some 2), (.t 15)), (30, (some 2), (.t 16)), (32, (some 2), (.t 17)), (34, (some 2), (.t 18)), (36, (some 2), (.t 19)), (38, (some 2), (.t 20)), (40, (some 2), (.t 21)), (42, (some 2), (.t 22))]⟩,
    ⟨(some 0), none, .mov (.t 23)⟩])
  .ret)), [.t 0]⟩
def cf72 : CF := ⟨1, 5, 1, false, false, false, false, (.seq (.reg [⟨(some 1), none, .hbox (some 7) (.t 0)⟩,
    ⟨(some 2), none, .alloc 0 [(.p (.int .u8 0)), (.p (.int .i64 0)), (.p (.int .i64 0)), (.p (.int .i64 0)), (.sl 0 [] .full)]⟩,
    ⟨(some 3), none, .mov (.c (.p (.bool false)))⟩])
  (.seq (.reg [⟨(some 5), none, .load (some 7) (.t 1)⟩,
    ⟨(some 6), none, .call 124 [(.t 5), (.c (.p (.int .u8 5)))]⟩,
    ⟨(some 7), none, .mov (.t 6)⟩,
    ⟨(some 8), (some (7, true)), .fa 0 (.t 1)⟩,
    ⟨(some 9), (some (7, true)), .fa 4 (.t 8)⟩,
    ⟨(some 10), (some (7, true)), .load none (.t 9)⟩,
    ⟨(some 11), (some (7, true)), .ia 5 (.t 10) (.c (.p (.int .i64 0)))⟩,
    ⟨(some 12), (some (7, true)), .load (some 5) (.t 11)⟩,
    ⟨(some 13), (some (7, true)), .call 125 [(.t 12)]⟩,
    ⟨(some 14), none, .pick (.t 7) (.t 13) (.c (.p (.bool false)))⟩,
    ⟨(some 15), none, .mov (.t 14)⟩,
    ⟨(some 16), (some (15, true)), .fa 0 (.t 1)⟩,
    ⟨(some 17), (some (15, true)), .fa 4 (.t 16)⟩,
    ⟨(some 18), (some (15, true)), .load none (.t 17)⟩,
    ⟨(some 19), (some (15, true)), .ia 5 (.t 18) (.c (.p (.int .i64 1)))⟩,
    ⟨(some 20), (some (15, true)), .load (some 5) (.t 19)⟩,
    ⟨(some 21), (some (15, true)), .call 125 [(.t 20)]⟩,
    ⟨(some 22), none, .pick (.t 15) (.t 21) (.c (.p (.bool false)))⟩,
    ⟨(some 4), none, .mov (.t 22)⟩])
  (.seq (.reg [⟨(some 23), none, .mov (.t 4)⟩,
    ⟨(some 24), none, .mkf 127 [] [(.t 1)]⟩,
    ⟨(some 25), none, .call 126 [(.t 23), (.t 24)]⟩,
    ⟨(some 26), none, .ext (.t 25) 0⟩,
    ⟨(some 27), none, .ext (.t 25) 1⟩,
    ⟨none, none, .store (some 5) (.t 2) (.t 26)⟩,
    ⟨(some 3), none, .mov (.t 27)⟩])
  .ret))), [.l 2 (some 5), .t 3]⟩
def cf124 : CF := ⟨2, 4, 1, false, false, false, false, (.seq (.reg [⟨(some 2), none, .box 0 (some 7) (.t 0)⟩,
    ⟨(some 4), none, .mov (.c (.p (.bool false)))⟩])
  (.seq (.reg [⟨(some 5), none, .fa 0 (.t 2)⟩,
    ⟨(some 6), none, .fa 0 (.t 5)⟩,
    ⟨(some 7), none, .load none (.t 6)⟩,
    ⟨(some 8), none, .mov (.t 1)⟩,
    ⟨(some 9), none, .bin .eql (.t 7) (.t 8)⟩,
    ⟨(some 4), none, .mov (.t 9)⟩])
  .ret)), [.t 4]⟩
def cf125 : CF := ⟨1, 3, 1, false, false, false, false, (.seq (.reg [⟨(some 1), none, .box 0 (some 5) (.t 0)⟩,
    ⟨(some 2), none, .mov (.c (.p (.bool false)))⟩])
  (.seq (.reg [⟨(some 3), none, .fa 0 (.t 1)⟩,
    ⟨(some 4), none, .load none (.t 3)⟩,
    ⟨(some 5), none, .bin .eql (.t 4) (.c (.p (.int .u8 1)))⟩,
    ⟨(some 2), none, .mov (.t 5)⟩])
  .ret)), [.t 2]⟩
def cf127 : CF := ⟨1, 5, 1, false, false, false, false, (.seq (.reg [⟨(some 1), none, .alloc 0 [(.p (.int .u8 0)), (.p (.int .i64 0)), (.p (.int .i64 0)), (.p (.int .i64 0)), (.sl 0 [] .full)]⟩])
  (.seq (.regd [] [] [⟨(some 2), none, .fa 0 (.t 0)⟩,
    ⟨(some 3), none, .fa 1 (.t 2)⟩,
    ⟨(some 4), none, .load none (.t 3)⟩,
    ⟨(some 5), none, .fa 0 (.t 0)⟩,
    ⟨(some 6), none, .fa 2 (.t 5)⟩,
    ⟨(some 7), none, .load none (.t 6)⟩,
    ⟨(some 8), none, .fa 0 (.t 0)⟩,
    ⟨(some 9), none, .fa 4 (.t 8)⟩,
    ⟨(some 10), none, .load none (.t 9)⟩,
    ⟨(some 11), none, .ia 5 (.t 10) (.c (.p (.int .i64 0)))⟩,
    ⟨(some 12), none, .fa 1 (.t 11)⟩,
    ⟨(some 13), none, .load none (.t 12)⟩,
    ⟨(some 14), none, .fa 0 (.t 0)⟩,
    ⟨(some 15), none, .fa 4 (.t 14)⟩,
    ⟨(some 16), none, .load none (.t 15)⟩,
    ⟨(some 17), none, .ia 5 (.t 16) (.c (.p (.int .i64 1)))⟩,
    ⟨(some 18), none, .fa 1 (.t 17)⟩,
    ⟨(some 19), none, .load none (.t 18)⟩,
    ⟨(some 20), none, .call 129 [(.t 4), (.t 7), (.t 13), (.t 19)]⟩,
    ⟨(some 21), none, .load (some 7) (.t 0)⟩,
    ⟨(some 22), none, .call 130 [(.t 21)]⟩,
    ⟨(some 23), none, .call 128 [(.t 20), (.t 22)]⟩,
    ⟨none, none, .store (some 5) (.t 1) (.t 23)⟩] [⟨19, (some 7), (.t 0), [(18, 131)]⟩])
  .ret)), [.l 1 (some 5)]⟩
def cf129 : CF := ⟨4, 6, 0, true, false, false, false, (.seq (.reg [⟨(some 8), none, .mov (.c (.p (.int .i64 0)))⟩])
  (.seq (.seq (.reg [⟨(some 9), none, .mov (.t 0)⟩])
  (.block 0 (.seq (.reg [⟨(some 11), none, .bin .eql (.t 9) (.c (.p (.int .i64 1)))⟩,
    ⟨(some 10), none, .mov (.t 11)⟩])
  (.cond (.t 10) (.seq (.reg [⟨(some 12), none, .mov (.t 2)⟩,
    ⟨(some 13), none, .mov (.t 3)⟩,
    ⟨(some 14), none, .bin .add (.t 12) (.t 13)⟩,
    ⟨(some 15), none, .mov (.t 1)⟩,
    ⟨(some 16), none, .bin .rem (.t 14) (.t 15)⟩,
    ⟨(some 8), none, .mov (.t 16)⟩])
  .ret)
  (.seq (.reg [⟨(some 18), none, .bin .eql (.t 9) (.c (.p (.int .i64 2)))⟩,
    ⟨(some 17), none, .mov (.t 18)⟩])
  (.cond (.t 17) (.seq (.reg [⟨(some 19), none, .mov (.t 2)⟩,
    ⟨(some 20), none, .mov (.t 3)⟩,
    ⟨(some 21), none, .bin .sub (.t 19) (.t 20)⟩,
    ⟨(some 22), none, .mov (.t 1)⟩,
    ⟨(some 23), none, .bin .add (.t 21) (.t 22)⟩,
    ⟨(some 24), none, .mov (.t 1)⟩,
    ⟨(some 25), none, .bin .rem (.t 23) (.t 24)⟩,
    ⟨(some 8), none, .mov (.t 25)⟩])
  .ret)
  (.seq (.reg [⟨(some 27), none, .bin .eql (.t 9) (.c (.p (.int .i64 3)))⟩,
    ⟨(some 26), none, .mov (.t 27)⟩])
  (.cond (.t 26) (.seq (.reg [⟨(some 28), none, .mov (.t 2)⟩,
    ⟨(some 29), none, .mov (.t 3)⟩,
    ⟨(some 30), none, .bin .mul (.t 28) (.t 29)⟩,
    ⟨(some 31), none, .mov (.t 1)⟩,
    ⟨(some 32), none, .bin .rem (.t 30) (.t 31)⟩,
    ⟨(some 8), none, .mov (.t 32)⟩])
  .ret)
  (.seq (.reg [⟨(some 34), none, .bin .eql (.t 9) (.c (.p (.int .i64 4)))⟩,
    ⟨(some 33), none, .mov (.t 34)⟩])
  (.cond (.t 33) (.seq (.reg [⟨(some 35), none, .mov (.t 2)⟩,
    ⟨(some 36), none, .mov (.t 3)⟩,
    ⟨(some 37), none, .bin .eql (.t 35) (.t 36)⟩,
    ⟨(some 38), none, .call 138 [(.t 37)]⟩,
    ⟨(some 8), none, .mov (.t 38)⟩])
  .ret)
  .skip))))))))))
  (.seq (.reg [⟨(some 39), none, .mov (.t 2)⟩,
    ⟨(some 40), none, .mov (.t 3)⟩,
    ⟨(some 41), none, .bin .lss (.t 39) (.t 40)⟩,
    ⟨(some 42), none, .call 138 [(.t 41)]⟩,
    ⟨(some 8), none, .mov (.t 42)⟩])
  .ret))), [.t 8]⟩
def cf138 : CF := ⟨1, 3, 0, true, false, false, false, (.seq (.reg [⟨(some 2), none, .mov (.c (.p (.int .i64 0)))⟩])
  (.seq (.seq (.reg [⟨(some 3), none, .mov (.t 0)⟩])
  (.cond (.t 3) (.seq (.reg [⟨(some 2), none, .mov (.c (.p (.int .i64 1)))⟩])
  .ret)
  .skip))
  (.seq (.reg [⟨(some 2), none, .mov (.c (.p (.int .i64 0)))⟩])
  .ret))), [.t 2]⟩
def cf130 : CF := ⟨1, 7, 1, false, false, false, false, (.seq (.reg [⟨(some 1), none, .box 0 (some 7) (.t 0)⟩,
    ⟨(some 2), none, .mov (.c (.p (.int .i64 0)))⟩])
  (.seq (.seq (.reg [⟨(some 3), none, .fa 0 (.t 1)⟩,
    ⟨(some 4), none, .fa 0 (.t 3)⟩,
    ⟨(some 5), none, .load none (.t 4)⟩])
  (.block 0 (.seq (.reg [⟨(some 7), none, .bin .eql (.t 5) (.c (.p (.int .u8 1)))⟩,
    ⟨(some 6), none, .mov (.t 7)⟩])
  (.cond (.t 6) (.seq (.reg [⟨(some 8), none, .fa 0 (.t 1)⟩,
    ⟨(some 9), none, .fa 2 (.t 8)⟩,
    ⟨(some 10), none, .load none (.t 9)⟩,
    ⟨(some 2), none, .mov (.t 10)⟩])
  .ret)
  (.seq (.seq (.reg [⟨(some 12), none, .bin .eql (.t 5) (.c (.p (.int .u8 2)))⟩,
    ⟨(some 11), none, .mov (.t 12)⟩])
  (.cond (.t 11) .skip
  (.seq (.reg [⟨(some 13), none, .bin .eql (.t 5) (.c (.p (.int .u8 3)))⟩,
    ⟨(some 11), none, .mov (.t 13)⟩])
  (.cond (.t 11) .skip
  (.seq (.reg [⟨(some 14), none, .bin .eql (.t 5) (.c (.p (.int .u8 15)))⟩,
    ⟨(some 11), none, .mov (.t 14)⟩])
  (.cond (.t 11) .skip
  (.reg [⟨(some 15), none, .bin .eql (.t 5) (.c (.p (.int .u8 16)))⟩,
    ⟨(some 11), none, .mov (.t 15)⟩])))))))
  (.cond (.t 11) (.seq (.reg [⟨(some 16), none, .fa 5 (.t 1)⟩,
    ⟨(some 17), none, .load none (.t 16)⟩,
    ⟨(some 18), none, .fa 0 (.t 1)⟩,
    ⟨(some 19), none, .fa 3 (.t 18)⟩,
    ⟨(some 20), none, .load none (.t 19)⟩,
    ⟨(some 21), none, .bin .sub (.t 20) (.c (.p (.int .i64 1)))⟩,
    ⟨(some 22), none, .ia 1 (.t 17) (.t 21)⟩,
    ⟨(some 23), none, .load none (.t 22)⟩,
    ⟨(some 2), none, .mov (.t 23)⟩])
  .ret)
  (.seq (.reg [⟨(some 25), none, .bin .eql (.t 5) (.c (.p (.int .u8 5)))⟩,
    ⟨(some 24), none, .mov (.t 25)⟩])
  (.cond (.t 24) (.seq (.seq (.reg [⟨(some 26), none, .fa 0 (.t 1)⟩,
    ⟨(some 27), none, .fa 1 (.t 26)⟩,
    ⟨(some 28), none, .load none (.t 27)⟩,
    ⟨(some 29), none, .bin .eql (.t 28) (.c (.p (.int .i64 4)))⟩,
    ⟨(some 30), none, .mov (.t 29)⟩,
    ⟨(some 31), (some (30, false)), .fa 0 (.t 1)⟩,
    ⟨(some 32), (some (30, false)), .fa 1 (.t 31)⟩,
    ⟨(some 33), (some (30, false)), .load none (.t 32)⟩,
    ⟨(some 34), (some (30, false)), .bin .eql (.t 33) (.c (.p (.int .i64 5)))⟩,
    ⟨(some 35), none, .pick (.t 30) (.c (.p (.bool true))) (.t 34)⟩])
  (.cond (.t 35) (.seq (.reg [⟨(some 2), none, .mov (.c (.p (.int .i64 2)))⟩])
  .ret)
  .skip))
  (.seq (.reg [⟨(some 36), none, .fa 0 (.t 1)⟩,
    ⟨(some 37), none, .fa 2 (.t 36)⟩,
    ⟨(some 38), none, .load none (.t 37)⟩,
    ⟨(some 2), none, .mov (.t 38)⟩])
  .ret))
  (.seq (.reg [⟨(some 40), none, .bin .eql (.t 5) (.c (.p (.int .u8 6)))⟩,
    ⟨(some 39), none, .mov (.t 40)⟩])
  (.cond (.t 39) (.seq (.reg [⟨(some 41), none, .fa 0 (.t 1)⟩,
    ⟨(some 42), none, .fa 1 (.t 41)⟩,
    ⟨(some 43), none, .load none (.t 42)⟩,
    ⟨(some 2), none, .mov (.t 43)⟩])
  .ret)
  (.seq (.seq (.reg [⟨(some 45), none, .bin .eql (.t 5) (.c (.p (.int .u8 7)))⟩,
    ⟨(some 44), none, .mov (.t 45)⟩])
  (.cond (.t 44) .skip
  (.seq (.reg [⟨(some 46), none, .bin .eql (.t 5) (.c (.p (.int .u8 8)))⟩,
    ⟨(some 44), none, .mov (.t 46)⟩])
  (.cond (.t 44) .skip
  (.seq (.reg [⟨(some 47), none, .bin .eql (.t 5) (.c (.p (.int .u8 10)))⟩,
    ⟨(some 44), none, .mov (.t 47)⟩])
  (.cond (.t 44) .skip
  (.seq (.reg [⟨(some 48), none, .bin .eql (.t 5) (.c (.p (.int .u8 11)))⟩,
    ⟨(some 44), none, .mov (.t 48)⟩])
  (.cond (.t 44) .skip
  (.seq (.reg [⟨(some 49), none, .bin .eql (.t 5) (.c (.p (.int .u8 13)))⟩,
    ⟨(some 44), none, .mov (.t 49)⟩])
  (.cond (.t 44) .skip
  (.reg [⟨(some 50), none, .bin .eql (.t 5) (.c (.p (.int .u8 18)))⟩,
    ⟨(some 44), none, .mov (.t 50)⟩])))))))))))
  (.cond (.t 44) (.seq (.reg [⟨(some 51), none, .load (some 7) (.t 1)⟩,
    ⟨(some 52), none, .fa 0 (.t 1)⟩,
    ⟨(some 53), none, .fa 4 (.t 52)⟩,
    ⟨(some 54), none, .load none (.t 53)⟩,
    ⟨(some 55), none, .len false (.t 54)⟩,
    ⟨(some 56), none, .bin .sub (.t 55) (.c (.p (.int .i64 1)))⟩,
    ⟨(some 57), none, .call 132 [(.t 51), (.t 56)]⟩,
    ⟨(some 58), none, .call 130 [(.t 57)]⟩,
    ⟨(some 2), none, .mov (.t 58)⟩])
  .ret)
  (.seq (.reg [⟨(some 60), none, .bin .eql (.t 5) (.c (.p (.int .u8 17)))⟩,
    ⟨(some 59), none, .mov (.t 60)⟩])
  (.cond (.t 59) (.seq (.reg [⟨(some 61), none, .load (some 7) (.t 1)⟩,
    ⟨(some 62), none, .call 132 [(.t 61), (.c (.p (.int .i64 0)))]⟩,
    ⟨(some 63), none, .call 130 [(.t 62)]⟩,
    ⟨(some 2), none, .mov (.t 63)⟩])
  .ret)
  .skip))))))))))))))
  (.seq (.reg [⟨(some 2), none, .mov (.c (.p (.int .i64 1)))⟩])
  .ret))), [.t 2]⟩
def cf132 : CF := ⟨2, 6, 2, false, false, false, false, (.seq (.reg [⟨(some 2), none, .box 0 (some 7) (.t 0)⟩,
    ⟨(some 4), none, .alloc 1 [(.p (.int .u8 0)), (.p (.int .i64 0)), (.p (.int .i64 0)), (.p (.int .i64 0)), (.sl 0 [] .full), (.sl 0 [] .full), (.p (.int .i64 0))]⟩])
  (.seq (.regd [(2, [(.p (.int .u8 0)), (.p (.int .i64 0)), (.p (.int .i64 0)), (.p (.int .i64 0)), (.sl 0 [] .full), (.sl 0 [] .full), (.p (.int .i64 0))])] [] [⟨(some 6), none, .fa 0 (.t 2)⟩,
    ⟨(some 7), none, .fa 4 (.t 6)⟩,
    ⟨(some 8), none, .load none (.t 7)⟩,
    ⟨(some 9), none, .mov (.t 1)⟩,
    ⟨(some 10), none, .ia 5 (.t 8) (.t 9)⟩,
    ⟨(some 11), none, .load (some 5) (.t 10)⟩,
    ⟨(some 12), none, .fa 5 (.t 2)⟩,
    ⟨(some 13), none, .load none (.t 12)⟩,
    ⟨(some 14), none, .fa 6 (.t 2)⟩,
    ⟨(some 15), none, .load none (.t 14)⟩,
    ⟨(some 16), none, .build [(.p (.int .u8 0)), (.p (.int .i64 0)), (.p (.int .i64 0)), (.p (.int .i64 0)), (.sl 0 [] .full), (.sl 0 [] .full), (.p (.int .i64 0))] [(0, (some 5), (.t 11)), (5, none, (.t 13)), (6, none, (.t 15))]⟩,
    ⟨(some 5), none, .alloced 2⟩,
    ⟨none, none, .store (some 7) (.t 5) (.t 16)⟩] [])
  (.seq (.block 0 (.seq (.reg [⟨(some 18), none, .fa 0 (.t 2)⟩,
    ⟨(some 19), none, .fa 0 (.t 18)⟩,
    ⟨(some 20), none, .load none (.t 19)⟩,
    ⟨(some 21), none, .bin .eql (.t 20) (.c (.p (.int .u8 10)))⟩,
    ⟨(some 17), none, .mov (.t 21)⟩])
  (.cond (.t 17) (.regd [] [] [⟨(some 22), none, .fa 5 (.t 2)⟩,
    ⟨(some 23), none, .load none (.t 22)⟩,
    ⟨(some 24), none, .call 183 [(.t 23)]⟩,
    ⟨(some 25), none, .fa 0 (.t 2)⟩,
    ⟨(some 26), none, .fa 1 (.t 25)⟩,
    ⟨(some 27), none, .load none (.t 26)⟩,
    ⟨(some 28), none, .mks 1 [(.int .i64 0)] [(0, none, (.t 27))]⟩,
    ⟨(some 29), none, .app 1 8 (.t 24) (.t 28)⟩,
    ⟨(some 30), none, .fa 5 (.t 5)⟩,
    ⟨none, none, .store none (.t 30) (.t 29)⟩] [⟨5, none, (.t 26), [(2, 185)]⟩])
  (.seq (.reg [⟨(some 32), none, .fa 0 (.t 2)⟩,
    ⟨(some 33), none, .fa 0 (.t 32)⟩,
    ⟨(some 34), none, .load none (.t 33)⟩,
    ⟨(some 35), none, .bin .eql (.t 34) (.c (.p (.int .u8 17)))⟩,
    ⟨(some 36), none, .mov (.t 35)⟩,
    ⟨(some 37), (some (36, true)), .mov (.t 1)⟩,
    ⟨(some 38), (some (36, true)), .bin .eql (.t 37) (.c (.p (.int .i64 1)))⟩,
    ⟨(some 39), none, .pick (.t 36) (.t 38) (.c (.p (.bool false)))⟩,
    ⟨(some 31), none, .mov (.t 39)⟩])
  (.cond (.t 31) (.regd [] [] [⟨(some 40), none, .fa 5 (.t 2)⟩,
    ⟨(some 41), none, .load none (.t 40)⟩,
    ⟨(some 42), none, .call 183 [(.t 41)]⟩,
    ⟨(some 43), none, .load (some 7) (.t 2)⟩,
    ⟨(some 44), none, .call 132 [(.t 43), (.c (.p (.int .i64 0)))]⟩,
    ⟨(some 45), none, .call 130 [(.t 44)]⟩,
    ⟨(some 46), none, .mks 1 [(.int .i64 0)] [(0, none, (.t 45))]⟩,
    ⟨(some 47), none, .app 1 8 (.t 42) (.t 46)⟩,
    ⟨(some 48), none, .fa 5 (.t 5)⟩,
    ⟨none, none, .store none (.t 48) (.t 47)⟩] [⟨3, (some 7), (.t 2), [(2, 185)]⟩])
  .skip)))))
  (.seq (.reg [⟨(some 49), none, .load (some 7) (.t 5)⟩,
    ⟨none, none, .store (some 7) (.t 4) (.t 49)⟩])
  .ret)))), [.l 4 (some 7)]⟩
def cf183 : CF := ⟨1, 4, 0, false, false, true, true, (.seq (.reg [⟨(some 2), none, .mov (.c (.sl 0 [] .full))⟩])
  (.seq (.seq (.reg [⟨(some 3), none, .mov (.t 0)⟩,
    ⟨(some 4), none, .eqv 5 false (.t 3) (.c (.sl 0 [] .full))⟩])
  (.cond (.t 4) (.seq (.reg [⟨(some 2), none, .mov (.c (.sl 0 [] .full))⟩])
  .ret)
  .skip))
  (.seq (.reg [⟨(some 5), none, .mks 0 [] []⟩,
    ⟨(some 6), none, .mov (.t 0)⟩,
    ⟨(some 7), none, .app 1 8 (.t 5) (.t 6)⟩,
    ⟨(some 2), none, .mov (.t 7)⟩])
  .ret))), [.t 2]⟩
def cf128 : CF := ⟨2, 4, 1, false, false, false, false, (.seq (.reg [⟨(some 4), none, .alloc 0 [(.p (.int .u8 0)), (.p (.int .i64 0)), (.p (.int .i64 0)), (.p (.int .i64 0)), (.sl 0 [] .full)]⟩])
  (.seq (.reg [⟨(some 5), none, .mov (.t 0)⟩,
    ⟨(some 6), none, .mov (.t 1)⟩,
    ⟨(some 7), none, .call 136 [(.c (.p (.int .u8 1))), (.t 5), (.t 6), (.c (.sl 0 [] .full))]⟩,
    ⟨none, none, .store (some 5) (.t 4) (.t 7)⟩])
  .ret)), [.l 4 (some 5)]⟩
def cf136 : CF := ⟨4, 4, 1, false, false, false, false, (.seq (.reg [⟨(some 8), none, .alloc 0 [(.p (.int .u8 0)), (.p (.int .i64 0)), (.p (.int .i64 0)), (.p (.int .i64 0)), (.sl 0 [] .full)]⟩])
  (.seq (.reg [⟨(some 9), none, .mov (.t 0)⟩,
    ⟨(some 10), none, .mov (.t 1)⟩,
    ⟨(some 11), none, .mov (.t 2)⟩,
    ⟨(some 12), none, .mov (.t 3)⟩,
    ⟨(some 13), none, .build [(.p (.int .u8 0)), (.p (.int .i64 0)), (.p (.int .i64 0)), (.p (.int .i64 0)), (.sl 0 [] .full)] [(0, none, (.t 9)), (1, none, (.t 10)), (2, none, (.t 11)), (4, none, (.t 12))]⟩,
    ⟨none, none, .store (some 5) (.t 8) (.t 13)⟩])
  .ret)), [.l 8 (some 5)]⟩
def cf126 : CF := ⟨2, 4, 1, false, false, false, false, (.seq (.reg [⟨(some 4), none, .alloc 0 [(.p (.int .u8 0)), (.p (.int .i64 0)), (.p (.int .i64 0)), (.p (.int .i64 0)), (.sl 0 [] .full)]⟩,
    ⟨(some 5), none, .mov (.c (.p (.bool false)))⟩])
  (.seq (.seq (.reg [⟨(some 6), none, .mov (.t 0)⟩,
    ⟨(some 7), none, .not (.t 6)⟩])
  (.cond (.t 7) (.seq (.reg [⟨(some 8), none, .call 98 []⟩,
    ⟨(some 9), none, .ext (.t 8) 0⟩,
    ⟨(some 10), none, .ext (.t 8) 1⟩,
    ⟨none, none, .store (some 5) (.t 4) (.t 9)⟩,
    ⟨(some 5), none, .mov (.t 10)⟩])
  .ret)
  .skip))
  (.seq (.reg [⟨(some 11), none, .mov (.t 1)⟩,
    ⟨(some 12), none, .callv (.t 11) []⟩,
    ⟨none, none, .store (some 5) (.t 4) (.t 12)⟩,
    ⟨(some 5), none, .mov (.c (.p (.bool true)))⟩])
  .ret))), [.l 4 (some 5), .t 5]⟩
def cf98 : CF := ⟨0, 2, 1, false, false, false, false, (.seq (.reg [⟨(some 0), none, .alloc 0 [(.p (.int .u8 0)), (.p (.int .i64 0)), (.p (.int .i64 0)), (.p (.int .i64 0)), (.sl 0 [] .full)]⟩,
    ⟨(some 1), none, .mov (.c (.p (.bool false)))⟩])
  (.seq (.reg [⟨(some 2), none, .build [(.p (.int .u8 0)), (.p (.int .i64 0)), (.p (.int .i64 0)), (.p (.int .i64 0)), (.sl 0 [] .full)] []⟩,
    ⟨none, none, .store (some 5) (.t 0) (.t 2)⟩,
    ⟨(some 1), none, .mov (.c (.p (.bool false)))⟩])
  .ret)), [.l 0 (some 5), .t 1]⟩
def cf73 : CF := ⟨1, 5, 1, false, false, false, false, (.seq (.reg [⟨(some 1), none, .hbox (some 7) (.t 0)⟩,
    ⟨(some 2), none, .alloc 0 [(.p (.int .u8 0)), (.p (.int .i64 0)), (.p (.int .i64 0)), (.p (.int .i64 0)), (.sl 0 [] .full)]⟩,
    ⟨(some 3), none, .mov (.c (.p (.bool false)))⟩])
  (.seq (.reg [⟨(some 5), none, .load (some 7) (.t 1)⟩,
    ⟨(some 6), none, .call 124 [(.t 5), (.c (.p (.int .u8 6)))]⟩,
    ⟨(some 7), none, .mov (.t 6)⟩,
    ⟨(some 8), (some (7, true)), .fa 0 (.t 1)⟩,
    ⟨(some 9), (some (7, true)), .fa 4 (.t 8)⟩,
    ⟨(some 10), (some (7, true)), .load none (.t 9)⟩,
    ⟨(some 11), (some (7, true)), .ia 5 (.t 10) (.c (.p (.int .i64 0)))⟩,
    ⟨(some 12), (some (7, true)), .load (some 5) (.t 11)⟩,
    ⟨(some 13), (some (7, true)), .call 125 [(.t 12)]⟩,
    ⟨(some 14), none, .pick (.t 7) (.t 13) (.c (.p (.bool false)))⟩,
    ⟨(some 4), none, .mov (.t 14)⟩])
  (.seq (.reg [⟨(some 15), none, .mov (.t 4)⟩,
    ⟨(some 16), none, .mkf 131 [] [(.t 1)]⟩,
    ⟨(some 17), none, .call 126 [(.t 15), (.t 16)]⟩,
    ⟨(some 18), none, .ext (.t 17) 0⟩,
    ⟨(some 19), none, .ext (.t 17) 1⟩,
    ⟨none, none, .store (some 5) (.t 2) (.t 18)⟩,
    ⟨(some 3), none, .mov (.t 19)⟩])
  .ret))), [.l 2 (some 5), .t 3]⟩
def cf131 : CF := ⟨1, 5, 1, false, false, false, false, (.seq (.reg [⟨(some 1), none, .alloc 0 [(.p (.int .u8 0)), (.p (.int .i64 0)), (.p (.int .i64 0)), (.p (.int .i64 0)), (.sl 0 [] .full)]⟩])
  (.seq (.regd [] [] [⟨(some 2), none, .fa 0 (.t 0)⟩,
    ⟨(some 3), none, .fa 4 (.t 2)⟩,
    ⟨(some 4), none, .load none (.t 3)⟩,
    ⟨(some 5), none, .ia 5 (.t 4) (.c (.p (.int .i64 0)))⟩,
    ⟨(some 6), none, .fa 1 (.t 5)⟩,
    ⟨(some 7), none, .load none (.t 6)⟩,
    ⟨(some 8), none, .fa 0 (.t 0)⟩,
    ⟨(some 9), none, .fa 1 (.t 8)⟩,
    ⟨(some 10), none, .load none (.t 9)⟩,
    ⟨(some 11), none, .bin .rem (.t 7) (.t 10)⟩,
    ⟨(some 12), none, .fa 0 (.t 0)⟩,
    ⟨(some 13), none, .fa 1 (.t 12)⟩,
    ⟨(some 14), none, .load none (.t 13)⟩,
    ⟨(some 15), none, .call 128 [(.t 11), (.t 14)]⟩,
    ⟨none, none, .store (some 5) (.t 1) (.t 15)⟩] [])
  .ret)), [.l 1 (some 5)]⟩
def cf74 : CF := ⟨1, 5, 2, false, false, false, false, (.seq (.reg [⟨(some 1), none, .box 0 (some 7) (.t 0)⟩,
    ⟨(some 2), none, .alloc 1 [(.p (.int .u8 0)), (.p (.int .i64 0)), (.p (.int .i64 0)), (.p (.int .i64 0)), (.sl 0 [] .full)]⟩,
    ⟨(some 3), none, .mov (.c (.p (.bool false)))⟩])
  (.seq (.regd [] [] [⟨(some 5), none, .load (some 7) (.t 1)⟩,
    ⟨(some 6), none, .call 124 [(.t 5), (.c (.p (.int .u8 6)))]⟩,
    ⟨(some 7), none, .mov (.t 6)⟩,
    ⟨(some 8), (some (7, true)), .fa 0 (.t 1)⟩,
    ⟨(some 9), (some (7, true)), .fa 4 (.t 8)⟩,
    ⟨(some 10), (some (7, true)), .load none (.t 9)⟩,
    ⟨(some 11), (some (7, true)), .ia 5 (.t 10) (.c (.p (.int .i64 0)))⟩,
    ⟨(some 12), (some (7, true)), .load (some 5) (.t 11)⟩,
    ⟨(some 13), (some (7, true)), .call 125 [(.t 12)]⟩,
    ⟨(some 14), (some (7, true)), .not (.t 13)⟩,
    ⟨(some 15), none, .pick (.t 7) (.t 14) (.c (.p (.bool false)))⟩,
    ⟨(some 16), none, .mov (.t 15)⟩,
    ⟨(some 17), (some (16, true)), .load (some 7) (.t 1)⟩,
    ⟨(some 18), (some (16, true)), .call 132 [(.t 17), (.c (.p (.int .i64 0)))]⟩,
    ⟨(some 19), (some (16, true)), .call 130 [(.t 18)]⟩,
    ⟨(some 20), (some (16, true)), .fa 0 (.t 1)⟩,
    ⟨(some 21), (some (16, true)), .fa 1 (.t 20)⟩,
    ⟨(some 22), (some (16, true)), .load none (.t 21)⟩,
    ⟨(some 23), (some (16, true)), .bin .eql (.t 19) (.t 22)⟩,
    ⟨(some 24), none, .pick (.t 16) (.t 23) (.c (.p (.bool false)))⟩,
    ⟨(some 4), none, .mov (.t 24)⟩] [⟨17, none, (.t 21), [(13, 134), (14, 132)]⟩])
  (.seq (.reg [⟨(some 25), none, .mov (.t 4)⟩,
    ⟨(some 26), none, .load (some 7) (.t 1)⟩,
    ⟨(some 27), none, .mkf 133 [(.t 26)] []⟩,
    ⟨(some 28), none, .call 126 [(.t 25), (.t 27)]⟩,
    ⟨(some 29), none, .ext (.t 28) 0⟩,
    ⟨(some 30), none, .ext (.t 28) 1⟩,
    ⟨none, none, .store (some 5) (.t 2) (.t 29)⟩,
    ⟨(some 3), none, .mov (.t 30)⟩])
  .ret))), [.l 2 (some 5), .t 3]⟩
def cf133 : CF := ⟨1, 4, 2, false, false, false, false, (.seq (.reg [⟨(some 1), none, .box 0 (some 7) (.t 0)⟩,
    ⟨(some 2), none, .alloc 1 [(.p (.int .u8 0)), (.p (.int .i64 0)), (.p (.int .i64 0)), (.p (.int .i64 0)), (.sl 0 [] .full)]⟩])
  (.seq (.reg [⟨(some 3), none, .fa 0 (.t 1)⟩,
    ⟨(some 4), none, .fa 4 (.t 3)⟩,
    ⟨(some 5), none, .load none (.t 4)⟩,
    ⟨(some 6), none, .ia 5 (.t 5) (.c (.p (.int .i64 0)))⟩,
    ⟨(some 7), none, .load (some 5) (.t 6)⟩,
    ⟨none, none, .store (some 5) (.t 2) (.t 7)⟩])
  .ret)), [.l 2 (some 5)]⟩
def cf75 : CF := ⟨1, 6, 2, false, false, false, false, (.seq (.reg [⟨(some 1), none, .box 0 (some 7) (.t 0)⟩,
    ⟨(some 2), none, .alloc 1 [(.p (.int .u8 0)), (.p (.int .i64 0)), (.p (.int .i64 0)), (.p (.int .i64 0)), (.sl 0 [] .full)]⟩,
    ⟨(some 3), none, .mov (.c (.p (.bool false)))⟩])
  (.seq (.reg [⟨(some 8), none, .mkmap⟩,
    ⟨none, none, .insert 1 (.t 8) (.c (.p (.int .i64 1))) (.c (.p (.int .i64 0)))⟩,
    ⟨none, none, .insert 1 (.t 8) (.c (.p (.int .i64 2))) (.c (.p (.int .i64 0)))⟩,
    ⟨none, none, .insert 1 (.t 8) (.c (.p (.int .i64 3))) (.c (.p (.int .i64 1)))⟩,
    ⟨(some 9), none, .mov (.t 8)⟩,
    ⟨(some 10), none, .fa 0 (.t 1)⟩,
    ⟨(some 11), none, .fa 1 (.t 10)⟩,
    ⟨(some 12), none, .load none (.t 11)⟩,
    ⟨(some 13), none, .look 1 (.p (.int .i64 0)) true (.t 9) (.t 12)⟩,
    ⟨(some 7), none, .mov (.t 13)⟩,
    ⟨(some 14), none, .ext (.t 7) 0⟩,
    ⟨(some 15), none, .ext (.t 7) 1⟩,
    ⟨(some 4), none, .mov (.t 14)⟩,
    ⟨(some 5), none, .mov (.t 15)⟩])
  (.seq (.reg [⟨(some 16), none, .load (some 7) (.t 1)⟩,
    ⟨(some 17), none, .call 124 [(.t 16), (.c (.p (.int .u8 5)))]⟩,
    ⟨(some 18), none, .mov (.t 17)⟩,
    ⟨(some 19), (some (18, true)), .mov (.t 5)⟩,
    ⟨(some 20), none, .pick (.t 18) (.t 19) (.c (.p (.bool false)))⟩,
    ⟨(some 21), none, .mov (.t 20)⟩,
    ⟨(some 22), (some (21, true)), .fa 0 (.t 1)⟩,
    ⟨(some 23), (some (21, true)), .fa 4 (.t 22)⟩,
    ⟨(some 24), (some (21, true)), .load none (.t 23)⟩,
    ⟨(some 25), (some (21, true)), .ia 5 (.t 24) (.c (.p (.int .i64 0)))⟩,
    ⟨(some 26), (some (21, true)), .load (some 5) (.t 25)⟩,
    ⟨(some 27), (some (21, true)), .call 125 [(.t 26)]⟩,
    ⟨(some 28), (some (21, true)), .not (.t 27)⟩,
    ⟨(some 29), none, .pick (.t 21) (.t 28) (.c (.p (.bool false)))⟩,
    ⟨(some 30), none, .mov (.t 29)⟩,
    ⟨(some 31), (some (30, true)), .fa 0 (.t 1)⟩,
    ⟨(some 32), (some (30, true)), .fa 4 (.t 31)⟩,
    ⟨(some 33), (some (30, true)), .load none (.t 32)⟩,
    ⟨(some 34), (some (30, true)), .ia 5 (.t 33) (.c (.p (.int .i64 1)))⟩,
    ⟨(some 35), (some (30, true)), .load (some 5) (.t 34)⟩,
    ⟨(some 36), (some (30, true)), .call 125 [(.t 35)]⟩,
    ⟨(some 37), none, .pick (.t 30) (.t 36) (.c (.p (.bool false)))⟩,
    ⟨(some 38), none, .mov (.t 37)⟩,
    ⟨(some 39), (some (38, true)), .fa 0 (.t 1)⟩,
    ⟨(some 40), (some (38, true)), .fa 4 (.t 39)⟩,
    ⟨(some 41), (some (38, true)), .load none (.t 40)⟩,
    ⟨(some 42), (some (38, true)), .ia 5 (.t 41) (.c (.p (.int .i64 1)))⟩,
    ⟨(some 43), (some (38, true)), .fa 1 (.t 42)⟩,
    ⟨(some 44), (some (38, true)), .load none (.t 43)⟩,
    ⟨(some 45), (some (38, true)), .mov (.t 4)⟩,
    ⟨(some 46), (some (38, true)), .bin .eql (.t 44) (.t 45)⟩,
    ⟨(some 47), none, .pick (.t 38) (.t 46) (.c (.p (.bool false)))⟩,
    ⟨(some 6), none, .mov (.t 47)⟩])
  (.seq (.reg [⟨(some 48), none, .mov (.t 6)⟩,
    ⟨(some 49), none, .load (some 7) (.t 1)⟩,
    ⟨(some 50), none, .mkf 133 [(.t 49)] []⟩,
    ⟨(some 51), none, .call 126 [(.t 48), (.t 50)]⟩,
    ⟨(some 52), none, .ext (.t 51) 0⟩,
    ⟨(some 53), none, .ext (.t 51) 1⟩,
    ⟨none, none, .store (some 5) (.t 2) (.t 52)⟩,
    ⟨(some 3), none, .mov (.t 53)⟩])
  .ret)))), [.l 2 (some 5), .t 3]⟩
def cf76 : CF := ⟨1, 6, 1, false, false, false, false, (.seq (.reg [⟨(some 1), none, .hbox (some 7) (.t 0)⟩,
    ⟨(some 2), none, .alloc 0 [(.p (.int .u8 0)), (.p (.int .i64 0)), (.p (.int .i64 0)), (.p (.int .i64 0)), (.sl 0 [] .full)]⟩,
    ⟨(some 3), none, .mov (.c (.p (.bool false)))⟩])
  (.seq (.reg [⟨(some 5), none, .load (some 7) (.t 1)⟩,
    ⟨(some 6), none, .call 124 [(.t 5), (.c (.p (.int .u8 5)))]⟩,
    ⟨(some 7), none, .mov (.t 6)⟩,
    ⟨(some 8), (some (7, true)), .mks 3 [(.int .i64 0), (.int .i64 0), (.int .i64 0)] [(0, none, (.c (.p (.int .i64 1)))), (1, none, (.c (.p (.int .i64 3)))), (2, none, (.c (.p (.int .i64 4))))]⟩,
    ⟨(some 9), (some (7, true)), .fa 0 (.t 1)⟩,
    ⟨(some 10), (some (7, true)), .fa 1 (.t 9)⟩,
    ⟨(some 11), (some (7, true)), .load none (.t 10)⟩,
    ⟨(some 12), (some (7, true)), .call 134 [(.t 8), (.t 11)]⟩,
    ⟨(some 13), none, .pick (.t 7) (.t 12) (.c (.p (.bool false)))⟩,
    ⟨(some 14), none, .mov (.t 13)⟩,
    ⟨(some 15), (some (14, true)), .fa 0 (.t 1)⟩,
    ⟨(some 16), (some (14, true)), .fa 4 (.t 15)⟩,
    ⟨(some 17), (some (14, true)), .load none (.t 16)⟩,
    ⟨(some 18), (some (14, true)), .ia 5 (.t 17) (.c (.p (.int .i64 0)))⟩,
    ⟨(some 19), (some (14, true)), .load (some 5) (.t 18)⟩,
    ⟨(some 20), (some (14, true)), .call 125 [(.t 19)]⟩,
    ⟨(some 21), none, .pick (.t 14) (.t 20) (.c (.p (.bool false)))⟩,
    ⟨(some 22), none, .mov (.t 21)⟩,
    ⟨(some 23), (some (22, true)), .fa 0 (.t 1)⟩,
    ⟨(some 24), (some (22, true)), .fa 4 (.t 23)⟩,
    ⟨(some 25), (some (22, true)), .load none (.t 24)⟩,
    ⟨(some 26), (some (22, true)), .ia 5 (.t 25) (.c (.p (.int .i64 1)))⟩,
    ⟨(some 27), (some (22, true)), .load (some 5) (.t 26)⟩,
    ⟨(some 28), (some (22, true)), .call 125 [(.t 27)]⟩,
    ⟨(some 29), (some (22, true)), .not (.t 28)⟩,
    ⟨(some 30), none, .pick (.t 22) (.t 29) (.c (.p (.bool false)))⟩,
    ⟨(some 4), none, .mov (.t 30)⟩])
  (.seq (.reg [⟨(some 31), none, .mov (.t 4)⟩,
    ⟨(some 32), none, .mkf 135 [] [(.t 1)]⟩,
    ⟨(some 33), none, .call 126 [(.t 31), (.t 32)]⟩,
    ⟨(some 34), none, .ext (.t 33) 0⟩,
    ⟨(some 35), none, .ext (.t 33) 1⟩,
    ⟨none, none, .store (some 5) (.t 2) (.t 34)⟩,
    ⟨(some 3), none, .mov (.t 35)⟩])
  .ret))), [.l 2 (some 5), .t 3]⟩
def cf134 : CF := ⟨2, 4, 0, true, false, false, false, (.seq (.reg [⟨(some 4), none, .mov (.c (.p (.bool false)))⟩])
  (.seq (.reg [⟨(some 5), none, .mov (.t 0)⟩,
    ⟨(some 6), none, .mov (.t 1)⟩,
    ⟨(some 7), none, .call 184 [(.t 5), (.t 6)]⟩,
    ⟨(some 8), none, .bin .geq (.t 7) (.c (.p (.int .i64 0)))⟩,
    ⟨(some 4), none, .mov (.t 8)⟩])
  .ret)), [.t 4]⟩
def cf184 : CF := ⟨2, 5, 0, true, false, false, false, (.seq (.reg [⟨(some 4), none, .mov (.c (.p (.int .i64 0)))⟩])
  (.seq (.seq (.reg [⟨(some 6), none, .mov (.t 0)⟩,
    ⟨(some 7), none, .len false (.t 6)⟩,
    ⟨(some 8), none, .mov (.c (.p (.int .i64 0)))⟩])
  (.block 0 (.loop (.seq (.reg [⟨(some 9), none, .bin .lss (.t 8) (.t 7)⟩])
  (.seq (.cond (.t 9) .skip
  (.exit 0))
  (.seq (.block 1 (.seq (.reg [⟨(some 10), none, .mov (.t 8)⟩,
    ⟨(some 5), none, .mov (.t 10)⟩])
  (.seq (.reg [⟨(some 11), none, .mov (.t 1)⟩,
    ⟨(some 12), none, .mov (.t 0)⟩,
    ⟨(some 13), none, .mov (.t 5)⟩,
    ⟨(some 14), none, .ia 1 (.t 12) (.t 13)⟩,
    ⟨(some 15), none, .load none (.t 14)⟩,
    ⟨(some 16), none, .bin .eql (.t 11) (.t 15)⟩])
  (.cond (.t 16) (.seq (.reg [⟨(some 17), none, .mov (.t 5)⟩,
    ⟨(some 4), none, .mov (.t 17)⟩])
  .ret)
  .skip))))
  (.reg [⟨(some 18), none, .bin .add (.t 8) (.c (.p (.int .i64 1)))⟩,
    ⟨(some 8), none, .mov (.t 18)⟩])))))))
  (.seq (.reg [⟨(some 4), none, .mov (.c (.p (.int .i64 (-1))))⟩])
  .ret))), [.t 4]⟩
def cf135 : CF := ⟨1, 5, 1, false, false, false, false, (.seq (.reg [⟨(some 1), none, .alloc 0 [(.p (.int .u8 0)), (.p (.int .i64 0)), (.p (.int .i64 0)), (.p (.int .i64 0)), (.sl 0 [] .full)]⟩])
  (.seq (.regd [] [] [⟨(some 2), none, .fa 0 (.t 0)⟩,
    ⟨(some 3), none, .fa 1 (.t 2)⟩,
    ⟨(some 4), none, .load none (.t 3)⟩,
    ⟨(some 5), none, .fa 0 (.t 0)⟩,
    ⟨(some 6), none, .fa 2 (.t 5)⟩,
    ⟨(some 7), none, .load none (.t 6)⟩,
    ⟨(some 8), none, .fa 0 (.t 0)⟩,
    ⟨(some 9), none, .fa 4 (.t 8)⟩,
    ⟨(some 10), none, .load none (.t 9)⟩,
    ⟨(some 11), none, .ia 5 (.t 10) (.c (.p (.int .i64 1)))⟩,
    ⟨(some 12), none, .load (some 5) (.t 11)⟩,
    ⟨(some 13), none, .fa 0 (.t 0)⟩,
    ⟨(some 14), none, .fa 4 (.t 13)⟩,
    ⟨(some 15), none, .load none (.t 14)⟩,
    ⟨(some 16), none, .ia 5 (.t 15) (.c (.p (.int .i64 0)))⟩,
    ⟨(some 17), none, .load (some 5) (.t 16)⟩,
    ⟨(some 18), none, .mks 2 [(.int .u8 0), (.int .i64 0), (.int .i64 0), (.int .i64 0), (.sl 0 []), (.int .u8 0), (.int .i64 0), (.int .i64 0), (.int .i64 0), (.sl 0 [])] [(0, (some 5), (.t 12)), (5, (some 5), (.t 17))]⟩,
    ⟨(some 19), none, .call 136 [(.c (.p (.int .u8 5))), (.t 4), (.t 7), (.t 18)]⟩,
    ⟨none, none, .store (some 5) (.t 1) (.t 19)⟩] [])
  .ret)), [.l 1 (some 5)]⟩
def cf77 : CF := ⟨1, 5, 1, false, false, false, false, (.seq (.reg [⟨(some 1), none, .hbox (some 7) (.t 0)⟩,
    ⟨(some 2), none, .alloc 0 [(.p (.int .u8 0)), (.p (.int .i64 0)), (.p (.int .i64 0)), (.p (.int .i64 0)), (.sl 0 [] .full)]⟩,
    ⟨(some 3), none, .mov (.c (.p (.bool false)))⟩])
  (.seq (.reg [⟨(some 5), none, .load (some 7) (.t 1)⟩,
    ⟨(some 6), none, .call 124 [(.t 5), (.c (.p (.int .u8 8)))]⟩,
    ⟨(some 7), none, .mov (.t 6)⟩,
    ⟨(some 8), (some (7, true)), .fa 0 (.t 1)⟩,
    ⟨(some 9), (some (7, true)), .fa 4 (.t 8)⟩,
    ⟨(some 10), (some (7, true)), .load none (.t 9)⟩,
    ⟨(some 11), (some (7, true)), .ia 5 (.t 10) (.c (.p (.int .i64 0)))⟩,
    ⟨(some 12), (some (7, true)), .load (some 5) (.t 11)⟩,
    ⟨(some 13), (some (7, true)), .call 125 [(.t 12)]⟩,
    ⟨(some 14), none, .pick (.t 7) (.t 13) (.c (.p (.bool false)))⟩,
    ⟨(some 4), none, .mov (.t 14)⟩])
  (.seq (.reg [⟨(some 15), none, .mov (.t 4)⟩,
    ⟨(some 16), none, .mkf 137 [] [(.t 1)]⟩,
    ⟨(some 17), none, .call 126 [(.t 15), (.t 16)]⟩,
    ⟨(some 18), none, .ext (.t 17) 0⟩,
    ⟨(some 19), none, .ext (.t 17) 1⟩,
    ⟨none, none, .store (some 5) (.t 2) (.t 18)⟩,
    ⟨(some 3), none, .mov (.t 19)⟩])
  .ret))), [.l 2 (some 5), .t 3]⟩
def cf137 : CF := ⟨1, 5, 1, false, false, false, false, (.seq (.reg [⟨(some 1), none, .alloc 0 [(.p (.int .u8 0)), (.p (.int .i64 0)), (.p (.int .i64 0)), (.p (.int .i64 0)), (.sl 0 [] .full)]⟩])
  (.seq (.regd [] [] [⟨(some 2), none, .fa 0 (.t 0)⟩,
    ⟨(some 3), none, .fa 4 (.t 2)⟩,
    ⟨(some 4), none, .load none (.t 3)⟩,
    ⟨(some 5), none, .fa 0 (.t 0)⟩,
    ⟨(some 6), none, .fa 4 (.t 5)⟩,
    ⟨(some 7), none, .load none (.t 6)⟩,
    ⟨(some 8), none, .ia 5 (.t 7) (.c (.p (.int .i64 0)))⟩,
    ⟨(some 9), none, .fa 1 (.t 8)⟩,
    ⟨(some 10), none, .load none (.t 9)⟩,
    ⟨(some 11), none, .bin .eql (.t 10) (.c (.p (.int .i64 0)))⟩,
    ⟨(some 12), none, .call 138 [(.t 11)]⟩,
    ⟨(some 13), none, .bin .add (.c (.p (.int .i64 1))) (.t 12)⟩,
    ⟨(some 14), none, .ia 5 (.t 4) (.t 13)⟩,
    ⟨(some 15), none, .load (some 5) (.t 14)⟩,
    ⟨none, none, .store (some 5) (.t 1) (.t 15)⟩] [⟨2, none, (.t 3), [(10, 140)]⟩])
  .ret)), [.l 1 (some 5)]⟩
def cf78 : CF := ⟨1, 6, 1, false, false, false, false, (.seq (.reg [⟨(some 1), none, .hbox (some 7) (.t 0)⟩,
    ⟨(some 2), none, .alloc 0 [(.p (.int .u8 0)), (.p (.int .i64 0)), (.p (.int .i64 0)), (.p (.int .i64 0)), (.sl 0 [] .full)]⟩,
    ⟨(some 3), none, .mov (.c (.p (.bool false)))⟩])
  (.seq (.regd [] [] [⟨(some 5), none, .load (some 7) (.t 1)⟩,
    ⟨(some 6), none, .call 124 [(.t 5), (.c (.p (.int .u8 8)))]⟩,
    ⟨(some 7), none, .mov (.t 6)⟩,
    ⟨(some 8), (some (7, true)), .fa 0 (.t 1)⟩,
    ⟨(some 9), (some (7, true)), .fa 4 (.t 8)⟩,
    ⟨(some 10), (some (7, true)), .load none (.t 9)⟩,
    ⟨(some 11), (some (7, true)), .ia 5 (.t 10) (.c (.p (.int .i64 0)))⟩,
    ⟨(some 12), (some (7, true)), .load (some 5) (.t 11)⟩,
    ⟨(some 13), (some (7, true)), .call 125 [(.t 12)]⟩,
    ⟨(some 14), (some (7, true)), .not (.t 13)⟩,
    ⟨(some 15), none, .pick (.t 7) (.t 14) (.c (.p (.bool false)))⟩,
    ⟨(some 16), none, .mov (.t 15)⟩,
    ⟨(some 17), (some (16, true)), .fa 0 (.t 1)⟩,
    ⟨(some 18), (some (16, true)), .fa 4 (.t 17)⟩,
    ⟨(some 19), (some (16, true)), .load none (.t 18)⟩,
    ⟨(some 20), (some (16, true)), .ia 5 (.t 19) (.c (.p (.int .i64 1)))⟩,
    ⟨(some 21), (some (16, true)), .load (some 5) (.t 20)⟩,
    ⟨(some 22), (some (16, true)), .fa 0 (.t 1)⟩,
    ⟨(some 23), (some (16, true)), .fa 4 (.t 22)⟩,
    ⟨(some 24), (some (16, true)), .load none (.t 23)⟩,
    ⟨(some 25), (some (16, true)), .ia 5 (.t 24) (.c (.p (.int .i64 2)))⟩,
    ⟨(some 26), (some (16, true)), .load (some 5) (.t 25)⟩,
    ⟨(some 27), (some (16, true)), .call 139 [(.t 21), (.t 26)]⟩,
    ⟨(some 28), none, .pick (.t 16) (.t 27) (.c (.p (.bool false)))⟩,
    ⟨(some 4), none, .mov (.t 28)⟩] [])
  (.seq (.reg [⟨(some 29), none, .mov (.t 4)⟩,
    ⟨(some 30), none, .mkf 140 [] [(.t 1)]⟩,
    ⟨(some 31), none, .call 126 [(.t 29), (.t 30)]⟩,
    ⟨(some 32), none, .ext (.t 31) 0⟩,
    ⟨(some 33), none, .ext (.t 31) 1⟩,
    ⟨none, none, .store (some 5) (.t 2) (.t 32)⟩,
    ⟨(some 3), none, .mov (.t 33)⟩])
  .ret))), [.l 2 (some 5), .t 3]⟩
def cf139 : CF := ⟨2, 6, 2, false, false, false, false, (.seq (.reg [⟨(some 2), none, .box 0 (some 5) (.t 0)⟩,
    ⟨(some 3), none, .box 1 (some 5) (.t 1)⟩,
    ⟨(some 4), none, .mov (.c (.p (.bool false)))⟩])
  (.seq (.reg [⟨(some 5), none, .fa 0 (.t 2)⟩,
    ⟨(some 6), none, .load none (.t 5)⟩,
    ⟨(some 7), none, .fa 0 (.t 3)⟩,
    ⟨(some 8), none, .load none (.t 7)⟩,
    ⟨(some 9), none, .bin .eql (.t 6) (.t 8)⟩,
    ⟨(some 10), none, .mov (.t 9)⟩,
    ⟨(some 11), (some (10, true)), .fa 1 (.t 2)⟩,
    ⟨(some 12), (some (10, true)), .load none (.t 11)⟩,
    ⟨(some 13), (some (10, true)), .fa 1 (.t 3)⟩,
    ⟨(some 14), (some (10, true)), .load none (.t 13)⟩,
    ⟨(some 15), (some (10, true)), .bin .eql (.t 12) (.t 14)⟩,
    ⟨(some 16), none, .pick (.t 10) (.t 15) (.c (.p (.bool false)))⟩,
    ⟨(some 17), none, .mov (.t 16)⟩,
    ⟨(some 18), (some (17, true)), .fa 2 (.t 2)⟩,
    ⟨(some 19), (some (17, true)), .load none (.t 18)⟩,
    ⟨(some 20), (some (17, true)), .fa 2 (.t 3)⟩,
    ⟨(some 21), (some (17, true)), .load none (.t 20)⟩,
    ⟨(some 22), (some (17, true)), .bin .eql (.t 19) (.t 21)⟩,
    ⟨(some 23), none, .pick (.t 17) (.t 22) (.c (.p (.bool false)))⟩,
    ⟨(some 24), none, .mov (.t 23)⟩,
    ⟨(some 25), (some (24, true)), .fa 3 (.t 2)⟩,
    ⟨(some 26), (some (24, true)), .load none (.t 25)⟩,
    ⟨(some 27), (some (24, true)), .fa 3 (.t 3)⟩,
    ⟨(some 28), (some (24, true)), .load none (.t 27)⟩,
    ⟨(some 29), (some (24, true)), .bin .eql (.t 26) (.t 28)⟩,
    ⟨(some 30), none, .pick (.t 24) (.t 29) (.c (.p (.bool false)))⟩,
    ⟨(some 31), none, .mov (.t 30)⟩,
    ⟨(some 32), (some (31, true)), .fa 4 (.t 2)⟩,
    ⟨(some 33), (some (31, true)), .load none (.t 32)⟩,
    ⟨(some 34), (some (31, true)), .fa 4 (.t 3)⟩,
    ⟨(some 35), (some (31, true)), .load none (.t 34)⟩,
    ⟨(some 36), (some (31, true)), .call 185 [(.t 33), (.t 35), (.c (.p (.func 139 [] [])))]⟩,
    ⟨(some 37), none, .pick (.t 31) (.t 36) (.c (.p (.bool false)))⟩,
    ⟨(some 4), none, .mov (.t 37)⟩])
  .ret)), [.t 4]⟩
def cf185 : CF := ⟨3, 6, 2, false, false, false, false, (.seq (.reg [⟨(some 6), none, .mov (.c (.p (.bool false)))⟩])
  (.seq (.seq (.reg [⟨(some 10), none, .mov (.t 0)⟩,
    ⟨(some 11), none, .len false (.t 10)⟩,
    ⟨(some 12), none, .mov (.t 1)⟩,
    ⟨(some 13), none, .len false (.t 12)⟩,
    ⟨(some 14), none, .bin .neq (.t 11) (.t 13)⟩])
  (.cond (.t 14) (.seq (.reg [⟨(some 6), none, .mov (.c (.p (.bool false)))⟩])
  .ret)
  .skip))
  (.seq (.seq (.reg [⟨(some 15), none, .mov (.t 0)⟩,
    ⟨(some 16), none, .len false (.t 15)⟩,
    ⟨(some 17), none, .mov (.c (.p (.int .i64 0)))⟩])
  (.block 0 (.loop (.seq (.reg [⟨(some 18), none, .bin .lss (.t 17) (.t 16)⟩])
  (.seq (.cond (.t 18) .skip
  (.exit 0))
  (.seq (.block 1 (.seq (.reg [⟨(some 19), none, .mov (.t 17)⟩,
    ⟨(some 20), none, .ia 5 (.t 15) (.t 17)⟩,
    ⟨(some 21), none, .load (some 5) (.t 20)⟩,
    ⟨(some 8), none, .alloc 0 [(.p (.int .u8 0)), (.p (.int .i64 0)), (.p (.int .i64 0)), (.p (.int .i64 0)), (.sl 0 [] .full)]⟩,
    ⟨(some 7), none, .mov (.t 19)⟩,
    ⟨none, none, .store (some 5) (.t 8) (.t 21)⟩])
  (.seq (.reg [⟨(some 22), none, .mov (.t 1)⟩,
    ⟨(some 23), none, .mov (.t 7)⟩,
    ⟨(some 24), none, .ia 5 (.t 22) (.t 23)⟩,
    ⟨(some 25), none, .load (some 5) (.t 24)⟩,
    ⟨(some 9), none, .alloc 1 [(.p (.int .u8 0)), (.p (.int .i64 0)), (.p (.int .i64 0)), (.p (.int .i64 0)), (.sl 0 [] .full)]⟩,
    ⟨none, none, .store (some 5) (.t 9) (.t 25)⟩])
  (.seq (.reg [⟨(some 26), none, .mov (.t 2)⟩,
    ⟨(some 27), none, .load (some 5) (.t 8)⟩,
    ⟨(some 28), none, .load (some 5) (.t 9)⟩,
    ⟨(some 29), none, .callv (.t 26) [(.t 27), (.t 28)]⟩,
    ⟨(some 30), none, .not (.t 29)⟩])
  (.cond (.t 30) (.seq (.reg [⟨(some 6), none, .mov (.c (.p (.bool false)))⟩])
  .ret)
  .skip)))))
  (.reg [⟨(some 31), none, .bin .add (.t 17) (.c (.p (.int .i64 1)))⟩,
    ⟨(some 17), none, .mov (.t 31)⟩])))))))
  (.seq (.reg [⟨(some 6), none, .mov (.c (.p (.bool true)))⟩])
  .ret)))), [.t 6]⟩
end Go.AI.Tryz
