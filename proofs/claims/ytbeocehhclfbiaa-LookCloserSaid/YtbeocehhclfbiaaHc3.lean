/- A part of the proof of: LookCloser: whatever the views, the place, and whose look it is: the law is true, and its arguments stay as they were. No condition but those of the row itself. -/
import Derived.Test.YtbeocehhclfbiaaHc1
set_option linter.unusedSimpArgs false
set_option linter.unusedVariables false
section
namespace Go.Proofs.Ytbeocehhclfbiaa.Lite
open Go
set_option maxRecDepth 100000
/-- gosem.cut.init -/
def cf2 : CFun := { np := 0, nt := 1, res := [], body :=
  (.reg (⟨(some 0), .call (.c (.fn 1 [])) [], none⟩ ::
    [])) }
/-- garland/garlandlaw16.HopTells -/
def cf3 : CFun := { np := 6, nt := 87, res := [.tmp 12], body :=
  (.seq (.reg (⟨(some 6), .box (.t 0), none⟩ ::
    ⟨(some 7), .box (.t 1), none⟩ ::
    ⟨(some 12), .mv (.c (.d (.bool false))), none⟩ ::
    []))
  (.seq (.seq (.reg (⟨(some 17), .ldn 20 (.t 6), none⟩ ::
    ⟨(some 18), .call (.c (.fn 13 [])) [(.t 17)], none⟩ ::
    ⟨(some 19), .mv (.t 18), none⟩ ::
    ⟨(some 20), .off 9 (.t 7), (some (19, false))⟩ ::
    ⟨(some 21), .ld (.t 20), (some (19, false))⟩ ::
    ⟨(some 22), .len false (.t 21), (some (19, false))⟩ ::
    ⟨(some 23), .bin .gtr (.t 22) (.c (.d (.int .i64 20))), (some (19, false))⟩ ::
    ⟨(some 24), .pick (.t 19) (.c (.d (.bool true))) (.t 23), none⟩ ::
    ⟨(some 25), .mv (.t 24), none⟩ ::
    ⟨(some 26), .off 10 (.t 7), (some (25, false))⟩ ::
    ⟨(some 27), .off 0 (.t 26), (some (25, false))⟩ ::
    ⟨(some 28), .ld (.t 27), (some (25, false))⟩ ::
    ⟨(some 29), .len true (.t 28), (some (25, false))⟩ ::
    ⟨(some 30), .bin .gtr (.t 29) (.c (.d (.int .i64 100))), (some (25, false))⟩ ::
    ⟨(some 31), .pick (.t 25) (.c (.d (.bool true))) (.t 30), none⟩ ::
    []))
  (.cond (.t 31) (.seq (.reg (⟨(some 32), .call (.c (.fn 14 [])) [], none⟩ ::
    ⟨(some 12), .mv (.t 32), none⟩ ::
    []))
  .ret) .skip))
  (.seq (.reg (⟨(some 34), .ldn 20 (.t 6), none⟩ ::
    ⟨(some 35), .mv (.t 2), none⟩ ::
    ⟨(some 36), .mv (.t 3), none⟩ ::
    ⟨(some 37), .call (.c (.fn 15 [])) [(.t 34), (.t 35), (.t 36)], none⟩ ::
    ⟨(some 33), .mv (.t 37), none⟩ ::
    ⟨(some 38), .ext (.t 33) 0, none⟩ ::
    ⟨(some 39), .ext (.t 33) 1, none⟩ ::
    ⟨(some 13), .mv (.t 38), none⟩ ::
    ⟨(some 14), .mv (.t 39), none⟩ ::
    []))
  (.seq (.reg (⟨(some 41), .ldn 20 (.t 6), none⟩ ::
    ⟨(some 42), .mv (.t 2), none⟩ ::
    ⟨(some 43), .mv (.t 3), none⟩ ::
    ⟨(some 44), .call (.c (.fn 16 [])) [(.t 41), (.t 42), (.t 43)], none⟩ ::
    ⟨(some 40), .mv (.t 44), none⟩ ::
    ⟨(some 45), .ext (.t 40) 0, none⟩ ::
    ⟨(some 46), .ext (.t 40) 1, none⟩ ::
    ⟨(some 15), .mv (.t 45), none⟩ ::
    ⟨(some 16), .mv (.t 46), none⟩ ::
    []))
  (.seq (.dreg (⟨(some 47), .mv (.t 13), none⟩ ::
    ⟨(some 48), .mv (.t 15), none⟩ ::
    ⟨(some 49), .bin .eql (.t 47) (.t 48), none⟩ ::
    ⟨(some 50), .mv (.t 49), none⟩ ::
    ⟨(some 51), .mv (.t 14), (some (50, true))⟩ ::
    ⟨(some 52), .mv (.t 16), (some (50, true))⟩ ::
    ⟨(some 53), .eqb false (.t 51) (.t 52), (some (50, true))⟩ ::
    ⟨(some 54), .pick (.t 50) (.t 53) (.c (.d (.bool false))), none⟩ ::
    ⟨(some 55), .mv (.t 54), none⟩ ::
    ⟨(some 56), .ldn 20 (.t 6), (some (55, true))⟩ ::
    ⟨(some 57), .mv (.t 2), (some (55, true))⟩ ::
    ⟨(some 58), .call (.c (.fn 17 [])) [(.t 56), (.t 57)], (some (55, true))⟩ ::
    ⟨(some 59), .ldn 20 (.t 6), (some (55, true))⟩ ::
    ⟨(some 60), .mv (.t 2), (some (55, true))⟩ ::
    ⟨(some 61), .call (.c (.fn 18 [])) [(.t 59), (.t 60)], (some (55, true))⟩ ::
    ⟨(some 62), .bin .eql (.t 58) (.t 61), (some (55, true))⟩ ::
    ⟨(some 63), .pick (.t 55) (.t 62) (.c (.d (.bool false))), none⟩ ::
    ⟨(some 64), .mv (.t 63), none⟩ ::
    ⟨(some 65), .ldn 20 (.t 6), (some (64, true))⟩ ::
    ⟨(some 66), .ldn 15 (.t 7), (some (64, true))⟩ ::
    ⟨(some 67), .call (.c (.fn 20 [])) [(.t 65), (.t 66)], (some (64, true))⟩ ::
    ⟨(some 68), .ldn 20 (.t 6), (some (64, true))⟩ ::
    ⟨(some 69), .ldn 15 (.t 7), (some (64, true))⟩ ::
    ⟨(some 70), .call (.c (.fn 21 [])) [(.t 68), (.t 69)], (some (64, true))⟩ ::
    ⟨(some 71), .call (.c (.fn 19 [])) [(.t 67), (.t 70)], (some (64, true))⟩ ::
    ⟨(some 72), .pick (.t 64) (.t 71) (.c (.d (.bool false))), none⟩ ::
    ⟨(some 73), .mv (.t 72), none⟩ ::
    ⟨(some 74), .mv (.t 2), (some (73, true))⟩ ::
    ⟨(some 75), .mv (.t 4), (some (73, true))⟩ ::
    ⟨(some 76), .mv (.t 5), (some (73, true))⟩ ::
    ⟨(some 77), .call (.c (.fn 22 [])) [(.t 74), (.t 75), (.t 76)], (some (73, true))⟩ ::
    ⟨(some 78), .mv (.t 2), (some (73, true))⟩ ::
    ⟨(some 79), .mv (.t 4), (some (73, true))⟩ ::
    ⟨(some 80), .mv (.t 5), (some (73, true))⟩ ::
    ⟨(some 81), .call (.c (.fn 23 [])) [(.t 78), (.t 79), (.t 80)], (some (73, true))⟩ ::
    ⟨(some 82), .eqb false (.t 77) (.t 81), (some (73, true))⟩ ::
    ⟨(some 83), .pick (.t 73) (.t 82) (.c (.d (.bool false))), none⟩ ::
    ⟨(some 84), .mv (.t 83), none⟩ ::
    ⟨(some 85), .call (.c (.fn 14 [])) [], (some (84, true))⟩ ::
    ⟨(some 86), .pick (.t 84) (.t 85) (.c (.d (.bool false))), none⟩ ::
    []) (⟨(some 12), .mv (.t 86), none⟩ ::
    []))
  .ret))))) }
/-- garland/garlandlaw16.HopCloser -/
def cf4 : CFun := { np := 3, nt := 102, res := [.tmp 6], body :=
  (.seq (.reg (⟨(some 3), .box (.t 0), none⟩ ::
    ⟨(some 6), .mv (.c (.d (.bool false))), none⟩ ::
    []))
  (.seq (.seq (.reg (⟨(some 13), .ldn 20 (.t 3), none⟩ ::
    ⟨(some 14), .call (.c (.fn 24 [])) [(.t 13)], none⟩ ::
    ⟨(some 15), .not (.t 14), none⟩ ::
    []))
  (.cond (.t 15) (.seq (.reg (⟨(some 16), .call (.c (.fn 14 [])) [], none⟩ ::
    ⟨(some 6), .mv (.t 16), none⟩ ::
    []))
  .ret) .skip))
  (.seq (.reg (⟨(some 18), .ldn 20 (.t 3), none⟩ ::
    ⟨(some 19), .mv (.t 1), none⟩ ::
    ⟨(some 20), .mv (.t 2), none⟩ ::
    ⟨(some 21), .call (.c (.fn 15 [])) [(.t 18), (.t 19), (.t 20)], none⟩ ::
    ⟨(some 17), .mv (.t 21), none⟩ ::
    ⟨(some 22), .ext (.t 17) 0, none⟩ ::
    ⟨(some 23), .ext (.t 17) 1, none⟩ ::
    ⟨(some 7), .mv (.t 22), none⟩ ::
    ⟨(some 8), .mv (.t 23), none⟩ ::
    []))
  (.seq (.seq (.reg (⟨(some 24), .mv (.t 7), none⟩ ::
    ⟨(some 25), .bin .lss (.t 24) (.c (.d (.int .i64 0))), none⟩ ::
    ⟨(some 26), .mv (.t 25), none⟩ ::
    ⟨(some 27), .mv (.t 7), (some (26, false))⟩ ::
    ⟨(some 28), .bin .geq (.t 27) (.c (.d (.int .i64 65536))), (some (26, false))⟩ ::
    ⟨(some 29), .pick (.t 26) (.c (.d (.bool true))) (.t 28), none⟩ ::
    ⟨(some 30), .mv (.t 29), none⟩ ::
    ⟨(some 31), .mv (.t 7), (some (30, false))⟩ ::
    ⟨(some 32), .off 0 (.t 3), (some (30, false))⟩ ::
    ⟨(some 33), .ld (.t 32), (some (30, false))⟩ ::
    ⟨(some 34), .bin .eql (.t 31) (.t 33), (some (30, false))⟩ ::
    ⟨(some 35), .pick (.t 30) (.c (.d (.bool true))) (.t 34), none⟩ ::
    []))
  (.cond (.t 35) (.seq (.reg (⟨(some 6), .mv (.c (.d (.bool false))), none⟩ ::
    []))
  .ret) .skip))
  (.seq (.reg (⟨(some 36), .ldn 20 (.t 3), none⟩ ::
    ⟨(some 37), .call (.c (.fn 25 [])) [(.t 36)], none⟩ ::
    ⟨(some 9), .mv (.t 37), none⟩ ::
    []))
  (.seq (.seq (.reg (⟨(some 38), .mv (.t 8), none⟩ ::
    []))
  (.cond (.t 38) (.seq (.reg (⟨(some 39), .off 0 (.t 3), none⟩ ::
    ⟨(some 40), .ld (.t 39), none⟩ ::
    ⟨(some 41), .mv (.t 1), none⟩ ::
    ⟨(some 42), .call (.c (.fn 26 [])) [(.t 40), (.t 41)], none⟩ ::
    ⟨(some 10), .mv (.t 42), none⟩ ::
    []))
  (.seq (.reg (⟨(some 43), .mv (.t 7), none⟩ ::
    ⟨(some 44), .mv (.t 9), none⟩ ::
    ⟨(some 45), .bin .eql (.t 43) (.t 44), none⟩ ::
    ⟨(some 46), .mv (.t 45), none⟩ ::
    ⟨(some 47), .mv (.t 10), (some (46, true))⟩ ::
    ⟨(some 48), .bin .gtr (.t 47) (.c (.d (.int .i64 0))), (some (46, true))⟩ ::
    ⟨(some 49), .pick (.t 46) (.t 48) (.c (.d (.bool false))), none⟩ ::
    ⟨(some 50), .mv (.t 49), none⟩ ::
    ⟨(some 51), .mv (.t 10), (some (50, true))⟩ ::
    ⟨(some 52), .off 0 (.t 3), (some (50, true))⟩ ::
    ⟨(some 53), .ld (.t 52), (some (50, true))⟩ ::
    ⟨(some 54), .mv (.t 7), (some (50, true))⟩ ::
    ⟨(some 55), .call (.c (.fn 26 [])) [(.t 53), (.t 54)], (some (50, true))⟩ ::
    ⟨(some 56), .bin .leq (.t 51) (.t 55), (some (50, true))⟩ ::
    ⟨(some 57), .pick (.t 50) (.t 56) (.c (.d (.bool false))), none⟩ ::
    ⟨(some 58), .mv (.t 57), none⟩ ::
    ⟨(some 59), .call (.c (.fn 14 [])) [], (some (58, true))⟩ ::
    ⟨(some 60), .pick (.t 58) (.t 59) (.c (.d (.bool false))), none⟩ ::
    ⟨(some 6), .mv (.t 60), none⟩ ::
    []))
  .ret)) .skip))
  (.seq (.dreg (⟨(some 61), .off 0 (.t 3), none⟩ ::
    ⟨(some 62), .ld (.t 61), none⟩ ::
    ⟨(some 63), .mv (.t 7), none⟩ ::
    ⟨(some 64), .call (.c (.fn 26 [])) [(.t 62), (.t 63)], none⟩ ::
    ⟨(some 65), .ldn 20 (.t 3), none⟩ ::
    ⟨(some 66), .mv (.t 1), none⟩ ::
    ⟨(some 67), .call (.c (.fn 17 [])) [(.t 65), (.t 66)], none⟩ ::
    []) (⟨(some 11), .mv (.t 64), none⟩ ::
    ⟨(some 12), .mv (.t 67), none⟩ ::
    []))
  (.seq (.reg (⟨(some 68), .mv (.t 11), none⟩ ::
    ⟨(some 69), .bin .gtr (.t 68) (.c (.d (.int .i64 0))), none⟩ ::
    ⟨(some 70), .mv (.t 69), none⟩ ::
    ⟨(some 71), .mv (.t 11), (some (70, true))⟩ ::
    ⟨(some 72), .mv (.t 12), (some (70, true))⟩ ::
    ⟨(some 73), .bin .lss (.t 71) (.t 72), (some (70, true))⟩ ::
    ⟨(some 74), .pick (.t 70) (.t 73) (.c (.d (.bool false))), none⟩ ::
    ⟨(some 75), .mv (.t 74), none⟩ ::
    ⟨(some 76), .mv (.t 1), (some (75, true))⟩ ::
    ⟨(some 77), .off 0 (.t 3), (some (75, true))⟩ ::
    ⟨(some 78), .ld (.t 77), (some (75, true))⟩ ::
    ⟨(some 79), .mv (.t 7), (some (75, true))⟩ ::
    ⟨(some 80), .call (.c (.fn 22 [])) [(.t 76), (.t 78), (.t 79)], (some (75, true))⟩ ::
    ⟨(some 81), .pick (.t 75) (.t 80) (.c (.d (.bool false))), none⟩ ::
    ⟨(some 82), .mv (.t 81), none⟩ ::
    ⟨(some 83), .mv (.t 2), (some (82, true))⟩ ::
    ⟨(some 84), .not (.t 83), (some (82, true))⟩ ::
    ⟨(some 85), .mv (.t 84), (some (82, true))⟩ ::
    ⟨(some 86), .mv (.t 7), (some (85, false))⟩ ::
    ⟨(some 87), .mv (.t 9), (some (85, false))⟩ ::
    ⟨(some 88), .bin .eql (.t 86) (.t 87), (some (85, false))⟩ ::
    ⟨(some 89), .pick (.t 85) (.c (.d (.bool true))) (.t 88), (some (82, true))⟩ ::
    ⟨(some 90), .pick (.t 82) (.t 89) (.c (.d (.bool false))), none⟩ ::
    ⟨(some 91), .mv (.t 90), none⟩ ::
    ⟨(some 92), .mv (.t 11), (some (91, true))⟩ ::
    ⟨(some 93), .off 0 (.t 3), (some (91, true))⟩ ::
    ⟨(some 94), .ld (.t 93), (some (91, true))⟩ ::
    ⟨(some 95), .mv (.t 9), (some (91, true))⟩ ::
    ⟨(some 96), .call (.c (.fn 26 [])) [(.t 94), (.t 95)], (some (91, true))⟩ ::
    ⟨(some 97), .bin .geq (.t 92) (.t 96), (some (91, true))⟩ ::
    ⟨(some 98), .pick (.t 91) (.t 97) (.c (.d (.bool false))), none⟩ ::
    ⟨(some 99), .mv (.t 98), none⟩ ::
    ⟨(some 100), .call (.c (.fn 14 [])) [], (some (99, true))⟩ ::
    ⟨(some 101), .pick (.t 99) (.t 100) (.c (.d (.bool false))), none⟩ ::
    ⟨(some 6), .mv (.t 101), none⟩ ::
    []))
  .ret)))))))) }
/-- garland/garlandlaw16.HopEnds -/
def cf5 : CFun := { np := 4, nt := 110, res := [.tmp 8], body :=
  (.seq (.reg (⟨(some 8), .mv (.c (.d (.bool false))), none⟩ ::
    []))
  (.seq (.seq (.reg (⟨(some 16), .mv (.t 0), none⟩ ::
    ⟨(some 17), .len false (.t 16), none⟩ ::
    ⟨(some 18), .bin .gtr (.t 17) (.c (.d (.int .i64 8))), none⟩ ::
    ⟨(some 19), .mv (.t 18), none⟩ ::
    ⟨(some 20), .mv (.t 0), (some (19, false))⟩ ::
    ⟨(some 21), .len false (.t 20), (some (19, false))⟩ ::
    ⟨(some 22), .bin .eql (.t 21) (.c (.d (.int .i64 0))), (some (19, false))⟩ ::
    ⟨(some 23), .pick (.t 19) (.c (.d (.bool true))) (.t 22), none⟩ ::
    []))
  (.cond (.t 23) (.seq (.reg (⟨(some 24), .call (.c (.fn 14 [])) [], none⟩ ::
    ⟨(some 8), .mv (.t 24), none⟩ ::
    []))
  .ret) .skip))
  (.seq (.seq (.reg (⟨(some 9), .mv (.c (.d (.int .i64 0))), none⟩ ::
    []))
  (.block 0 (.loop [0, 1, 2, 3, 9] (.seq (.seq (.reg (⟨(some 25), .mv (.t 9), none⟩ ::
    ⟨(some 26), .mv (.t 0), none⟩ ::
    ⟨(some 27), .len false (.t 26), none⟩ ::
    ⟨(some 28), .bin .lss (.t 25) (.t 27), none⟩ ::
    []))
  (.cond (.t 28) .skip (.exit 0)))
  (.seq (.block 1 (.seq (.seq (.reg (⟨(some 31), .mv (.t 0), none⟩ ::
    ⟨(some 32), .mv (.t 9), none⟩ ::
    ⟨(some 33), .ixs 20 (.t 31) (.t 32), none⟩ ::
    ⟨(some 34), .ldn 20 (.t 33), none⟩ ::
    ⟨(some 35), .call (.c (.fn 24 [])) [(.t 34)], none⟩ ::
    ⟨(some 36), .not (.t 35), none⟩ ::
    []))
  (.cond (.t 36) (.seq (.reg (⟨(some 37), .call (.c (.fn 14 [])) [], none⟩ ::
    ⟨(some 8), .mv (.t 37), none⟩ ::
    []))
  .ret) .skip))
  (.seq (.reg (⟨(some 10), .mv (.c (.d (.int .i64 0))), none⟩ ::
    []))
  (.block 2 (.loop [0, 1, 2, 3, 9, 10] (.seq (.seq (.reg (⟨(some 38), .mv (.t 10), none⟩ ::
    ⟨(some 39), .mv (.t 9), none⟩ ::
    ⟨(some 40), .bin .lss (.t 38) (.t 39), none⟩ ::
    []))
  (.cond (.t 40) .skip (.exit 2)))
  (.seq (.block 3 (.seq (.dreg (⟨(some 43), .mv (.t 0), none⟩ ::
    ⟨(some 44), .mv (.t 10), none⟩ ::
    ⟨(some 45), .ixs 20 (.t 43) (.t 44), none⟩ ::
    ⟨(some 46), .off 0 (.t 45), none⟩ ::
    ⟨(some 47), .ld (.t 46), none⟩ ::
    ⟨(some 48), .mv (.t 0), none⟩ ::
    ⟨(some 49), .mv (.t 9), none⟩ ::
    ⟨(some 50), .ixs 20 (.t 48) (.t 49), none⟩ ::
    ⟨(some 51), .off 0 (.t 50), none⟩ ::
    ⟨(some 52), .ld (.t 51), none⟩ ::
    ⟨(some 53), .bin .eql (.t 47) (.t 52), none⟩ ::
    []) ([]))
  (.cond (.t 53) (.seq (.reg (⟨(some 54), .call (.c (.fn 14 [])) [], none⟩ ::
    ⟨(some 8), .mv (.t 54), none⟩ ::
    []))
  .ret) .skip)))
  (.reg (⟨(some 41), .mv (.t 10), none⟩ ::
    ⟨(some 42), .bin .add (.t 41) (.c (.d (.int .i64 1))), none⟩ ::
    ⟨(some 10), .mv (.t 42), none⟩ ::
    [])))))))))
  (.reg (⟨(some 29), .mv (.t 9), none⟩ ::
    ⟨(some 30), .bin .add (.t 29) (.c (.d (.int .i64 1))), none⟩ ::
    ⟨(some 9), .mv (.t 30), none⟩ ::
    [])))))))
  (.seq (.reg (⟨(some 55), .mv (.t 2), none⟩ ::
    ⟨(some 56), .mv (.t 0), none⟩ ::
    ⟨(some 57), .len false (.t 56), none⟩ ::
    ⟨(some 58), .bin .rem (.t 55) (.t 57), none⟩ ::
    ⟨(some 59), .mv (.t 0), none⟩ ::
    ⟨(some 60), .len false (.t 59), none⟩ ::
    ⟨(some 61), .bin .add (.t 58) (.t 60), none⟩ ::
    ⟨(some 62), .mv (.t 0), none⟩ ::
    ⟨(some 63), .len false (.t 62), none⟩ ::
    ⟨(some 64), .bin .rem (.t 61) (.t 63), none⟩ ::
    ⟨(some 2), .mv (.t 64), none⟩ ::
    []))
  (.seq (.seq (.reg (⟨(some 11), .mv (.c (.d (.int .i64 0))), none⟩ ::
    []))
  (.block 4 (.loop [0, 1, 2, 3, 11] (.seq (.seq (.reg (⟨(some 65), .mv (.t 11), none⟩ ::
    ⟨(some 66), .mv (.t 0), none⟩ ::
    ⟨(some 67), .len false (.t 66), none⟩ ::
    ⟨(some 68), .bin .lss (.t 65) (.t 67), none⟩ ::
    []))
  (.cond (.t 68) .skip (.exit 4)))
  (.seq (.block 5 (.seq (.reg (⟨(some 72), .mv (.t 0), none⟩ ::
    ⟨(some 73), .mv (.t 2), none⟩ ::
    ⟨(some 74), .ixs 20 (.t 72) (.t 73), none⟩ ::
    ⟨(some 75), .ldn 20 (.t 74), none⟩ ::
    ⟨(some 76), .mv (.t 1), none⟩ ::
    ⟨(some 77), .mv (.t 3), none⟩ ::
    ⟨(some 78), .call (.c (.fn 15 [])) [(.t 75), (.t 76), (.t 77)], none⟩ ::
    ⟨(some 71), .mv (.t 78), none⟩ ::
    ⟨(some 79), .ext (.t 71) 0, none⟩ ::
    ⟨(some 80), .ext (.t 71) 1, none⟩ ::
    ⟨(some 12), .mv (.t 79), none⟩ ::
    ⟨(some 13), .mv (.t 80), none⟩ ::
    []))
  (.seq (.seq (.reg (⟨(some 81), .mv (.t 13), none⟩ ::
    []))
  (.cond (.t 81) (.seq (.reg (⟨(some 82), .call (.c (.fn 14 [])) [], none⟩ ::
    ⟨(some 8), .mv (.t 82), none⟩ ::
    []))
  .ret) .skip))
  (.seq (.seq (.reg (⟨(some 83), .mv (.t 1), none⟩ ::
    ⟨(some 84), .mv (.t 0), none⟩ ::
    ⟨(some 85), .mv (.t 2), none⟩ ::
    ⟨(some 86), .ixs 20 (.t 84) (.t 85), none⟩ ::
    ⟨(some 87), .off 0 (.t 86), none⟩ ::
    ⟨(some 88), .ld (.t 87), none⟩ ::
    ⟨(some 89), .mv (.t 12), none⟩ ::
    ⟨(some 90), .call (.c (.fn 22 [])) [(.t 83), (.t 88), (.t 89)], none⟩ ::
    ⟨(some 91), .not (.t 90), none⟩ ::
    []))
  (.cond (.t 91) (.seq (.reg (⟨(some 8), .mv (.c (.d (.bool false))), none⟩ ::
    []))
  .ret) .skip))
  (.seq (.reg (⟨(some 14), .mv (.c (.d (.int .i64 (-1)))), none⟩ ::
    []))
  (.seq (.seq (.reg (⟨(some 15), .mv (.c (.d (.int .i64 0))), none⟩ ::
    []))
  (.block 6 (.loop [0, 1, 3, 11, 12, 14, 15] (.seq (.seq (.reg (⟨(some 92), .mv (.t 15), none⟩ ::
    ⟨(some 93), .mv (.t 0), none⟩ ::
    ⟨(some 94), .len false (.t 93), none⟩ ::
    ⟨(some 95), .bin .lss (.t 92) (.t 94), none⟩ ::
    []))
  (.cond (.t 95) .skip (.exit 6)))
  (.seq (.block 7 (.seq (.reg (⟨(some 98), .mv (.t 0), none⟩ ::
    ⟨(some 99), .mv (.t 15), none⟩ ::
    ⟨(some 100), .ixs 20 (.t 98) (.t 99), none⟩ ::
    ⟨(some 101), .off 0 (.t 100), none⟩ ::
    ⟨(some 102), .ld (.t 101), none⟩ ::
    ⟨(some 103), .mv (.t 12), none⟩ ::
    ⟨(some 104), .bin .eql (.t 102) (.t 103), none⟩ ::
    []))
  (.cond (.t 104) (.reg (⟨(some 105), .mv (.t 15), none⟩ ::
    ⟨(some 14), .mv (.t 105), none⟩ ::
    [])) .skip)))
  (.reg (⟨(some 96), .mv (.t 15), none⟩ ::
    ⟨(some 97), .bin .add (.t 96) (.c (.d (.int .i64 1))), none⟩ ::
    ⟨(some 15), .mv (.t 97), none⟩ ::
    [])))))))
  (.seq (.seq (.reg (⟨(some 106), .mv (.t 14), none⟩ ::
    ⟨(some 107), .bin .lss (.t 106) (.c (.d (.int .i64 0))), none⟩ ::
    []))
  (.cond (.t 107) (.seq (.reg (⟨(some 108), .call (.c (.fn 14 [])) [], none⟩ ::
    ⟨(some 8), .mv (.t 108), none⟩ ::
    []))
  .ret) .skip))
  (.reg (⟨(some 109), .mv (.t 14), none⟩ ::
    ⟨(some 2), .mv (.t 109), none⟩ ::
    [])))))))))
  (.reg (⟨(some 69), .mv (.t 11), none⟩ ::
    ⟨(some 70), .bin .add (.t 69) (.c (.d (.int .i64 1))), none⟩ ::
    ⟨(some 11), .mv (.t 70), none⟩ ::
    [])))))))
  (.seq (.reg (⟨(some 8), .mv (.c (.d (.bool false))), none⟩ ::
    []))
  .ret)))))) }
/-- garland/garlandlaw16.HopKnows -/
def cf6 : CFun := { np := 2, nt := 93, res := [.tmp 4], body :=
  (.seq (.reg (⟨(some 2), .box (.t 0), none⟩ ::
    ⟨(some 4), .mv (.c (.d (.bool false))), none⟩ ::
    []))
  (.seq (.seq (.reg (⟨(some 12), .ldn 20 (.t 2), none⟩ ::
    ⟨(some 13), .call (.c (.fn 24 [])) [(.t 12)], none⟩ ::
    ⟨(some 14), .not (.t 13), none⟩ ::
    []))
  (.cond (.t 14) (.seq (.reg (⟨(some 15), .call (.c (.fn 14 [])) [], none⟩ ::
    ⟨(some 4), .mv (.t 15), none⟩ ::
    []))
  .ret) .skip))
  (.seq (.reg (⟨(some 17), .ldn 20 (.t 2), none⟩ ::
    ⟨(some 18), .mv (.t 1), none⟩ ::
    ⟨(some 19), .call (.c (.fn 15 [])) [(.t 17), (.t 18), (.c (.d (.bool false)))], none⟩ ::
    ⟨(some 16), .mv (.t 19), none⟩ ::
    ⟨(some 20), .ext (.t 16) 0, none⟩ ::
    ⟨(some 21), .ext (.t 16) 1, none⟩ ::
    ⟨(some 5), .mv (.t 20), none⟩ ::
    ⟨(some 6), .mv (.t 21), none⟩ ::
    []))
  (.seq (.reg (⟨(some 23), .ldn 20 (.t 2), none⟩ ::
    ⟨(some 24), .mv (.t 1), none⟩ ::
    ⟨(some 25), .call (.c (.fn 15 [])) [(.t 23), (.t 24), (.c (.d (.bool true)))], none⟩ ::
    ⟨(some 22), .mv (.t 25), none⟩ ::
    ⟨(some 26), .ext (.t 22) 0, none⟩ ::
    ⟨(some 27), .ext (.t 22) 1, none⟩ ::
    ⟨(some 7), .mv (.t 26), none⟩ ::
    ⟨(some 8), .mv (.t 27), none⟩ ::
    []))
  (.seq (.seq (.reg (⟨(some 28), .mv (.t 6), none⟩ ::
    ⟨(some 29), .mv (.t 8), none⟩ ::
    ⟨(some 30), .eqb true (.t 28) (.t 29), none⟩ ::
    ⟨(some 31), .mv (.t 30), none⟩ ::
    ⟨(some 32), .mv (.t 6), (some (31, false))⟩ ::
    ⟨(some 33), .mv (.t 32), (some (31, false))⟩ ::
    ⟨(some 34), .mv (.t 5), (some (33, true))⟩ ::
    ⟨(some 35), .mv (.t 7), (some (33, true))⟩ ::
    ⟨(some 36), .bin .neq (.t 34) (.t 35), (some (33, true))⟩ ::
    ⟨(some 37), .pick (.t 33) (.t 36) (.c (.d (.bool false))), (some (31, false))⟩ ::
    ⟨(some 38), .pick (.t 31) (.c (.d (.bool true))) (.t 37), none⟩ ::
    ⟨(some 39), .mv (.t 38), none⟩ ::
    ⟨(some 40), .mv (.t 7), (some (39, false))⟩ ::
    ⟨(some 41), .ldn 20 (.t 2), (some (39, false))⟩ ::
    ⟨(some 42), .call (.c (.fn 25 [])) [(.t 41)], (some (39, false))⟩ ::
    ⟨(some 43), .bin .neq (.t 40) (.t 42), (some (39, false))⟩ ::
    ⟨(some 44), .pick (.t 39) (.c (.d (.bool true))) (.t 43), none⟩ ::
    []))
  (.cond (.t 44) (.seq (.reg (⟨(some 4), .mv (.c (.d (.bool false))), none⟩ ::
    []))
  .ret) .skip))
  (.seq (.dreg (⟨(some 45), .bls [] 0 1 [], none⟩ ::
    ⟨(some 46), .off 2 (.t 2), none⟩ ::
    ⟨(some 47), .ld (.t 46), none⟩ ::
    ⟨(some 48), .app 1 (.t 45) (.t 47), none⟩ ::
    ⟨(some 49), .off 4 (.t 2), none⟩ ::
    ⟨(some 50), .sla 16 1 (.t 49) none none, none⟩ ::
    ⟨(some 51), .app 1 (.t 48) (.t 50), none⟩ ::
    []) (⟨(some 9), .mv (.t 51), none⟩ ::
    []))
  (.seq (.seq (.reg (⟨(some 10), .mv (.c (.d (.int .i64 0))), none⟩ ::
    []))
  (.block 0 (.loop [1, 2, 5, 6, 9, 10] (.seq (.seq (.reg (⟨(some 52), .mv (.t 10), none⟩ ::
    ⟨(some 53), .mv (.t 9), none⟩ ::
    ⟨(some 54), .len false (.t 53), none⟩ ::
    ⟨(some 55), .bin .lss (.t 52) (.t 54), none⟩ ::
    ⟨(some 56), .mv (.t 55), none⟩ ::
    ⟨(some 57), .mv (.t 6), (some (56, true))⟩ ::
    ⟨(some 58), .not (.t 57), (some (56, true))⟩ ::
    ⟨(some 59), .pick (.t 56) (.t 58) (.c (.d (.bool false))), none⟩ ::
    []))
  (.cond (.t 59) .skip (.exit 0)))
  (.seq (.block 1 (.seq (.reg (⟨(some 62), .mv (.t 9), none⟩ ::
    ⟨(some 63), .mv (.t 10), none⟩ ::
    ⟨(some 64), .ixs 1 (.t 62) (.t 63), none⟩ ::
    ⟨(some 65), .ld (.t 64), none⟩ ::
    ⟨(some 11), .mv (.t 65), none⟩ ::
    []))
  (.seq (.reg (⟨(some 66), .mv (.t 11), none⟩ ::
    ⟨(some 67), .bin .geq (.t 66) (.c (.d (.int .i64 0))), none⟩ ::
    ⟨(some 68), .mv (.t 67), none⟩ ::
    ⟨(some 69), .mv (.t 11), (some (68, true))⟩ ::
    ⟨(some 70), .mv (.t 5), (some (68, true))⟩ ::
    ⟨(some 71), .bin .neq (.t 69) (.t 70), (some (68, true))⟩ ::
    ⟨(some 72), .pick (.t 68) (.t 71) (.c (.d (.bool false))), none⟩ ::
    ⟨(some 73), .mv (.t 72), none⟩ ::
    ⟨(some 74), .mv (.t 1), (some (73, true))⟩ ::
    ⟨(some 75), .off 0 (.t 2), (some (73, true))⟩ ::
    ⟨(some 76), .ld (.t 75), (some (73, true))⟩ ::
    ⟨(some 77), .mv (.t 11), (some (73, true))⟩ ::
    ⟨(some 78), .call (.c (.fn 22 [])) [(.t 74), (.t 76), (.t 77)], (some (73, true))⟩ ::
    ⟨(some 79), .pick (.t 73) (.t 78) (.c (.d (.bool false))), none⟩ ::
    ⟨(some 80), .mv (.t 79), none⟩ ::
    ⟨(some 81), .mv (.t 1), (some (80, true))⟩ ::
    ⟨(some 82), .mv (.t 5), (some (80, true))⟩ ::
    ⟨(some 83), .mv (.t 11), (some (80, true))⟩ ::
    ⟨(some 84), .call (.c (.fn 22 [])) [(.t 81), (.t 82), (.t 83)], (some (80, true))⟩ ::
    ⟨(some 85), .pick (.t 80) (.t 84) (.c (.d (.bool false))), none⟩ ::
    ⟨(some 86), .mv (.t 85), none⟩ ::
    ⟨(some 87), .mv (.t 1), (some (86, true))⟩ ::
    ⟨(some 88), .call (.c (.fn 27 [])) [(.t 87)], (some (86, true))⟩ ::
    ⟨(some 89), .mv (.t 11), (some (86, true))⟩ ::
    ⟨(some 90), .bin .neq (.t 88) (.t 89), (some (86, true))⟩ ::
    ⟨(some 91), .pick (.t 86) (.t 90) (.c (.d (.bool false))), none⟩ ::
    []))
  (.cond (.t 91) (.seq (.reg (⟨(some 4), .mv (.c (.d (.bool false))), none⟩ ::
    []))
  .ret) .skip))))
  (.reg (⟨(some 60), .mv (.t 10), none⟩ ::
    ⟨(some 61), .bin .add (.t 60) (.c (.d (.int .i64 1))), none⟩ ::
    ⟨(some 10), .mv (.t 61), none⟩ ::
    [])))))))
  (.seq (.reg (⟨(some 92), .call (.c (.fn 14 [])) [], none⟩ ::
    ⟨(some 4), .mv (.t 92), none⟩ ::
    []))
  .ret)))))))) }
/-- garland/garlandlaw16.HopAnswers -/
def cf7 : CFun := { np := 2, nt := 101, res := [.tmp 4], body :=
  (.seq (.reg (⟨(some 2), .box (.t 0), none⟩ ::
    ⟨(some 3), .box (.t 1), none⟩ ::
    ⟨(some 4), .mv (.c (.d (.bool false))), none⟩ ::
    []))
  (.seq (.seq (.reg (⟨(some 8), .ldn 20 (.t 2), none⟩ ::
    ⟨(some 9), .call (.c (.fn 24 [])) [(.t 8)], none⟩ ::
    ⟨(some 10), .not (.t 9), none⟩ ::
    ⟨(some 11), .mv (.t 10), none⟩ ::
    ⟨(some 12), .off 9 (.t 3), (some (11, false))⟩ ::
    ⟨(some 13), .ld (.t 12), (some (11, false))⟩ ::
    ⟨(some 14), .len false (.t 13), (some (11, false))⟩ ::
    ⟨(some 15), .bin .gtr (.t 14) (.c (.d (.int .i64 20))), (some (11, false))⟩ ::
    ⟨(some 16), .pick (.t 11) (.c (.d (.bool true))) (.t 15), none⟩ ::
    ⟨(some 17), .mv (.t 16), none⟩ ::
    ⟨(some 18), .off 10 (.t 3), (some (17, false))⟩ ::
    ⟨(some 19), .off 0 (.t 18), (some (17, false))⟩ ::
    ⟨(some 20), .ld (.t 19), (some (17, false))⟩ ::
    ⟨(some 21), .len true (.t 20), (some (17, false))⟩ ::
    ⟨(some 22), .bin .gtr (.t 21) (.c (.d (.int .i64 100))), (some (17, false))⟩ ::
    ⟨(some 23), .pick (.t 17) (.c (.d (.bool true))) (.t 22), none⟩ ::
    []))
  (.cond (.t 23) (.seq (.reg (⟨(some 24), .call (.c (.fn 14 [])) [], none⟩ ::
    ⟨(some 4), .mv (.t 24), none⟩ ::
    []))
  .ret) .skip))
  (.seq (.reg (⟨(some 25), .ldn 20 (.t 2), none⟩ ::
    ⟨(some 26), .ldn 15 (.t 3), none⟩ ::
    ⟨(some 27), .call (.c (.fn 20 [])) [(.t 25), (.t 26)], none⟩ ::
    ⟨(some 5), .new [.d (.int .u8 0), .d (.int .i64 0), .d (.int .i64 0), .d (.int .i64 0), .d (.int .i64 0), .d (.bool false), .d (.bool false), .d (.int .i64 0), .d (.int .i64 0), .nils, .d (.str []), .d (.int .i64 0), .d (.int .i64 0), .d (.bool false), .d (.int .i64 0)], none⟩ ::
    ⟨none, .st 15 (.t 5) (.t 27), none⟩ ::
    []))
  (.seq (.seq (.reg (⟨(some 28), .ldn 15 (.t 3), none⟩ ::
    ⟨(some 29), .call (.c (.fn 28 [])) [(.t 28)], none⟩ ::
    ⟨(some 30), .not (.t 29), none⟩ ::
    ⟨(some 31), .mv (.t 30), none⟩ ::
    ⟨(some 32), .off 0 (.t 3), (some (31, false))⟩ ::
    ⟨(some 33), .ld (.t 32), (some (31, false))⟩ ::
    ⟨(some 34), .bin .neq (.t 33) (.c (.d (.int .u8 4))), (some (31, false))⟩ ::
    ⟨(some 35), .pick (.t 31) (.c (.d (.bool true))) (.t 34), none⟩ ::
    ⟨(some 36), .mv (.t 35), none⟩ ::
    ⟨(some 37), .off 3 (.t 3), (some (36, false))⟩ ::
    ⟨(some 38), .ld (.t 37), (some (36, false))⟩ ::
    ⟨(some 39), .off 0 (.t 2), (some (36, false))⟩ ::
    ⟨(some 40), .ld (.t 39), (some (36, false))⟩ ::
    ⟨(some 41), .bin .neq (.t 38) (.t 40), (some (36, false))⟩ ::
    ⟨(some 42), .pick (.t 36) (.c (.d (.bool true))) (.t 41), none⟩ ::
    []))
  (.cond (.t 42) (.seq (.reg (⟨(some 43), .ldn 15 (.t 5), none⟩ ::
    ⟨(some 44), .bld [.d (.int .u8 0), .d (.int .i64 0), .d (.int .i64 0), .d (.int .i64 0), .d (.int .i64 0), .d (.bool false), .d (.bool false), .d (.int .i64 0), .d (.int .i64 0), .nils, .d (.str []), .d (.int .i64 0), .d (.int .i64 0), .d (.bool false), .d (.int .i64 0)] [], none⟩ ::
    ⟨(some 45), .call (.c (.fn 19 [])) [(.t 43), (.t 44)], none⟩ ::
    ⟨(some 46), .mv (.t 45), none⟩ ::
    ⟨(some 47), .call (.c (.fn 14 [])) [], (some (46, true))⟩ ::
    ⟨(some 48), .pick (.t 46) (.t 47) (.c (.d (.bool false))), none⟩ ::
    ⟨(some 4), .mv (.t 48), none⟩ ::
    []))
  .ret) .skip))
  (.seq (.reg (⟨(some 50), .ldn 20 (.t 2), none⟩ ::
    ⟨(some 51), .off 4 (.t 3), none⟩ ::
    ⟨(some 52), .ld (.t 51), none⟩ ::
    ⟨(some 53), .off 5 (.t 3), none⟩ ::
    ⟨(some 54), .ld (.t 53), none⟩ ::
    ⟨(some 55), .call (.c (.fn 15 [])) [(.t 50), (.t 52), (.t 54)], none⟩ ::
    ⟨(some 49), .mv (.t 55), none⟩ ::
    ⟨(some 56), .ext (.t 49) 0, none⟩ ::
    ⟨(some 57), .ext (.t 49) 1, none⟩ ::
    ⟨(some 6), .mv (.t 56), none⟩ ::
    ⟨(some 7), .mv (.t 57), none⟩ ::
    []))
  (.seq (.reg (⟨(some 58), .ldn 15 (.t 5), none⟩ ::
    ⟨(some 59), .call (.c (.fn 28 [])) [(.t 58)], none⟩ ::
    ⟨(some 60), .mv (.t 59), none⟩ ::
    ⟨(some 61), .off 0 (.t 5), (some (60, true))⟩ ::
    ⟨(some 62), .ld (.t 61), (some (60, true))⟩ ::
    ⟨(some 63), .bin .eql (.t 62) (.c (.d (.int .u8 10))), (some (60, true))⟩ ::
    ⟨(some 64), .pick (.t 60) (.t 63) (.c (.d (.bool false))), none⟩ ::
    ⟨(some 65), .mv (.t 64), none⟩ ::
    ⟨(some 66), .off 7 (.t 5), (some (65, true))⟩ ::
    ⟨(some 67), .ld (.t 66), (some (65, true))⟩ ::
    ⟨(some 68), .mv (.t 6), (some (65, true))⟩ ::
    ⟨(some 69), .bin .eql (.t 67) (.t 68), (some (65, true))⟩ ::
    ⟨(some 70), .pick (.t 65) (.t 69) (.c (.d (.bool false))), none⟩ ::
    ⟨(some 71), .mv (.t 70), none⟩ ::
    ⟨(some 72), .off 6 (.t 5), (some (71, true))⟩ ::
    ⟨(some 73), .ld (.t 72), (some (71, true))⟩ ::
    ⟨(some 74), .mv (.t 7), (some (71, true))⟩ ::
    ⟨(some 75), .eqb false (.t 73) (.t 74), (some (71, true))⟩ ::
    ⟨(some 76), .pick (.t 71) (.t 75) (.c (.d (.bool false))), none⟩ ::
    ⟨(some 77), .mv (.t 76), none⟩ ::
    ⟨(some 78), .off 2 (.t 5), (some (77, true))⟩ ::
    ⟨(some 79), .ld (.t 78), (some (77, true))⟩ ::
    ⟨(some 80), .off 0 (.t 2), (some (77, true))⟩ ::
    ⟨(some 81), .ld (.t 80), (some (77, true))⟩ ::
    ⟨(some 82), .bin .eql (.t 79) (.t 81), (some (77, true))⟩ ::
    ⟨(some 83), .pick (.t 77) (.t 82) (.c (.d (.bool false))), none⟩ ::
    ⟨(some 84), .mv (.t 83), none⟩ ::
    ⟨(some 85), .off 3 (.t 5), (some (84, true))⟩ ::
    ⟨(some 86), .ld (.t 85), (some (84, true))⟩ ::
    ⟨(some 87), .off 2 (.t 3), (some (84, true))⟩ ::
    ⟨(some 88), .ld (.t 87), (some (84, true))⟩ ::
    ⟨(some 89), .bin .eql (.t 86) (.t 88), (some (84, true))⟩ ::
    ⟨(some 90), .pick (.t 84) (.t 89) (.c (.d (.bool false))), none⟩ ::
    ⟨(some 91), .mv (.t 90), none⟩ ::
    ⟨(some 92), .off 1 (.t 5), (some (91, true))⟩ ::
    ⟨(some 93), .ld (.t 92), (some (91, true))⟩ ::
    ⟨(some 94), .off 1 (.t 3), (some (91, true))⟩ ::
    ⟨(some 95), .ld (.t 94), (some (91, true))⟩ ::
    ⟨(some 96), .bin .eql (.t 93) (.t 95), (some (91, true))⟩ ::
    ⟨(some 97), .pick (.t 91) (.t 96) (.c (.d (.bool false))), none⟩ ::
    ⟨(some 98), .mv (.t 97), none⟩ ::
    ⟨(some 99), .call (.c (.fn 14 [])) [], (some (98, true))⟩ ::
    ⟨(some 100), .pick (.t 98) (.t 99) (.c (.d (.bool false))), none⟩ ::
    ⟨(some 4), .mv (.t 100), none⟩ ::
    []))
  .ret)))))) }
/-- garland/garlandlaw18.LookTells -/
def cf8 : CFun := { np := 4, nt := 81, res := [.tmp 8], body :=
  (.seq (.reg (⟨(some 4), .box (.t 0), none⟩ ::
    ⟨(some 5), .box (.t 1), none⟩ ::
    ⟨(some 6), .box (.t 2), none⟩ ::
    ⟨(some 8), .mv (.c (.d (.bool false))), none⟩ ::
    []))
  (.seq (.seq (.reg (⟨(some 13), .ldn 20 (.t 4), none⟩ ::
    ⟨(some 14), .ldn 15 (.t 6), none⟩ ::
    ⟨(some 15), .call (.c (.fn 29 [])) [(.t 13), (.t 14)], none⟩ ::
    []))
  (.cond (.t 15) (.seq (.reg (⟨(some 16), .call (.c (.fn 30 [])) [], none⟩ ::
    ⟨(some 8), .mv (.t 16), none⟩ ::
    []))
  .ret) .skip))
  (.seq (.reg (⟨(some 18), .ldn 6 (.t 5), none⟩ ::
    ⟨(some 19), .call (.c (.fn 31 [])) [(.t 18)], none⟩ ::
    ⟨(some 17), .mv (.t 19), none⟩ ::
    ⟨(some 20), .ext (.t 17) 0, none⟩ ::
    ⟨(some 21), .ext (.t 17) 1, none⟩ ::
    ⟨(some 9), .new [.d (.int .u8 0), .d (.int .i64 0), .d (.int .i64 0), .d (.int .i64 0), .d (.int .i64 0), .d (.bool false), .d (.bool false), .d (.int .i64 0), .d (.int .i64 0), .nils, .d (.str []), .d (.int .i64 0), .d (.int .i64 0), .d (.bool false), .d (.int .i64 0)], none⟩ ::
    ⟨none, .st 15 (.t 9) (.t 20), none⟩ ::
    ⟨(some 10), .mv (.t 21), none⟩ ::
    []))
  (.seq (.reg (⟨(some 23), .ldn 6 (.t 5), none⟩ ::
    ⟨(some 24), .call (.c (.fn 32 [])) [(.t 23)], none⟩ ::
    ⟨(some 22), .mv (.t 24), none⟩ ::
    ⟨(some 25), .ext (.t 22) 0, none⟩ ::
    ⟨(some 26), .ext (.t 22) 1, none⟩ ::
    ⟨(some 11), .new [.d (.int .u8 0), .d (.int .i64 0), .d (.int .i64 0), .d (.int .i64 0), .d (.int .i64 0), .d (.bool false), .d (.bool false), .d (.int .i64 0), .d (.int .i64 0), .nils, .d (.str []), .d (.int .i64 0), .d (.int .i64 0), .d (.bool false), .d (.int .i64 0)], none⟩ ::
    ⟨none, .st 15 (.t 11) (.t 25), none⟩ ::
    ⟨(some 12), .mv (.t 26), none⟩ ::
    []))
  (.seq (.dreg (⟨(some 27), .ldn 20 (.t 4), none⟩ ::
    ⟨(some 28), .mv (.t 3), none⟩ ::
    ⟨(some 29), .call (.c (.fn 33 [])) [(.t 27), (.t 28)], none⟩ ::
    ⟨(some 30), .ldn 20 (.t 4), none⟩ ::
    ⟨(some 31), .mv (.t 3), none⟩ ::
    ⟨(some 32), .call (.c (.fn 34 [])) [(.t 30), (.t 31)], none⟩ ::
    ⟨(some 33), .eqs false [0, 0, 0, 1, 1, 0] (.t 29) (.t 32), none⟩ ::
    ⟨(some 34), .mv (.t 33), none⟩ ::
    ⟨(some 35), .ldn 20 (.t 4), (some (34, true))⟩ ::
    ⟨(some 36), .ldn 6 (.t 5), (some (34, true))⟩ ::
    ⟨(some 37), .ldn 15 (.t 6), (some (34, true))⟩ ::
    ⟨(some 38), .call (.c (.fn 35 [])) [(.t 35), (.t 36), (.t 37)], (some (34, true))⟩ ::
    ⟨(some 39), .ldn 20 (.t 4), (some (34, true))⟩ ::
    ⟨(some 40), .ldn 6 (.t 5), (some (34, true))⟩ ::
    ⟨(some 41), .ldn 15 (.t 6), (some (34, true))⟩ ::
    ⟨(some 42), .call (.c (.fn 36 [])) [(.t 39), (.t 40), (.t 41)], (some (34, true))⟩ ::
    ⟨(some 43), .eqs false [0, 0, 0, 1, 1, 0] (.t 38) (.t 42), (some (34, true))⟩ ::
    ⟨(some 44), .pick (.t 34) (.t 43) (.c (.d (.bool false))), none⟩ ::
    ⟨(some 45), .mv (.t 44), none⟩ ::
    ⟨(some 46), .ldn 20 (.t 4), (some (45, true))⟩ ::
    ⟨(some 47), .ldn 6 (.t 5), (some (45, true))⟩ ::
    ⟨(some 48), .call (.c (.fn 37 [])) [(.t 46), (.t 47)], (some (45, true))⟩ ::
    ⟨(some 49), .ldn 20 (.t 4), (some (45, true))⟩ ::
    ⟨(some 50), .ldn 6 (.t 5), (some (45, true))⟩ ::
    ⟨(some 51), .call (.c (.fn 38 [])) [(.t 49), (.t 50)], (some (45, true))⟩ ::
    ⟨(some 52), .eqs false [0, 0, 0, 1, 1, 0] (.t 48) (.t 51), (some (45, true))⟩ ::
    ⟨(some 53), .pick (.t 45) (.t 52) (.c (.d (.bool false))), none⟩ ::
    ⟨(some 54), .mv (.t 53), none⟩ ::
    ⟨(some 55), .ldn 6 (.t 5), (some (54, true))⟩ ::
    ⟨(some 56), .call (.c (.fn 39 [])) [(.t 55)], (some (54, true))⟩ ::
    ⟨(some 57), .ldn 6 (.t 5), (some (54, true))⟩ ::
    ⟨(some 58), .call (.c (.fn 40 [])) [(.t 57)], (some (54, true))⟩ ::
    ⟨(some 59), .eqb false (.t 56) (.t 58), (some (54, true))⟩ ::
    ⟨(some 60), .pick (.t 54) (.t 59) (.c (.d (.bool false))), none⟩ ::
    ⟨(some 61), .mv (.t 60), none⟩ ::
    ⟨(some 62), .ldn 6 (.t 5), (some (61, true))⟩ ::
    ⟨(some 63), .call (.c (.fn 41 [])) [(.t 62)], (some (61, true))⟩ ::
    ⟨(some 64), .ldn 6 (.t 5), (some (61, true))⟩ ::
    ⟨(some 65), .call (.c (.fn 42 [])) [(.t 64)], (some (61, true))⟩ ::
    ⟨(some 66), .eqb false (.t 63) (.t 65), (some (61, true))⟩ ::
    ⟨(some 67), .pick (.t 61) (.t 66) (.c (.d (.bool false))), none⟩ ::
    ⟨(some 68), .mv (.t 67), none⟩ ::
    ⟨(some 69), .ldn 15 (.t 9), (some (68, true))⟩ ::
    ⟨(some 70), .ldn 15 (.t 11), (some (68, true))⟩ ::
    ⟨(some 71), .call (.c (.fn 19 [])) [(.t 69), (.t 70)], (some (68, true))⟩ ::
    ⟨(some 72), .pick (.t 68) (.t 71) (.c (.d (.bool false))), none⟩ ::
    ⟨(some 73), .mv (.t 72), none⟩ ::
    ⟨(some 74), .mv (.t 10), (some (73, true))⟩ ::
    ⟨(some 75), .mv (.t 12), (some (73, true))⟩ ::
    ⟨(some 76), .eqb false (.t 74) (.t 75), (some (73, true))⟩ ::
    ⟨(some 77), .pick (.t 73) (.t 76) (.c (.d (.bool false))), none⟩ ::
    ⟨(some 78), .mv (.t 77), none⟩ ::
    ⟨(some 79), .call (.c (.fn 30 [])) [], (some (78, true))⟩ ::
    ⟨(some 80), .pick (.t 78) (.t 79) (.c (.d (.bool false))), none⟩ ::
    []) (⟨(some 8), .mv (.t 80), none⟩ ::
    []))
  .ret))))) }
/-- garland/garlandlaw18.LookEnds -/
def cf9 : CFun := { np := 4, nt := 195, res := [.tmp 8], body :=
  (.seq (.reg (⟨(some 4), .box (.t 0), none⟩ ::
    ⟨(some 8), .mv (.c (.d (.bool false))), none⟩ ::
    []))
  (.seq (.seq (.reg (⟨(some 16), .ldn 20 (.t 4), none⟩ ::
    ⟨(some 17), .call (.c (.fn 24 [])) [(.t 16)], none⟩ ::
    ⟨(some 18), .not (.t 17), none⟩ ::
    ⟨(some 19), .mv (.t 18), none⟩ ::
    ⟨(some 20), .mv (.t 2), (some (19, false))⟩ ::
    ⟨(some 21), .len false (.t 20), (some (19, false))⟩ ::
    ⟨(some 22), .bin .gtr (.t 21) (.c (.d (.int .i64 60))), (some (19, false))⟩ ::
    ⟨(some 23), .pick (.t 19) (.c (.d (.bool true))) (.t 22), none⟩ ::
    []))
  (.cond (.t 23) (.seq (.reg (⟨(some 24), .call (.c (.fn 30 [])) [], none⟩ ::
    ⟨(some 8), .mv (.t 24), none⟩ ::
    []))
  .ret) .skip))
  (.seq (.reg (⟨(some 25), .ldn 20 (.t 4), none⟩ ::
    ⟨(some 26), .mv (.t 1), none⟩ ::
    ⟨(some 27), .call (.c (.fn 33 [])) [(.t 25), (.t 26)], none⟩ ::
    ⟨(some 9), .new [.d (.int .i64 0), .d (.int .i64 0), .d (.int .i64 0), .d (.bool false), .d (.bool false), .d (.int .i64 0)], none⟩ ::
    ⟨none, .st 6 (.t 9) (.t 27), none⟩ ::
    []))
  (.seq (.reg (⟨(some 10), .mv (.c (.d (.int .i64 0))), none⟩ ::
    []))
  (.seq (.seq (.reg (⟨(some 11), .mv (.c (.d (.int .i64 0))), none⟩ ::
    []))
  (.block 0 (.loop [1, 2, 3, 4, 9, 10, 11] (.seq (.seq (.reg (⟨(some 28), .mv (.t 11), none⟩ ::
    ⟨(some 29), .mv (.t 2), none⟩ ::
    ⟨(some 30), .len false (.t 29), none⟩ ::
    ⟨(some 31), .bin .lss (.t 28) (.t 30), none⟩ ::
    []))
  (.cond (.t 31) .skip (.exit 0)))
  (.seq (.block 1 (.seq (.seq (.dreg (⟨(some 34), .ldn 6 (.t 9), none⟩ ::
    ⟨(some 35), .call (.c (.fn 39 [])) [(.t 34)], none⟩ ::
    ⟨(some 36), .not (.t 35), none⟩ ::
    ⟨(some 37), .mv (.t 36), none⟩ ::
    ⟨(some 38), .off 0 (.t 9), (some (37, false))⟩ ::
    ⟨(some 39), .ld (.t 38), (some (37, false))⟩ ::
    ⟨(some 40), .mv (.t 1), (some (37, false))⟩ ::
    ⟨(some 41), .call (.c (.fn 27 [])) [(.t 40)], (some (37, false))⟩ ::
    ⟨(some 42), .bin .neq (.t 39) (.t 41), (some (37, false))⟩ ::
    ⟨(some 43), .pick (.t 37) (.c (.d (.bool true))) (.t 42), none⟩ ::
    ⟨(some 44), .mv (.t 43), none⟩ ::
    ⟨(some 45), .off 2 (.t 9), (some (44, false))⟩ ::
    ⟨(some 46), .ld (.t 45), (some (44, false))⟩ ::
    ⟨(some 47), .mv (.t 10), (some (44, false))⟩ ::
    ⟨(some 48), .bin .neq (.t 46) (.t 47), (some (44, false))⟩ ::
    ⟨(some 49), .pick (.t 44) (.c (.d (.bool true))) (.t 48), none⟩ ::
    []) ([]))
  (.cond (.t 49) (.seq (.reg (⟨(some 8), .mv (.c (.d (.bool false))), none⟩ ::
    []))
  .ret) .skip))
  (.seq (.reg (⟨(some 51), .ldn 6 (.t 9), none⟩ ::
    ⟨(some 52), .call (.c (.fn 31 [])) [(.t 51)], none⟩ ::
    ⟨(some 50), .mv (.t 52), none⟩ ::
    ⟨(some 53), .ext (.t 50) 0, none⟩ ::
    ⟨(some 54), .ext (.t 50) 1, none⟩ ::
    ⟨(some 12), .new [.d (.int .u8 0), .d (.int .i64 0), .d (.int .i64 0), .d (.int .i64 0), .d (.int .i64 0), .d (.bool false), .d (.bool false), .d (.int .i64 0), .d (.int .i64 0), .nils, .d (.str []), .d (.int .i64 0), .d (.int .i64 0), .d (.bool false), .d (.int .i64 0)], none⟩ ::
    ⟨none, .st 15 (.t 12) (.t 53), none⟩ ::
    ⟨(some 13), .mv (.t 54), none⟩ ::
    []))
  (.seq (.seq (.reg (⟨(some 55), .mv (.t 13), none⟩ ::
    ⟨(some 56), .ldn 6 (.t 9), none⟩ ::
    ⟨(some 57), .call (.c (.fn 41 [])) [(.t 56)], none⟩ ::
    ⟨(some 58), .eqb false (.t 55) (.t 57), none⟩ ::
    []))
  (.cond (.t 58) (.seq (.reg (⟨(some 8), .mv (.c (.d (.bool false))), none⟩ ::
    []))
  .ret) .skip))
  (.seq (.seq (.reg (⟨(some 59), .mv (.t 13), none⟩ ::
    ⟨(some 60), .not (.t 59), none⟩ ::
    []))
  (.cond (.t 60) (.exit 0) .skip))
  (.seq (.seq (.reg (⟨(some 61), .off 3 (.t 12), none⟩ ::
    ⟨(some 62), .ld (.t 61), none⟩ ::
    ⟨(some 63), .off 0 (.t 4), none⟩ ::
    ⟨(some 64), .ld (.t 63), none⟩ ::
    ⟨(some 65), .bin .eql (.t 62) (.t 64), none⟩ ::
    ⟨(some 66), .mv (.t 65), none⟩ ::
    ⟨(some 67), .off 3 (.t 12), (some (66, false))⟩ ::
    ⟨(some 68), .ld (.t 67), (some (66, false))⟩ ::
    ⟨(some 69), .off 1 (.t 9), (some (66, false))⟩ ::
    ⟨(some 70), .ld (.t 69), (some (66, false))⟩ ::
    ⟨(some 71), .bin .neq (.t 68) (.t 70), (some (66, false))⟩ ::
    ⟨(some 72), .pick (.t 66) (.c (.d (.bool true))) (.t 71), none⟩ ::
    ⟨(some 73), .mv (.t 72), none⟩ ::
    ⟨(some 74), .off 4 (.t 12), (some (73, false))⟩ ::
    ⟨(some 75), .ld (.t 74), (some (73, false))⟩ ::
    ⟨(some 76), .off 0 (.t 9), (some (73, false))⟩ ::
    ⟨(some 77), .ld (.t 76), (some (73, false))⟩ ::
    ⟨(some 78), .bin .neq (.t 75) (.t 77), (some (73, false))⟩ ::
    ⟨(some 79), .pick (.t 73) (.c (.d (.bool true))) (.t 78), none⟩ ::
    []))
  (.cond (.t 79) (.seq (.reg (⟨(some 8), .mv (.c (.d (.bool false))), none⟩ ::
    []))
  .ret) .skip))
  (.seq (.seq (.reg (⟨(some 80), .mv (.t 11), none⟩ ::
    ⟨(some 81), .mv (.t 3), none⟩ ::
    ⟨(some 82), .len false (.t 81), none⟩ ::
    ⟨(some 83), .bin .lss (.t 80) (.t 82), none⟩ ::
    ⟨(some 84), .mv (.t 83), none⟩ ::
    ⟨(some 85), .mv (.t 3), (some (84, true))⟩ ::
    ⟨(some 86), .mv (.t 11), (some (84, true))⟩ ::
    ⟨(some 87), .ixs 1 (.t 85) (.t 86), (some (84, true))⟩ ::
    ⟨(some 88), .ld (.t 87), (some (84, true))⟩ ::
    ⟨(some 89), .pick (.t 84) (.t 88) (.c (.d (.bool false))), none⟩ ::
    []))
  (.cond (.t 89) (.seq (.reg (⟨(some 90), .ldn 20 (.t 4), none⟩ ::
    ⟨(some 91), .ldn 6 (.t 9), none⟩ ::
    ⟨(some 92), .call (.c (.fn 37 [])) [(.t 90), (.t 91)], none⟩ ::
    ⟨(some 14), .new [.d (.int .i64 0), .d (.int .i64 0), .d (.int .i64 0), .d (.bool false), .d (.bool false), .d (.int .i64 0)], none⟩ ::
    ⟨none, .st 6 (.t 14) (.t 92), none⟩ ::
    []))
  (.seq (.reg (⟨(some 93), .mv (.t 10), none⟩ ::
    ⟨(some 94), .bin .add (.t 93) (.c (.d (.int .i64 1))), none⟩ ::
    ⟨(some 10), .mv (.t 94), none⟩ ::
    []))
  (.seq (.seq (.reg (⟨(some 95), .off 2 (.t 14), none⟩ ::
    ⟨(some 96), .ld (.t 95), none⟩ ::
    ⟨(some 97), .mv (.t 10), none⟩ ::
    ⟨(some 98), .bin .neq (.t 96) (.t 97), none⟩ ::
    ⟨(some 99), .mv (.t 98), none⟩ ::
    ⟨(some 100), .off 0 (.t 14), (some (99, false))⟩ ::
    ⟨(some 101), .ld (.t 100), (some (99, false))⟩ ::
    ⟨(some 102), .off 0 (.t 9), (some (99, false))⟩ ::
    ⟨(some 103), .ld (.t 102), (some (99, false))⟩ ::
    ⟨(some 104), .bin .neq (.t 101) (.t 103), (some (99, false))⟩ ::
    ⟨(some 105), .pick (.t 99) (.c (.d (.bool true))) (.t 104), none⟩ ::
    ⟨(some 106), .mv (.t 105), none⟩ ::
    ⟨(some 107), .off 3 (.t 14), (some (106, false))⟩ ::
    ⟨(some 108), .ld (.t 107), (some (106, false))⟩ ::
    ⟨(some 109), .mv (.t 10), (some (106, false))⟩ ::
    ⟨(some 110), .bin .leq (.t 109) (.c (.d (.int .i64 40))), (some (106, false))⟩ ::
    ⟨(some 111), .mv (.t 110), (some (106, false))⟩ ::
    ⟨(some 112), .off 3 (.t 9), (some (111, false))⟩ ::
    ⟨(some 113), .ld (.t 112), (some (111, false))⟩ ::
    ⟨(some 114), .pick (.t 111) (.c (.d (.bool true))) (.t 113), (some (106, false))⟩ ::
    ⟨(some 115), .eqb true (.t 108) (.t 114), (some (106, false))⟩ ::
    ⟨(some 116), .pick (.t 106) (.c (.d (.bool true))) (.t 115), none⟩ ::
    ⟨(some 117), .mv (.t 116), none⟩ ::
    ⟨(some 118), .mv (.t 10), (some (117, false))⟩ ::
    ⟨(some 119), .bin .gtr (.t 118) (.c (.d (.int .i64 40))), (some (117, false))⟩ ::
    ⟨(some 120), .mv (.t 119), (some (117, false))⟩ ::
    ⟨(some 121), .off 5 (.t 14), (some (120, true))⟩ ::
    ⟨(some 122), .ld (.t 121), (some (120, true))⟩ ::
    ⟨(some 123), .bin .neq (.t 122) (.c (.d (.int .i64 211))), (some (120, true))⟩ ::
    ⟨(some 124), .pick (.t 120) (.t 123) (.c (.d (.bool false))), (some (117, false))⟩ ::
    ⟨(some 125), .pick (.t 117) (.c (.d (.bool true))) (.t 124), none⟩ ::
    []))
  (.cond (.t 125) (.seq (.reg (⟨(some 8), .mv (.c (.d (.bool false))), none⟩ ::
    []))
  .ret) .skip))
  (.seq (.reg (⟨(some 126), .ldn 6 (.t 14), none⟩ ::
    ⟨none, .st 6 (.t 9) (.t 126), none⟩ ::
    []))
  (.seq (.reg (⟨(some 127), .ldn 6 (.t 9), none⟩ ::
    ⟨(some 128), .call (.c (.fn 41 [])) [(.t 127)], none⟩ ::
    []))
  (.cond (.t 128) (.exit 0) .skip)))))) .skip))
  (.seq (.reg (⟨(some 129), .mv (.t 2), none⟩ ::
    ⟨(some 130), .mv (.t 11), none⟩ ::
    ⟨(some 131), .ixs 2 (.t 129) (.t 130), none⟩ ::
    ⟨(some 132), .ixa 2 1 (.t 131) (.c (.d (.int .i64 0))), none⟩ ::
    ⟨(some 133), .ld (.t 132), none⟩ ::
    ⟨(some 134), .call (.c (.fn 27 [])) [(.t 133)], none⟩ ::
    ⟨(some 15), .mv (.t 134), none⟩ ::
    []))
  (.seq (.dreg (⟨(some 135), .ldn 20 (.t 4), none⟩ ::
    ⟨(some 136), .ldn 6 (.t 9), none⟩ ::
    ⟨(some 137), .off 1 (.t 9), none⟩ ::
    ⟨(some 138), .ld (.t 137), none⟩ ::
    ⟨(some 139), .off 0 (.t 4), none⟩ ::
    ⟨(some 140), .ld (.t 139), none⟩ ::
    ⟨(some 141), .mv (.t 15), none⟩ ::
    ⟨(some 142), .mv (.t 2), none⟩ ::
    ⟨(some 143), .mv (.t 11), none⟩ ::
    ⟨(some 144), .ixs 2 (.t 142) (.t 143), none⟩ ::
    ⟨(some 145), .ixa 2 1 (.t 144) (.c (.d (.int .i64 1))), none⟩ ::
    ⟨(some 146), .ld (.t 145), none⟩ ::
    ⟨(some 147), .bin .and (.t 146) (.c (.d (.int .i64 7))), none⟩ ::
    ⟨(some 148), .bin .eql (.t 147) (.c (.d (.int .i64 0))), none⟩ ::
    ⟨(some 149), .call (.c (.fn 43 [])) [(.t 138), (.t 140), (.t 141), (.t 148)], none⟩ ::
    ⟨(some 150), .call (.c (.fn 35 [])) [(.t 135), (.t 136), (.t 149)], none⟩ ::
    []) (⟨none, .st 6 (.t 9) (.t 150), none⟩ ::
    []))
  (.seq (.reg (⟨(some 151), .mv (.t 10), none⟩ ::
    ⟨(some 152), .bin .add (.t 151) (.c (.d (.int .i64 1))), none⟩ ::
    ⟨(some 10), .mv (.t 152), none⟩ ::
    []))
  (.seq (.reg (⟨(some 153), .off 2 (.t 9), none⟩ ::
    ⟨(some 154), .ld (.t 153), none⟩ ::
    ⟨(some 155), .mv (.t 10), none⟩ ::
    ⟨(some 156), .bin .neq (.t 154) (.t 155), none⟩ ::
    ⟨(some 157), .mv (.t 156), none⟩ ::
    ⟨(some 158), .mv (.t 10), (some (157, false))⟩ ::
    ⟨(some 159), .bin .gtr (.t 158) (.c (.d (.int .i64 40))), (some (157, false))⟩ ::
    ⟨(some 160), .mv (.t 159), (some (157, false))⟩ ::
    ⟨(some 161), .off 5 (.t 9), (some (160, true))⟩ ::
    ⟨(some 162), .ld (.t 161), (some (160, true))⟩ ::
    ⟨(some 163), .bin .neq (.t 162) (.c (.d (.int .i64 211))), (some (160, true))⟩ ::
    ⟨(some 164), .pick (.t 160) (.t 163) (.c (.d (.bool false))), (some (157, false))⟩ ::
    ⟨(some 165), .pick (.t 157) (.c (.d (.bool true))) (.t 164), none⟩ ::
    ⟨(some 166), .mv (.t 165), none⟩ ::
    ⟨(some 167), .off 4 (.t 9), (some (166, false))⟩ ::
    ⟨(some 168), .ld (.t 167), (some (166, false))⟩ ::
    ⟨(some 169), .mv (.t 168), (some (166, false))⟩ ::
    ⟨(some 170), .off 1 (.t 9), (some (169, true))⟩ ::
    ⟨(some 171), .ld (.t 170), (some (169, true))⟩ ::
    ⟨(some 172), .mv (.t 15), (some (169, true))⟩ ::
    ⟨(some 173), .bin .neq (.t 171) (.t 172), (some (169, true))⟩ ::
    ⟨(some 174), .pick (.t 169) (.t 173) (.c (.d (.bool false))), (some (166, false))⟩ ::
    ⟨(some 175), .mv (.t 174), (some (166, false))⟩ ::
    ⟨(some 176), .mv (.t 15), (some (175, true))⟩ ::
    ⟨(some 177), .off 0 (.t 4), (some (175, true))⟩ ::
    ⟨(some 178), .ld (.t 177), (some (175, true))⟩ ::
    ⟨(some 179), .bin .neq (.t 176) (.t 178), (some (175, true))⟩ ::
    ⟨(some 180), .pick (.t 175) (.t 179) (.c (.d (.bool false))), (some (166, false))⟩ ::
    ⟨(some 181), .pick (.t 166) (.c (.d (.bool true))) (.t 180), none⟩ ::
    []))
  (.cond (.t 181) (.seq (.reg (⟨(some 8), .mv (.c (.d (.bool false))), none⟩ ::
    []))
  .ret) .skip))))))))))))
  (.reg (⟨(some 32), .mv (.t 11), none⟩ ::
    ⟨(some 33), .bin .add (.t 32) (.c (.d (.int .i64 1))), none⟩ ::
    ⟨(some 11), .mv (.t 33), none⟩ ::
    [])))))))
  (.seq (.reg (⟨(some 182), .mv (.t 10), none⟩ ::
    ⟨(some 183), .bin .leq (.t 182) (.c (.d (.int .i64 41))), none⟩ ::
    ⟨(some 184), .mv (.t 183), none⟩ ::
    ⟨(some 185), .mv (.t 10), (some (184, true))⟩ ::
    ⟨(some 186), .bin .lss (.t 185) (.c (.d (.int .i64 41))), (some (184, true))⟩ ::
    ⟨(some 187), .mv (.t 186), (some (184, true))⟩ ::
    ⟨(some 188), .ldn 6 (.t 9), (some (187, false))⟩ ::
    ⟨(some 189), .call (.c (.fn 41 [])) [(.t 188)], (some (187, false))⟩ ::
    ⟨(some 190), .pick (.t 187) (.c (.d (.bool true))) (.t 189), (some (184, true))⟩ ::
    ⟨(some 191), .pick (.t 184) (.t 190) (.c (.d (.bool false))), none⟩ ::
    ⟨(some 192), .mv (.t 191), none⟩ ::
    ⟨(some 193), .call (.c (.fn 30 [])) [], (some (192, true))⟩ ::
    ⟨(some 194), .pick (.t 192) (.t 193) (.c (.d (.bool false))), none⟩ ::
    ⟨(some 8), .mv (.t 194), none⟩ ::
    []))
  .ret)))))) }
/-- garland/garlandlaw18.LookCloser -/
def cf10 : CFun := { np := 3, nt := 177, res := [.tmp 6], body :=
  (.seq (.reg (⟨(some 6), .mv (.c (.d (.bool false))), none⟩ ::
    []))
  (.seq (.seq (.reg (⟨(some 17), .mv (.t 0), none⟩ ::
    ⟨(some 18), .len false (.t 17), none⟩ ::
    ⟨(some 19), .bin .gtr (.t 18) (.c (.d (.int .i64 8))), none⟩ ::
    ⟨(some 20), .mv (.t 19), none⟩ ::
    ⟨(some 21), .mv (.t 0), (some (20, false))⟩ ::
    ⟨(some 22), .len false (.t 21), (some (20, false))⟩ ::
    ⟨(some 23), .bin .eql (.t 22) (.c (.d (.int .i64 0))), (some (20, false))⟩ ::
    ⟨(some 24), .pick (.t 20) (.c (.d (.bool true))) (.t 23), none⟩ ::
    []))
  (.cond (.t 24) (.seq (.reg (⟨(some 25), .call (.c (.fn 30 [])) [], none⟩ ::
    ⟨(some 6), .mv (.t 25), none⟩ ::
    []))
  .ret) .skip))
  (.seq (.seq (.reg (⟨(some 7), .mv (.c (.d (.int .i64 0))), none⟩ ::
    []))
  (.block 0 (.loop [0, 1, 2, 7] (.seq (.seq (.reg (⟨(some 26), .mv (.t 7), none⟩ ::
    ⟨(some 27), .mv (.t 0), none⟩ ::
    ⟨(some 28), .len false (.t 27), none⟩ ::
    ⟨(some 29), .bin .lss (.t 26) (.t 28), none⟩ ::
    []))
  (.cond (.t 29) .skip (.exit 0)))
  (.seq (.block 1 (.seq (.seq (.reg (⟨(some 32), .mv (.t 0), none⟩ ::
    ⟨(some 33), .mv (.t 7), none⟩ ::
    ⟨(some 34), .ixs 20 (.t 32) (.t 33), none⟩ ::
    ⟨(some 35), .ldn 20 (.t 34), none⟩ ::
    ⟨(some 36), .call (.c (.fn 24 [])) [(.t 35)], none⟩ ::
    ⟨(some 37), .not (.t 36), none⟩ ::
    []))
  (.cond (.t 37) (.seq (.reg (⟨(some 38), .call (.c (.fn 30 [])) [], none⟩ ::
    ⟨(some 6), .mv (.t 38), none⟩ ::
    []))
  .ret) .skip))
  (.seq (.reg (⟨(some 8), .mv (.c (.d (.int .i64 0))), none⟩ ::
    []))
  (.block 2 (.loop [0, 1, 2, 7, 8] (.seq (.seq (.reg (⟨(some 39), .mv (.t 8), none⟩ ::
    ⟨(some 40), .mv (.t 7), none⟩ ::
    ⟨(some 41), .bin .lss (.t 39) (.t 40), none⟩ ::
    []))
  (.cond (.t 41) .skip (.exit 2)))
  (.seq (.block 3 (.seq (.dreg (⟨(some 44), .mv (.t 0), none⟩ ::
    ⟨(some 45), .mv (.t 8), none⟩ ::
    ⟨(some 46), .ixs 20 (.t 44) (.t 45), none⟩ ::
    ⟨(some 47), .off 0 (.t 46), none⟩ ::
    ⟨(some 48), .ld (.t 47), none⟩ ::
    ⟨(some 49), .mv (.t 0), none⟩ ::
    ⟨(some 50), .mv (.t 7), none⟩ ::
    ⟨(some 51), .ixs 20 (.t 49) (.t 50), none⟩ ::
    ⟨(some 52), .off 0 (.t 51), none⟩ ::
    ⟨(some 53), .ld (.t 52), none⟩ ::
    ⟨(some 54), .bin .eql (.t 48) (.t 53), none⟩ ::
    []) ([]))
  (.cond (.t 54) (.seq (.reg (⟨(some 55), .call (.c (.fn 30 [])) [], none⟩ ::
    ⟨(some 6), .mv (.t 55), none⟩ ::
    []))
  .ret) .skip)))
  (.reg (⟨(some 42), .mv (.t 8), none⟩ ::
    ⟨(some 43), .bin .add (.t 42) (.c (.d (.int .i64 1))), none⟩ ::
    ⟨(some 8), .mv (.t 43), none⟩ ::
    [])))))))))
  (.reg (⟨(some 30), .mv (.t 7), none⟩ ::
    ⟨(some 31), .bin .add (.t 30) (.c (.d (.int .i64 1))), none⟩ ::
    ⟨(some 7), .mv (.t 31), none⟩ ::
    [])))))))
  (.seq (.reg (⟨(some 56), .mv (.t 0), none⟩ ::
    ⟨(some 57), .mv (.t 2), none⟩ ::
    ⟨(some 58), .mv (.t 0), none⟩ ::
    ⟨(some 59), .len false (.t 58), none⟩ ::
    ⟨(some 60), .bin .rem (.t 57) (.t 59), none⟩ ::
    ⟨(some 61), .mv (.t 0), none⟩ ::
    ⟨(some 62), .len false (.t 61), none⟩ ::
    ⟨(some 63), .bin .add (.t 60) (.t 62), none⟩ ::
    ⟨(some 64), .mv (.t 0), none⟩ ::
    ⟨(some 65), .len false (.t 64), none⟩ ::
    ⟨(some 66), .bin .rem (.t 63) (.t 65), none⟩ ::
    ⟨(some 67), .ixs 20 (.t 56) (.t 66), none⟩ ::
    ⟨(some 68), .ldn 20 (.t 67), none⟩ ::
    ⟨(some 9), .new [.d (.int .i64 0), .nils, .nils, .d (.int .i64 0), .d (.int .i64 0), .d (.int .i64 0), .d (.int .i64 0), .d (.int .i64 0), .d (.int .i64 0), .d (.int .i64 0), .d (.int .i64 0), .d (.int .i64 0), .d (.int .i64 0), .d (.int .i64 0), .d (.int .i64 0), .d (.int .i64 0), .d (.int .i64 0), .d (.int .i64 0), .d (.int .i64 0), .d (.int .i64 0)], none⟩ ::
    ⟨none, .st 20 (.t 9) (.t 68), none⟩ ::
    []))
  (.seq (.reg (⟨(some 69), .ldn 20 (.t 9), none⟩ ::
    ⟨(some 70), .mv (.t 1), none⟩ ::
    ⟨(some 71), .call (.c (.fn 33 [])) [(.t 69), (.t 70)], none⟩ ::
    ⟨(some 10), .new [.d (.int .i64 0), .d (.int .i64 0), .d (.int .i64 0), .d (.bool false), .d (.bool false), .d (.int .i64 0)], none⟩ ::
    ⟨none, .st 6 (.t 10) (.t 71), none⟩ ::
    []))
  (.seq (.seq (.reg (⟨(some 11), .mv (.c (.d (.int .i64 0))), none⟩ ::
    []))
  (.block 4 (.loop [0, 1, 9, 10, 11] (.seq (.seq (.reg (⟨(some 72), .mv (.t 11), none⟩ ::
    ⟨(some 73), .mv (.t 0), none⟩ ::
    ⟨(some 74), .len false (.t 73), none⟩ ::
    ⟨(some 75), .bin .leq (.t 72) (.t 74), none⟩ ::
    []))
  (.cond (.t 75) .skip (.exit 4)))
  (.seq (.block 5 (.seq (.seq (.reg (⟨(some 78), .ldn 6 (.t 10), none⟩ ::
    ⟨(some 79), .call (.c (.fn 41 [])) [(.t 78)], none⟩ ::
    []))
  (.cond (.t 79) (.seq (.reg (⟨(some 80), .off 4 (.t 10), none⟩ ::
    ⟨(some 81), .ld (.t 80), none⟩ ::
    ⟨(some 82), .mv (.t 81), none⟩ ::
    ⟨(some 83), .off 5 (.t 10), (some (82, true))⟩ ::
    ⟨(some 84), .ld (.t 83), (some (82, true))⟩ ::
    ⟨(some 85), .bin .eql (.t 84) (.c (.d (.int .i64 0))), (some (82, true))⟩ ::
    ⟨(some 86), .pick (.t 82) (.t 85) (.c (.d (.bool false))), none⟩ ::
    ⟨(some 87), .mv (.t 86), none⟩ ::
    ⟨(some 88), .off 2 (.t 10), (some (87, true))⟩ ::
    ⟨(some 89), .ld (.t 88), (some (87, true))⟩ ::
    ⟨(some 90), .mv (.t 11), (some (87, true))⟩ ::
    ⟨(some 91), .bin .eql (.t 89) (.t 90), (some (87, true))⟩ ::
    ⟨(some 92), .pick (.t 87) (.t 91) (.c (.d (.bool false))), none⟩ ::
    ⟨(some 93), .mv (.t 92), none⟩ ::
    ⟨(some 94), .call (.c (.fn 30 [])) [], (some (93, true))⟩ ::
    ⟨(some 95), .pick (.t 93) (.t 94) (.c (.d (.bool false))), none⟩ ::
    ⟨(some 6), .mv (.t 95), none⟩ ::
    []))
  .ret) .skip))
  (.seq (.reg (⟨(some 12), .mv (.c (.d (.int .i64 (-1)))), none⟩ ::
    []))
  (.seq (.seq (.reg (⟨(some 13), .mv (.c (.d (.int .i64 0))), none⟩ ::
    []))
  (.block 6 (.loop [0, 1, 9, 10, 11, 12, 13] (.seq (.seq (.reg (⟨(some 96), .mv (.t 13), none⟩ ::
    ⟨(some 97), .mv (.t 0), none⟩ ::
    ⟨(some 98), .len false (.t 97), none⟩ ::
    ⟨(some 99), .bin .lss (.t 96) (.t 98), none⟩ ::
    []))
  (.cond (.t 99) .skip (.exit 6)))
  (.seq (.block 7 (.seq (.dreg (⟨(some 102), .mv (.t 0), none⟩ ::
    ⟨(some 103), .mv (.t 13), none⟩ ::
    ⟨(some 104), .ixs 20 (.t 102) (.t 103), none⟩ ::
    ⟨(some 105), .off 0 (.t 104), none⟩ ::
    ⟨(some 106), .ld (.t 105), none⟩ ::
    ⟨(some 107), .off 1 (.t 10), none⟩ ::
    ⟨(some 108), .ld (.t 107), none⟩ ::
    ⟨(some 109), .bin .eql (.t 106) (.t 108), none⟩ ::
    []) ([]))
  (.cond (.t 109) (.reg (⟨(some 110), .mv (.t 13), none⟩ ::
    ⟨(some 12), .mv (.t 110), none⟩ ::
    [])) .skip)))
  (.reg (⟨(some 100), .mv (.t 13), none⟩ ::
    ⟨(some 101), .bin .add (.t 100) (.c (.d (.int .i64 1))), none⟩ ::
    ⟨(some 13), .mv (.t 101), none⟩ ::
    [])))))))
  (.seq (.seq (.reg (⟨(some 111), .mv (.t 12), none⟩ ::
    ⟨(some 112), .bin .lss (.t 111) (.c (.d (.int .i64 0))), none⟩ ::
    []))
  (.cond (.t 112) (.seq (.reg (⟨(some 113), .call (.c (.fn 30 [])) [], none⟩ ::
    ⟨(some 6), .mv (.t 113), none⟩ ::
    []))
  .ret) .skip))
  (.seq (.reg (⟨(some 115), .mv (.t 0), none⟩ ::
    ⟨(some 116), .mv (.t 12), none⟩ ::
    ⟨(some 117), .ixs 20 (.t 115) (.t 116), none⟩ ::
    ⟨(some 118), .ldn 20 (.t 117), none⟩ ::
    ⟨(some 119), .mv (.t 1), none⟩ ::
    ⟨(some 120), .call (.c (.fn 16 [])) [(.t 118), (.t 119), (.c (.d (.bool false)))], none⟩ ::
    ⟨(some 114), .mv (.t 120), none⟩ ::
    ⟨(some 121), .ext (.t 114) 0, none⟩ ::
    ⟨(some 122), .ext (.t 114) 1, none⟩ ::
    ⟨(some 14), .mv (.t 121), none⟩ ::
    ⟨(some 15), .mv (.t 122), none⟩ ::
    []))
  (.seq (.dreg (⟨(some 123), .ldn 20 (.t 9), none⟩ ::
    ⟨(some 124), .ldn 6 (.t 10), none⟩ ::
    ⟨(some 125), .off 1 (.t 10), none⟩ ::
    ⟨(some 126), .ld (.t 125), none⟩ ::
    ⟨(some 127), .off 0 (.t 9), none⟩ ::
    ⟨(some 128), .ld (.t 127), none⟩ ::
    ⟨(some 129), .mv (.t 14), none⟩ ::
    ⟨(some 130), .mv (.t 15), none⟩ ::
    ⟨(some 131), .call (.c (.fn 43 [])) [(.t 126), (.t 128), (.t 129), (.t 130)], none⟩ ::
    ⟨(some 132), .call (.c (.fn 35 [])) [(.t 123), (.t 124), (.t 131)], none⟩ ::
    ⟨(some 16), .new [.d (.int .i64 0), .d (.int .i64 0), .d (.int .i64 0), .d (.bool false), .d (.bool false), .d (.int .i64 0)], none⟩ ::
    []) (⟨none, .st 6 (.t 16) (.t 132), none⟩ ::
    []))
  (.seq (.seq (.reg (⟨(some 133), .off 4 (.t 16), none⟩ ::
    ⟨(some 134), .ld (.t 133), none⟩ ::
    ⟨(some 135), .mv (.t 15), none⟩ ::
    ⟨(some 136), .eqb true (.t 134) (.t 135), none⟩ ::
    ⟨(some 137), .mv (.t 136), none⟩ ::
    ⟨(some 138), .off 1 (.t 16), (some (137, false))⟩ ::
    ⟨(some 139), .ld (.t 138), (some (137, false))⟩ ::
    ⟨(some 140), .mv (.t 14), (some (137, false))⟩ ::
    ⟨(some 141), .bin .neq (.t 139) (.t 140), (some (137, false))⟩ ::
    ⟨(some 142), .pick (.t 137) (.c (.d (.bool true))) (.t 141), none⟩ ::
    ⟨(some 143), .mv (.t 142), none⟩ ::
    ⟨(some 144), .mv (.t 15), (some (143, false))⟩ ::
    ⟨(some 145), .not (.t 144), (some (143, false))⟩ ::
    ⟨(some 146), .mv (.t 145), (some (143, false))⟩ ::
    ⟨(some 147), .mv (.t 1), (some (146, true))⟩ ::
    ⟨(some 148), .off 1 (.t 10), (some (146, true))⟩ ::
    ⟨(some 149), .ld (.t 148), (some (146, true))⟩ ::
    ⟨(some 150), .mv (.t 14), (some (146, true))⟩ ::
    ⟨(some 151), .call (.c (.fn 23 [])) [(.t 147), (.t 149), (.t 150)], (some (146, true))⟩ ::
    ⟨(some 152), .not (.t 151), (some (146, true))⟩ ::
    ⟨(some 153), .pick (.t 146) (.t 152) (.c (.d (.bool false))), (some (143, false))⟩ ::
    ⟨(some 154), .pick (.t 143) (.c (.d (.bool true))) (.t 153), none⟩ ::
    ⟨(some 155), .mv (.t 154), none⟩ ::
    ⟨(some 156), .mv (.t 14), (some (155, false))⟩ ::
    ⟨(some 157), .off 0 (.t 9), (some (155, false))⟩ ::
    ⟨(some 158), .ld (.t 157), (some (155, false))⟩ ::
    ⟨(some 159), .bin .eql (.t 156) (.t 158), (some (155, false))⟩ ::
    ⟨(some 160), .mv (.t 159), (some (155, false))⟩ ::
    ⟨(some 161), .mv (.t 15), (some (160, true))⟩ ::
    ⟨(some 162), .not (.t 161), (some (160, true))⟩ ::
    ⟨(some 163), .pick (.t 160) (.t 162) (.c (.d (.bool false))), (some (155, false))⟩ ::
    ⟨(some 164), .pick (.t 155) (.c (.d (.bool true))) (.t 163), none⟩ ::
    []))
  (.cond (.t 164) (.seq (.reg (⟨(some 165), .mv (.t 14), none⟩ ::
    ⟨(some 166), .off 0 (.t 9), none⟩ ::
    ⟨(some 167), .ld (.t 166), none⟩ ::
    ⟨(some 168), .bin .eql (.t 165) (.t 167), none⟩ ::
    ⟨(some 169), .mv (.t 168), none⟩ ::
    ⟨(some 170), .mv (.t 15), (some (169, true))⟩ ::
    ⟨(some 171), .not (.t 170), (some (169, true))⟩ ::
    ⟨(some 172), .pick (.t 169) (.t 171) (.c (.d (.bool false))), none⟩ ::
    ⟨(some 173), .mv (.t 172), none⟩ ::
    ⟨(some 174), .call (.c (.fn 30 [])) [], (some (173, true))⟩ ::
    ⟨(some 175), .pick (.t 173) (.t 174) (.c (.d (.bool false))), none⟩ ::
    ⟨(some 6), .mv (.t 175), none⟩ ::
    []))
  .ret) .skip))
  (.reg (⟨(some 176), .ldn 6 (.t 16), none⟩ ::
    ⟨none, .st 6 (.t 10) (.t 176), none⟩ ::
    []))))))))))
  (.reg (⟨(some 76), .mv (.t 11), none⟩ ::
    ⟨(some 77), .bin .add (.t 76) (.c (.d (.int .i64 1))), none⟩ ::
    ⟨(some 11), .mv (.t 77), none⟩ ::
    [])))))))
  (.seq (.reg (⟨(some 6), .mv (.c (.d (.bool false))), none⟩ ::
    []))
  .ret))))))) }
/-- garland/garlandlaw18.LookNot -/
def cf11 : CFun := { np := 3, nt := 146, res := [.tmp 6], body :=
  (.seq (.reg (⟨(some 3), .box (.t 0), none⟩ ::
    ⟨(some 4), .box (.t 1), none⟩ ::
    ⟨(some 5), .box (.t 2), none⟩ ::
    ⟨(some 6), .mv (.c (.d (.bool false))), none⟩ ::
    []))
  (.seq (.seq (.reg (⟨(some 10), .ldn 20 (.t 3), none⟩ ::
    ⟨(some 11), .call (.c (.fn 24 [])) [(.t 10)], none⟩ ::
    ⟨(some 12), .not (.t 11), none⟩ ::
    ⟨(some 13), .mv (.t 12), none⟩ ::
    ⟨(some 14), .ldn 20 (.t 3), (some (13, false))⟩ ::
    ⟨(some 15), .ldn 15 (.t 5), (some (13, false))⟩ ::
    ⟨(some 16), .call (.c (.fn 29 [])) [(.t 14), (.t 15)], (some (13, false))⟩ ::
    ⟨(some 17), .pick (.t 13) (.c (.d (.bool true))) (.t 16), none⟩ ::
    []))
  (.cond (.t 17) (.seq (.reg (⟨(some 18), .call (.c (.fn 30 [])) [], none⟩ ::
    ⟨(some 6), .mv (.t 18), none⟩ ::
    []))
  .ret) .skip))
  (.seq (.dreg (⟨(some 19), .ldn 20 (.t 3), none⟩ ::
    ⟨(some 20), .ldn 6 (.t 4), none⟩ ::
    ⟨(some 21), .ldn 15 (.t 5), none⟩ ::
    ⟨(some 22), .call (.c (.fn 35 [])) [(.t 19), (.t 20), (.t 21)], none⟩ ::
    ⟨(some 23), .ldn 20 (.t 3), none⟩ ::
    ⟨(some 24), .ldn 6 (.t 4), none⟩ ::
    ⟨(some 25), .call (.c (.fn 37 [])) [(.t 23), (.t 24)], none⟩ ::
    ⟨(some 7), .new [.d (.int .i64 0), .d (.int .i64 0), .d (.int .i64 0), .d (.bool false), .d (.bool false), .d (.int .i64 0)], none⟩ ::
    ⟨(some 8), .new [.d (.int .i64 0), .d (.int .i64 0), .d (.int .i64 0), .d (.bool false), .d (.bool false), .d (.int .i64 0)], none⟩ ::
    []) (⟨none, .st 6 (.t 7) (.t 22), none⟩ ::
    ⟨none, .st 6 (.t 8) (.t 25), none⟩ ::
    []))
  (.seq (.reg (⟨(some 26), .ldn 6 (.t 4), none⟩ ::
    ⟨(some 27), .call (.c (.fn 40 [])) [(.t 26)], none⟩ ::
    ⟨(some 28), .mv (.t 27), none⟩ ::
    ⟨(some 29), .off 4 (.t 4), (some (28, true))⟩ ::
    ⟨(some 30), .ld (.t 29), (some (28, true))⟩ ::
    ⟨(some 31), .not (.t 30), (some (28, true))⟩ ::
    ⟨(some 32), .pick (.t 28) (.t 31) (.c (.d (.bool false))), none⟩ ::
    ⟨(some 33), .mv (.t 32), none⟩ ::
    ⟨(some 34), .off 5 (.t 4), (some (33, true))⟩ ::
    ⟨(some 35), .ld (.t 34), (some (33, true))⟩ ::
    ⟨(some 36), .bin .eql (.t 35) (.c (.d (.int .i64 0))), (some (33, true))⟩ ::
    ⟨(some 37), .pick (.t 33) (.t 36) (.c (.d (.bool false))), none⟩ ::
    ⟨(some 38), .mv (.t 37), none⟩ ::
    ⟨(some 39), .ldn 15 (.t 5), (some (38, true))⟩ ::
    ⟨(some 40), .call (.c (.fn 28 [])) [(.t 39)], (some (38, true))⟩ ::
    ⟨(some 41), .pick (.t 38) (.t 40) (.c (.d (.bool false))), none⟩ ::
    ⟨(some 42), .mv (.t 41), none⟩ ::
    ⟨(some 43), .off 0 (.t 5), (some (42, true))⟩ ::
    ⟨(some 44), .ld (.t 43), (some (42, true))⟩ ::
    ⟨(some 45), .bin .eql (.t 44) (.c (.d (.int .u8 10))), (some (42, true))⟩ ::
    ⟨(some 46), .pick (.t 42) (.t 45) (.c (.d (.bool false))), none⟩ ::
    ⟨(some 47), .mv (.t 46), none⟩ ::
    ⟨(some 48), .off 2 (.t 5), (some (47, true))⟩ ::
    ⟨(some 49), .ld (.t 48), (some (47, true))⟩ ::
    ⟨(some 50), .off 1 (.t 4), (some (47, true))⟩ ::
    ⟨(some 51), .ld (.t 50), (some (47, true))⟩ ::
    ⟨(some 52), .bin .eql (.t 49) (.t 51), (some (47, true))⟩ ::
    ⟨(some 53), .pick (.t 47) (.t 52) (.c (.d (.bool false))), none⟩ ::
    ⟨(some 54), .mv (.t 53), none⟩ ::
    ⟨(some 55), .off 3 (.t 5), (some (54, true))⟩ ::
    ⟨(some 56), .ld (.t 55), (some (54, true))⟩ ::
    ⟨(some 57), .off 0 (.t 3), (some (54, true))⟩ ::
    ⟨(some 58), .ld (.t 57), (some (54, true))⟩ ::
    ⟨(some 59), .bin .eql (.t 56) (.t 58), (some (54, true))⟩ ::
    ⟨(some 60), .pick (.t 54) (.t 59) (.c (.d (.bool false))), none⟩ ::
    ⟨(some 9), .mv (.t 60), none⟩ ::
    []))
  (.seq (.seq (.reg (⟨(some 61), .mv (.t 9), none⟩ ::
    ⟨(some 62), .not (.t 61), none⟩ ::
    ⟨(some 63), .mv (.t 62), none⟩ ::
    ⟨(some 64), .ldn 6 (.t 7), (some (63, true))⟩ ::
    ⟨(some 65), .ldn 6 (.t 4), (some (63, true))⟩ ::
    ⟨(some 66), .eqs true [0, 0, 0, 1, 1, 0] (.t 64) (.t 65), (some (63, true))⟩ ::
    ⟨(some 67), .pick (.t 63) (.t 66) (.c (.d (.bool false))), none⟩ ::
    ⟨(some 68), .mv (.t 67), none⟩ ::
    ⟨(some 69), .mv (.t 9), (some (68, false))⟩ ::
    ⟨(some 70), .mv (.t 69), (some (68, false))⟩ ::
    ⟨(some 71), .off 2 (.t 7), (some (70, true))⟩ ::
    ⟨(some 72), .ld (.t 71), (some (70, true))⟩ ::
    ⟨(some 73), .off 2 (.t 4), (some (70, true))⟩ ::
    ⟨(some 74), .ld (.t 73), (some (70, true))⟩ ::
    ⟨(some 75), .bin .add (.t 74) (.c (.d (.int .i64 1))), (some (70, true))⟩ ::
    ⟨(some 76), .bin .neq (.t 72) (.t 75), (some (70, true))⟩ ::
    ⟨(some 77), .mv (.t 76), (some (70, true))⟩ ::
    ⟨(some 78), .off 0 (.t 7), (some (77, false))⟩ ::
    ⟨(some 79), .ld (.t 78), (some (77, false))⟩ ::
    ⟨(some 80), .off 0 (.t 4), (some (77, false))⟩ ::
    ⟨(some 81), .ld (.t 80), (some (77, false))⟩ ::
    ⟨(some 82), .bin .neq (.t 79) (.t 81), (some (77, false))⟩ ::
    ⟨(some 83), .pick (.t 77) (.c (.d (.bool true))) (.t 82), (some (70, true))⟩ ::
    ⟨(some 84), .mv (.t 83), (some (70, true))⟩ ::
    ⟨(some 85), .off 3 (.t 7), (some (84, false))⟩ ::
    ⟨(some 86), .ld (.t 85), (some (84, false))⟩ ::
    ⟨(some 87), .off 3 (.t 4), (some (84, false))⟩ ::
    ⟨(some 88), .ld (.t 87), (some (84, false))⟩ ::
    ⟨(some 89), .eqb true (.t 86) (.t 88), (some (84, false))⟩ ::
    ⟨(some 90), .pick (.t 84) (.c (.d (.bool true))) (.t 89), (some (70, true))⟩ ::
    ⟨(some 91), .pick (.t 70) (.t 90) (.c (.d (.bool false))), (some (68, false))⟩ ::
    ⟨(some 92), .pick (.t 68) (.c (.d (.bool true))) (.t 91), none⟩ ::
    []))
  (.cond (.t 92) (.seq (.reg (⟨(some 6), .mv (.c (.d (.bool false))), none⟩ ::
    []))
  .ret) .skip))
  (.seq (.seq (.reg (⟨(some 93), .off 4 (.t 4), none⟩ ::
    ⟨(some 94), .ld (.t 93), none⟩ ::
    ⟨(some 95), .mv (.t 94), none⟩ ::
    ⟨(some 96), .off 5 (.t 4), (some (95, false))⟩ ::
    ⟨(some 97), .ld (.t 96), (some (95, false))⟩ ::
    ⟨(some 98), .bin .neq (.t 97) (.c (.d (.int .i64 0))), (some (95, false))⟩ ::
    ⟨(some 99), .pick (.t 95) (.c (.d (.bool true))) (.t 98), none⟩ ::
    ⟨(some 100), .mv (.t 99), none⟩ ::
    ⟨(some 101), .ldn 6 (.t 4), (some (100, false))⟩ ::
    ⟨(some 102), .call (.c (.fn 40 [])) [(.t 101)], (some (100, false))⟩ ::
    ⟨(some 103), .not (.t 102), (some (100, false))⟩ ::
    ⟨(some 104), .pick (.t 100) (.c (.d (.bool true))) (.t 103), none⟩ ::
    []))
  (.cond (.t 104) (.seq (.reg (⟨(some 105), .ldn 6 (.t 8), none⟩ ::
    ⟨(some 106), .ldn 6 (.t 4), none⟩ ::
    ⟨(some 107), .eqs false [0, 0, 0, 1, 1, 0] (.t 105) (.t 106), none⟩ ::
    ⟨(some 108), .mv (.t 107), none⟩ ::
    ⟨(some 109), .call (.c (.fn 30 [])) [], (some (108, true))⟩ ::
    ⟨(some 110), .pick (.t 108) (.t 109) (.c (.d (.bool false))), none⟩ ::
    ⟨(some 6), .mv (.t 110), none⟩ ::
    []))
  .ret) .skip))
  (.seq (.reg (⟨(some 111), .off 2 (.t 8), none⟩ ::
    ⟨(some 112), .ld (.t 111), none⟩ ::
    ⟨(some 113), .off 2 (.t 4), none⟩ ::
    ⟨(some 114), .ld (.t 113), none⟩ ::
    ⟨(some 115), .bin .add (.t 114) (.c (.d (.int .i64 1))), none⟩ ::
    ⟨(some 116), .bin .eql (.t 112) (.t 115), none⟩ ::
    ⟨(some 117), .mv (.t 116), none⟩ ::
    ⟨(some 118), .off 5 (.t 8), (some (117, true))⟩ ::
    ⟨(some 119), .ld (.t 118), (some (117, true))⟩ ::
    ⟨(some 120), .bin .eql (.t 119) (.c (.d (.int .i64 211))), (some (117, true))⟩ ::
    ⟨(some 121), .off 2 (.t 4), (some (117, true))⟩ ::
    ⟨(some 122), .ld (.t 121), (some (117, true))⟩ ::
    ⟨(some 123), .bin .geq (.t 122) (.c (.d (.int .i64 40))), (some (117, true))⟩ ::
    ⟨(some 124), .eqb false (.t 120) (.t 123), (some (117, true))⟩ ::
    ⟨(some 125), .pick (.t 117) (.t 124) (.c (.d (.bool false))), none⟩ ::
    ⟨(some 126), .mv (.t 125), none⟩ ::
    ⟨(some 127), .off 3 (.t 8), (some (126, true))⟩ ::
    ⟨(some 128), .ld (.t 127), (some (126, true))⟩ ::
    ⟨(some 129), .mv (.t 128), (some (126, true))⟩ ::
    ⟨(some 130), .off 5 (.t 8), (some (129, false))⟩ ::
    ⟨(some 131), .ld (.t 130), (some (129, false))⟩ ::
    ⟨(some 132), .bin .eql (.t 131) (.c (.d (.int .i64 211))), (some (129, false))⟩ ::
    ⟨(some 133), .pick (.t 129) (.c (.d (.bool true))) (.t 132), (some (126, true))⟩ ::
    ⟨(some 134), .pick (.t 126) (.t 133) (.c (.d (.bool false))), none⟩ ::
    ⟨(some 135), .mv (.t 134), none⟩ ::
    ⟨(some 136), .ldn 6 (.t 8), (some (135, true))⟩ ::
    ⟨(some 137), .call (.c (.fn 39 [])) [(.t 136)], (some (135, true))⟩ ::
    ⟨(some 138), .pick (.t 135) (.t 137) (.c (.d (.bool false))), none⟩ ::
    ⟨(some 139), .mv (.t 138), none⟩ ::
    ⟨(some 140), .ldn 6 (.t 7), (some (139, true))⟩ ::
    ⟨(some 141), .call (.c (.fn 39 [])) [(.t 140)], (some (139, true))⟩ ::
    ⟨(some 142), .pick (.t 139) (.t 141) (.c (.d (.bool false))), none⟩ ::
    ⟨(some 143), .mv (.t 142), none⟩ ::
    ⟨(some 144), .call (.c (.fn 30 [])) [], (some (143, true))⟩ ::
    ⟨(some 145), .pick (.t 143) (.t 144) (.c (.d (.bool false))), none⟩ ::
    ⟨(some 6), .mv (.t 145), none⟩ ::
    []))
  .ret))))))) }
/-- garland/garlandlaw18.LookOwn -/
def cf12 : CFun := { np := 2, nt := 110, res := [.tmp 4], body :=
  (.seq (.reg (⟨(some 2), .box (.t 0), none⟩ ::
    ⟨(some 4), .mv (.c (.d (.bool false))), none⟩ ::
    []))
  (.seq (.seq (.reg (⟨(some 10), .ldn 20 (.t 2), none⟩ ::
    ⟨(some 11), .call (.c (.fn 24 [])) [(.t 10)], none⟩ ::
    ⟨(some 12), .not (.t 11), none⟩ ::
    []))
  (.cond (.t 12) (.seq (.reg (⟨(some 13), .ldn 20 (.t 2), none⟩ ::
    ⟨(some 14), .mv (.t 1), none⟩ ::
    ⟨(some 15), .call (.c (.fn 33 [])) [(.t 13), (.t 14)], none⟩ ::
    ⟨(some 16), .bld [.d (.int .i64 0), .d (.int .i64 0), .d (.int .i64 0), .d (.bool false), .d (.bool false), .d (.int .i64 0)] [], none⟩ ::
    ⟨(some 17), .eqs false [0, 0, 0, 1, 1, 0] (.t 15) (.t 16), none⟩ ::
    ⟨(some 18), .mv (.t 17), none⟩ ::
    ⟨(some 19), .call (.c (.fn 30 [])) [], (some (18, true))⟩ ::
    ⟨(some 20), .pick (.t 18) (.t 19) (.c (.d (.bool false))), none⟩ ::
    ⟨(some 4), .mv (.t 20), none⟩ ::
    []))
  .ret) .skip))
  (.seq (.reg (⟨(some 21), .ldn 20 (.t 2), none⟩ ::
    ⟨(some 22), .mv (.t 1), none⟩ ::
    ⟨(some 23), .call (.c (.fn 33 [])) [(.t 21), (.t 22)], none⟩ ::
    ⟨(some 5), .new [.d (.int .i64 0), .d (.int .i64 0), .d (.int .i64 0), .d (.bool false), .d (.bool false), .d (.int .i64 0)], none⟩ ::
    ⟨none, .st 6 (.t 5) (.t 23), none⟩ ::
    []))
  (.seq (.reg (⟨(some 25), .ldn 20 (.t 2), none⟩ ::
    ⟨(some 26), .mv (.t 1), none⟩ ::
    ⟨(some 27), .call (.c (.fn 16 [])) [(.t 25), (.t 26), (.c (.d (.bool false)))], none⟩ ::
    ⟨(some 24), .mv (.t 27), none⟩ ::
    ⟨(some 28), .ext (.t 24) 0, none⟩ ::
    ⟨(some 29), .ext (.t 24) 1, none⟩ ::
    ⟨(some 6), .mv (.t 28), none⟩ ::
    ⟨(some 7), .mv (.t 29), none⟩ ::
    []))
  (.seq (.seq (.reg (⟨(some 30), .off 1 (.t 5), none⟩ ::
    ⟨(some 31), .ld (.t 30), none⟩ ::
    ⟨(some 32), .mv (.t 6), none⟩ ::
    ⟨(some 33), .bin .neq (.t 31) (.t 32), none⟩ ::
    ⟨(some 34), .mv (.t 33), none⟩ ::
    ⟨(some 35), .off 4 (.t 5), (some (34, false))⟩ ::
    ⟨(some 36), .ld (.t 35), (some (34, false))⟩ ::
    ⟨(some 37), .mv (.t 7), (some (34, false))⟩ ::
    ⟨(some 38), .eqb true (.t 36) (.t 37), (some (34, false))⟩ ::
    ⟨(some 39), .pick (.t 34) (.c (.d (.bool true))) (.t 38), none⟩ ::
    ⟨(some 40), .mv (.t 39), none⟩ ::
    ⟨(some 41), .off 2 (.t 5), (some (40, false))⟩ ::
    ⟨(some 42), .ld (.t 41), (some (40, false))⟩ ::
    ⟨(some 43), .bin .neq (.t 42) (.c (.d (.int .i64 0))), (some (40, false))⟩ ::
    ⟨(some 44), .pick (.t 40) (.c (.d (.bool true))) (.t 43), none⟩ ::
    ⟨(some 45), .mv (.t 44), none⟩ ::
    ⟨(some 46), .off 3 (.t 5), (some (45, false))⟩ ::
    ⟨(some 47), .ld (.t 46), (some (45, false))⟩ ::
    ⟨(some 48), .pick (.t 45) (.c (.d (.bool true))) (.t 47), none⟩ ::
    ⟨(some 49), .mv (.t 48), none⟩ ::
    ⟨(some 50), .off 5 (.t 5), (some (49, false))⟩ ::
    ⟨(some 51), .ld (.t 50), (some (49, false))⟩ ::
    ⟨(some 52), .bin .neq (.t 51) (.c (.d (.int .i64 0))), (some (49, false))⟩ ::
    ⟨(some 53), .pick (.t 49) (.c (.d (.bool true))) (.t 52), none⟩ ::
    []))
  (.cond (.t 53) (.seq (.reg (⟨(some 4), .mv (.c (.d (.bool false))), none⟩ ::
    []))
  .ret) .skip))
  (.seq (.seq (.reg (⟨(some 54), .mv (.t 7), none⟩ ::
    []))
  (.cond (.t 54) (.seq (.reg (⟨(some 55), .call (.c (.fn 30 [])) [], none⟩ ::
    ⟨(some 4), .mv (.t 55), none⟩ ::
    []))
  .ret) .skip))
  (.seq (.dreg (⟨(some 56), .ldn 20 (.t 2), none⟩ ::
    ⟨(some 57), .ldn 6 (.t 5), none⟩ ::
    ⟨(some 58), .off 1 (.t 5), none⟩ ::
    ⟨(some 59), .ld (.t 58), none⟩ ::
    ⟨(some 60), .off 0 (.t 2), none⟩ ::
    ⟨(some 61), .ld (.t 60), none⟩ ::
    ⟨(some 62), .off 0 (.t 2), none⟩ ::
    ⟨(some 63), .ld (.t 62), none⟩ ::
    ⟨(some 64), .call (.c (.fn 43 [])) [(.t 59), (.t 61), (.t 63), (.c (.d (.bool false)))], none⟩ ::
    ⟨(some 65), .call (.c (.fn 35 [])) [(.t 56), (.t 57), (.t 64)], none⟩ ::
    ⟨(some 8), .new [.d (.int .i64 0), .d (.int .i64 0), .d (.int .i64 0), .d (.bool false), .d (.bool false), .d (.int .i64 0)], none⟩ ::
    []) (⟨none, .st 6 (.t 8) (.t 65), none⟩ ::
    []))
  (.seq (.dreg (⟨(some 66), .ldn 20 (.t 2), none⟩ ::
    ⟨(some 67), .ldn 6 (.t 5), none⟩ ::
    ⟨(some 68), .off 1 (.t 5), none⟩ ::
    ⟨(some 69), .ld (.t 68), none⟩ ::
    ⟨(some 70), .off 0 (.t 2), none⟩ ::
    ⟨(some 71), .ld (.t 70), none⟩ ::
    ⟨(some 72), .off 0 (.t 2), none⟩ ::
    ⟨(some 73), .ld (.t 72), none⟩ ::
    ⟨(some 74), .call (.c (.fn 43 [])) [(.t 69), (.t 71), (.t 73), (.c (.d (.bool true)))], none⟩ ::
    ⟨(some 75), .call (.c (.fn 35 [])) [(.t 66), (.t 67), (.t 74)], none⟩ ::
    ⟨(some 9), .new [.d (.int .i64 0), .d (.int .i64 0), .d (.int .i64 0), .d (.bool false), .d (.bool false), .d (.int .i64 0)], none⟩ ::
    []) (⟨none, .st 6 (.t 9) (.t 75), none⟩ ::
    []))
  (.seq (.reg (⟨(some 76), .off 1 (.t 8), none⟩ ::
    ⟨(some 77), .ld (.t 76), none⟩ ::
    ⟨(some 78), .mv (.t 6), none⟩ ::
    ⟨(some 79), .bin .eql (.t 77) (.t 78), none⟩ ::
    ⟨(some 80), .mv (.t 79), none⟩ ::
    ⟨(some 81), .off 4 (.t 8), (some (80, true))⟩ ::
    ⟨(some 82), .ld (.t 81), (some (80, true))⟩ ::
    ⟨(some 83), .mv (.t 7), (some (80, true))⟩ ::
    ⟨(some 84), .eqb false (.t 82) (.t 83), (some (80, true))⟩ ::
    ⟨(some 85), .pick (.t 80) (.t 84) (.c (.d (.bool false))), none⟩ ::
    ⟨(some 86), .mv (.t 85), none⟩ ::
    ⟨(some 87), .off 2 (.t 8), (some (86, true))⟩ ::
    ⟨(some 88), .ld (.t 87), (some (86, true))⟩ ::
    ⟨(some 89), .bin .eql (.t 88) (.c (.d (.int .i64 1))), (some (86, true))⟩ ::
    ⟨(some 90), .pick (.t 86) (.t 89) (.c (.d (.bool false))), none⟩ ::
    ⟨(some 91), .mv (.t 90), none⟩ ::
    ⟨(some 92), .off 1 (.t 9), (some (91, true))⟩ ::
    ⟨(some 93), .ld (.t 92), (some (91, true))⟩ ::
    ⟨(some 94), .off 0 (.t 2), (some (91, true))⟩ ::
    ⟨(some 95), .ld (.t 94), (some (91, true))⟩ ::
    ⟨(some 96), .bin .eql (.t 93) (.t 95), (some (91, true))⟩ ::
    ⟨(some 97), .pick (.t 91) (.t 96) (.c (.d (.bool false))), none⟩ ::
    ⟨(some 98), .mv (.t 97), none⟩ ::
    ⟨(some 99), .off 4 (.t 9), (some (98, true))⟩ ::
    ⟨(some 100), .ld (.t 99), (some (98, true))⟩ ::
    ⟨(some 101), .pick (.t 98) (.t 100) (.c (.d (.bool false))), none⟩ ::
    ⟨(some 102), .mv (.t 101), none⟩ ::
    ⟨(some 103), .off 2 (.t 9), (some (102, true))⟩ ::
    ⟨(some 104), .ld (.t 103), (some (102, true))⟩ ::
    ⟨(some 105), .bin .eql (.t 104) (.c (.d (.int .i64 1))), (some (102, true))⟩ ::
    ⟨(some 106), .pick (.t 102) (.t 105) (.c (.d (.bool false))), none⟩ ::
    ⟨(some 107), .mv (.t 106), none⟩ ::
    ⟨(some 108), .call (.c (.fn 30 [])) [], (some (107, true))⟩ ::
    ⟨(some 109), .pick (.t 107) (.t 108) (.c (.d (.bool false))), none⟩ ::
    ⟨(some 4), .mv (.t 109), none⟩ ::
    []))
  .ret))))))))) }
/-- garland/garlandref13.Great -/
def cf13 : CFun := { np := 1, nt := 13, res := [.tmp 2], body :=
  (.seq (.reg (⟨(some 1), .box (.t 0), none⟩ ::
    ⟨(some 2), .mv (.c (.d (.bool false))), none⟩ ::
    []))
  (.seq (.reg (⟨(some 3), .off 1 (.t 1), none⟩ ::
    ⟨(some 4), .ld (.t 3), none⟩ ::
    ⟨(some 5), .len false (.t 4), none⟩ ::
    ⟨(some 6), .bin .gtr (.t 5) (.c (.d (.int .i64 20))), none⟩ ::
    ⟨(some 7), .mv (.t 6), none⟩ ::
    ⟨(some 8), .off 2 (.t 1), (some (7, false))⟩ ::
    ⟨(some 9), .ld (.t 8), (some (7, false))⟩ ::
    ⟨(some 10), .len false (.t 9), (some (7, false))⟩ ::
    ⟨(some 11), .bin .gtr (.t 10) (.c (.d (.int .i64 20))), (some (7, false))⟩ ::
    ⟨(some 12), .pick (.t 7) (.c (.d (.bool true))) (.t 11), none⟩ ::
    ⟨(some 2), .mv (.t 12), none⟩ ::
    []))
  .ret)) }
/-- garland/garlandlaw16.wakes -/
def cf14 : CFun := { np := 0, nt := 119, res := [.tmp 0], body :=
  (.seq (.reg (⟨(some 0), .mv (.c (.d (.bool false))), none⟩ ::
    []))
  (.seq (.reg (⟨(some 14), .bls [.d (.int .i64 0), .d (.int .i64 0)] 2 1 [(0, 1, (.c (.d (.int .i64 1)))), (1, 1, (.c (.d (.int .i64 40000))))], none⟩ ::
    ⟨(some 15), .call (.c (.fn 44 [])) [(.c (.d (.int .i64 5))), (.t 14)], none⟩ ::
    ⟨(some 13), .mv (.t 15), none⟩ ::
    ⟨(some 16), .ext (.t 13) 0, none⟩ ::
    ⟨(some 17), .ext (.t 13) 1, none⟩ ::
    ⟨(some 1), .new [.d (.int .i64 0), .nils, .nils, .d (.int .i64 0), .d (.int .i64 0), .d (.int .i64 0), .d (.int .i64 0), .d (.int .i64 0), .d (.int .i64 0), .d (.int .i64 0), .d (.int .i64 0), .d (.int .i64 0), .d (.int .i64 0), .d (.int .i64 0), .d (.int .i64 0), .d (.int .i64 0), .d (.int .i64 0), .d (.int .i64 0), .d (.int .i64 0), .d (.int .i64 0)], none⟩ ::
    ⟨none, .st 20 (.t 1) (.t 16), none⟩ ::
    ⟨(some 2), .mv (.t 17), none⟩ ::
    []))
  (.seq (.reg (⟨(some 18), .bls [.d (.int .i64 0)] 1 1 [(0, 1, (.c (.d (.int .i64 9))))], none⟩ ::
    ⟨(some 19), .off 2 (.t 1), none⟩ ::
    ⟨none, .st 1 (.t 19) (.t 18), none⟩ ::
    []))
  (.seq (.reg (⟨(some 20), .off 4 (.t 1), none⟩ ::
    ⟨(some 21), .ixa 16 1 (.t 20) (.c (.d (.int .i64 4))), none⟩ ::
    ⟨none, .st 1 (.t 21) (.c (.d (.int .i64 30))), none⟩ ::
    []))
  (.seq (.reg (⟨(some 23), .ldn 20 (.t 1), none⟩ ::
    ⟨(some 24), .call (.c (.fn 15 [])) [(.t 23), (.c (.d (.int .i64 7))), (.c (.d (.bool false)))], none⟩ ::
    ⟨(some 22), .mv (.t 24), none⟩ ::
    ⟨(some 25), .ext (.t 22) 0, none⟩ ::
    ⟨(some 26), .ext (.t 22) 1, none⟩ ::
    ⟨(some 3), .mv (.t 25), none⟩ ::
    ⟨(some 4), .mv (.t 26), none⟩ ::
    []))
  (.seq (.reg (⟨(some 28), .ldn 20 (.t 1), none⟩ ::
    ⟨(some 29), .call (.c (.fn 15 [])) [(.t 28), (.c (.d (.int .i64 100))), (.c (.d (.bool false)))], none⟩ ::
    ⟨(some 27), .mv (.t 29), none⟩ ::
    ⟨(some 30), .ext (.t 27) 0, none⟩ ::
    ⟨(some 31), .ext (.t 27) 1, none⟩ ::
    ⟨(some 5), .mv (.t 30), none⟩ ::
    ⟨(some 6), .mv (.t 31), none⟩ ::
    []))
  (.seq (.reg (⟨(some 33), .ldn 20 (.t 1), none⟩ ::
    ⟨(some 34), .call (.c (.fn 15 [])) [(.t 33), (.c (.d (.int .i64 100))), (.c (.d (.bool true)))], none⟩ ::
    ⟨(some 32), .mv (.t 34), none⟩ ::
    ⟨(some 35), .ext (.t 32) 0, none⟩ ::
    ⟨(some 36), .ext (.t 32) 1, none⟩ ::
    ⟨(some 7), .mv (.t 35), none⟩ ::
    ⟨(some 8), .mv (.t 36), none⟩ ::
    []))
  (.seq (.reg (⟨(some 38), .ldn 20 (.t 1), none⟩ ::
    ⟨(some 39), .call (.c (.fn 15 [])) [(.t 38), (.c (.d (.int .i64 20))), (.c (.d (.bool false)))], none⟩ ::
    ⟨(some 37), .mv (.t 39), none⟩ ::
    ⟨(some 40), .ext (.t 37) 0, none⟩ ::
    ⟨(some 41), .ext (.t 37) 1, none⟩ ::
    ⟨(some 9), .mv (.t 40), none⟩ ::
    ⟨(some 10), .mv (.t 41), none⟩ ::
    []))
  (.seq (.reg (⟨(some 42), .bld [.d (.int .u8 0), .d (.int .i64 0), .d (.int .i64 0), .d (.int .i64 0), .d (.int .i64 0), .d (.bool false), .d (.bool false), .d (.int .i64 0), .d (.int .i64 0), .nils, .d (.str []), .d (.int .i64 0), .d (.int .i64 0), .d (.bool false), .d (.int .i64 0)] [(0, 1, (.c (.d (.int .u8 4)))), (1, 1, (.c (.d (.int .i64 3145729)))), (2, 1, (.c (.d (.int .i64 3)))), (3, 1, (.c (.d (.int .i64 5)))), (4, 1, (.c (.d (.int .i64 100))))], none⟩ ::
    ⟨(some 11), .new [.d (.int .u8 0), .d (.int .i64 0), .d (.int .i64 0), .d (.int .i64 0), .d (.int .i64 0), .d (.bool false), .d (.bool false), .d (.int .i64 0), .d (.int .i64 0), .nils, .d (.str []), .d (.int .i64 0), .d (.int .i64 0), .d (.bool false), .d (.int .i64 0)], none⟩ ::
    ⟨none, .st 15 (.t 11) (.t 42), none⟩ ::
    []))
  (.seq (.reg (⟨(some 43), .ldn 20 (.t 1), none⟩ ::
    ⟨(some 44), .ldn 15 (.t 11), none⟩ ::
    ⟨(some 45), .call (.c (.fn 20 [])) [(.t 43), (.t 44)], none⟩ ::
    ⟨(some 12), .new [.d (.int .u8 0), .d (.int .i64 0), .d (.int .i64 0), .d (.int .i64 0), .d (.int .i64 0), .d (.bool false), .d (.bool false), .d (.int .i64 0), .d (.int .i64 0), .nils, .d (.str []), .d (.int .i64 0), .d (.int .i64 0), .d (.bool false), .d (.int .i64 0)], none⟩ ::
    ⟨none, .st 15 (.t 12) (.t 45), none⟩ ::
    []))
  (.seq (.reg (⟨(some 46), .mv (.t 3), none⟩ ::
    ⟨(some 47), .bin .eql (.t 46) (.c (.d (.int .i64 9))), none⟩ ::
    ⟨(some 48), .mv (.t 47), none⟩ ::
    ⟨(some 49), .mv (.t 4), (some (48, true))⟩ ::
    ⟨(some 50), .pick (.t 48) (.t 49) (.c (.d (.bool false))), none⟩ ::
    ⟨(some 51), .mv (.t 50), none⟩ ::
    ⟨(some 52), .mv (.t 5), (some (51, true))⟩ ::
    ⟨(some 53), .bin .eql (.t 52) (.c (.d (.int .i64 30))), (some (51, true))⟩ ::
    ⟨(some 54), .pick (.t 51) (.t 53) (.c (.d (.bool false))), none⟩ ::
    ⟨(some 55), .mv (.t 54), none⟩ ::
    ⟨(some 56), .mv (.t 6), (some (55, true))⟩ ::
    ⟨(some 57), .not (.t 56), (some (55, true))⟩ ::
    ⟨(some 58), .pick (.t 55) (.t 57) (.c (.d (.bool false))), none⟩ ::
    ⟨(some 59), .mv (.t 58), none⟩ ::
    ⟨(some 60), .mv (.t 7), (some (59, true))⟩ ::
    ⟨(some 61), .bin .eql (.t 60) (.c (.d (.int .i64 9))), (some (59, true))⟩ ::
    ⟨(some 62), .pick (.t 59) (.t 61) (.c (.d (.bool false))), none⟩ ::
    ⟨(some 63), .mv (.t 62), none⟩ ::
    ⟨(some 64), .mv (.t 8), (some (63, true))⟩ ::
    ⟨(some 65), .not (.t 64), (some (63, true))⟩ ::
    ⟨(some 66), .pick (.t 63) (.t 65) (.c (.d (.bool false))), none⟩ ::
    ⟨(some 67), .mv (.t 66), none⟩ ::
    ⟨(some 68), .mv (.t 9), (some (67, true))⟩ ::
    ⟨(some 69), .bin .eql (.t 68) (.c (.d (.int .i64 9))), (some (67, true))⟩ ::
    ⟨(some 70), .pick (.t 67) (.t 69) (.c (.d (.bool false))), none⟩ ::
    ⟨(some 71), .mv (.t 70), none⟩ ::
    ⟨(some 72), .mv (.t 10), (some (71, true))⟩ ::
    ⟨(some 73), .not (.t 72), (some (71, true))⟩ ::
    ⟨(some 74), .pick (.t 71) (.t 73) (.c (.d (.bool false))), none⟩ ::
    ⟨(some 75), .mv (.t 74), none⟩ ::
    ⟨(some 76), .off 0 (.t 12), (some (75, true))⟩ ::
    ⟨(some 77), .ld (.t 76), (some (75, true))⟩ ::
    ⟨(some 78), .bin .eql (.t 77) (.c (.d (.int .u8 10))), (some (75, true))⟩ ::
    ⟨(some 79), .pick (.t 75) (.t 78) (.c (.d (.bool false))), none⟩ ::
    ⟨(some 80), .mv (.t 79), none⟩ ::
    ⟨(some 81), .off 7 (.t 12), (some (80, true))⟩ ::
    ⟨(some 82), .ld (.t 81), (some (80, true))⟩ ::
    ⟨(some 83), .bin .eql (.t 82) (.c (.d (.int .i64 30))), (some (80, true))⟩ ::
    ⟨(some 84), .pick (.t 80) (.t 83) (.c (.d (.bool false))), none⟩ ::
    ⟨(some 85), .mv (.t 84), none⟩ ::
    ⟨(some 86), .off 6 (.t 12), (some (85, true))⟩ ::
    ⟨(some 87), .ld (.t 86), (some (85, true))⟩ ::
    ⟨(some 88), .not (.t 87), (some (85, true))⟩ ::
    ⟨(some 89), .pick (.t 85) (.t 88) (.c (.d (.bool false))), none⟩ ::
    ⟨(some 90), .mv (.t 89), none⟩ ::
    ⟨(some 91), .off 3 (.t 12), (some (90, true))⟩ ::
    ⟨(some 92), .ld (.t 91), (some (90, true))⟩ ::
    ⟨(some 93), .bin .eql (.t 92) (.c (.d (.int .i64 3))), (some (90, true))⟩ ::
    ⟨(some 94), .pick (.t 90) (.t 93) (.c (.d (.bool false))), none⟩ ::
    ⟨(some 95), .mv (.t 94), none⟩ ::
    ⟨(some 96), .ldn 20 (.t 1), (some (95, true))⟩ ::
    ⟨(some 97), .call (.c (.fn 17 [])) [(.t 96), (.c (.d (.int .i64 5)))], (some (95, true))⟩ ::
    ⟨(some 98), .bin .eql (.t 97) (.c (.d (.int .i64 65536))), (some (95, true))⟩ ::
    ⟨(some 99), .pick (.t 95) (.t 98) (.c (.d (.bool false))), none⟩ ::
    ⟨(some 100), .mv (.t 99), none⟩ ::
    ⟨(some 101), .ldn 20 (.t 1), (some (100, true))⟩ ::
    ⟨(some 102), .call (.c (.fn 17 [])) [(.t 101), (.c (.d (.int .i64 7)))], (some (100, true))⟩ ::
    ⟨(some 103), .bin .eql (.t 102) (.c (.d (.int .i64 2))), (some (100, true))⟩ ::
    ⟨(some 104), .pick (.t 100) (.t 103) (.c (.d (.bool false))), none⟩ ::
    ⟨(some 105), .mv (.t 104), none⟩ ::
    ⟨(some 106), .call (.c (.fn 22 [])) [(.c (.d (.int .i64 7))), (.c (.d (.int .i64 5))), (.c (.d (.int .i64 6)))], (some (105, true))⟩ ::
    ⟨(some 107), .pick (.t 105) (.t 106) (.c (.d (.bool false))), none⟩ ::
    ⟨(some 108), .mv (.t 107), none⟩ ::
    ⟨(some 109), .call (.c (.fn 22 [])) [(.c (.d (.int .i64 7))), (.c (.d (.int .i64 5))), (.c (.d (.int .i64 7)))], (some (108, true))⟩ ::
    ⟨(some 110), .not (.t 109), (some (108, true))⟩ ::
    ⟨(some 111), .pick (.t 108) (.t 110) (.c (.d (.bool false))), none⟩ ::
    ⟨(some 112), .mv (.t 111), none⟩ ::
    ⟨(some 113), .ldn 20 (.t 1), (some (112, true))⟩ ::
    ⟨(some 114), .bld [.d (.int .u8 0), .d (.int .i64 0), .d (.int .i64 0), .d (.int .i64 0), .d (.int .i64 0), .d (.bool false), .d (.bool false), .d (.int .i64 0), .d (.int .i64 0), .nils, .d (.str []), .d (.int .i64 0), .d (.int .i64 0), .d (.bool false), .d (.int .i64 0)] [], (some (112, true))⟩ ::
    ⟨(some 115), .call (.c (.fn 20 [])) [(.t 113), (.t 114)], (some (112, true))⟩ ::
    ⟨(some 116), .fld 0 (.t 115), (some (112, true))⟩ ::
    ⟨(some 117), .bin .eql (.t 116) (.c (.d (.int .u8 0))), (some (112, true))⟩ ::
    ⟨(some 118), .pick (.t 112) (.t 117) (.c (.d (.bool false))), none⟩ ::
    ⟨(some 0), .mv (.t 118), none⟩ ::
    []))
  .ret))))))))))) }
/-- garland/hop.Next -/
def cf15 : CFun := { np := 3, nt := 41, res := [.cell 6, .tmp 7], body :=
  (.seq (.reg (⟨(some 3), .box (.t 0), none⟩ ::
    ⟨(some 6), .new [.d (.int .i64 0)], none⟩ ::
    ⟨(some 7), .mv (.c (.d (.bool false))), none⟩ ::
    []))
  (.seq (.reg (⟨(some 11), .ldn 20 (.t 3), none⟩ ::
    ⟨(some 12), .call (.c (.fn 45 [])) [(.t 11)], none⟩ ::
    ⟨(some 8), .mv (.t 12), none⟩ ::
    []))
  (.seq (.reg (⟨(some 13), .mkf 46 [(.t 3)], none⟩ ::
    ⟨(some 9), .new [.nilf], none⟩ ::
    ⟨none, .st 1 (.t 9) (.t 13), none⟩ ::
    []))
  (.seq (.block 0 (.seq (.reg (⟨(some 15), .mv (.t 8), none⟩ ::
    ⟨(some 16), .bin .lss (.t 15) (.c (.d (.int .i64 0))), none⟩ ::
    ⟨(some 14), .mv (.t 16), none⟩ ::
    []))
  (.cond (.t 14) (.seq (.reg (⟨none, .st 1 (.t 6) (.c (.d (.int .i64 (-1)))), none⟩ ::
    ⟨(some 7), .mv (.c (.d (.bool false))), none⟩ ::
    []))
  .ret) (.seq (.reg (⟨(some 18), .off 0 (.t 3), none⟩ ::
    ⟨(some 19), .ld (.t 18), none⟩ ::
    ⟨(some 20), .mv (.t 1), none⟩ ::
    ⟨(some 21), .mv (.t 8), none⟩ ::
    ⟨(some 22), .call (.c (.fn 48 [])) [(.t 19), (.t 20), (.t 21)], none⟩ ::
    ⟨(some 17), .mv (.t 22), none⟩ ::
    []))
  (.cond (.t 17) (.seq (.reg (⟨(some 23), .mv (.t 8), none⟩ ::
    ⟨none, .st 1 (.t 6) (.t 23), none⟩ ::
    ⟨(some 7), .mv (.c (.d (.bool true))), none⟩ ::
    []))
  .ret) (.seq (.reg (⟨(some 25), .mv (.t 2), none⟩ ::
    ⟨(some 24), .mv (.t 25), none⟩ ::
    []))
  (.cond (.t 24) (.seq (.reg (⟨(some 26), .mv (.t 8), none⟩ ::
    ⟨none, .st 1 (.t 6) (.t 26), none⟩ ::
    ⟨(some 7), .mv (.c (.d (.bool false))), none⟩ ::
    []))
  .ret) .skip)))))))
  (.seq (.reg (⟨(some 27), .mv (.t 8), none⟩ ::
    ⟨none, .st 1 (.t 6) (.t 27), none⟩ ::
    []))
  (.seq (.seq (.reg (⟨(some 28), .ldn 20 (.t 3), none⟩ ::
    ⟨(some 29), .mv (.t 1), none⟩ ::
    ⟨(some 30), .call (.c (.fn 49 [])) [(.t 28), (.t 29)], none⟩ ::
    []))
  (.block 1 (.range (.t 30) [31] (.reg (⟨(some 10), .mv (.t 31), none⟩ ::
    [])) (.block 2 (.seq (.dreg (⟨(some 32), .ld (.t 9), none⟩ ::
    ⟨(some 33), .mv (.t 10), none⟩ ::
    ⟨(some 34), .call (.t 32) [(.t 33)], none⟩ ::
    ⟨(some 35), .ld (.t 9), none⟩ ::
    ⟨(some 36), .ld (.t 6), none⟩ ::
    ⟨(some 37), .call (.t 35) [(.t 36)], none⟩ ::
    ⟨(some 38), .bin .gtr (.t 34) (.t 37), none⟩ ::
    []) ([]))
  (.cond (.t 38) (.reg (⟨(some 39), .mv (.t 10), none⟩ ::
    ⟨none, .st 1 (.t 6) (.t 39), none⟩ ::
    [])) .skip))))))
  (.seq (.reg (⟨(some 40), .ld (.t 6), none⟩ ::
    ⟨none, .st 1 (.t 6) (.t 40), none⟩ ::
    ⟨(some 7), .mv (.c (.d (.bool false))), none⟩ ::
    []))
  .ret))))))) }
/-- garland/garlandref16.Next -/
def cf16 : CFun := { np := 3, nt := 72, res := [.tmp 6, .tmp 7], body :=
  (.seq (.reg (⟨(some 3), .box (.t 0), none⟩ ::
    ⟨(some 6), .mv (.c (.d (.int .i64 0))), none⟩ ::
    ⟨(some 7), .mv (.c (.d (.bool false))), none⟩ ::
    []))
  (.seq (.reg (⟨(some 12), .ldn 20 (.t 3), none⟩ ::
    ⟨(some 13), .call (.c (.fn 25 [])) [(.t 12)], none⟩ ::
    ⟨(some 8), .mv (.t 13), none⟩ ::
    []))
  (.seq (.seq (.reg (⟨(some 14), .mv (.t 8), none⟩ ::
    ⟨(some 15), .bin .lss (.t 14) (.c (.d (.int .i64 0))), none⟩ ::
    []))
  (.cond (.t 15) (.seq (.reg (⟨(some 6), .mv (.c (.d (.int .i64 (-1)))), none⟩ ::
    ⟨(some 7), .mv (.c (.d (.bool false))), none⟩ ::
    []))
  .ret) .skip))
  (.seq (.seq (.reg (⟨(some 16), .off 0 (.t 3), none⟩ ::
    ⟨(some 17), .ld (.t 16), none⟩ ::
    ⟨(some 18), .mv (.t 1), none⟩ ::
    ⟨(some 19), .mv (.t 8), none⟩ ::
    ⟨(some 20), .call (.c (.fn 50 [])) [(.t 17), (.t 18), (.t 19)], none⟩ ::
    []))
  (.cond (.t 20) (.seq (.reg (⟨(some 21), .mv (.t 8), none⟩ ::
    ⟨(some 6), .mv (.t 21), none⟩ ::
    ⟨(some 7), .mv (.c (.d (.bool true))), none⟩ ::
    []))
  .ret) .skip))
  (.seq (.seq (.reg (⟨(some 22), .mv (.t 2), none⟩ ::
    []))
  (.cond (.t 22) (.seq (.reg (⟨(some 23), .mv (.t 8), none⟩ ::
    ⟨(some 6), .mv (.t 23), none⟩ ::
    ⟨(some 7), .mv (.c (.d (.bool false))), none⟩ ::
    []))
  .ret) .skip))
  (.seq (.reg (⟨(some 24), .mv (.t 8), none⟩ ::
    ⟨(some 9), .mv (.t 24), none⟩ ::
    []))
  (.seq (.dreg (⟨(some 25), .bls [] 0 1 [], none⟩ ::
    ⟨(some 26), .off 2 (.t 3), none⟩ ::
    ⟨(some 27), .ld (.t 26), none⟩ ::
    ⟨(some 28), .app 1 (.t 25) (.t 27), none⟩ ::
    ⟨(some 29), .off 4 (.t 3), none⟩ ::
    ⟨(some 30), .sla 16 1 (.t 29) none none, none⟩ ::
    ⟨(some 31), .app 1 (.t 28) (.t 30), none⟩ ::
    []) (⟨(some 10), .mv (.t 31), none⟩ ::
    []))
  (.seq (.seq (.reg (⟨(some 11), .mv (.c (.d (.int .i64 0))), none⟩ ::
    []))
  (.block 0 (.loop [1, 3, 9, 10, 11] (.seq (.seq (.reg (⟨(some 32), .mv (.t 11), none⟩ ::
    ⟨(some 33), .mv (.t 10), none⟩ ::
    ⟨(some 34), .len false (.t 33), none⟩ ::
    ⟨(some 35), .bin .lss (.t 32) (.t 34), none⟩ ::
    []))
  (.cond (.t 35) .skip (.exit 0)))
  (.seq (.block 1 (.seq (.dreg (⟨(some 38), .mv (.t 10), none⟩ ::
    ⟨(some 39), .mv (.t 11), none⟩ ::
    ⟨(some 40), .ixs 1 (.t 38) (.t 39), none⟩ ::
    ⟨(some 41), .ld (.t 40), none⟩ ::
    ⟨(some 42), .bin .geq (.t 41) (.c (.d (.int .i64 0))), none⟩ ::
    ⟨(some 43), .mv (.t 42), none⟩ ::
    ⟨(some 44), .off 0 (.t 3), (some (43, true))⟩ ::
    ⟨(some 45), .ld (.t 44), (some (43, true))⟩ ::
    ⟨(some 46), .mv (.t 10), (some (43, true))⟩ ::
    ⟨(some 47), .mv (.t 11), (some (43, true))⟩ ::
    ⟨(some 48), .ixs 1 (.t 46) (.t 47), (some (43, true))⟩ ::
    ⟨(some 49), .ld (.t 48), (some (43, true))⟩ ::
    ⟨(some 50), .mv (.t 1), (some (43, true))⟩ ::
    ⟨(some 51), .call (.c (.fn 51 [])) [(.t 45), (.t 49), (.t 50)], (some (43, true))⟩ ::
    ⟨(some 52), .pick (.t 43) (.t 51) (.c (.d (.bool false))), none⟩ ::
    ⟨(some 53), .mv (.t 52), none⟩ ::
    ⟨(some 54), .off 0 (.t 3), (some (53, true))⟩ ::
    ⟨(some 55), .ld (.t 54), (some (53, true))⟩ ::
    ⟨(some 56), .mv (.t 10), (some (53, true))⟩ ::
    ⟨(some 57), .mv (.t 11), (some (53, true))⟩ ::
    ⟨(some 58), .ixs 1 (.t 56) (.t 57), (some (53, true))⟩ ::
    ⟨(some 59), .ld (.t 58), (some (53, true))⟩ ::
    ⟨(some 60), .call (.c (.fn 26 [])) [(.t 55), (.t 59)], (some (53, true))⟩ ::
    ⟨(some 61), .off 0 (.t 3), (some (53, true))⟩ ::
    ⟨(some 62), .ld (.t 61), (some (53, true))⟩ ::
    ⟨(some 63), .mv (.t 9), (some (53, true))⟩ ::
    ⟨(some 64), .call (.c (.fn 26 [])) [(.t 62), (.t 63)], (some (53, true))⟩ ::
    ⟨(some 65), .bin .gtr (.t 60) (.t 64), (some (53, true))⟩ ::
    ⟨(some 66), .pick (.t 53) (.t 65) (.c (.d (.bool false))), none⟩ ::
    []) ([]))
  (.cond (.t 66) (.reg (⟨(some 67), .mv (.t 10), none⟩ ::
    ⟨(some 68), .mv (.t 11), none⟩ ::
    ⟨(some 69), .ixs 1 (.t 67) (.t 68), none⟩ ::
    ⟨(some 70), .ld (.t 69), none⟩ ::
    ⟨(some 9), .mv (.t 70), none⟩ ::
    [])) .skip)))
  (.reg (⟨(some 36), .mv (.t 11), none⟩ ::
    ⟨(some 37), .bin .add (.t 36) (.c (.d (.int .i64 1))), none⟩ ::
    ⟨(some 11), .mv (.t 37), none⟩ ::
    [])))))))
  (.seq (.reg (⟨(some 71), .mv (.t 9), none⟩ ::
    ⟨(some 6), .mv (.t 71), none⟩ ::
    ⟨(some 7), .mv (.c (.d (.bool false))), none⟩ ::
    []))
  .ret))))))))) }
/-- garland/hop.Left -/
def cf17 : CFun := { np := 2, nt := 12, res := [.tmp 4], body :=
  (.seq (.reg (⟨(some 2), .box (.t 0), none⟩ ::
    ⟨(some 4), .mv (.c (.d (.int .i64 0))), none⟩ ::
    []))
  (.seq (.seq (.reg (⟨(some 5), .ldn 20 (.t 2), none⟩ ::
    ⟨(some 6), .call (.c (.fn 52 [])) [(.t 5)], none⟩ ::
    ⟨(some 7), .not (.t 6), none⟩ ::
    []))
  (.cond (.t 7) (.seq (.reg (⟨(some 4), .mv (.c (.d (.int .i64 0))), none⟩ ::
    []))
  .ret) .skip))
  (.seq (.reg (⟨(some 8), .off 0 (.t 2), none⟩ ::
    ⟨(some 9), .ld (.t 8), none⟩ ::
    ⟨(some 10), .mv (.t 1), none⟩ ::
    ⟨(some 11), .call (.c (.fn 53 [])) [(.t 9), (.t 10)], none⟩ ::
    ⟨(some 4), .mv (.t 11), none⟩ ::
    []))
  .ret))) }
/-- garland/garlandref16.Left -/
def cf18 : CFun := { np := 2, nt := 12, res := [.tmp 4], body :=
  (.seq (.reg (⟨(some 2), .box (.t 0), none⟩ ::
    ⟨(some 4), .mv (.c (.d (.int .i64 0))), none⟩ ::
    []))
  (.seq (.seq (.reg (⟨(some 5), .ldn 20 (.t 2), none⟩ ::
    ⟨(some 6), .call (.c (.fn 24 [])) [(.t 5)], none⟩ ::
    ⟨(some 7), .not (.t 6), none⟩ ::
    []))
  (.cond (.t 7) (.seq (.reg (⟨(some 4), .mv (.c (.d (.int .i64 0))), none⟩ ::
    []))
  .ret) .skip))
  (.seq (.reg (⟨(some 8), .off 0 (.t 2), none⟩ ::
    ⟨(some 9), .ld (.t 8), none⟩ ::
    ⟨(some 10), .mv (.t 1), none⟩ ::
    ⟨(some 11), .call (.c (.fn 54 [])) [(.t 9), (.t 10)], none⟩ ::
    ⟨(some 4), .mv (.t 11), none⟩ ::
    []))
  .ret))) }
/-- garland/garlandref06.Same -/
def cf19 : CFun := { np := 2, nt := 106, res := [.tmp 4], body :=
  (.seq (.reg (⟨(some 2), .box (.t 0), none⟩ ::
    ⟨(some 3), .box (.t 1), none⟩ ::
    ⟨(some 4), .mv (.c (.d (.bool false))), none⟩ ::
    []))
  (.seq (.seq (.reg (⟨(some 6), .off 9 (.t 2), none⟩ ::
    ⟨(some 7), .ld (.t 6), none⟩ ::
    ⟨(some 8), .len false (.t 7), none⟩ ::
    ⟨(some 9), .off 9 (.t 3), none⟩ ::
    ⟨(some 10), .ld (.t 9), none⟩ ::
    ⟨(some 11), .len false (.t 10), none⟩ ::
    ⟨(some 12), .bin .neq (.t 8) (.t 11), none⟩ ::
    []))
  (.cond (.t 12) (.seq (.reg (⟨(some 4), .mv (.c (.d (.bool false))), none⟩ ::
    []))
  .ret) .skip))
  (.seq (.seq (.reg (⟨(some 5), .mv (.c (.d (.int .i64 0))), none⟩ ::
    []))
  (.block 0 (.loop [2, 3, 5] (.seq (.seq (.reg (⟨(some 13), .mv (.t 5), none⟩ ::
    ⟨(some 14), .off 9 (.t 2), none⟩ ::
    ⟨(some 15), .ld (.t 14), none⟩ ::
    ⟨(some 16), .len false (.t 15), none⟩ ::
    ⟨(some 17), .bin .lss (.t 13) (.t 16), none⟩ ::
    []))
  (.cond (.t 17) .skip (.exit 0)))
  (.seq (.block 1 (.seq (.dreg (⟨(some 20), .off 9 (.t 2), none⟩ ::
    ⟨(some 21), .ld (.t 20), none⟩ ::
    ⟨(some 22), .mv (.t 5), none⟩ ::
    ⟨(some 23), .ixs 1 (.t 21) (.t 22), none⟩ ::
    ⟨(some 24), .ld (.t 23), none⟩ ::
    ⟨(some 25), .off 9 (.t 3), none⟩ ::
    ⟨(some 26), .ld (.t 25), none⟩ ::
    ⟨(some 27), .mv (.t 5), none⟩ ::
    ⟨(some 28), .ixs 1 (.t 26) (.t 27), none⟩ ::
    ⟨(some 29), .ld (.t 28), none⟩ ::
    ⟨(some 30), .bin .neq (.t 24) (.t 29), none⟩ ::
    []) ([]))
  (.cond (.t 30) (.seq (.reg (⟨(some 4), .mv (.c (.d (.bool false))), none⟩ ::
    []))
  .ret) .skip)))
  (.reg (⟨(some 18), .mv (.t 5), none⟩ ::
    ⟨(some 19), .bin .add (.t 18) (.c (.d (.int .i64 1))), none⟩ ::
    ⟨(some 5), .mv (.t 19), none⟩ ::
    [])))))))
  (.seq (.reg (⟨(some 31), .off 0 (.t 2), none⟩ ::
    ⟨(some 32), .ld (.t 31), none⟩ ::
    ⟨(some 33), .off 0 (.t 3), none⟩ ::
    ⟨(some 34), .ld (.t 33), none⟩ ::
    ⟨(some 35), .bin .eql (.t 32) (.t 34), none⟩ ::
    ⟨(some 36), .mv (.t 35), none⟩ ::
    ⟨(some 37), .off 1 (.t 2), (some (36, true))⟩ ::
    ⟨(some 38), .ld (.t 37), (some (36, true))⟩ ::
    ⟨(some 39), .off 1 (.t 3), (some (36, true))⟩ ::
    ⟨(some 40), .ld (.t 39), (some (36, true))⟩ ::
    ⟨(some 41), .bin .eql (.t 38) (.t 40), (some (36, true))⟩ ::
    ⟨(some 42), .pick (.t 36) (.t 41) (.c (.d (.bool false))), none⟩ ::
    ⟨(some 43), .mv (.t 42), none⟩ ::
    ⟨(some 44), .off 2 (.t 2), (some (43, true))⟩ ::
    ⟨(some 45), .ld (.t 44), (some (43, true))⟩ ::
    ⟨(some 46), .off 2 (.t 3), (some (43, true))⟩ ::
    ⟨(some 47), .ld (.t 46), (some (43, true))⟩ ::
    ⟨(some 48), .bin .eql (.t 45) (.t 47), (some (43, true))⟩ ::
    ⟨(some 49), .pick (.t 43) (.t 48) (.c (.d (.bool false))), none⟩ ::
    ⟨(some 50), .mv (.t 49), none⟩ ::
    ⟨(some 51), .off 3 (.t 2), (some (50, true))⟩ ::
    ⟨(some 52), .ld (.t 51), (some (50, true))⟩ ::
    ⟨(some 53), .off 3 (.t 3), (some (50, true))⟩ ::
    ⟨(some 54), .ld (.t 53), (some (50, true))⟩ ::
    ⟨(some 55), .bin .eql (.t 52) (.t 54), (some (50, true))⟩ ::
    ⟨(some 56), .pick (.t 50) (.t 55) (.c (.d (.bool false))), none⟩ ::
    ⟨(some 57), .mv (.t 56), none⟩ ::
    ⟨(some 58), .off 4 (.t 2), (some (57, true))⟩ ::
    ⟨(some 59), .ld (.t 58), (some (57, true))⟩ ::
    ⟨(some 60), .off 4 (.t 3), (some (57, true))⟩ ::
    ⟨(some 61), .ld (.t 60), (some (57, true))⟩ ::
    ⟨(some 62), .bin .eql (.t 59) (.t 61), (some (57, true))⟩ ::
    ⟨(some 63), .pick (.t 57) (.t 62) (.c (.d (.bool false))), none⟩ ::
    ⟨(some 64), .mv (.t 63), none⟩ ::
    ⟨(some 65), .off 5 (.t 2), (some (64, true))⟩ ::
    ⟨(some 66), .ld (.t 65), (some (64, true))⟩ ::
    ⟨(some 67), .off 5 (.t 3), (some (64, true))⟩ ::
    ⟨(some 68), .ld (.t 67), (some (64, true))⟩ ::
    ⟨(some 69), .eqb false (.t 66) (.t 68), (some (64, true))⟩ ::
    ⟨(some 70), .pick (.t 64) (.t 69) (.c (.d (.bool false))), none⟩ ::
    ⟨(some 71), .mv (.t 70), none⟩ ::
    ⟨(some 72), .off 6 (.t 2), (some (71, true))⟩ ::
    ⟨(some 73), .ld (.t 72), (some (71, true))⟩ ::
    ⟨(some 74), .off 6 (.t 3), (some (71, true))⟩ ::
    ⟨(some 75), .ld (.t 74), (some (71, true))⟩ ::
    ⟨(some 76), .eqb false (.t 73) (.t 75), (some (71, true))⟩ ::
    ⟨(some 77), .pick (.t 71) (.t 76) (.c (.d (.bool false))), none⟩ ::
    ⟨(some 78), .mv (.t 77), none⟩ ::
    ⟨(some 79), .off 7 (.t 2), (some (78, true))⟩ ::
    ⟨(some 80), .ld (.t 79), (some (78, true))⟩ ::
    ⟨(some 81), .off 7 (.t 3), (some (78, true))⟩ ::
    ⟨(some 82), .ld (.t 81), (some (78, true))⟩ ::
    ⟨(some 83), .bin .eql (.t 80) (.t 82), (some (78, true))⟩ ::
    ⟨(some 84), .pick (.t 78) (.t 83) (.c (.d (.bool false))), none⟩ ::
    ⟨(some 85), .mv (.t 84), none⟩ ::
    ⟨(some 86), .off 8 (.t 2), (some (85, true))⟩ ::
    ⟨(some 87), .ld (.t 86), (some (85, true))⟩ ::
    ⟨(some 88), .off 8 (.t 3), (some (85, true))⟩ ::
    ⟨(some 89), .ld (.t 88), (some (85, true))⟩ ::
    ⟨(some 90), .bin .eql (.t 87) (.t 89), (some (85, true))⟩ ::
    ⟨(some 91), .pick (.t 85) (.t 90) (.c (.d (.bool false))), none⟩ ::
    ⟨(some 92), .mv (.t 91), none⟩ ::
    ⟨(some 93), .off 10 (.t 2), (some (92, true))⟩ ::
    ⟨(some 94), .ldn 4 (.t 93), (some (92, true))⟩ ::
    ⟨(some 95), .off 10 (.t 3), (some (92, true))⟩ ::
    ⟨(some 96), .ldn 4 (.t 95), (some (92, true))⟩ ::
    ⟨(some 97), .eqs false [2, 0, 0, 1] (.t 94) (.t 96), (some (92, true))⟩ ::
    ⟨(some 98), .pick (.t 92) (.t 97) (.c (.d (.bool false))), none⟩ ::
    ⟨(some 99), .mv (.t 98), none⟩ ::
    ⟨(some 100), .off 14 (.t 2), (some (99, true))⟩ ::
    ⟨(some 101), .ld (.t 100), (some (99, true))⟩ ::
    ⟨(some 102), .off 14 (.t 3), (some (99, true))⟩ ::
    ⟨(some 103), .ld (.t 102), (some (99, true))⟩ ::
    ⟨(some 104), .bin .eql (.t 101) (.t 103), (some (99, true))⟩ ::
    ⟨(some 105), .pick (.t 99) (.t 104) (.c (.d (.bool false))), none⟩ ::
    ⟨(some 4), .mv (.t 105), none⟩ ::
    []))
  .ret)))) }
/-- garland/hop.Answer -/
def cf20 : CFun := { np := 2, nt := 39, res := [.cells 4 15], body :=
  (.seq (.reg (⟨(some 2), .box (.t 0), none⟩ ::
    ⟨(some 3), .box (.t 1), none⟩ ::
    ⟨(some 4), .new [.d (.int .u8 0), .d (.int .i64 0), .d (.int .i64 0), .d (.int .i64 0), .d (.int .i64 0), .d (.bool false), .d (.bool false), .d (.int .i64 0), .d (.int .i64 0), .nils, .d (.str []), .d (.int .i64 0), .d (.int .i64 0), .d (.bool false), .d (.int .i64 0)], none⟩ ::
    []))
  (.scope [4] (.seq (.seq (.reg (⟨(some 5), .off 0 (.t 3), none⟩ ::
    ⟨(some 6), .ld (.t 5), none⟩ ::
    ⟨(some 7), .bin .neq (.t 6) (.c (.d (.int .u8 4))), none⟩ ::
    ⟨(some 8), .mv (.t 7), none⟩ ::
    ⟨(some 9), .off 3 (.t 3), (some (8, false))⟩ ::
    ⟨(some 10), .ld (.t 9), (some (8, false))⟩ ::
    ⟨(some 11), .off 0 (.t 2), (some (8, false))⟩ ::
    ⟨(some 12), .ld (.t 11), (some (8, false))⟩ ::
    ⟨(some 13), .bin .neq (.t 10) (.t 12), (some (8, false))⟩ ::
    ⟨(some 14), .pick (.t 8) (.c (.d (.bool true))) (.t 13), none⟩ ::
    ⟨(some 15), .mv (.t 14), none⟩ ::
    ⟨(some 16), .ldn 15 (.t 3), (some (15, false))⟩ ::
    ⟨(some 17), .call (.c (.fn 55 [])) [(.t 16)], (some (15, false))⟩ ::
    ⟨(some 18), .not (.t 17), (some (15, false))⟩ ::
    ⟨(some 19), .pick (.t 15) (.c (.d (.bool true))) (.t 18), none⟩ ::
    ⟨(some 20), .mv (.t 19), none⟩ ::
    ⟨(some 21), .ldn 20 (.t 2), (some (20, false))⟩ ::
    ⟨(some 22), .call (.c (.fn 52 [])) [(.t 21)], (some (20, false))⟩ ::
    ⟨(some 23), .not (.t 22), (some (20, false))⟩ ::
    ⟨(some 24), .pick (.t 20) (.c (.d (.bool true))) (.t 23), none⟩ ::
    []))
  (.cond (.t 24) (.goto 0) .skip))
  (.seq (.reg (⟨(some 25), .ldn 15 (.t 3), none⟩ ::
    ⟨(some 26), .call (.c (.fn 56 [])) [(.t 25)], none⟩ ::
    ⟨none, .st 15 (.t 4) (.t 26), none⟩ ::
    []))
  (.seq (.reg (⟨(some 28), .ldn 20 (.t 2), none⟩ ::
    ⟨(some 29), .off 4 (.t 3), none⟩ ::
    ⟨(some 30), .ld (.t 29), none⟩ ::
    ⟨(some 31), .off 5 (.t 3), none⟩ ::
    ⟨(some 32), .ld (.t 31), none⟩ ::
    ⟨(some 33), .call (.c (.fn 15 [])) [(.t 28), (.t 30), (.t 32)], none⟩ ::
    ⟨(some 27), .mv (.t 33), none⟩ ::
    ⟨(some 34), .ext (.t 27) 0, none⟩ ::
    ⟨(some 35), .ext (.t 27) 1, none⟩ ::
    ⟨(some 36), .off 7 (.t 4), none⟩ ::
    ⟨none, .st 1 (.t 36) (.t 34), none⟩ ::
    ⟨(some 37), .off 6 (.t 4), none⟩ ::
    ⟨none, .st 1 (.t 37) (.t 35), none⟩ ::
    []))
  (.seq (.label 0)
  (.seq (.reg (⟨(some 38), .ldn 15 (.t 4), none⟩ ::
    ⟨none, .st 15 (.t 4) (.t 38), none⟩ ::
    []))
  .ret))))))) }
/-- garland/garlandref16.Answer -/
def cf21 : CFun := { np := 2, nt := 41, res := [.cells 4 15], body :=
  (.seq (.reg (⟨(some 2), .box (.t 0), none⟩ ::
    ⟨(some 3), .box (.t 1), none⟩ ::
    ⟨(some 4), .new [.d (.int .u8 0), .d (.int .i64 0), .d (.int .i64 0), .d (.int .i64 0), .d (.int .i64 0), .d (.bool false), .d (.bool false), .d (.int .i64 0), .d (.int .i64 0), .nils, .d (.str []), .d (.int .i64 0), .d (.int .i64 0), .d (.bool false), .d (.int .i64 0)], none⟩ ::
    []))
  (.seq (.seq (.reg (⟨(some 6), .ldn 20 (.t 2), none⟩ ::
    ⟨(some 7), .call (.c (.fn 24 [])) [(.t 6)], none⟩ ::
    ⟨(some 8), .not (.t 7), none⟩ ::
    ⟨(some 9), .mv (.t 8), none⟩ ::
    ⟨(some 10), .ldn 15 (.t 3), (some (9, false))⟩ ::
    ⟨(some 11), .call (.c (.fn 28 [])) [(.t 10)], (some (9, false))⟩ ::
    ⟨(some 12), .not (.t 11), (some (9, false))⟩ ::
    ⟨(some 13), .pick (.t 9) (.c (.d (.bool true))) (.t 12), none⟩ ::
    ⟨(some 14), .mv (.t 13), none⟩ ::
    ⟨(some 15), .off 0 (.t 3), (some (14, false))⟩ ::
    ⟨(some 16), .ld (.t 15), (some (14, false))⟩ ::
    ⟨(some 17), .bin .neq (.t 16) (.c (.d (.int .u8 4))), (some (14, false))⟩ ::
    ⟨(some 18), .pick (.t 14) (.c (.d (.bool true))) (.t 17), none⟩ ::
    ⟨(some 19), .mv (.t 18), none⟩ ::
    ⟨(some 20), .off 3 (.t 3), (some (19, false))⟩ ::
    ⟨(some 21), .ld (.t 20), (some (19, false))⟩ ::
    ⟨(some 22), .off 0 (.t 2), (some (19, false))⟩ ::
    ⟨(some 23), .ld (.t 22), (some (19, false))⟩ ::
    ⟨(some 24), .bin .neq (.t 21) (.t 23), (some (19, false))⟩ ::
    ⟨(some 25), .pick (.t 19) (.c (.d (.bool true))) (.t 24), none⟩ ::
    []))
  (.cond (.t 25) (.seq (.reg (⟨(some 26), .bld [.d (.int .u8 0), .d (.int .i64 0), .d (.int .i64 0), .d (.int .i64 0), .d (.int .i64 0), .d (.bool false), .d (.bool false), .d (.int .i64 0), .d (.int .i64 0), .nils, .d (.str []), .d (.int .i64 0), .d (.int .i64 0), .d (.bool false), .d (.int .i64 0)] [], none⟩ ::
    ⟨none, .st 15 (.t 4) (.t 26), none⟩ ::
    []))
  .ret) .skip))
  (.seq (.reg (⟨(some 27), .ldn 15 (.t 3), none⟩ ::
    ⟨(some 28), .call (.c (.fn 57 [])) [(.t 27)], none⟩ ::
    ⟨(some 5), .new [.d (.int .u8 0), .d (.int .i64 0), .d (.int .i64 0), .d (.int .i64 0), .d (.int .i64 0), .d (.bool false), .d (.bool false), .d (.int .i64 0), .d (.int .i64 0), .nils, .d (.str []), .d (.int .i64 0), .d (.int .i64 0), .d (.bool false), .d (.int .i64 0)], none⟩ ::
    ⟨none, .st 15 (.t 5) (.t 28), none⟩ ::
    []))
  (.seq (.reg (⟨(some 30), .ldn 20 (.t 2), none⟩ ::
    ⟨(some 31), .off 4 (.t 3), none⟩ ::
    ⟨(some 32), .ld (.t 31), none⟩ ::
    ⟨(some 33), .off 5 (.t 3), none⟩ ::
    ⟨(some 34), .ld (.t 33), none⟩ ::
    ⟨(some 35), .call (.c (.fn 16 [])) [(.t 30), (.t 32), (.t 34)], none⟩ ::
    ⟨(some 29), .mv (.t 35), none⟩ ::
    ⟨(some 36), .ext (.t 29) 0, none⟩ ::
    ⟨(some 37), .ext (.t 29) 1, none⟩ ::
    ⟨(some 38), .off 7 (.t 5), none⟩ ::
    ⟨none, .st 1 (.t 38) (.t 36), none⟩ ::
    ⟨(some 39), .off 6 (.t 5), none⟩ ::
    ⟨none, .st 1 (.t 39) (.t 37), none⟩ ::
    []))
  (.seq (.reg (⟨(some 40), .ldn 15 (.t 5), none⟩ ::
    ⟨none, .st 15 (.t 4) (.t 40), none⟩ ::
    []))
  .ret))))) }
/-- garland/hop.Closer -/
def cf22 : CFun := { np := 3, nt := 14, res := [.tmp 6], body :=
  (.seq (.reg (⟨(some 6), .mv (.c (.d (.bool false))), none⟩ ::
    []))
  (.seq (.reg (⟨(some 7), .mv (.t 2), none⟩ ::
    ⟨(some 8), .mv (.t 0), none⟩ ::
    ⟨(some 9), .call (.c (.fn 53 [])) [(.t 7), (.t 8)], none⟩ ::
    ⟨(some 10), .mv (.t 1), none⟩ ::
    ⟨(some 11), .mv (.t 0), none⟩ ::
    ⟨(some 12), .call (.c (.fn 53 [])) [(.t 10), (.t 11)], none⟩ ::
    ⟨(some 13), .bin .lss (.t 9) (.t 12), none⟩ ::
    ⟨(some 6), .mv (.t 13), none⟩ ::
    []))
  .ret)) }
/-- garland/garlandref16.Closer -/
def cf23 : CFun := { np := 3, nt := 14, res := [.tmp 6], body :=
  (.seq (.reg (⟨(some 6), .mv (.c (.d (.bool false))), none⟩ ::
    []))
  (.seq (.reg (⟨(some 7), .mv (.t 2), none⟩ ::
    ⟨(some 8), .mv (.t 0), none⟩ ::
    ⟨(some 9), .call (.c (.fn 54 [])) [(.t 7), (.t 8)], none⟩ ::
    ⟨(some 10), .mv (.t 1), none⟩ ::
    ⟨(some 11), .mv (.t 0), none⟩ ::
    ⟨(some 12), .call (.c (.fn 54 [])) [(.t 10), (.t 11)], none⟩ ::
    ⟨(some 13), .bin .lss (.t 9) (.t 12), none⟩ ::
    ⟨(some 6), .mv (.t 13), none⟩ ::
    []))
  .ret)) }
/-- garland/garlandref13.Right -/
def cf24 : CFun := { np := 1, nt := 79, res := [.tmp 2], body :=
  (.seq (.reg (⟨(some 1), .box (.t 0), none⟩ ::
    ⟨(some 2), .mv (.c (.d (.bool false))), none⟩ ::
    []))
  (.seq (.seq (.reg (⟨(some 5), .off 0 (.t 1), none⟩ ::
    ⟨(some 6), .ld (.t 5), none⟩ ::
    ⟨(some 7), .call (.c (.fn 58 [])) [(.t 6)], none⟩ ::
    ⟨(some 8), .not (.t 7), none⟩ ::
    ⟨(some 9), .mv (.t 8), none⟩ ::
    ⟨(some 10), .off 1 (.t 1), (some (9, false))⟩ ::
    ⟨(some 11), .ld (.t 10), (some (9, false))⟩ ::
    ⟨(some 12), .len false (.t 11), (some (9, false))⟩ ::
    ⟨(some 13), .bin .lss (.t 12) (.c (.d (.int .i64 2))), (some (9, false))⟩ ::
    ⟨(some 14), .pick (.t 9) (.c (.d (.bool true))) (.t 13), none⟩ ::
    ⟨(some 15), .mv (.t 14), none⟩ ::
    ⟨(some 16), .off 1 (.t 1), (some (15, false))⟩ ::
    ⟨(some 17), .ld (.t 16), (some (15, false))⟩ ::
    ⟨(some 18), .len false (.t 17), (some (15, false))⟩ ::
    ⟨(some 19), .bin .gtr (.t 18) (.c (.d (.int .i64 4))), (some (15, false))⟩ ::
    ⟨(some 20), .pick (.t 15) (.c (.d (.bool true))) (.t 19), none⟩ ::
    ⟨(some 21), .mv (.t 20), none⟩ ::
    ⟨(some 22), .off 0 (.t 1), (some (21, false))⟩ ::
    ⟨(some 23), .ld (.t 22), (some (21, false))⟩ ::
    ⟨(some 24), .off 2 (.t 1), (some (21, false))⟩ ::
    ⟨(some 25), .ld (.t 24), (some (21, false))⟩ ::
    ⟨(some 26), .call (.c (.fn 59 [])) [(.t 23), (.t 25)], (some (21, false))⟩ ::
    ⟨(some 27), .not (.t 26), (some (21, false))⟩ ::
    ⟨(some 28), .pick (.t 21) (.c (.d (.bool true))) (.t 27), none⟩ ::
    ⟨(some 29), .mv (.t 28), none⟩ ::
    ⟨(some 30), .ldn 20 (.t 1), (some (29, false))⟩ ::
    ⟨(some 31), .off 3 (.t 1), (some (29, false))⟩ ::
    ⟨(some 32), .ld (.t 31), (some (29, false))⟩ ::
    ⟨(some 33), .call (.c (.fn 60 [])) [(.t 30), (.t 32)], (some (29, false))⟩ ::
    ⟨(some 34), .not (.t 33), (some (29, false))⟩ ::
    ⟨(some 35), .pick (.t 29) (.c (.d (.bool true))) (.t 34), none⟩ ::
    []))
  (.cond (.t 35) (.seq (.reg (⟨(some 2), .mv (.c (.d (.bool false))), none⟩ ::
    []))
  .ret) .skip))
  (.seq (.seq (.reg (⟨(some 3), .mv (.c (.d (.int .i64 0))), none⟩ ::
    []))
  (.block 0 (.loop [1, 3] (.seq (.seq (.reg (⟨(some 36), .mv (.t 3), none⟩ ::
    ⟨(some 37), .off 1 (.t 1), none⟩ ::
    ⟨(some 38), .ld (.t 37), none⟩ ::
    ⟨(some 39), .len false (.t 38), none⟩ ::
    ⟨(some 40), .bin .lss (.t 36) (.t 39), none⟩ ::
    []))
  (.cond (.t 40) .skip (.exit 0)))
  (.seq (.block 1 (.seq (.dreg (⟨(some 43), .off 1 (.t 1), none⟩ ::
    ⟨(some 44), .ld (.t 43), none⟩ ::
    ⟨(some 45), .mv (.t 3), none⟩ ::
    ⟨(some 46), .ixs 1 (.t 44) (.t 45), none⟩ ::
    ⟨(some 47), .ld (.t 46), none⟩ ::
    ⟨(some 48), .call (.c (.fn 58 [])) [(.t 47)], none⟩ ::
    ⟨(some 49), .not (.t 48), none⟩ ::
    ⟨(some 50), .mv (.t 49), none⟩ ::
    ⟨(some 51), .mv (.t 3), (some (50, false))⟩ ::
    ⟨(some 52), .bin .gtr (.t 51) (.c (.d (.int .i64 0))), (some (50, false))⟩ ::
    ⟨(some 53), .mv (.t 52), (some (50, false))⟩ ::
    ⟨(some 54), .off 1 (.t 1), (some (53, true))⟩ ::
    ⟨(some 55), .ld (.t 54), (some (53, true))⟩ ::
    ⟨(some 56), .mv (.t 3), (some (53, true))⟩ ::
    ⟨(some 57), .ixs 1 (.t 55) (.t 56), (some (53, true))⟩ ::
    ⟨(some 58), .ld (.t 57), (some (53, true))⟩ ::
    ⟨(some 59), .off 1 (.t 1), (some (53, true))⟩ ::
    ⟨(some 60), .ld (.t 59), (some (53, true))⟩ ::
    ⟨(some 61), .mv (.t 3), (some (53, true))⟩ ::
    ⟨(some 62), .bin .sub (.t 61) (.c (.d (.int .i64 1))), (some (53, true))⟩ ::
    ⟨(some 63), .ixs 1 (.t 60) (.t 62), (some (53, true))⟩ ::
    ⟨(some 64), .ld (.t 63), (some (53, true))⟩ ::
    ⟨(some 65), .bin .leq (.t 58) (.t 64), (some (53, true))⟩ ::
    ⟨(some 66), .pick (.t 53) (.t 65) (.c (.d (.bool false))), (some (50, false))⟩ ::
    ⟨(some 67), .pick (.t 50) (.c (.d (.bool true))) (.t 66), none⟩ ::
    []) ([]))
  (.cond (.t 67) (.seq (.reg (⟨(some 2), .mv (.c (.d (.bool false))), none⟩ ::
    []))
  .ret) .skip)))
  (.reg (⟨(some 41), .mv (.t 3), none⟩ ::
    ⟨(some 42), .bin .add (.t 41) (.c (.d (.int .i64 1))), none⟩ ::
    ⟨(some 3), .mv (.t 42), none⟩ ::
    [])))))))
  (.seq (.seq (.reg (⟨(some 4), .mv (.c (.d (.int .i64 0))), none⟩ ::
    []))
  (.block 2 (.loop [1, 4] (.seq (.seq (.reg (⟨(some 68), .mv (.t 4), none⟩ ::
    ⟨(some 69), .bin .lss (.t 68) (.c (.d (.int .i64 16))), none⟩ ::
    []))
  (.cond (.t 69) .skip (.exit 2)))
  (.seq (.block 3 (.seq (.dreg (⟨(some 72), .ldn 20 (.t 1), none⟩ ::
    ⟨(some 73), .mv (.t 4), none⟩ ::
    ⟨(some 74), .off 4 (.t 1), none⟩ ::
    ⟨(some 75), .ixa 16 1 (.t 74) (.t 73), none⟩ ::
    ⟨(some 76), .ld (.t 75), none⟩ ::
    ⟨(some 77), .call (.c (.fn 60 [])) [(.t 72), (.t 76)], none⟩ ::
    ⟨(some 78), .not (.t 77), none⟩ ::
    []) ([]))
  (.cond (.t 78) (.seq (.reg (⟨(some 2), .mv (.c (.d (.bool false))), none⟩ ::
    []))
  .ret) .skip)))
  (.reg (⟨(some 70), .mv (.t 4), none⟩ ::
    ⟨(some 71), .bin .add (.t 70) (.c (.d (.int .i64 1))), none⟩ ::
    ⟨(some 4), .mv (.t 71), none⟩ ::
    [])))))))
  (.seq (.reg (⟨(some 2), .mv (.c (.d (.bool true))), none⟩ ::
    []))
  .ret))))) }
/-- garland/garlandref13.First -/
def cf25 : CFun := { np := 1, nt := 17, res := [.tmp 2], body :=
  (.seq (.reg (⟨(some 1), .box (.t 0), none⟩ ::
    ⟨(some 2), .mv (.c (.d (.int .i64 0))), none⟩ ::
    []))
  (.seq (.seq (.reg (⟨(some 3), .ldn 20 (.t 1), none⟩ ::
    ⟨(some 4), .call (.c (.fn 24 [])) [(.t 3)], none⟩ ::
    ⟨(some 5), .mv (.t 4), none⟩ ::
    ⟨(some 6), .off 2 (.t 1), (some (5, true))⟩ ::
    ⟨(some 7), .ld (.t 6), (some (5, true))⟩ ::
    ⟨(some 8), .len false (.t 7), (some (5, true))⟩ ::
    ⟨(some 9), .bin .gtr (.t 8) (.c (.d (.int .i64 0))), (some (5, true))⟩ ::
    ⟨(some 10), .pick (.t 5) (.t 9) (.c (.d (.bool false))), none⟩ ::
    []))
  (.cond (.t 10) (.seq (.reg (⟨(some 11), .off 2 (.t 1), none⟩ ::
    ⟨(some 12), .ld (.t 11), none⟩ ::
    ⟨(some 13), .ixs 1 (.t 12) (.c (.d (.int .i64 0))), none⟩ ::
    ⟨(some 14), .ld (.t 13), none⟩ ::
    ⟨(some 2), .mv (.t 14), none⟩ ::
    []))
  .ret) .skip))
  (.seq (.reg (⟨(some 15), .ldn 20 (.t 1), none⟩ ::
    ⟨(some 16), .call (.c (.fn 61 [])) [(.t 15)], none⟩ ::
    ⟨(some 2), .mv (.t 16), none⟩ ::
    []))
  .ret))) }
/-- garland/garlandref03.Far -/
def cf26 : CFun := { np := 2, nt := 11, res := [.tmp 4], body :=
  (.seq (.reg (⟨(some 4), .mv (.c (.d (.int .i64 0))), none⟩ ::
    []))
  (.seq (.reg (⟨(some 5), .mv (.t 1), none⟩ ::
    ⟨(some 6), .call (.c (.fn 27 [])) [(.t 5)], none⟩ ::
    ⟨(some 7), .mv (.t 0), none⟩ ::
    ⟨(some 8), .call (.c (.fn 27 [])) [(.t 7)], none⟩ ::
    ⟨(some 9), .bin .sub (.t 6) (.t 8), none⟩ ::
    ⟨(some 10), .call (.c (.fn 27 [])) [(.t 9)], none⟩ ::
    ⟨(some 4), .mv (.t 10), none⟩ ::
    []))
  .ret)) }
/-- garland/garlandref03.Place -/
def cf27 : CFun := { np := 1, nt := 7, res := [.tmp 2], body :=
  (.seq (.reg (⟨(some 2), .mv (.c (.d (.int .i64 0))), none⟩ ::
    []))
  (.seq (.reg (⟨(some 3), .mv (.t 0), none⟩ ::
    ⟨(some 4), .bin .rem (.t 3) (.c (.d (.int .i64 65536))), none⟩ ::
    ⟨(some 5), .bin .add (.t 4) (.c (.d (.int .i64 65536))), none⟩ ::
    ⟨(some 6), .bin .rem (.t 5) (.c (.d (.int .i64 65536))), none⟩ ::
    ⟨(some 2), .mv (.t 6), none⟩ ::
    []))
  .ret)) }
/-- garland/garlandref06.Right -/
def cf28 : CFun := { np := 1, nt := 64, res := [.tmp 2], body :=
  (.seq (.reg (⟨(some 1), .box (.t 0), none⟩ ::
    ⟨(some 2), .mv (.c (.d (.bool false))), none⟩ ::
    []))
  (.seq (.seq (.reg (⟨(some 5), .off 0 (.t 1), none⟩ ::
    ⟨(some 6), .ld (.t 5), none⟩ ::
    ⟨(some 7), .bin .lss (.t 6) (.c (.d (.int .u8 1))), none⟩ ::
    ⟨(some 8), .mv (.t 7), none⟩ ::
    ⟨(some 9), .off 0 (.t 1), (some (8, false))⟩ ::
    ⟨(some 10), .ld (.t 9), (some (8, false))⟩ ::
    ⟨(some 11), .bin .geq (.t 10) (.c (.d (.int .u8 13))), (some (8, false))⟩ ::
    ⟨(some 12), .pick (.t 8) (.c (.d (.bool true))) (.t 11), none⟩ ::
    ⟨(some 13), .mv (.t 12), none⟩ ::
    ⟨(some 14), .off 2 (.t 1), (some (13, false))⟩ ::
    ⟨(some 15), .ld (.t 14), (some (13, false))⟩ ::
    ⟨(some 16), .call (.c (.fn 62 [])) [(.t 15)], (some (13, false))⟩ ::
    ⟨(some 17), .not (.t 16), (some (13, false))⟩ ::
    ⟨(some 18), .pick (.t 13) (.c (.d (.bool true))) (.t 17), none⟩ ::
    ⟨(some 19), .mv (.t 18), none⟩ ::
    ⟨(some 20), .off 3 (.t 1), (some (19, false))⟩ ::
    ⟨(some 21), .ld (.t 20), (some (19, false))⟩ ::
    ⟨(some 22), .call (.c (.fn 62 [])) [(.t 21)], (some (19, false))⟩ ::
    ⟨(some 23), .not (.t 22), (some (19, false))⟩ ::
    ⟨(some 24), .pick (.t 19) (.c (.d (.bool true))) (.t 23), none⟩ ::
    ⟨(some 25), .mv (.t 24), none⟩ ::
    ⟨(some 26), .off 2 (.t 1), (some (25, false))⟩ ::
    ⟨(some 27), .ld (.t 26), (some (25, false))⟩ ::
    ⟨(some 28), .off 3 (.t 1), (some (25, false))⟩ ::
    ⟨(some 29), .ld (.t 28), (some (25, false))⟩ ::
    ⟨(some 30), .bin .eql (.t 27) (.t 29), (some (25, false))⟩ ::
    ⟨(some 31), .pick (.t 25) (.c (.d (.bool true))) (.t 30), none⟩ ::
    []))
  (.cond (.t 31) (.seq (.reg (⟨(some 2), .mv (.c (.d (.bool false))), none⟩ ::
    []))
  .ret) .skip))
  (.seq (.reg (⟨(some 32), .ldn 15 (.t 1), none⟩ ::
    ⟨(some 33), .call (.c (.fn 63 [])) [(.t 32)], none⟩ ::
    ⟨(some 34), .bin .mul (.t 33) (.c (.d (.int .i64 1048576))), none⟩ ::
    ⟨(some 35), .bin .add (.t 34) (.c (.d (.int .i64 1))), none⟩ ::
    ⟨(some 3), .mv (.t 35), none⟩ ::
    []))
  (.seq (.seq (.reg (⟨(some 36), .off 1 (.t 1), none⟩ ::
    ⟨(some 37), .ld (.t 36), none⟩ ::
    ⟨(some 38), .mv (.t 3), none⟩ ::
    ⟨(some 39), .bin .lss (.t 37) (.t 38), none⟩ ::
    ⟨(some 40), .mv (.t 39), none⟩ ::
    ⟨(some 41), .off 1 (.t 1), (some (40, false))⟩ ::
    ⟨(some 42), .ld (.t 41), (some (40, false))⟩ ::
    ⟨(some 43), .mv (.t 3), (some (40, false))⟩ ::
    ⟨(some 44), .bin .add (.t 43) (.c (.d (.int .i64 1048576))), (some (40, false))⟩ ::
    ⟨(some 45), .bin .geq (.t 42) (.t 44), (some (40, false))⟩ ::
    ⟨(some 46), .pick (.t 40) (.c (.d (.bool true))) (.t 45), none⟩ ::
    []))
  (.cond (.t 46) (.seq (.reg (⟨(some 2), .mv (.c (.d (.bool false))), none⟩ ::
    []))
  .ret) .skip))
  (.seq (.reg (⟨(some 47), .off 0 (.t 1), none⟩ ::
    ⟨(some 48), .ld (.t 47), none⟩ ::
    ⟨(some 49), .off 1 (.t 1), none⟩ ::
    ⟨(some 50), .ld (.t 49), none⟩ ::
    ⟨(some 51), .off 2 (.t 1), none⟩ ::
    ⟨(some 52), .ld (.t 51), none⟩ ::
    ⟨(some 53), .off 3 (.t 1), none⟩ ::
    ⟨(some 54), .ld (.t 53), none⟩ ::
    ⟨(some 55), .bld [.d (.int .u8 0), .d (.int .i64 0), .d (.int .i64 0), .d (.int .i64 0), .d (.int .i64 0), .d (.bool false), .d (.bool false), .d (.int .i64 0), .d (.int .i64 0), .nils, .d (.str []), .d (.int .i64 0), .d (.int .i64 0), .d (.bool false), .d (.int .i64 0)] [(0, 1, (.t 48)), (1, 1, (.t 50)), (2, 1, (.t 52)), (3, 1, (.t 54))], none⟩ ::
    ⟨(some 4), .new [.d (.int .u8 0), .d (.int .i64 0), .d (.int .i64 0), .d (.int .i64 0), .d (.int .i64 0), .d (.bool false), .d (.bool false), .d (.int .i64 0), .d (.int .i64 0), .nils, .d (.str []), .d (.int .i64 0), .d (.int .i64 0), .d (.bool false), .d (.int .i64 0)], none⟩ ::
    ⟨none, .st 15 (.t 4) (.t 55), none⟩ ::
    []))
  (.seq (.dreg (⟨(some 56), .ldn 15 (.t 1), none⟩ ::
    ⟨(some 57), .call (.c (.fn 64 [])) [(.t 56)], none⟩ ::
    ⟨(some 58), .ldn 15 (.t 4), none⟩ ::
    ⟨(some 59), .call (.c (.fn 19 [])) [(.t 57), (.t 58)], none⟩ ::
    ⟨(some 60), .mv (.t 59), none⟩ ::
    ⟨(some 61), .ldn 15 (.t 1), (some (60, true))⟩ ::
    ⟨(some 62), .call (.c (.fn 65 [])) [(.t 61)], (some (60, true))⟩ ::
    ⟨(some 63), .pick (.t 60) (.t 62) (.c (.d (.bool false))), none⟩ ::
    []) (⟨(some 2), .mv (.t 63), none⟩ ::
    []))
  .ret)))))) }
/-- garland/garlandlaw18.great -/
def cf29 : CFun := { np := 2, nt := 20, res := [.tmp 4], body :=
  (.seq (.reg (⟨(some 2), .box (.t 0), none⟩ ::
    ⟨(some 3), .box (.t 1), none⟩ ::
    ⟨(some 4), .mv (.c (.d (.bool false))), none⟩ ::
    []))
  (.seq (.reg (⟨(some 5), .ldn 20 (.t 2), none⟩ ::
    ⟨(some 6), .call (.c (.fn 13 [])) [(.t 5)], none⟩ ::
    ⟨(some 7), .mv (.t 6), none⟩ ::
    ⟨(some 8), .off 9 (.t 3), (some (7, false))⟩ ::
    ⟨(some 9), .ld (.t 8), (some (7, false))⟩ ::
    ⟨(some 10), .len false (.t 9), (some (7, false))⟩ ::
    ⟨(some 11), .bin .gtr (.t 10) (.c (.d (.int .i64 20))), (some (7, false))⟩ ::
    ⟨(some 12), .pick (.t 7) (.c (.d (.bool true))) (.t 11), none⟩ ::
    ⟨(some 13), .mv (.t 12), none⟩ ::
    ⟨(some 14), .off 10 (.t 3), (some (13, false))⟩ ::
    ⟨(some 15), .off 0 (.t 14), (some (13, false))⟩ ::
    ⟨(some 16), .ld (.t 15), (some (13, false))⟩ ::
    ⟨(some 17), .len true (.t 16), (some (13, false))⟩ ::
    ⟨(some 18), .bin .gtr (.t 17) (.c (.d (.int .i64 100))), (some (13, false))⟩ ::
    ⟨(some 19), .pick (.t 13) (.c (.d (.bool true))) (.t 18), none⟩ ::
    ⟨(some 4), .mv (.t 19), none⟩ ::
    []))
  .ret)) }
/-- garland/garlandlaw18.wakes -/
def cf30 : CFun := { np := 0, nt := 139, res := [.tmp 0], body :=
  (.seq (.reg (⟨(some 0), .mv (.c (.d (.bool false))), none⟩ ::
    []))
  (.seq (.reg (⟨(some 14), .bls [.d (.int .i64 0), .d (.int .i64 0)] 2 1 [(0, 1, (.c (.d (.int .i64 1)))), (1, 1, (.c (.d (.int .i64 40000))))], none⟩ ::
    ⟨(some 15), .call (.c (.fn 44 [])) [(.c (.d (.int .i64 5))), (.t 14)], none⟩ ::
    ⟨(some 13), .mv (.t 15), none⟩ ::
    ⟨(some 16), .ext (.t 13) 0, none⟩ ::
    ⟨(some 17), .ext (.t 13) 1, none⟩ ::
    ⟨(some 1), .new [.d (.int .i64 0), .nils, .nils, .d (.int .i64 0), .d (.int .i64 0), .d (.int .i64 0), .d (.int .i64 0), .d (.int .i64 0), .d (.int .i64 0), .d (.int .i64 0), .d (.int .i64 0), .d (.int .i64 0), .d (.int .i64 0), .d (.int .i64 0), .d (.int .i64 0), .d (.int .i64 0), .d (.int .i64 0), .d (.int .i64 0), .d (.int .i64 0), .d (.int .i64 0)], none⟩ ::
    ⟨none, .st 20 (.t 1) (.t 16), none⟩ ::
    ⟨(some 2), .mv (.t 17), none⟩ ::
    []))
  (.seq (.reg (⟨(some 18), .bls [.d (.int .i64 0)] 1 1 [(0, 1, (.c (.d (.int .i64 9))))], none⟩ ::
    ⟨(some 19), .off 2 (.t 1), none⟩ ::
    ⟨none, .st 1 (.t 19) (.t 18), none⟩ ::
    []))
  (.seq (.reg (⟨(some 20), .ldn 20 (.t 1), none⟩ ::
    ⟨(some 21), .call (.c (.fn 33 [])) [(.t 20), (.c (.d (.int .i64 7)))], none⟩ ::
    ⟨(some 3), .new [.d (.int .i64 0), .d (.int .i64 0), .d (.int .i64 0), .d (.bool false), .d (.bool false), .d (.int .i64 0)], none⟩ ::
    ⟨none, .st 6 (.t 3) (.t 21), none⟩ ::
    []))
  (.seq (.reg (⟨(some 22), .ldn 20 (.t 1), none⟩ ::
    ⟨(some 23), .call (.c (.fn 33 [])) [(.t 22), (.c (.d (.int .i64 100)))], none⟩ ::
    ⟨(some 4), .new [.d (.int .i64 0), .d (.int .i64 0), .d (.int .i64 0), .d (.bool false), .d (.bool false), .d (.int .i64 0)], none⟩ ::
    ⟨none, .st 6 (.t 4) (.t 23), none⟩ ::
    []))
  (.seq (.reg (⟨(some 25), .ldn 6 (.t 4), none⟩ ::
    ⟨(some 26), .call (.c (.fn 31 [])) [(.t 25)], none⟩ ::
    ⟨(some 24), .mv (.t 26), none⟩ ::
    ⟨(some 27), .ext (.t 24) 0, none⟩ ::
    ⟨(some 28), .ext (.t 24) 1, none⟩ ::
    ⟨(some 5), .new [.d (.int .u8 0), .d (.int .i64 0), .d (.int .i64 0), .d (.int .i64 0), .d (.int .i64 0), .d (.bool false), .d (.bool false), .d (.int .i64 0), .d (.int .i64 0), .nils, .d (.str []), .d (.int .i64 0), .d (.int .i64 0), .d (.bool false), .d (.int .i64 0)], none⟩ ::
    ⟨none, .st 15 (.t 5) (.t 27), none⟩ ::
    ⟨(some 6), .mv (.t 28), none⟩ ::
    []))
  (.seq (.dreg (⟨(some 29), .ldn 20 (.t 1), none⟩ ::
    ⟨(some 30), .ldn 6 (.t 4), none⟩ ::
    ⟨(some 31), .call (.c (.fn 43 [])) [(.c (.d (.int .i64 9))), (.c (.d (.int .i64 5))), (.c (.d (.int .i64 60))), (.c (.d (.bool false)))], none⟩ ::
    ⟨(some 32), .call (.c (.fn 35 [])) [(.t 29), (.t 30), (.t 31)], none⟩ ::
    ⟨(some 7), .new [.d (.int .i64 0), .d (.int .i64 0), .d (.int .i64 0), .d (.bool false), .d (.bool false), .d (.int .i64 0)], none⟩ ::
    []) (⟨none, .st 6 (.t 7) (.t 32), none⟩ ::
    []))
  (.seq (.dreg (⟨(some 33), .ldn 20 (.t 1), none⟩ ::
    ⟨(some 34), .ldn 6 (.t 7), none⟩ ::
    ⟨(some 35), .call (.c (.fn 43 [])) [(.c (.d (.int .i64 60))), (.c (.d (.int .i64 5))), (.c (.d (.int .i64 101))), (.c (.d (.bool true)))], none⟩ ::
    ⟨(some 36), .call (.c (.fn 35 [])) [(.t 33), (.t 34), (.t 35)], none⟩ ::
    ⟨(some 8), .new [.d (.int .i64 0), .d (.int .i64 0), .d (.int .i64 0), .d (.bool false), .d (.bool false), .d (.int .i64 0)], none⟩ ::
    []) (⟨none, .st 6 (.t 8) (.t 36), none⟩ ::
    []))
  (.seq (.reg (⟨(some 37), .ldn 20 (.t 1), none⟩ ::
    ⟨(some 38), .ldn 6 (.t 7), none⟩ ::
    ⟨(some 39), .call (.c (.fn 37 [])) [(.t 37), (.t 38)], none⟩ ::
    ⟨(some 9), .new [.d (.int .i64 0), .d (.int .i64 0), .d (.int .i64 0), .d (.bool false), .d (.bool false), .d (.int .i64 0)], none⟩ ::
    ⟨none, .st 6 (.t 9) (.t 39), none⟩ ::
    []))
  (.seq (.dreg (⟨(some 40), .ldn 20 (.t 1), none⟩ ::
    ⟨(some 41), .ldn 6 (.t 4), none⟩ ::
    ⟨(some 42), .call (.c (.fn 43 [])) [(.c (.d (.int .i64 8))), (.c (.d (.int .i64 5))), (.c (.d (.int .i64 60))), (.c (.d (.bool true)))], none⟩ ::
    ⟨(some 43), .call (.c (.fn 35 [])) [(.t 40), (.t 41), (.t 42)], none⟩ ::
    ⟨(some 10), .new [.d (.int .i64 0), .d (.int .i64 0), .d (.int .i64 0), .d (.bool false), .d (.bool false), .d (.int .i64 0)], none⟩ ::
    []) (⟨none, .st 6 (.t 10) (.t 43), none⟩ ::
    []))
  (.seq (.reg (⟨(some 45), .ldn 6 (.t 8), none⟩ ::
    ⟨(some 46), .call (.c (.fn 31 [])) [(.t 45)], none⟩ ::
    ⟨(some 44), .mv (.t 46), none⟩ ::
    ⟨(some 47), .ext (.t 44) 0, none⟩ ::
    ⟨(some 48), .ext (.t 44) 1, none⟩ ::
    ⟨(some 11), .new [.d (.int .u8 0), .d (.int .i64 0), .d (.int .i64 0), .d (.int .i64 0), .d (.int .i64 0), .d (.bool false), .d (.bool false), .d (.int .i64 0), .d (.int .i64 0), .nils, .d (.str []), .d (.int .i64 0), .d (.int .i64 0), .d (.bool false), .d (.int .i64 0)], none⟩ ::
    ⟨none, .st 15 (.t 11) (.t 47), none⟩ ::
    ⟨(some 12), .mv (.t 48), none⟩ ::
    []))
  (.seq (.reg (⟨(some 49), .off 4 (.t 3), none⟩ ::
    ⟨(some 50), .ld (.t 49), none⟩ ::
    ⟨(some 51), .mv (.t 50), none⟩ ::
    ⟨(some 52), .off 1 (.t 3), (some (51, true))⟩ ::
    ⟨(some 53), .ld (.t 52), (some (51, true))⟩ ::
    ⟨(some 54), .bin .eql (.t 53) (.c (.d (.int .i64 9))), (some (51, true))⟩ ::
    ⟨(some 55), .pick (.t 51) (.t 54) (.c (.d (.bool false))), none⟩ ::
    ⟨(some 56), .mv (.t 55), none⟩ ::
    ⟨(some 57), .ldn 6 (.t 3), (some (56, true))⟩ ::
    ⟨(some 58), .call (.c (.fn 41 [])) [(.t 57)], (some (56, true))⟩ ::
    ⟨(some 59), .pick (.t 56) (.t 58) (.c (.d (.bool false))), none⟩ ::
    ⟨(some 60), .mv (.t 59), none⟩ ::
    ⟨(some 61), .off 4 (.t 4), (some (60, true))⟩ ::
    ⟨(some 62), .ld (.t 61), (some (60, true))⟩ ::
    ⟨(some 63), .not (.t 62), (some (60, true))⟩ ::
    ⟨(some 64), .pick (.t 60) (.t 63) (.c (.d (.bool false))), none⟩ ::
    ⟨(some 65), .mv (.t 64), none⟩ ::
    ⟨(some 66), .off 1 (.t 4), (some (65, true))⟩ ::
    ⟨(some 67), .ld (.t 66), (some (65, true))⟩ ::
    ⟨(some 68), .bin .eql (.t 67) (.c (.d (.int .i64 9))), (some (65, true))⟩ ::
    ⟨(some 69), .pick (.t 65) (.t 68) (.c (.d (.bool false))), none⟩ ::
    ⟨(some 70), .mv (.t 69), none⟩ ::
    ⟨(some 71), .mv (.t 6), (some (70, true))⟩ ::
    ⟨(some 72), .pick (.t 70) (.t 71) (.c (.d (.bool false))), none⟩ ::
    ⟨(some 73), .mv (.t 72), none⟩ ::
    ⟨(some 74), .off 3 (.t 5), (some (73, true))⟩ ::
    ⟨(some 75), .ld (.t 74), (some (73, true))⟩ ::
    ⟨(some 76), .bin .eql (.t 75) (.c (.d (.int .i64 9))), (some (73, true))⟩ ::
    ⟨(some 77), .pick (.t 73) (.t 76) (.c (.d (.bool false))), none⟩ ::
    ⟨(some 78), .mv (.t 77), none⟩ ::
    ⟨(some 79), .off 4 (.t 5), (some (78, true))⟩ ::
    ⟨(some 80), .ld (.t 79), (some (78, true))⟩ ::
    ⟨(some 81), .bin .eql (.t 80) (.c (.d (.int .i64 100))), (some (78, true))⟩ ::
    ⟨(some 82), .pick (.t 78) (.t 81) (.c (.d (.bool false))), none⟩ ::
    ⟨(some 83), .mv (.t 82), none⟩ ::
    ⟨(some 84), .off 1 (.t 7), (some (83, true))⟩ ::
    ⟨(some 85), .ld (.t 84), (some (83, true))⟩ ::
    ⟨(some 86), .bin .eql (.t 85) (.c (.d (.int .i64 60))), (some (83, true))⟩ ::
    ⟨(some 87), .pick (.t 83) (.t 86) (.c (.d (.bool false))), none⟩ ::
    ⟨(some 88), .mv (.t 87), none⟩ ::
    ⟨(some 89), .off 2 (.t 7), (some (88, true))⟩ ::
    ⟨(some 90), .ld (.t 89), (some (88, true))⟩ ::
    ⟨(some 91), .bin .eql (.t 90) (.c (.d (.int .i64 1))), (some (88, true))⟩ ::
    ⟨(some 92), .pick (.t 88) (.t 91) (.c (.d (.bool false))), none⟩ ::
    ⟨(some 93), .mv (.t 92), none⟩ ::
    ⟨(some 94), .off 4 (.t 8), (some (93, true))⟩ ::
    ⟨(some 95), .ld (.t 94), (some (93, true))⟩ ::
    ⟨(some 96), .pick (.t 93) (.t 95) (.c (.d (.bool false))), none⟩ ::
    ⟨(some 97), .mv (.t 96), none⟩ ::
    ⟨(some 98), .off 1 (.t 8), (some (97, true))⟩ ::
    ⟨(some 99), .ld (.t 98), (some (97, true))⟩ ::
    ⟨(some 100), .bin .eql (.t 99) (.c (.d (.int .i64 101))), (some (97, true))⟩ ::
    ⟨(some 101), .pick (.t 97) (.t 100) (.c (.d (.bool false))), none⟩ ::
    ⟨(some 102), .mv (.t 101), none⟩ ::
    ⟨(some 103), .off 2 (.t 8), (some (102, true))⟩ ::
    ⟨(some 104), .ld (.t 103), (some (102, true))⟩ ::
    ⟨(some 105), .bin .eql (.t 104) (.c (.d (.int .i64 2))), (some (102, true))⟩ ::
    ⟨(some 106), .pick (.t 102) (.t 105) (.c (.d (.bool false))), none⟩ ::
    ⟨(some 107), .mv (.t 106), none⟩ ::
    ⟨(some 108), .off 3 (.t 9), (some (107, true))⟩ ::
    ⟨(some 109), .ld (.t 108), (some (107, true))⟩ ::
    ⟨(some 110), .pick (.t 107) (.t 109) (.c (.d (.bool false))), none⟩ ::
    ⟨(some 111), .mv (.t 110), none⟩ ::
    ⟨(some 112), .off 1 (.t 9), (some (111, true))⟩ ::
    ⟨(some 113), .ld (.t 112), (some (111, true))⟩ ::
    ⟨(some 114), .bin .eql (.t 113) (.c (.d (.int .i64 9))), (some (111, true))⟩ ::
    ⟨(some 115), .pick (.t 111) (.t 114) (.c (.d (.bool false))), none⟩ ::
    ⟨(some 116), .mv (.t 115), none⟩ ::
    ⟨(some 117), .off 2 (.t 9), (some (116, true))⟩ ::
    ⟨(some 118), .ld (.t 117), (some (116, true))⟩ ::
    ⟨(some 119), .bin .eql (.t 118) (.c (.d (.int .i64 2))), (some (116, true))⟩ ::
    ⟨(some 120), .pick (.t 116) (.t 119) (.c (.d (.bool false))), none⟩ ::
    ⟨(some 121), .mv (.t 120), none⟩ ::
    ⟨(some 122), .ldn 6 (.t 10), (some (121, true))⟩ ::
    ⟨(some 123), .ldn 6 (.t 4), (some (121, true))⟩ ::
    ⟨(some 124), .eqs false [0, 0, 0, 1, 1, 0] (.t 122) (.t 123), (some (121, true))⟩ ::
    ⟨(some 125), .pick (.t 121) (.t 124) (.c (.d (.bool false))), none⟩ ::
    ⟨(some 126), .mv (.t 125), none⟩ ::
    ⟨(some 127), .mv (.t 12), (some (126, true))⟩ ::
    ⟨(some 128), .not (.t 127), (some (126, true))⟩ ::
    ⟨(some 129), .pick (.t 126) (.t 128) (.c (.d (.bool false))), none⟩ ::
    ⟨(some 130), .mv (.t 129), none⟩ ::
    ⟨(some 131), .ldn 6 (.t 4), (some (130, true))⟩ ::
    ⟨(some 132), .call (.c (.fn 39 [])) [(.t 131)], (some (130, true))⟩ ::
    ⟨(some 133), .pick (.t 130) (.t 132) (.c (.d (.bool false))), none⟩ ::
    ⟨(some 134), .mv (.t 133), none⟩ ::
    ⟨(some 135), .bld [.d (.int .i64 0), .d (.int .i64 0), .d (.int .i64 0), .d (.bool false), .d (.bool false), .d (.int .i64 0)] [(0, 1, (.c (.d (.int .i64 (-1)))))], (some (134, true))⟩ ::
    ⟨(some 136), .call (.c (.fn 39 [])) [(.t 135)], (some (134, true))⟩ ::
    ⟨(some 137), .not (.t 136), (some (134, true))⟩ ::
    ⟨(some 138), .pick (.t 134) (.t 137) (.c (.d (.bool false))), none⟩ ::
    ⟨(some 0), .mv (.t 138), none⟩ ::
    []))
  .ret)))))))))))) }
/-- garland/look.Ask -/
def cf31 : CFun := { np := 1, nt := 19, res := [.cells 2 15, .tmp 3], body :=
  (.seq (.reg (⟨(some 1), .box (.t 0), none⟩ ::
    ⟨(some 2), .new [.d (.int .u8 0), .d (.int .i64 0), .d (.int .i64 0), .d (.int .i64 0), .d (.int .i64 0), .d (.bool false), .d (.bool false), .d (.int .i64 0), .d (.int .i64 0), .nils, .d (.str []), .d (.int .i64 0), .d (.int .i64 0), .d (.bool false), .d (.int .i64 0)], none⟩ ::
    ⟨(some 3), .mv (.c (.d (.bool false))), none⟩ ::
    []))
  (.seq (.seq (.reg (⟨(some 4), .ldn 6 (.t 1), none⟩ ::
    ⟨(some 5), .call (.c (.fn 41 [])) [(.t 4)], none⟩ ::
    ⟨(some 6), .mv (.t 5), none⟩ ::
    ⟨(some 7), .ldn 6 (.t 1), (some (6, false))⟩ ::
    ⟨(some 8), .call (.c (.fn 39 [])) [(.t 7)], (some (6, false))⟩ ::
    ⟨(some 9), .not (.t 8), (some (6, false))⟩ ::
    ⟨(some 10), .pick (.t 6) (.c (.d (.bool true))) (.t 9), none⟩ ::
    []))
  (.cond (.t 10) (.seq (.reg (⟨(some 11), .ldn 15 (.t 2), none⟩ ::
    ⟨none, .st 15 (.t 2) (.t 11), none⟩ ::
    ⟨(some 3), .mv (.c (.d (.bool false))), none⟩ ::
    []))
  .ret) .skip))
  (.seq (.reg (⟨(some 12), .off 1 (.t 1), none⟩ ::
    ⟨(some 13), .ld (.t 12), none⟩ ::
    ⟨(some 14), .off 0 (.t 1), none⟩ ::
    ⟨(some 15), .ld (.t 14), none⟩ ::
    ⟨(some 16), .off 3 (.t 1), none⟩ ::
    ⟨(some 17), .ld (.t 16), none⟩ ::
    ⟨(some 18), .bld [.d (.int .u8 0), .d (.int .i64 0), .d (.int .i64 0), .d (.int .i64 0), .d (.int .i64 0), .d (.bool false), .d (.bool false), .d (.int .i64 0), .d (.int .i64 0), .nils, .d (.str []), .d (.int .i64 0), .d (.int .i64 0), .d (.bool false), .d (.int .i64 0)] [(0, 1, (.c (.d (.int .u8 4)))), (3, 1, (.t 13)), (4, 1, (.t 15)), (5, 1, (.t 17))], none⟩ ::
    ⟨none, .st 15 (.t 2) (.t 18), none⟩ ::
    ⟨(some 3), .mv (.c (.d (.bool true))), none⟩ ::
    []))
  .ret))) }
/-- garland/garlandref18.Ask -/
def cf32 : CFun := { np := 1, nt := 19, res := [.cells 2 15, .tmp 3], body :=
  (.seq (.reg (⟨(some 1), .box (.t 0), none⟩ ::
    ⟨(some 2), .new [.d (.int .u8 0), .d (.int .i64 0), .d (.int .i64 0), .d (.int .i64 0), .d (.int .i64 0), .d (.bool false), .d (.bool false), .d (.int .i64 0), .d (.int .i64 0), .nils, .d (.str []), .d (.int .i64 0), .d (.int .i64 0), .d (.bool false), .d (.int .i64 0)], none⟩ ::
    ⟨(some 3), .mv (.c (.d (.bool false))), none⟩ ::
    []))
  (.seq (.seq (.reg (⟨(some 4), .ldn 6 (.t 1), none⟩ ::
    ⟨(some 5), .call (.c (.fn 40 [])) [(.t 4)], none⟩ ::
    ⟨(some 6), .not (.t 5), none⟩ ::
    ⟨(some 7), .mv (.t 6), none⟩ ::
    ⟨(some 8), .ldn 6 (.t 1), (some (7, false))⟩ ::
    ⟨(some 9), .call (.c (.fn 42 [])) [(.t 8)], (some (7, false))⟩ ::
    ⟨(some 10), .pick (.t 7) (.c (.d (.bool true))) (.t 9), none⟩ ::
    []))
  (.cond (.t 10) (.seq (.reg (⟨(some 11), .bld [.d (.int .u8 0), .d (.int .i64 0), .d (.int .i64 0), .d (.int .i64 0), .d (.int .i64 0), .d (.bool false), .d (.bool false), .d (.int .i64 0), .d (.int .i64 0), .nils, .d (.str []), .d (.int .i64 0), .d (.int .i64 0), .d (.bool false), .d (.int .i64 0)] [], none⟩ ::
    ⟨none, .st 15 (.t 2) (.t 11), none⟩ ::
    ⟨(some 3), .mv (.c (.d (.bool false))), none⟩ ::
    []))
  .ret) .skip))
  (.seq (.reg (⟨(some 12), .off 1 (.t 1), none⟩ ::
    ⟨(some 13), .ld (.t 12), none⟩ ::
    ⟨(some 14), .off 0 (.t 1), none⟩ ::
    ⟨(some 15), .ld (.t 14), none⟩ ::
    ⟨(some 16), .off 3 (.t 1), none⟩ ::
    ⟨(some 17), .ld (.t 16), none⟩ ::
    ⟨(some 18), .bld [.d (.int .u8 0), .d (.int .i64 0), .d (.int .i64 0), .d (.int .i64 0), .d (.int .i64 0), .d (.bool false), .d (.bool false), .d (.int .i64 0), .d (.int .i64 0), .nils, .d (.str []), .d (.int .i64 0), .d (.int .i64 0), .d (.bool false), .d (.int .i64 0)] [(0, 1, (.c (.d (.int .u8 4)))), (3, 1, (.t 13)), (4, 1, (.t 15)), (5, 1, (.t 17))], none⟩ ::
    ⟨none, .st 15 (.t 2) (.t 18), none⟩ ::
    ⟨(some 3), .mv (.c (.d (.bool true))), none⟩ ::
    []))
  .ret))) }
/-- garland/look.Begin -/
def cf33 : CFun := { np := 2, nt := 17, res := [.cells 4 6], body :=
  (.seq (.reg (⟨(some 2), .box (.t 0), none⟩ ::
    ⟨(some 4), .new [.d (.int .i64 0), .d (.int .i64 0), .d (.int .i64 0), .d (.bool false), .d (.bool false), .d (.int .i64 0)], none⟩ ::
    []))
  (.seq (.seq (.reg (⟨(some 5), .ldn 20 (.t 2), none⟩ ::
    ⟨(some 6), .call (.c (.fn 52 [])) [(.t 5)], none⟩ ::
    ⟨(some 7), .not (.t 6), none⟩ ::
    []))
  (.cond (.t 7) (.seq (.reg (⟨(some 8), .ldn 6 (.t 4), none⟩ ::
    ⟨none, .st 6 (.t 4) (.t 8), none⟩ ::
    []))
  .ret) .skip))
  (.seq (.reg (⟨(some 9), .mv (.t 1), none⟩ ::
    ⟨(some 10), .call (.c (.fn 66 [])) [(.t 9)], none⟩ ::
    ⟨(some 11), .off 0 (.t 4), none⟩ ::
    ⟨none, .st 1 (.t 11) (.t 10), none⟩ ::
    []))
  (.seq (.reg (⟨(some 12), .ldn 20 (.t 2), none⟩ ::
    ⟨(some 13), .ldn 6 (.t 4), none⟩ ::
    ⟨(some 14), .off 0 (.t 2), none⟩ ::
    ⟨(some 15), .ld (.t 14), none⟩ ::
    ⟨(some 16), .call (.c (.fn 67 [])) [(.t 12), (.t 13), (.t 15), (.c (.d (.bool false)))], none⟩ ::
    ⟨none, .st 6 (.t 4) (.t 16), none⟩ ::
    []))
  .ret)))) }
/-- garland/garlandref18.Begin -/
def cf34 : CFun := { np := 2, nt := 16, res := [.cells 4 6], body :=
  (.seq (.reg (⟨(some 2), .box (.t 0), none⟩ ::
    ⟨(some 4), .new [.d (.int .i64 0), .d (.int .i64 0), .d (.int .i64 0), .d (.bool false), .d (.bool false), .d (.int .i64 0)], none⟩ ::
    []))
  (.seq (.seq (.reg (⟨(some 5), .ldn 20 (.t 2), none⟩ ::
    ⟨(some 6), .call (.c (.fn 24 [])) [(.t 5)], none⟩ ::
    ⟨(some 7), .not (.t 6), none⟩ ::
    []))
  (.cond (.t 7) (.seq (.reg (⟨(some 8), .bld [.d (.int .i64 0), .d (.int .i64 0), .d (.int .i64 0), .d (.bool false), .d (.bool false), .d (.int .i64 0)] [], none⟩ ::
    ⟨none, .st 6 (.t 4) (.t 8), none⟩ ::
    []))
  .ret) .skip))
  (.seq (.dreg (⟨(some 9), .ldn 20 (.t 2), none⟩ ::
    ⟨(some 10), .mv (.t 1), none⟩ ::
    ⟨(some 11), .call (.c (.fn 27 [])) [(.t 10)], none⟩ ::
    ⟨(some 12), .bld [.d (.int .i64 0), .d (.int .i64 0), .d (.int .i64 0), .d (.bool false), .d (.bool false), .d (.int .i64 0)] [(0, 1, (.t 11))], none⟩ ::
    ⟨(some 13), .off 0 (.t 2), none⟩ ::
    ⟨(some 14), .ld (.t 13), none⟩ ::
    ⟨(some 15), .call (.c (.fn 68 [])) [(.t 9), (.t 12), (.t 14), (.c (.d (.bool false)))], none⟩ ::
    []) (⟨none, .st 6 (.t 4) (.t 15), none⟩ ::
    []))
  .ret))) }
/-- garland/look.Told -/
def cf35 : CFun := { np := 3, nt := 59, res := [.cells 6 6], body :=
  (.seq (.reg (⟨(some 3), .box (.t 0), none⟩ ::
    ⟨(some 4), .box (.t 1), none⟩ ::
    ⟨(some 5), .box (.t 2), none⟩ ::
    ⟨(some 6), .new [.d (.int .i64 0), .d (.int .i64 0), .d (.int .i64 0), .d (.bool false), .d (.bool false), .d (.int .i64 0)], none⟩ ::
    []))
  (.scope [4, 6] (.seq (.seq (.reg (⟨(some 7), .ldn 6 (.t 4), none⟩ ::
    ⟨(some 8), .call (.c (.fn 41 [])) [(.t 7)], none⟩ ::
    ⟨(some 9), .mv (.t 8), none⟩ ::
    ⟨(some 10), .off 0 (.t 5), (some (9, false))⟩ ::
    ⟨(some 11), .ld (.t 10), (some (9, false))⟩ ::
    ⟨(some 12), .bin .neq (.t 11) (.c (.d (.int .u8 10))), (some (9, false))⟩ ::
    ⟨(some 13), .pick (.t 9) (.c (.d (.bool true))) (.t 12), none⟩ ::
    ⟨(some 14), .mv (.t 13), none⟩ ::
    ⟨(some 15), .off 2 (.t 5), (some (14, false))⟩ ::
    ⟨(some 16), .ld (.t 15), (some (14, false))⟩ ::
    ⟨(some 17), .off 1 (.t 4), (some (14, false))⟩ ::
    ⟨(some 18), .ld (.t 17), (some (14, false))⟩ ::
    ⟨(some 19), .bin .neq (.t 16) (.t 18), (some (14, false))⟩ ::
    ⟨(some 20), .pick (.t 14) (.c (.d (.bool true))) (.t 19), none⟩ ::
    ⟨(some 21), .mv (.t 20), none⟩ ::
    ⟨(some 22), .off 3 (.t 5), (some (21, false))⟩ ::
    ⟨(some 23), .ld (.t 22), (some (21, false))⟩ ::
    ⟨(some 24), .off 0 (.t 3), (some (21, false))⟩ ::
    ⟨(some 25), .ld (.t 24), (some (21, false))⟩ ::
    ⟨(some 26), .bin .neq (.t 23) (.t 25), (some (21, false))⟩ ::
    ⟨(some 27), .pick (.t 21) (.c (.d (.bool true))) (.t 26), none⟩ ::
    ⟨(some 28), .mv (.t 27), none⟩ ::
    ⟨(some 29), .ldn 15 (.t 5), (some (28, false))⟩ ::
    ⟨(some 30), .call (.c (.fn 55 [])) [(.t 29)], (some (28, false))⟩ ::
    ⟨(some 31), .not (.t 30), (some (28, false))⟩ ::
    ⟨(some 32), .pick (.t 28) (.c (.d (.bool true))) (.t 31), none⟩ ::
    ⟨(some 33), .mv (.t 32), none⟩ ::
    ⟨(some 34), .ldn 6 (.t 4), (some (33, false))⟩ ::
    ⟨(some 35), .call (.c (.fn 39 [])) [(.t 34)], (some (33, false))⟩ ::
    ⟨(some 36), .not (.t 35), (some (33, false))⟩ ::
    ⟨(some 37), .pick (.t 33) (.c (.d (.bool true))) (.t 36), none⟩ ::
    ⟨(some 38), .mv (.t 37), none⟩ ::
    ⟨(some 39), .ldn 20 (.t 3), (some (38, false))⟩ ::
    ⟨(some 40), .call (.c (.fn 52 [])) [(.t 39)], (some (38, false))⟩ ::
    ⟨(some 41), .not (.t 40), (some (38, false))⟩ ::
    ⟨(some 42), .pick (.t 38) (.c (.d (.bool true))) (.t 41), none⟩ ::
    []))
  (.cond (.t 42) (.goto 0) .skip))
  (.seq (.seq (.reg (⟨(some 43), .off 2 (.t 4), none⟩ ::
    ⟨(some 44), .ld (.t 43), none⟩ ::
    ⟨(some 45), .bin .add (.t 44) (.c (.d (.int .i64 1))), none⟩ ::
    ⟨(some 46), .off 2 (.t 4), none⟩ ::
    ⟨none, .st 1 (.t 46) (.t 45), none⟩ ::
    []))
  (.seq (.reg (⟨(some 47), .off 2 (.t 4), none⟩ ::
    ⟨(some 48), .ld (.t 47), none⟩ ::
    ⟨(some 49), .bin .gtr (.t 48) (.c (.d (.int .i64 40))), none⟩ ::
    []))
  (.cond (.t 49) (.seq (.reg (⟨(some 50), .off 5 (.t 4), none⟩ ::
    ⟨none, .st 1 (.t 50) (.c (.d (.int .i64 211))), none⟩ ::
    []))
  (.goto 0)) .skip)))
  (.seq (.seq (.reg (⟨(some 51), .ldn 20 (.t 3), none⟩ ::
    ⟨(some 52), .ldn 6 (.t 4), none⟩ ::
    ⟨(some 53), .off 7 (.t 5), none⟩ ::
    ⟨(some 54), .ld (.t 53), none⟩ ::
    ⟨(some 55), .off 6 (.t 5), none⟩ ::
    ⟨(some 56), .ld (.t 55), none⟩ ::
    ⟨(some 57), .call (.c (.fn 67 [])) [(.t 51), (.t 52), (.t 54), (.t 56)], none⟩ ::
    ⟨none, .st 6 (.t 6) (.t 57), none⟩ ::
    []))
  .ret)
  (.seq (.label 0)
  (.seq (.reg (⟨(some 58), .ldn 6 (.t 4), none⟩ ::
    ⟨none, .st 6 (.t 6) (.t 58), none⟩ ::
    []))
  .ret))))))) }
/-- garland/garlandref18.Told -/
def cf36 : CFun := { np := 3, nt := 60, res := [.cells 6 6], body :=
  (.seq (.reg (⟨(some 3), .box (.t 0), none⟩ ::
    ⟨(some 4), .box (.t 1), none⟩ ::
    ⟨(some 5), .box (.t 2), none⟩ ::
    ⟨(some 6), .new [.d (.int .i64 0), .d (.int .i64 0), .d (.int .i64 0), .d (.bool false), .d (.bool false), .d (.int .i64 0)], none⟩ ::
    []))
  (.seq (.seq (.reg (⟨(some 7), .ldn 20 (.t 3), none⟩ ::
    ⟨(some 8), .call (.c (.fn 24 [])) [(.t 7)], none⟩ ::
    ⟨(some 9), .not (.t 8), none⟩ ::
    ⟨(some 10), .mv (.t 9), none⟩ ::
    ⟨(some 11), .ldn 6 (.t 4), (some (10, false))⟩ ::
    ⟨(some 12), .call (.c (.fn 40 [])) [(.t 11)], (some (10, false))⟩ ::
    ⟨(some 13), .not (.t 12), (some (10, false))⟩ ::
    ⟨(some 14), .pick (.t 10) (.c (.d (.bool true))) (.t 13), none⟩ ::
    ⟨(some 15), .mv (.t 14), none⟩ ::
    ⟨(some 16), .ldn 6 (.t 4), (some (15, false))⟩ ::
    ⟨(some 17), .call (.c (.fn 42 [])) [(.t 16)], (some (15, false))⟩ ::
    ⟨(some 18), .pick (.t 15) (.c (.d (.bool true))) (.t 17), none⟩ ::
    ⟨(some 19), .mv (.t 18), none⟩ ::
    ⟨(some 20), .ldn 15 (.t 5), (some (19, false))⟩ ::
    ⟨(some 21), .call (.c (.fn 28 [])) [(.t 20)], (some (19, false))⟩ ::
    ⟨(some 22), .not (.t 21), (some (19, false))⟩ ::
    ⟨(some 23), .pick (.t 19) (.c (.d (.bool true))) (.t 22), none⟩ ::
    ⟨(some 24), .mv (.t 23), none⟩ ::
    ⟨(some 25), .off 0 (.t 5), (some (24, false))⟩ ::
    ⟨(some 26), .ld (.t 25), (some (24, false))⟩ ::
    ⟨(some 27), .bin .neq (.t 26) (.c (.d (.int .u8 10))), (some (24, false))⟩ ::
    ⟨(some 28), .pick (.t 24) (.c (.d (.bool true))) (.t 27), none⟩ ::
    ⟨(some 29), .mv (.t 28), none⟩ ::
    ⟨(some 30), .off 2 (.t 5), (some (29, false))⟩ ::
    ⟨(some 31), .ld (.t 30), (some (29, false))⟩ ::
    ⟨(some 32), .off 1 (.t 4), (some (29, false))⟩ ::
    ⟨(some 33), .ld (.t 32), (some (29, false))⟩ ::
    ⟨(some 34), .bin .neq (.t 31) (.t 33), (some (29, false))⟩ ::
    ⟨(some 35), .pick (.t 29) (.c (.d (.bool true))) (.t 34), none⟩ ::
    ⟨(some 36), .mv (.t 35), none⟩ ::
    ⟨(some 37), .off 3 (.t 5), (some (36, false))⟩ ::
    ⟨(some 38), .ld (.t 37), (some (36, false))⟩ ::
    ⟨(some 39), .off 0 (.t 3), (some (36, false))⟩ ::
    ⟨(some 40), .ld (.t 39), (some (36, false))⟩ ::
    ⟨(some 41), .bin .neq (.t 38) (.t 40), (some (36, false))⟩ ::
    ⟨(some 42), .pick (.t 36) (.c (.d (.bool true))) (.t 41), none⟩ ::
    []))
  (.cond (.t 42) (.seq (.reg (⟨(some 43), .ldn 6 (.t 4), none⟩ ::
    ⟨none, .st 6 (.t 6) (.t 43), none⟩ ::
    []))
  .ret) .skip))
  (.seq (.reg (⟨(some 44), .off 2 (.t 4), none⟩ ::
    ⟨(some 45), .ld (.t 44), none⟩ ::
    ⟨(some 46), .bin .add (.t 45) (.c (.d (.int .i64 1))), none⟩ ::
    ⟨(some 47), .off 2 (.t 4), none⟩ ::
    ⟨none, .st 1 (.t 47) (.t 46), none⟩ ::
    []))
  (.seq (.seq (.reg (⟨(some 48), .off 2 (.t 4), none⟩ ::
    ⟨(some 49), .ld (.t 48), none⟩ ::
    ⟨(some 50), .bin .gtr (.t 49) (.c (.d (.int .i64 40))), none⟩ ::
    []))
  (.cond (.t 50) (.seq (.reg (⟨(some 51), .off 5 (.t 4), none⟩ ::
    ⟨none, .st 1 (.t 51) (.c (.d (.int .i64 211))), none⟩ ::
    []))
  (.seq (.reg (⟨(some 52), .ldn 6 (.t 4), none⟩ ::
    ⟨none, .st 6 (.t 6) (.t 52), none⟩ ::
    []))
  .ret)) .skip))
  (.seq (.reg (⟨(some 53), .ldn 20 (.t 3), none⟩ ::
    ⟨(some 54), .ldn 6 (.t 4), none⟩ ::
    ⟨(some 55), .off 7 (.t 5), none⟩ ::
    ⟨(some 56), .ld (.t 55), none⟩ ::
    ⟨(some 57), .off 6 (.t 5), none⟩ ::
    ⟨(some 58), .ld (.t 57), none⟩ ::
    ⟨(some 59), .call (.c (.fn 68 [])) [(.t 53), (.t 54), (.t 56), (.t 58)], none⟩ ::
    ⟨none, .st 6 (.t 6) (.t 59), none⟩ ::
    []))
  .ret))))) }
/-- garland/look.Again -/
def cf37 : CFun := { np := 2, nt := 33, res := [.cells 4 6], body :=
  (.seq (.reg (⟨(some 2), .box (.t 0), none⟩ ::
    ⟨(some 3), .box (.t 1), none⟩ ::
    ⟨(some 4), .new [.d (.int .i64 0), .d (.int .i64 0), .d (.int .i64 0), .d (.bool false), .d (.bool false), .d (.int .i64 0)], none⟩ ::
    []))
  (.seq (.seq (.reg (⟨(some 5), .ldn 6 (.t 3), none⟩ ::
    ⟨(some 6), .call (.c (.fn 41 [])) [(.t 5)], none⟩ ::
    ⟨(some 7), .mv (.t 6), none⟩ ::
    ⟨(some 8), .ldn 6 (.t 3), (some (7, false))⟩ ::
    ⟨(some 9), .call (.c (.fn 39 [])) [(.t 8)], (some (7, false))⟩ ::
    ⟨(some 10), .not (.t 9), (some (7, false))⟩ ::
    ⟨(some 11), .pick (.t 7) (.c (.d (.bool true))) (.t 10), none⟩ ::
    ⟨(some 12), .mv (.t 11), none⟩ ::
    ⟨(some 13), .ldn 20 (.t 2), (some (12, false))⟩ ::
    ⟨(some 14), .call (.c (.fn 52 [])) [(.t 13)], (some (12, false))⟩ ::
    ⟨(some 15), .not (.t 14), (some (12, false))⟩ ::
    ⟨(some 16), .pick (.t 12) (.c (.d (.bool true))) (.t 15), none⟩ ::
    []))
  (.cond (.t 16) (.seq (.reg (⟨(some 17), .ldn 6 (.t 3), none⟩ ::
    ⟨none, .st 6 (.t 4) (.t 17), none⟩ ::
    []))
  .ret) .skip))
  (.seq (.seq (.reg (⟨(some 18), .off 2 (.t 3), none⟩ ::
    ⟨(some 19), .ld (.t 18), none⟩ ::
    ⟨(some 20), .bin .add (.t 19) (.c (.d (.int .i64 1))), none⟩ ::
    ⟨(some 21), .off 2 (.t 3), none⟩ ::
    ⟨none, .st 1 (.t 21) (.t 20), none⟩ ::
    []))
  (.seq (.reg (⟨(some 22), .off 2 (.t 3), none⟩ ::
    ⟨(some 23), .ld (.t 22), none⟩ ::
    ⟨(some 24), .bin .gtr (.t 23) (.c (.d (.int .i64 40))), none⟩ ::
    []))
  (.cond (.t 24) (.seq (.reg (⟨(some 25), .off 5 (.t 3), none⟩ ::
    ⟨none, .st 1 (.t 25) (.c (.d (.int .i64 211))), none⟩ ::
    []))
  (.seq (.reg (⟨(some 26), .ldn 6 (.t 3), none⟩ ::
    ⟨none, .st 6 (.t 4) (.t 26), none⟩ ::
    []))
  .ret)) .skip)))
  (.seq (.reg (⟨(some 27), .off 3 (.t 3), none⟩ ::
    ⟨none, .st 1 (.t 27) (.c (.d (.bool true))), none⟩ ::
    []))
  (.seq (.reg (⟨(some 28), .ldn 20 (.t 2), none⟩ ::
    ⟨(some 29), .ldn 6 (.t 3), none⟩ ::
    ⟨(some 30), .off 0 (.t 2), none⟩ ::
    ⟨(some 31), .ld (.t 30), none⟩ ::
    ⟨(some 32), .call (.c (.fn 67 [])) [(.t 28), (.t 29), (.t 31), (.c (.d (.bool false)))], none⟩ ::
    ⟨none, .st 6 (.t 4) (.t 32), none⟩ ::
    []))
  .ret))))) }
/-- garland/garlandref18.Again -/
def cf38 : CFun := { np := 2, nt := 33, res := [.cells 4 6], body :=
  (.seq (.reg (⟨(some 2), .box (.t 0), none⟩ ::
    ⟨(some 3), .box (.t 1), none⟩ ::
    ⟨(some 4), .new [.d (.int .i64 0), .d (.int .i64 0), .d (.int .i64 0), .d (.bool false), .d (.bool false), .d (.int .i64 0)], none⟩ ::
    []))
  (.seq (.seq (.reg (⟨(some 5), .ldn 20 (.t 2), none⟩ ::
    ⟨(some 6), .call (.c (.fn 24 [])) [(.t 5)], none⟩ ::
    ⟨(some 7), .not (.t 6), none⟩ ::
    ⟨(some 8), .mv (.t 7), none⟩ ::
    ⟨(some 9), .ldn 6 (.t 3), (some (8, false))⟩ ::
    ⟨(some 10), .call (.c (.fn 40 [])) [(.t 9)], (some (8, false))⟩ ::
    ⟨(some 11), .not (.t 10), (some (8, false))⟩ ::
    ⟨(some 12), .pick (.t 8) (.c (.d (.bool true))) (.t 11), none⟩ ::
    ⟨(some 13), .mv (.t 12), none⟩ ::
    ⟨(some 14), .ldn 6 (.t 3), (some (13, false))⟩ ::
    ⟨(some 15), .call (.c (.fn 42 [])) [(.t 14)], (some (13, false))⟩ ::
    ⟨(some 16), .pick (.t 13) (.c (.d (.bool true))) (.t 15), none⟩ ::
    []))
  (.cond (.t 16) (.seq (.reg (⟨(some 17), .ldn 6 (.t 3), none⟩ ::
    ⟨none, .st 6 (.t 4) (.t 17), none⟩ ::
    []))
  .ret) .skip))
  (.seq (.reg (⟨(some 18), .off 2 (.t 3), none⟩ ::
    ⟨(some 19), .ld (.t 18), none⟩ ::
    ⟨(some 20), .bin .add (.t 19) (.c (.d (.int .i64 1))), none⟩ ::
    ⟨(some 21), .off 2 (.t 3), none⟩ ::
    ⟨none, .st 1 (.t 21) (.t 20), none⟩ ::
    []))
  (.seq (.seq (.reg (⟨(some 22), .off 2 (.t 3), none⟩ ::
    ⟨(some 23), .ld (.t 22), none⟩ ::
    ⟨(some 24), .bin .gtr (.t 23) (.c (.d (.int .i64 40))), none⟩ ::
    []))
  (.cond (.t 24) (.seq (.reg (⟨(some 25), .off 5 (.t 3), none⟩ ::
    ⟨none, .st 1 (.t 25) (.c (.d (.int .i64 211))), none⟩ ::
    []))
  (.seq (.reg (⟨(some 26), .ldn 6 (.t 3), none⟩ ::
    ⟨none, .st 6 (.t 4) (.t 26), none⟩ ::
    []))
  .ret)) .skip))
  (.seq (.reg (⟨(some 27), .off 3 (.t 3), none⟩ ::
    ⟨none, .st 1 (.t 27) (.c (.d (.bool true))), none⟩ ::
    []))
  (.seq (.reg (⟨(some 28), .ldn 20 (.t 2), none⟩ ::
    ⟨(some 29), .ldn 6 (.t 3), none⟩ ::
    ⟨(some 30), .off 0 (.t 2), none⟩ ::
    ⟨(some 31), .ld (.t 30), none⟩ ::
    ⟨(some 32), .call (.c (.fn 68 [])) [(.t 28), (.t 29), (.t 31), (.c (.d (.bool false)))], none⟩ ::
    ⟨none, .st 6 (.t 4) (.t 32), none⟩ ::
    []))
  .ret)))))) }
/-- garland/look.Right -/
def cf39 : CFun := { np := 1, nt := 9, res := [.tmp 2], body :=
  (.seq (.reg (⟨(some 1), .box (.t 0), none⟩ ::
    ⟨(some 2), .mv (.c (.d (.bool false))), none⟩ ::
    []))
  (.scope [] (.seq (.seq (.reg (⟨(some 4), .ldn 6 (.t 1), none⟩ ::
    ⟨(some 5), .call (.c (.fn 69 [])) [(.t 4)], none⟩ ::
    []))
  (.block 0 (.range (.t 5) [6] (.reg (⟨(some 3), .mv (.t 6), none⟩ ::
    [])) (.block 1 (.seq (.reg (⟨(some 7), .mv (.t 3), none⟩ ::
    ⟨(some 8), .not (.t 7), none⟩ ::
    []))
  (.cond (.t 8) (.goto 0) .skip))))))
  (.seq (.seq (.reg (⟨(some 2), .mv (.c (.d (.bool true))), none⟩ ::
    []))
  .ret)
  (.seq (.label 0)
  (.seq (.reg (⟨(some 2), .mv (.c (.d (.bool false))), none⟩ ::
    []))
  .ret)))))) }
/-- garland/garlandref18.Right -/
def cf40 : CFun := { np := 1, nt := 45, res := [.tmp 2], body :=
  (.seq (.reg (⟨(some 1), .box (.t 0), none⟩ ::
    ⟨(some 2), .mv (.c (.d (.bool false))), none⟩ ::
    []))
  (.seq (.seq (.reg (⟨(some 3), .off 0 (.t 1), none⟩ ::
    ⟨(some 4), .ld (.t 3), none⟩ ::
    ⟨(some 5), .bin .lss (.t 4) (.c (.d (.int .i64 0))), none⟩ ::
    ⟨(some 6), .mv (.t 5), none⟩ ::
    ⟨(some 7), .off 0 (.t 1), (some (6, false))⟩ ::
    ⟨(some 8), .ld (.t 7), (some (6, false))⟩ ::
    ⟨(some 9), .bin .geq (.t 8) (.c (.d (.int .i64 65536))), (some (6, false))⟩ ::
    ⟨(some 10), .pick (.t 6) (.c (.d (.bool true))) (.t 9), none⟩ ::
    ⟨(some 11), .mv (.t 10), none⟩ ::
    ⟨(some 12), .off 1 (.t 1), (some (11, false))⟩ ::
    ⟨(some 13), .ld (.t 12), (some (11, false))⟩ ::
    ⟨(some 14), .bin .lss (.t 13) (.c (.d (.int .i64 0))), (some (11, false))⟩ ::
    ⟨(some 15), .pick (.t 11) (.c (.d (.bool true))) (.t 14), none⟩ ::
    ⟨(some 16), .mv (.t 15), none⟩ ::
    ⟨(some 17), .off 1 (.t 1), (some (16, false))⟩ ::
    ⟨(some 18), .ld (.t 17), (some (16, false))⟩ ::
    ⟨(some 19), .bin .geq (.t 18) (.c (.d (.int .i64 65536))), (some (16, false))⟩ ::
    ⟨(some 20), .pick (.t 16) (.c (.d (.bool true))) (.t 19), none⟩ ::
    ⟨(some 21), .mv (.t 20), none⟩ ::
    ⟨(some 22), .off 2 (.t 1), (some (21, false))⟩ ::
    ⟨(some 23), .ld (.t 22), (some (21, false))⟩ ::
    ⟨(some 24), .bin .lss (.t 23) (.c (.d (.int .i64 0))), (some (21, false))⟩ ::
    ⟨(some 25), .pick (.t 21) (.c (.d (.bool true))) (.t 24), none⟩ ::
    ⟨(some 26), .mv (.t 25), none⟩ ::
    ⟨(some 27), .off 2 (.t 1), (some (26, false))⟩ ::
    ⟨(some 28), .ld (.t 27), (some (26, false))⟩ ::
    ⟨(some 29), .bin .gtr (.t 28) (.c (.d (.int .i64 41))), (some (26, false))⟩ ::
    ⟨(some 30), .pick (.t 26) (.c (.d (.bool true))) (.t 29), none⟩ ::
    []))
  (.cond (.t 30) (.seq (.reg (⟨(some 2), .mv (.c (.d (.bool false))), none⟩ ::
    []))
  .ret) .skip))
  (.seq (.seq (.reg (⟨(some 31), .off 2 (.t 1), none⟩ ::
    ⟨(some 32), .ld (.t 31), none⟩ ::
    ⟨(some 33), .bin .gtr (.t 32) (.c (.d (.int .i64 40))), none⟩ ::
    []))
  (.cond (.t 33) (.seq (.reg (⟨(some 34), .off 5 (.t 1), none⟩ ::
    ⟨(some 35), .ld (.t 34), none⟩ ::
    ⟨(some 36), .bin .eql (.t 35) (.c (.d (.int .i64 211))), none⟩ ::
    ⟨(some 37), .mv (.t 36), none⟩ ::
    ⟨(some 38), .off 4 (.t 1), (some (37, true))⟩ ::
    ⟨(some 39), .ld (.t 38), (some (37, true))⟩ ::
    ⟨(some 40), .not (.t 39), (some (37, true))⟩ ::
    ⟨(some 41), .pick (.t 37) (.t 40) (.c (.d (.bool false))), none⟩ ::
    ⟨(some 2), .mv (.t 41), none⟩ ::
    []))
  .ret) .skip))
  (.seq (.reg (⟨(some 42), .off 5 (.t 1), none⟩ ::
    ⟨(some 43), .ld (.t 42), none⟩ ::
    ⟨(some 44), .bin .eql (.t 43) (.c (.d (.int .i64 0))), none⟩ ::
    ⟨(some 2), .mv (.t 44), none⟩ ::
    []))
  .ret)))) }
/-- garland/look.Over -/
def cf41 : CFun := { np := 1, nt := 10, res := [.tmp 2], body :=
  (.seq (.reg (⟨(some 1), .box (.t 0), none⟩ ::
    ⟨(some 2), .mv (.c (.d (.bool false))), none⟩ ::
    []))
  (.seq (.reg (⟨(some 3), .off 4 (.t 1), none⟩ ::
    ⟨(some 4), .ld (.t 3), none⟩ ::
    ⟨(some 5), .mv (.t 4), none⟩ ::
    ⟨(some 6), .off 5 (.t 1), (some (5, false))⟩ ::
    ⟨(some 7), .ld (.t 6), (some (5, false))⟩ ::
    ⟨(some 8), .bin .neq (.t 7) (.c (.d (.int .i64 0))), (some (5, false))⟩ ::
    ⟨(some 9), .pick (.t 5) (.c (.d (.bool true))) (.t 8), none⟩ ::
    ⟨(some 2), .mv (.t 9), none⟩ ::
    []))
  .ret)) }
/-- garland/garlandref18.Over -/
def cf42 : CFun := { np := 1, nt := 10, res := [.tmp 2], body :=
  (.seq (.reg (⟨(some 1), .box (.t 0), none⟩ ::
    ⟨(some 2), .mv (.c (.d (.bool false))), none⟩ ::
    []))
  (.seq (.reg (⟨(some 3), .off 4 (.t 1), none⟩ ::
    ⟨(some 4), .ld (.t 3), none⟩ ::
    ⟨(some 5), .mv (.t 4), none⟩ ::
    ⟨(some 6), .off 5 (.t 1), (some (5, false))⟩ ::
    ⟨(some 7), .ld (.t 6), (some (5, false))⟩ ::
    ⟨(some 8), .bin .neq (.t 7) (.c (.d (.int .i64 0))), (some (5, false))⟩ ::
    ⟨(some 9), .pick (.t 5) (.c (.d (.bool true))) (.t 8), none⟩ ::
    ⟨(some 2), .mv (.t 9), none⟩ ::
    []))
  .ret)) }
/-- garland/garlandlaw18.tell -/
def cf43 : CFun := { np := 4, nt := 17, res := [.cells 8 15], body :=
  (.seq (.reg (⟨(some 8), .new [.d (.int .u8 0), .d (.int .i64 0), .d (.int .i64 0), .d (.int .i64 0), .d (.int .i64 0), .d (.bool false), .d (.bool false), .d (.int .i64 0), .d (.int .i64 0), .nils, .d (.str []), .d (.int .i64 0), .d (.int .i64 0), .d (.bool false), .d (.int .i64 0)], none⟩ ::
    []))
  (.seq (.reg (⟨(some 9), .mv (.t 1), none⟩ ::
    ⟨(some 10), .bin .mul (.t 9) (.c (.d (.int .i64 1048576))), none⟩ ::
    ⟨(some 11), .bin .add (.t 10) (.c (.d (.int .i64 1))), none⟩ ::
    ⟨(some 12), .mv (.t 0), none⟩ ::
    ⟨(some 13), .mv (.t 1), none⟩ ::
    ⟨(some 14), .mv (.t 2), none⟩ ::
    ⟨(some 15), .mv (.t 3), none⟩ ::
    ⟨(some 16), .bld [.d (.int .u8 0), .d (.int .i64 0), .d (.int .i64 0), .d (.int .i64 0), .d (.int .i64 0), .d (.bool false), .d (.bool false), .d (.int .i64 0), .d (.int .i64 0), .nils, .d (.str []), .d (.int .i64 0), .d (.int .i64 0), .d (.bool false), .d (.int .i64 0)] [(0, 1, (.c (.d (.int .u8 10)))), (1, 1, (.t 11)), (2, 1, (.t 12)), (3, 1, (.t 13)), (7, 1, (.t 14)), (6, 1, (.t 15))], none⟩ ::
    ⟨none, .st 15 (.t 8) (.t 16), none⟩ ::
    []))
  .ret)) }
/-- garland/garlandref13.New -/
def cf44 : CFun := { np := 2, nt := 25, res := [.cells 4 20, .tmp 5], body :=
  (.seq (.reg (⟨(some 4), .new [.d (.int .i64 0), .nils, .nils, .d (.int .i64 0), .d (.int .i64 0), .d (.int .i64 0), .d (.int .i64 0), .d (.int .i64 0), .d (.int .i64 0), .d (.int .i64 0), .d (.int .i64 0), .d (.int .i64 0), .d (.int .i64 0), .d (.int .i64 0), .d (.int .i64 0), .d (.int .i64 0), .d (.int .i64 0), .d (.int .i64 0), .d (.int .i64 0), .d (.int .i64 0)], none⟩ ::
    ⟨(some 5), .mv (.c (.d (.int .i64 0))), none⟩ ::
    []))
  (.seq (.reg (⟨(some 8), .mv (.t 0), none⟩ ::
    ⟨(some 9), .bls [] 0 1 [], none⟩ ::
    ⟨(some 10), .mv (.t 1), none⟩ ::
    ⟨(some 11), .app 1 (.t 9) (.t 10), none⟩ ::
    ⟨(some 12), .bld [.d (.int .i64 0), .nils, .nils, .d (.int .i64 0), .d (.int .i64 0), .d (.int .i64 0), .d (.int .i64 0), .d (.int .i64 0), .d (.int .i64 0), .d (.int .i64 0), .d (.int .i64 0), .d (.int .i64 0), .d (.int .i64 0), .d (.int .i64 0), .d (.int .i64 0), .d (.int .i64 0), .d (.int .i64 0), .d (.int .i64 0), .d (.int .i64 0), .d (.int .i64 0)] [(0, 1, (.t 8)), (1, 1, (.t 11)), (3, 1, (.c (.d (.int .i64 (-1)))))], none⟩ ::
    ⟨(some 6), .new [.d (.int .i64 0), .nils, .nils, .d (.int .i64 0), .d (.int .i64 0), .d (.int .i64 0), .d (.int .i64 0), .d (.int .i64 0), .d (.int .i64 0), .d (.int .i64 0), .d (.int .i64 0), .d (.int .i64 0), .d (.int .i64 0), .d (.int .i64 0), .d (.int .i64 0), .d (.int .i64 0), .d (.int .i64 0), .d (.int .i64 0), .d (.int .i64 0), .d (.int .i64 0)], none⟩ ::
    ⟨none, .st 20 (.t 6) (.t 12), none⟩ ::
    []))
  (.seq (.seq (.reg (⟨(some 7), .mv (.c (.d (.int .i64 0))), none⟩ ::
    []))
  (.block 0 (.loop [4, 6, 7] (.seq (.seq (.reg (⟨(some 13), .mv (.t 7), none⟩ ::
    ⟨(some 14), .bin .lss (.t 13) (.c (.d (.int .i64 16))), none⟩ ::
    []))
  (.cond (.t 14) .skip (.exit 0)))
  (.seq (.block 1 (.reg (⟨(some 17), .mv (.t 7), none⟩ ::
    ⟨(some 18), .off 4 (.t 6), none⟩ ::
    ⟨(some 19), .ixa 16 1 (.t 18) (.t 17), none⟩ ::
    ⟨none, .st 1 (.t 19) (.c (.d (.int .i64 (-1)))), none⟩ ::
    [])))
  (.reg (⟨(some 15), .mv (.t 7), none⟩ ::
    ⟨(some 16), .bin .add (.t 15) (.c (.d (.int .i64 1))), none⟩ ::
    ⟨(some 7), .mv (.t 16), none⟩ ::
    [])))))))
  (.seq (.seq (.reg (⟨(some 20), .ldn 20 (.t 6), none⟩ ::
    ⟨(some 21), .call (.c (.fn 24 [])) [(.t 20)], none⟩ ::
    ⟨(some 22), .not (.t 21), none⟩ ::
    []))
  (.cond (.t 22) (.seq (.reg (⟨(some 23), .bld [.d (.int .i64 0), .nils, .nils, .d (.int .i64 0), .d (.int .i64 0), .d (.int .i64 0), .d (.int .i64 0), .d (.int .i64 0), .d (.int .i64 0), .d (.int .i64 0), .d (.int .i64 0), .d (.int .i64 0), .d (.int .i64 0), .d (.int .i64 0), .d (.int .i64 0), .d (.int .i64 0), .d (.int .i64 0), .d (.int .i64 0), .d (.int .i64 0), .d (.int .i64 0)] [], none⟩ ::
    ⟨none, .st 20 (.t 4) (.t 23), none⟩ ::
    ⟨(some 5), .mv (.c (.d (.int .i64 2))), none⟩ ::
    []))
  .ret) .skip))
  (.seq (.reg (⟨(some 24), .ldn 20 (.t 6), none⟩ ::
    ⟨none, .st 20 (.t 4) (.t 24), none⟩ ::
    ⟨(some 5), .mv (.c (.d (.int .i64 0))), none⟩ ::
    []))
  .ret))))) }
/-- garland/view.First -/
def cf45 : CFun := { np := 1, nt := 18, res := [.tmp 2], body :=
  (.seq (.reg (⟨(some 1), .box (.t 0), none⟩ ::
    ⟨(some 2), .mv (.c (.d (.int .i64 0))), none⟩ ::
    []))
  (.seq (.seq (.reg (⟨(some 3), .ldn 20 (.t 1), none⟩ ::
    ⟨(some 4), .call (.c (.fn 52 [])) [(.t 3)], none⟩ ::
    ⟨(some 5), .not (.t 4), none⟩ ::
    ⟨(some 6), .mv (.t 5), none⟩ ::
    ⟨(some 7), .off 2 (.t 1), (some (6, false))⟩ ::
    ⟨(some 8), .ld (.t 7), (some (6, false))⟩ ::
    ⟨(some 9), .len false (.t 8), (some (6, false))⟩ ::
    ⟨(some 10), .bin .eql (.t 9) (.c (.d (.int .i64 0))), (some (6, false))⟩ ::
    ⟨(some 11), .pick (.t 6) (.c (.d (.bool true))) (.t 10), none⟩ ::
    []))
  (.cond (.t 11) (.seq (.reg (⟨(some 12), .ldn 20 (.t 1), none⟩ ::
    ⟨(some 13), .call (.c (.fn 70 [])) [(.t 12)], none⟩ ::
    ⟨(some 2), .mv (.t 13), none⟩ ::
    []))
  .ret) .skip))
  (.seq (.reg (⟨(some 14), .off 2 (.t 1), none⟩ ::
    ⟨(some 15), .ld (.t 14), none⟩ ::
    ⟨(some 16), .ixs 1 (.t 15) (.c (.d (.int .i64 0))), none⟩ ::
    ⟨(some 17), .ld (.t 16), none⟩ ::
    ⟨(some 2), .mv (.t 17), none⟩ ::
    []))
  .ret))) }
/-- garland/hop.Next$1 -/
def cf46 : CFun := { np := 2, nt := 8, res := [.tmp 3], body :=
  (.seq (.reg (⟨(some 3), .mv (.c (.d (.int .i64 0))), none⟩ ::
    []))
  (.seq (.reg (⟨(some 4), .off 0 (.t 1), none⟩ ::
    ⟨(some 5), .ld (.t 4), none⟩ ::
    ⟨(some 6), .mv (.t 0), none⟩ ::
    ⟨(some 7), .call (.c (.fn 47 [])) [(.t 5), (.t 6)], none⟩ ::
    ⟨(some 3), .mv (.t 7), none⟩ ::
    []))
  .ret)) }
/-- garland/arc.Far -/
def cf47 : CFun := { np := 2, nt := 9, res := [.tmp 4], body :=
  (.seq (.reg (⟨(some 4), .mv (.c (.d (.int .i64 0))), none⟩ ::
    []))
  (.seq (.reg (⟨(some 5), .mv (.t 1), none⟩ ::
    ⟨(some 6), .mv (.t 0), none⟩ ::
    ⟨(some 7), .bin .sub (.t 5) (.t 6), none⟩ ::
    ⟨(some 8), .call (.c (.fn 66 [])) [(.t 7)], none⟩ ::
    ⟨(some 4), .mv (.t 8), none⟩ ::
    []))
  .ret)) }
/-- garland/arc.UpTo -/
def cf48 : CFun := { np := 3, nt := 17, res := [.tmp 6], body :=
  (.seq (.reg (⟨(some 6), .mv (.c (.d (.bool false))), none⟩ ::
    []))
  (.seq (.reg (⟨(some 7), .mv (.t 1), none⟩ ::
    ⟨(some 8), .mv (.t 2), none⟩ ::
    ⟨(some 9), .call (.c (.fn 47 [])) [(.t 7), (.t 8)], none⟩ ::
    ⟨(some 10), .bin .eql (.t 9) (.c (.d (.int .i64 0))), none⟩ ::
    ⟨(some 11), .mv (.t 10), none⟩ ::
    ⟨(some 12), .mv (.t 0), (some (11, false))⟩ ::
    ⟨(some 13), .mv (.t 1), (some (11, false))⟩ ::
    ⟨(some 14), .mv (.t 2), (some (11, false))⟩ ::
    ⟨(some 15), .call (.c (.fn 71 [])) [(.t 12), (.t 13), (.t 14)], (some (11, false))⟩ ::
    ⟨(some 16), .pick (.t 11) (.c (.d (.bool true))) (.t 15), none⟩ ::
    ⟨(some 6), .mv (.t 16), none⟩ ::
    []))
  .ret)) }
/-- garland/hop.ways -/
def cf49 : CFun := { np := 2, nt := 6, res := [.tmp 4], body :=
  (.seq (.reg (⟨(some 2), .box (.t 0), none⟩ ::
    ⟨(some 3), .box (.t 1), none⟩ ::
    ⟨(some 4), .mv (.c (.nilf)), none⟩ ::
    []))
  (.seq (.reg (⟨(some 5), .mkf 72 [(.t 2), (.t 3)], none⟩ ::
    ⟨(some 4), .mv (.t 5), none⟩ ::
    []))
  .ret)) }
/-- garland/garlandref03.UpTo -/
def cf50 : CFun := { np := 3, nt := 18, res := [.tmp 6], body :=
  (.seq (.reg (⟨(some 6), .mv (.c (.d (.bool false))), none⟩ ::
    []))
  (.seq (.reg (⟨(some 7), .mv (.t 0), none⟩ ::
    ⟨(some 8), .mv (.t 1), none⟩ ::
    ⟨(some 9), .mv (.t 2), none⟩ ::
    ⟨(some 10), .call (.c (.fn 51 [])) [(.t 7), (.t 8), (.t 9)], none⟩ ::
    ⟨(some 11), .mv (.t 10), none⟩ ::
    ⟨(some 12), .mv (.t 1), (some (11, false))⟩ ::
    ⟨(some 13), .call (.c (.fn 27 [])) [(.t 12)], (some (11, false))⟩ ::
    ⟨(some 14), .mv (.t 2), (some (11, false))⟩ ::
    ⟨(some 15), .call (.c (.fn 27 [])) [(.t 14)], (some (11, false))⟩ ::
    ⟨(some 16), .bin .eql (.t 13) (.t 15), (some (11, false))⟩ ::
    ⟨(some 17), .pick (.t 11) (.c (.d (.bool true))) (.t 16), none⟩ ::
    ⟨(some 6), .mv (.t 17), none⟩ ::
    []))
  .ret)) }
/-- garland/garlandref03.In -/
def cf51 : CFun := { np := 3, nt := 30, res := [.tmp 6], body :=
  (.seq (.reg (⟨(some 6), .mv (.c (.d (.bool false))), none⟩ ::
    []))
  (.seq (.seq (.reg (⟨(some 7), .mv (.t 0), none⟩ ::
    ⟨(some 8), .call (.c (.fn 27 [])) [(.t 7)], none⟩ ::
    ⟨(some 9), .mv (.t 2), none⟩ ::
    ⟨(some 10), .call (.c (.fn 27 [])) [(.t 9)], none⟩ ::
    ⟨(some 11), .bin .eql (.t 8) (.t 10), none⟩ ::
    []))
  (.cond (.t 11) (.seq (.reg (⟨(some 12), .mv (.t 1), none⟩ ::
    ⟨(some 13), .call (.c (.fn 27 [])) [(.t 12)], none⟩ ::
    ⟨(some 14), .mv (.t 0), none⟩ ::
    ⟨(some 15), .call (.c (.fn 27 [])) [(.t 14)], none⟩ ::
    ⟨(some 16), .bin .neq (.t 13) (.t 15), none⟩ ::
    ⟨(some 6), .mv (.t 16), none⟩ ::
    []))
  .ret) .skip))
  (.seq (.reg (⟨(some 17), .mv (.t 0), none⟩ ::
    ⟨(some 18), .mv (.t 1), none⟩ ::
    ⟨(some 19), .call (.c (.fn 26 [])) [(.t 17), (.t 18)], none⟩ ::
    ⟨(some 20), .bin .gtr (.t 19) (.c (.d (.int .i64 0))), none⟩ ::
    ⟨(some 21), .mv (.t 20), none⟩ ::
    ⟨(some 22), .mv (.t 0), (some (21, true))⟩ ::
    ⟨(some 23), .mv (.t 1), (some (21, true))⟩ ::
    ⟨(some 24), .call (.c (.fn 26 [])) [(.t 22), (.t 23)], (some (21, true))⟩ ::
    ⟨(some 25), .mv (.t 0), (some (21, true))⟩ ::
    ⟨(some 26), .mv (.t 2), (some (21, true))⟩ ::
    ⟨(some 27), .call (.c (.fn 26 [])) [(.t 25), (.t 26)], (some (21, true))⟩ ::
    ⟨(some 28), .bin .lss (.t 24) (.t 27), (some (21, true))⟩ ::
    ⟨(some 29), .pick (.t 21) (.t 28) (.c (.d (.bool false))), none⟩ ::
    ⟨(some 6), .mv (.t 29), none⟩ ::
    []))
  .ret))) }
/-- garland/view.Right -/
def cf52 : CFun := { np := 1, nt := 76, res := [.tmp 2], body :=
  (.seq (.reg (⟨(some 1), .box (.t 0), none⟩ ::
    ⟨(some 2), .mv (.c (.d (.bool false))), none⟩ ::
    []))
  (.scope [] (.seq (.reg (⟨(some 9), .off 1 (.t 1), none⟩ ::
    ⟨(some 10), .ld (.t 9), none⟩ ::
    ⟨(some 11), .len false (.t 10), none⟩ ::
    ⟨(some 3), .mv (.t 11), none⟩ ::
    []))
  (.seq (.reg (⟨(some 12), .mkf 73 [(.t 1)], none⟩ ::
    ⟨(some 4), .mv (.t 12), none⟩ ::
    []))
  (.seq (.seq (.reg (⟨(some 13), .off 0 (.t 1), none⟩ ::
    ⟨(some 14), .ld (.t 13), none⟩ ::
    ⟨(some 15), .call (.c (.fn 74 [])) [(.t 14)], none⟩ ::
    ⟨(some 16), .not (.t 15), none⟩ ::
    ⟨(some 17), .mv (.t 16), none⟩ ::
    ⟨(some 18), .mv (.t 3), (some (17, false))⟩ ::
    ⟨(some 19), .bin .lss (.t 18) (.c (.d (.int .i64 2))), (some (17, false))⟩ ::
    ⟨(some 20), .pick (.t 17) (.c (.d (.bool true))) (.t 19), none⟩ ::
    ⟨(some 21), .mv (.t 20), none⟩ ::
    ⟨(some 22), .mv (.t 3), (some (21, false))⟩ ::
    ⟨(some 23), .bin .gtr (.t 22) (.c (.d (.int .i64 4))), (some (21, false))⟩ ::
    ⟨(some 24), .pick (.t 21) (.c (.d (.bool true))) (.t 23), none⟩ ::
    ⟨(some 25), .mv (.t 24), none⟩ ::
    ⟨(some 26), .off 0 (.t 1), (some (25, false))⟩ ::
    ⟨(some 27), .ld (.t 26), (some (25, false))⟩ ::
    ⟨(some 28), .off 2 (.t 1), (some (25, false))⟩ ::
    ⟨(some 29), .ld (.t 28), (some (25, false))⟩ ::
    ⟨(some 30), .call (.c (.fn 75 [])) [(.t 27), (.t 29)], (some (25, false))⟩ ::
    ⟨(some 31), .not (.t 30), (some (25, false))⟩ ::
    ⟨(some 32), .pick (.t 25) (.c (.d (.bool true))) (.t 31), none⟩ ::
    ⟨(some 33), .mv (.t 32), none⟩ ::
    ⟨(some 34), .mv (.t 4), (some (33, false))⟩ ::
    ⟨(some 35), .off 3 (.t 1), (some (33, false))⟩ ::
    ⟨(some 36), .ld (.t 35), (some (33, false))⟩ ::
    ⟨(some 37), .call (.t 34) [(.t 36)], (some (33, false))⟩ ::
    ⟨(some 38), .not (.t 37), (some (33, false))⟩ ::
    ⟨(some 39), .pick (.t 33) (.c (.d (.bool true))) (.t 38), none⟩ ::
    []))
  (.cond (.t 39) (.goto 0) .skip))
  (.seq (.seq (.reg (⟨(some 40), .off 1 (.t 1), none⟩ ::
    ⟨(some 41), .ld (.t 40), none⟩ ::
    ⟨(some 42), .len false (.t 41), none⟩ ::
    ⟨(some 43), .mv (.c (.d (.int .i64 0))), none⟩ ::
    []))
  (.block 0 (.loop [1, 4, 41, 42, 43] (.seq (.reg (⟨(some 44), .bin .lss (.t 43) (.t 42), none⟩ ::
    []))
  (.seq (.cond (.t 44) .skip (.exit 0))
  (.seq (.block 1 (.seq (.reg (⟨(some 45), .mv (.t 43), none⟩ ::
    ⟨(some 46), .ixs 1 (.t 41) (.t 43), none⟩ ::
    ⟨(some 47), .ld (.t 46), none⟩ ::
    ⟨(some 5), .mv (.t 45), none⟩ ::
    ⟨(some 6), .mv (.t 47), none⟩ ::
    []))
  (.seq (.reg (⟨(some 48), .mv (.t 6), none⟩ ::
    ⟨(some 49), .call (.c (.fn 74 [])) [(.t 48)], none⟩ ::
    ⟨(some 50), .not (.t 49), none⟩ ::
    ⟨(some 51), .mv (.t 50), none⟩ ::
    ⟨(some 52), .mv (.t 5), (some (51, false))⟩ ::
    ⟨(some 53), .bin .gtr (.t 52) (.c (.d (.int .i64 0))), (some (51, false))⟩ ::
    ⟨(some 54), .mv (.t 53), (some (51, false))⟩ ::
    ⟨(some 55), .mv (.t 6), (some (54, true))⟩ ::
    ⟨(some 56), .off 1 (.t 1), (some (54, true))⟩ ::
    ⟨(some 57), .ld (.t 56), (some (54, true))⟩ ::
    ⟨(some 58), .mv (.t 5), (some (54, true))⟩ ::
    ⟨(some 59), .bin .sub (.t 58) (.c (.d (.int .i64 1))), (some (54, true))⟩ ::
    ⟨(some 60), .ixs 1 (.t 57) (.t 59), (some (54, true))⟩ ::
    ⟨(some 61), .ld (.t 60), (some (54, true))⟩ ::
    ⟨(some 62), .bin .leq (.t 55) (.t 61), (some (54, true))⟩ ::
    ⟨(some 63), .pick (.t 54) (.t 62) (.c (.d (.bool false))), (some (51, false))⟩ ::
    ⟨(some 64), .pick (.t 51) (.c (.d (.bool true))) (.t 63), none⟩ ::
    []))
  (.cond (.t 64) (.goto 0) .skip))))
  (.reg (⟨(some 65), .bin .add (.t 43) (.c (.d (.int .i64 1))), none⟩ ::
    ⟨(some 43), .mv (.t 65), none⟩ ::
    []))))))))
  (.seq (.seq (.reg (⟨(some 66), .off 4 (.t 1), none⟩ ::
    ⟨(some 67), .ldn 16 (.t 66), none⟩ ::
    ⟨(some 68), .mv (.c (.d (.int .i64 0))), none⟩ ::
    []))
  (.block 2 (.loop [4, 67, 68] (.seq (.reg (⟨(some 69), .bin .lss (.t 68) (.c (.d (.int .i64 16))), none⟩ ::
    []))
  (.seq (.cond (.t 69) .skip (.exit 2))
  (.seq (.block 3 (.seq (.reg (⟨(some 70), .ixv 16 (.t 67) (.t 68), none⟩ ::
    ⟨(some 8), .mv (.t 70), none⟩ ::
    []))
  (.seq (.reg (⟨(some 71), .mv (.t 4), none⟩ ::
    ⟨(some 72), .mv (.t 8), none⟩ ::
    ⟨(some 73), .call (.t 71) [(.t 72)], none⟩ ::
    ⟨(some 74), .not (.t 73), none⟩ ::
    []))
  (.cond (.t 74) (.goto 0) .skip))))
  (.reg (⟨(some 75), .bin .add (.t 68) (.c (.d (.int .i64 1))), none⟩ ::
    ⟨(some 68), .mv (.t 75), none⟩ ::
    []))))))))
  (.seq (.seq (.reg (⟨(some 2), .mv (.c (.d (.bool true))), none⟩ ::
    []))
  .ret)
  (.seq (.label 0)
  (.seq (.reg (⟨(some 2), .mv (.c (.d (.bool false))), none⟩ ::
    []))
  .ret)))))))))) }
/-- garland/hop.left -/
def cf53 : CFun := { np := 2, nt := 12, res := [.tmp 4], body :=
  (.seq (.reg (⟨(some 4), .mv (.c (.d (.int .i64 0))), none⟩ ::
    []))
  (.seq (.seq (.reg (⟨(some 6), .mv (.t 0), none⟩ ::
    ⟨(some 7), .mv (.t 1), none⟩ ::
    ⟨(some 8), .call (.c (.fn 47 [])) [(.t 6), (.t 7)], none⟩ ::
    ⟨(some 5), .mv (.t 8), none⟩ ::
    []))
  (.seq (.reg (⟨(some 9), .mv (.t 5), none⟩ ::
    ⟨(some 10), .bin .gtr (.t 9) (.c (.d (.int .i64 0))), none⟩ ::
    []))
  (.cond (.t 10) (.seq (.reg (⟨(some 11), .mv (.t 5), none⟩ ::
    ⟨(some 4), .mv (.t 11), none⟩ ::
    []))
  .ret) .skip)))
  (.seq (.reg (⟨(some 4), .mv (.c (.d (.int .i64 65536))), none⟩ ::
    []))
  .ret))) }
/-- garland/garlandref16.left -/
def cf54 : CFun := { np := 2, nt := 12, res := [.tmp 4], body :=
  (.seq (.reg (⟨(some 4), .mv (.c (.d (.int .i64 0))), none⟩ ::
    []))
  (.seq (.reg (⟨(some 6), .mv (.t 0), none⟩ ::
    ⟨(some 7), .mv (.t 1), none⟩ ::
    ⟨(some 8), .call (.c (.fn 26 [])) [(.t 6), (.t 7)], none⟩ ::
    ⟨(some 5), .mv (.t 8), none⟩ ::
    []))
  (.seq (.seq (.reg (⟨(some 9), .mv (.t 5), none⟩ ::
    ⟨(some 10), .bin .eql (.t 9) (.c (.d (.int .i64 0))), none⟩ ::
    []))
  (.cond (.t 10) (.seq (.reg (⟨(some 4), .mv (.c (.d (.int .i64 65536))), none⟩ ::
    []))
  .ret) .skip))
  (.seq (.reg (⟨(some 11), .mv (.t 5), none⟩ ::
    ⟨(some 4), .mv (.t 11), none⟩ ::
    []))
  .ret)))) }
/-- garland/msg.Right -/
def cf55 : CFun := { np := 1, nt := 61, res := [.tmp 2], body :=
  (.seq (.reg (⟨(some 1), .box (.t 0), none⟩ ::
    ⟨(some 2), .mv (.c (.d (.bool false))), none⟩ ::
    []))
  (.scope [] (.seq (.reg (⟨(some 4), .off 0 (.t 1), none⟩ ::
    ⟨(some 5), .ld (.t 4), none⟩ ::
    ⟨(some 6), .off 1 (.t 1), none⟩ ::
    ⟨(some 7), .ld (.t 6), none⟩ ::
    ⟨(some 8), .off 2 (.t 1), none⟩ ::
    ⟨(some 9), .ld (.t 8), none⟩ ::
    ⟨(some 10), .off 3 (.t 1), none⟩ ::
    ⟨(some 11), .ld (.t 10), none⟩ ::
    ⟨(some 12), .bld [.d (.int .u8 0), .d (.int .i64 0), .d (.int .i64 0), .d (.int .i64 0), .d (.int .i64 0), .d (.bool false), .d (.bool false), .d (.int .i64 0), .d (.int .i64 0), .nils, .d (.str []), .d (.int .i64 0), .d (.int .i64 0), .d (.bool false), .d (.int .i64 0)] [(0, 1, (.t 5)), (1, 1, (.t 7)), (2, 1, (.t 9)), (3, 1, (.t 11))], none⟩ ::
    ⟨(some 3), .new [.d (.int .u8 0), .d (.int .i64 0), .d (.int .i64 0), .d (.int .i64 0), .d (.int .i64 0), .d (.bool false), .d (.bool false), .d (.int .i64 0), .d (.int .i64 0), .nils, .d (.str []), .d (.int .i64 0), .d (.int .i64 0), .d (.bool false), .d (.int .i64 0)], none⟩ ::
    ⟨none, .st 15 (.t 3) (.t 12), none⟩ ::
    []))
  (.seq (.seq (.reg (⟨(some 13), .off 0 (.t 1), none⟩ ::
    ⟨(some 14), .ld (.t 13), none⟩ ::
    ⟨(some 15), .bin .lss (.t 14) (.c (.d (.int .u8 1))), none⟩ ::
    ⟨(some 16), .mv (.t 15), none⟩ ::
    ⟨(some 17), .off 0 (.t 1), (some (16, false))⟩ ::
    ⟨(some 18), .ld (.t 17), (some (16, false))⟩ ::
    ⟨(some 19), .bin .geq (.t 18) (.c (.d (.int .u8 13))), (some (16, false))⟩ ::
    ⟨(some 20), .pick (.t 16) (.c (.d (.bool true))) (.t 19), none⟩ ::
    ⟨(some 21), .mv (.t 20), none⟩ ::
    ⟨(some 22), .off 2 (.t 1), (some (21, false))⟩ ::
    ⟨(some 23), .ld (.t 22), (some (21, false))⟩ ::
    ⟨(some 24), .call (.c (.fn 76 [])) [(.t 23)], (some (21, false))⟩ ::
    ⟨(some 25), .not (.t 24), (some (21, false))⟩ ::
    ⟨(some 26), .pick (.t 21) (.c (.d (.bool true))) (.t 25), none⟩ ::
    ⟨(some 27), .mv (.t 26), none⟩ ::
    ⟨(some 28), .off 3 (.t 1), (some (27, false))⟩ ::
    ⟨(some 29), .ld (.t 28), (some (27, false))⟩ ::
    ⟨(some 30), .call (.c (.fn 76 [])) [(.t 29)], (some (27, false))⟩ ::
    ⟨(some 31), .not (.t 30), (some (27, false))⟩ ::
    ⟨(some 32), .pick (.t 27) (.c (.d (.bool true))) (.t 31), none⟩ ::
    ⟨(some 33), .mv (.t 32), none⟩ ::
    ⟨(some 34), .off 2 (.t 1), (some (33, false))⟩ ::
    ⟨(some 35), .ld (.t 34), (some (33, false))⟩ ::
    ⟨(some 36), .off 3 (.t 1), (some (33, false))⟩ ::
    ⟨(some 37), .ld (.t 36), (some (33, false))⟩ ::
    ⟨(some 38), .bin .eql (.t 35) (.t 37), (some (33, false))⟩ ::
    ⟨(some 39), .pick (.t 33) (.c (.d (.bool true))) (.t 38), none⟩ ::
    []))
  (.cond (.t 39) (.goto 0) .skip))
  (.seq (.seq (.dreg (⟨(some 40), .off 1 (.t 1), none⟩ ::
    ⟨(some 41), .ld (.t 40), none⟩ ::
    ⟨(some 42), .bin .lss (.t 41) (.c (.d (.int .i64 1))), none⟩ ::
    ⟨(some 43), .mv (.t 42), none⟩ ::
    ⟨(some 44), .off 1 (.t 1), (some (43, false))⟩ ::
    ⟨(some 45), .ld (.t 44), (some (43, false))⟩ ::
    ⟨(some 46), .bin .sub (.t 45) (.c (.d (.int .i64 1))), (some (43, false))⟩ ::
    ⟨(some 47), .bin .quo (.t 46) (.c (.d (.int .i64 1048576))), (some (43, false))⟩ ::
    ⟨(some 48), .ldn 15 (.t 1), (some (43, false))⟩ ::
    ⟨(some 49), .call (.c (.fn 77 [])) [(.t 48)], (some (43, false))⟩ ::
    ⟨(some 50), .bin .neq (.t 47) (.t 49), (some (43, false))⟩ ::
    ⟨(some 51), .pick (.t 43) (.c (.d (.bool true))) (.t 50), none⟩ ::
    ⟨(some 52), .mv (.t 51), none⟩ ::
    ⟨(some 53), .ldn 15 (.t 1), (some (52, false))⟩ ::
    ⟨(some 54), .call (.c (.fn 78 [])) [(.t 53)], (some (52, false))⟩ ::
    ⟨(some 55), .not (.t 54), (some (52, false))⟩ ::
    ⟨(some 56), .pick (.t 52) (.c (.d (.bool true))) (.t 55), none⟩ ::
    []) ([]))
  (.cond (.t 56) (.goto 0) .skip))
  (.seq (.reg (⟨(some 57), .call (.c (.fn 79 [])) [(.t 1)], none⟩ ::
    []))
  (.seq (.seq (.reg (⟨(some 58), .ldn 15 (.t 1), none⟩ ::
    ⟨(some 59), .ldn 15 (.t 3), none⟩ ::
    ⟨(some 60), .call (.c (.fn 80 [])) [(.t 58), (.t 59)], none⟩ ::
    ⟨(some 2), .mv (.t 60), none⟩ ::
    []))
  .ret)
  (.seq (.label 0)
  (.seq (.reg (⟨(some 2), .mv (.c (.d (.bool false))), none⟩ ::
    []))
  .ret))))))))) }
/-- garland/msg.Tell -/
def cf56 : CFun := { np := 1, nt := 16, res := [.cells 2 15], body :=
  (.seq (.reg (⟨(some 1), .box (.t 0), none⟩ ::
    ⟨(some 2), .new [.d (.int .u8 0), .d (.int .i64 0), .d (.int .i64 0), .d (.int .i64 0), .d (.int .i64 0), .d (.bool false), .d (.bool false), .d (.int .i64 0), .d (.int .i64 0), .nils, .d (.str []), .d (.int .i64 0), .d (.int .i64 0), .d (.bool false), .d (.int .i64 0)], none⟩ ::
    []))
  (.seq (.seq (.reg (⟨(some 3), .ldn 15 (.t 1), none⟩ ::
    ⟨(some 4), .call (.c (.fn 81 [])) [(.t 3)], none⟩ ::
    []))
  (.cond (.t 4) (.reg (⟨(some 5), .off 0 (.t 1), none⟩ ::
    ⟨(some 6), .ld (.t 5), none⟩ ::
    ⟨(some 7), .bin .add (.t 6) (.c (.d (.int .u8 6))), none⟩ ::
    ⟨(some 8), .off 1 (.t 1), none⟩ ::
    ⟨(some 9), .ld (.t 8), none⟩ ::
    ⟨(some 10), .off 3 (.t 1), none⟩ ::
    ⟨(some 11), .ld (.t 10), none⟩ ::
    ⟨(some 12), .off 2 (.t 1), none⟩ ::
    ⟨(some 13), .ld (.t 12), none⟩ ::
    ⟨(some 14), .bld [.d (.int .u8 0), .d (.int .i64 0), .d (.int .i64 0), .d (.int .i64 0), .d (.int .i64 0), .d (.bool false), .d (.bool false), .d (.int .i64 0), .d (.int .i64 0), .nils, .d (.str []), .d (.int .i64 0), .d (.int .i64 0), .d (.bool false), .d (.int .i64 0)] [(0, 1, (.t 7)), (1, 1, (.t 9)), (2, 1, (.t 11)), (3, 1, (.t 13))], none⟩ ::
    ⟨none, .st 15 (.t 2) (.t 14), none⟩ ::
    [])) .skip))
  (.seq (.reg (⟨(some 15), .ldn 15 (.t 2), none⟩ ::
    ⟨none, .st 15 (.t 2) (.t 15), none⟩ ::
    []))
  .ret))) }
/-- garland/garlandref06.Tell -/
def cf57 : CFun := { np := 1, nt := 17, res := [.cells 2 15], body :=
  (.seq (.reg (⟨(some 1), .box (.t 0), none⟩ ::
    ⟨(some 2), .new [.d (.int .u8 0), .d (.int .i64 0), .d (.int .i64 0), .d (.int .i64 0), .d (.int .i64 0), .d (.bool false), .d (.bool false), .d (.int .i64 0), .d (.int .i64 0), .nils, .d (.str []), .d (.int .i64 0), .d (.int .i64 0), .d (.bool false), .d (.int .i64 0)], none⟩ ::
    []))
  (.seq (.seq (.reg (⟨(some 3), .ldn 15 (.t 1), none⟩ ::
    ⟨(some 4), .call (.c (.fn 82 [])) [(.t 3)], none⟩ ::
    ⟨(some 5), .not (.t 4), none⟩ ::
    []))
  (.cond (.t 5) (.seq (.reg (⟨(some 6), .bld [.d (.int .u8 0), .d (.int .i64 0), .d (.int .i64 0), .d (.int .i64 0), .d (.int .i64 0), .d (.bool false), .d (.bool false), .d (.int .i64 0), .d (.int .i64 0), .nils, .d (.str []), .d (.int .i64 0), .d (.int .i64 0), .d (.bool false), .d (.int .i64 0)] [], none⟩ ::
    ⟨none, .st 15 (.t 2) (.t 6), none⟩ ::
    []))
  .ret) .skip))
  (.seq (.reg (⟨(some 7), .off 0 (.t 1), none⟩ ::
    ⟨(some 8), .ld (.t 7), none⟩ ::
    ⟨(some 9), .bin .add (.t 8) (.c (.d (.int .u8 6))), none⟩ ::
    ⟨(some 10), .off 1 (.t 1), none⟩ ::
    ⟨(some 11), .ld (.t 10), none⟩ ::
    ⟨(some 12), .off 3 (.t 1), none⟩ ::
    ⟨(some 13), .ld (.t 12), none⟩ ::
    ⟨(some 14), .off 2 (.t 1), none⟩ ::
    ⟨(some 15), .ld (.t 14), none⟩ ::
    ⟨(some 16), .bld [.d (.int .u8 0), .d (.int .i64 0), .d (.int .i64 0), .d (.int .i64 0), .d (.int .i64 0), .d (.bool false), .d (.bool false), .d (.int .i64 0), .d (.int .i64 0), .nils, .d (.str []), .d (.int .i64 0), .d (.int .i64 0), .d (.bool false), .d (.int .i64 0)] [(0, 1, (.t 9)), (1, 1, (.t 11)), (2, 1, (.t 13)), (3, 1, (.t 15))], none⟩ ::
    ⟨none, .st 15 (.t 2) (.t 16), none⟩ ::
    []))
  .ret))) }
/-- garland/garlandref13.place -/
def cf58 : CFun := { np := 1, nt := 9, res := [.tmp 2], body :=
  (.seq (.reg (⟨(some 2), .mv (.c (.d (.bool false))), none⟩ ::
    []))
  (.seq (.reg (⟨(some 3), .mv (.t 0), none⟩ ::
    ⟨(some 4), .bin .geq (.t 3) (.c (.d (.int .i64 0))), none⟩ ::
    ⟨(some 5), .mv (.t 4), none⟩ ::
    ⟨(some 6), .mv (.t 0), (some (5, true))⟩ ::
    ⟨(some 7), .bin .lss (.t 6) (.c (.d (.int .i64 65536))), (some (5, true))⟩ ::
    ⟨(some 8), .pick (.t 5) (.t 7) (.c (.d (.bool false))), none⟩ ::
    ⟨(some 2), .mv (.t 8), none⟩ ::
    []))
  .ret)) }
/-- garland/garlandref12.Right -/
def cf59 : CFun := { np := 2, nt := 48, res := [.tmp 4], body :=
  (.seq (.reg (⟨(some 4), .mv (.c (.d (.bool false))), none⟩ ::
    []))
  (.seq (.seq (.reg (⟨(some 5), .mv (.c (.d (.int .i64 0))), none⟩ ::
    []))
  (.block 0 (.loop [0, 1, 5] (.seq (.seq (.reg (⟨(some 6), .mv (.t 5), none⟩ ::
    ⟨(some 7), .mv (.t 1), none⟩ ::
    ⟨(some 8), .len false (.t 7), none⟩ ::
    ⟨(some 9), .bin .lss (.t 6) (.t 8), none⟩ ::
    []))
  (.cond (.t 9) .skip (.exit 0)))
  (.seq (.block 1 (.seq (.dreg (⟨(some 12), .mv (.t 1), none⟩ ::
    ⟨(some 13), .mv (.t 5), none⟩ ::
    ⟨(some 14), .ixs 1 (.t 12) (.t 13), none⟩ ::
    ⟨(some 15), .ld (.t 14), none⟩ ::
    ⟨(some 16), .call (.c (.fn 83 [])) [(.t 15)], none⟩ ::
    ⟨(some 17), .not (.t 16), none⟩ ::
    ⟨(some 18), .mv (.t 17), none⟩ ::
    ⟨(some 19), .mv (.t 1), (some (18, false))⟩ ::
    ⟨(some 20), .mv (.t 5), (some (18, false))⟩ ::
    ⟨(some 21), .ixs 1 (.t 19) (.t 20), (some (18, false))⟩ ::
    ⟨(some 22), .ld (.t 21), (some (18, false))⟩ ::
    ⟨(some 23), .mv (.t 0), (some (18, false))⟩ ::
    ⟨(some 24), .call (.c (.fn 27 [])) [(.t 23)], (some (18, false))⟩ ::
    ⟨(some 25), .bin .eql (.t 22) (.t 24), (some (18, false))⟩ ::
    ⟨(some 26), .pick (.t 18) (.c (.d (.bool true))) (.t 25), none⟩ ::
    ⟨(some 27), .mv (.t 26), none⟩ ::
    ⟨(some 28), .mv (.t 5), (some (27, false))⟩ ::
    ⟨(some 29), .bin .gtr (.t 28) (.c (.d (.int .i64 0))), (some (27, false))⟩ ::
    ⟨(some 30), .mv (.t 29), (some (27, false))⟩ ::
    ⟨(some 31), .mv (.t 0), (some (30, true))⟩ ::
    ⟨(some 32), .mv (.t 1), (some (30, true))⟩ ::
    ⟨(some 33), .mv (.t 5), (some (30, true))⟩ ::
    ⟨(some 34), .bin .sub (.t 33) (.c (.d (.int .i64 1))), (some (30, true))⟩ ::
    ⟨(some 35), .ixs 1 (.t 32) (.t 34), (some (30, true))⟩ ::
    ⟨(some 36), .ld (.t 35), (some (30, true))⟩ ::
    ⟨(some 37), .mv (.t 1), (some (30, true))⟩ ::
    ⟨(some 38), .mv (.t 5), (some (30, true))⟩ ::
    ⟨(some 39), .ixs 1 (.t 37) (.t 38), (some (30, true))⟩ ::
    ⟨(some 40), .ld (.t 39), (some (30, true))⟩ ::
    ⟨(some 41), .call (.c (.fn 84 [])) [(.t 31), (.t 36), (.t 40)], (some (30, true))⟩ ::
    ⟨(some 42), .not (.t 41), (some (30, true))⟩ ::
    ⟨(some 43), .pick (.t 30) (.t 42) (.c (.d (.bool false))), (some (27, false))⟩ ::
    ⟨(some 44), .pick (.t 27) (.c (.d (.bool true))) (.t 43), none⟩ ::
    []) ([]))
  (.cond (.t 44) (.seq (.reg (⟨(some 4), .mv (.c (.d (.bool false))), none⟩ ::
    []))
  .ret) .skip)))
  (.reg (⟨(some 10), .mv (.t 5), none⟩ ::
    ⟨(some 11), .bin .add (.t 10) (.c (.d (.int .i64 1))), none⟩ ::
    ⟨(some 5), .mv (.t 11), none⟩ ::
    [])))))))
  (.seq (.reg (⟨(some 45), .mv (.t 1), none⟩ ::
    ⟨(some 46), .len false (.t 45), none⟩ ::
    ⟨(some 47), .bin .leq (.t 46) (.c (.d (.int .i64 3))), none⟩ ::
    ⟨(some 4), .mv (.t 47), none⟩ ::
    []))
  .ret))) }
/-- garland/garlandref13.other -/
def cf60 : CFun := { np := 2, nt := 17, res := [.tmp 4], body :=
  (.seq (.reg (⟨(some 2), .box (.t 0), none⟩ ::
    ⟨(some 4), .mv (.c (.d (.bool false))), none⟩ ::
    []))
  (.seq (.reg (⟨(some 5), .mv (.t 1), none⟩ ::
    ⟨(some 6), .bin .eql (.t 5) (.c (.d (.int .i64 (-1)))), none⟩ ::
    ⟨(some 7), .mv (.t 6), none⟩ ::
    ⟨(some 8), .mv (.t 1), (some (7, false))⟩ ::
    ⟨(some 9), .call (.c (.fn 58 [])) [(.t 8)], (some (7, false))⟩ ::
    ⟨(some 10), .mv (.t 9), (some (7, false))⟩ ::
    ⟨(some 11), .mv (.t 1), (some (10, true))⟩ ::
    ⟨(some 12), .off 0 (.t 2), (some (10, true))⟩ ::
    ⟨(some 13), .ld (.t 12), (some (10, true))⟩ ::
    ⟨(some 14), .bin .neq (.t 11) (.t 13), (some (10, true))⟩ ::
    ⟨(some 15), .pick (.t 10) (.t 14) (.c (.d (.bool false))), (some (7, false))⟩ ::
    ⟨(some 16), .pick (.t 7) (.c (.d (.bool true))) (.t 15), none⟩ ::
    ⟨(some 4), .mv (.t 16), none⟩ ::
    []))
  .ret)) }
/-- garland/garlandref13.Anchor -/
def cf61 : CFun := { np := 1, nt := 18, res := [.tmp 2], body :=
  (.seq (.reg (⟨(some 1), .box (.t 0), none⟩ ::
    ⟨(some 2), .mv (.c (.d (.int .i64 0))), none⟩ ::
    []))
  (.seq (.seq (.reg (⟨(some 5), .ldn 20 (.t 1), none⟩ ::
    ⟨(some 6), .call (.c (.fn 24 [])) [(.t 5)], none⟩ ::
    ⟨(some 7), .not (.t 6), none⟩ ::
    []))
  (.cond (.t 7) (.seq (.reg (⟨(some 2), .mv (.c (.d (.int .i64 (-1)))), none⟩ ::
    []))
  .ret) .skip))
  (.seq (.reg (⟨(some 9), .off 1 (.t 1), none⟩ ::
    ⟨(some 10), .ld (.t 9), none⟩ ::
    ⟨(some 11), .off 0 (.t 1), none⟩ ::
    ⟨(some 12), .ld (.t 11), none⟩ ::
    ⟨(some 13), .bin .add (.t 12) (.c (.d (.int .i64 1))), none⟩ ::
    ⟨(some 14), .call (.c (.fn 85 [])) [(.t 10), (.t 13)], none⟩ ::
    ⟨(some 8), .mv (.t 14), none⟩ ::
    ⟨(some 15), .ext (.t 8) 0, none⟩ ::
    ⟨(some 16), .ext (.t 8) 1, none⟩ ::
    ⟨(some 3), .mv (.t 15), none⟩ ::
    ⟨(some 4), .mv (.t 16), none⟩ ::
    []))
  (.seq (.reg (⟨(some 17), .mv (.t 3), none⟩ ::
    ⟨(some 2), .mv (.t 17), none⟩ ::
    []))
  .ret)))) }
/-- garland/garlandref06.place -/
def cf62 : CFun := { np := 1, nt := 9, res := [.tmp 2], body :=
  (.seq (.reg (⟨(some 2), .mv (.c (.d (.bool false))), none⟩ ::
    []))
  (.seq (.reg (⟨(some 3), .mv (.t 0), none⟩ ::
    ⟨(some 4), .bin .geq (.t 3) (.c (.d (.int .i64 0))), none⟩ ::
    ⟨(some 5), .mv (.t 4), none⟩ ::
    ⟨(some 6), .mv (.t 0), (some (5, true))⟩ ::
    ⟨(some 7), .bin .lss (.t 6) (.c (.d (.int .i64 65536))), (some (5, true))⟩ ::
    ⟨(some 8), .pick (.t 5) (.t 7) (.c (.d (.bool false))), none⟩ ::
    ⟨(some 2), .mv (.t 8), none⟩ ::
    []))
  .ret)) }
/-- garland/garlandref06.Asker -/
def cf63 : CFun := { np := 1, nt := 9, res := [.tmp 2], body :=
  (.seq (.reg (⟨(some 1), .box (.t 0), none⟩ ::
    ⟨(some 2), .mv (.c (.d (.int .i64 0))), none⟩ ::
    []))
  (.seq (.seq (.reg (⟨(some 3), .ldn 15 (.t 1), none⟩ ::
    ⟨(some 4), .call (.c (.fn 82 [])) [(.t 3)], none⟩ ::
    []))
  (.cond (.t 4) (.seq (.reg (⟨(some 5), .off 2 (.t 1), none⟩ ::
    ⟨(some 6), .ld (.t 5), none⟩ ::
    ⟨(some 2), .mv (.t 6), none⟩ ::
    []))
  .ret) .skip))
  (.seq (.reg (⟨(some 7), .off 3 (.t 1), none⟩ ::
    ⟨(some 8), .ld (.t 7), none⟩ ::
    ⟨(some 2), .mv (.t 8), none⟩ ::
    []))
  .ret))) }
/-- garland/garlandref06.bare -/
def cf64 : CFun := { np := 1, nt := 31, res := [.cells 2 15], body :=
  (.seq (.reg (⟨(some 1), .box (.t 0), none⟩ ::
    ⟨(some 2), .new [.d (.int .u8 0), .d (.int .i64 0), .d (.int .i64 0), .d (.int .i64 0), .d (.int .i64 0), .d (.bool false), .d (.bool false), .d (.int .i64 0), .d (.int .i64 0), .nils, .d (.str []), .d (.int .i64 0), .d (.int .i64 0), .d (.bool false), .d (.int .i64 0)], none⟩ ::
    []))
  (.seq (.seq (.reg (⟨(some 3), .off 0 (.t 1), none⟩ ::
    ⟨(some 4), .ld (.t 3), none⟩ ::
    []))
  (.block 0 (.seq (.reg (⟨(some 6), .bin .eql (.t 4) (.c (.d (.int .u8 4))), none⟩ ::
    ⟨(some 5), .mv (.t 6), none⟩ ::
    []))
  (.cond (.t 5) (.reg (⟨(some 7), .off 4 (.t 1), none⟩ ::
    ⟨none, .st 1 (.t 7) (.c (.d (.int .i64 0))), none⟩ ::
    ⟨(some 8), .off 5 (.t 1), none⟩ ::
    ⟨none, .st 1 (.t 8) (.c (.d (.bool false))), none⟩ ::
    [])) (.seq (.seq (.reg (⟨(some 10), .bin .eql (.t 4) (.c (.d (.int .u8 5))), none⟩ ::
    ⟨(some 9), .mv (.t 10), none⟩ ::
    []))
  (.cond (.t 9) .skip (.reg (⟨(some 11), .bin .eql (.t 4) (.c (.d (.int .u8 6))), none⟩ ::
    ⟨(some 9), .mv (.t 11), none⟩ ::
    []))))
  (.cond (.t 9) (.reg (⟨(some 12), .bld [.d (.str []), .d (.int .i64 0), .d (.int .i64 0), .d (.bool false)] [], none⟩ ::
    ⟨(some 13), .off 10 (.t 1), none⟩ ::
    ⟨none, .st 4 (.t 13) (.t 12), none⟩ ::
    [])) (.seq (.reg (⟨(some 15), .bin .eql (.t 4) (.c (.d (.int .u8 7))), none⟩ ::
    ⟨(some 14), .mv (.t 15), none⟩ ::
    []))
  (.cond (.t 14) (.reg (⟨(some 16), .off 8 (.t 1), none⟩ ::
    ⟨none, .st 1 (.t 16) (.c (.d (.int .i64 0))), none⟩ ::
    ⟨(some 17), .off 9 (.t 1), none⟩ ::
    ⟨none, .st 1 (.t 17) (.c (.nils)), none⟩ ::
    [])) (.seq (.reg (⟨(some 19), .bin .eql (.t 4) (.c (.d (.int .u8 10))), none⟩ ::
    ⟨(some 18), .mv (.t 19), none⟩ ::
    []))
  (.cond (.t 18) (.reg (⟨(some 20), .off 7 (.t 1), none⟩ ::
    ⟨none, .st 1 (.t 20) (.c (.d (.int .i64 0))), none⟩ ::
    ⟨(some 21), .off 6 (.t 1), none⟩ ::
    ⟨none, .st 1 (.t 21) (.c (.d (.bool false))), none⟩ ::
    [])) (.seq (.reg (⟨(some 23), .bin .eql (.t 4) (.c (.d (.int .u8 11))), none⟩ ::
    ⟨(some 22), .mv (.t 23), none⟩ ::
    []))
  (.cond (.t 22) (.reg (⟨(some 24), .off 14 (.t 1), none⟩ ::
    ⟨none, .st 1 (.t 24) (.c (.d (.int .i64 0))), none⟩ ::
    [])) (.seq (.reg (⟨(some 26), .bin .eql (.t 4) (.c (.d (.int .u8 12))), none⟩ ::
    ⟨(some 25), .mv (.t 26), none⟩ ::
    []))
  (.cond (.t 25) (.reg (⟨(some 27), .bld [.d (.str []), .d (.int .i64 0), .d (.int .i64 0), .d (.bool false)] [], none⟩ ::
    ⟨(some 28), .off 14 (.t 1), none⟩ ::
    ⟨none, .st 1 (.t 28) (.c (.d (.int .i64 0))), none⟩ ::
    ⟨(some 29), .off 10 (.t 1), none⟩ ::
    ⟨none, .st 4 (.t 29) (.t 27), none⟩ ::
    [])) .skip))))))))))))))
  (.seq (.reg (⟨(some 30), .ldn 15 (.t 1), none⟩ ::
    ⟨none, .st 15 (.t 2) (.t 30), none⟩ ::
    []))
  .ret))) }
/-- garland/garlandref06.has -/
def cf65 : CFun := { np := 1, nt := 82, res := [.tmp 2], body :=
  (.seq (.reg (⟨(some 1), .box (.t 0), none⟩ ::
    ⟨(some 2), .mv (.c (.d (.bool false))), none⟩ ::
    []))
  (.seq (.seq (.reg (⟨(some 3), .off 0 (.t 1), none⟩ ::
    ⟨(some 4), .ld (.t 3), none⟩ ::
    []))
  (.block 0 (.seq (.reg (⟨(some 6), .bin .eql (.t 4) (.c (.d (.int .u8 4))), none⟩ ::
    ⟨(some 5), .mv (.t 6), none⟩ ::
    []))
  (.cond (.t 5) (.seq (.reg (⟨(some 7), .off 4 (.t 1), none⟩ ::
    ⟨(some 8), .ld (.t 7), none⟩ ::
    ⟨(some 9), .call (.c (.fn 62 [])) [(.t 8)], none⟩ ::
    ⟨(some 2), .mv (.t 9), none⟩ ::
    []))
  .ret) (.seq (.reg (⟨(some 11), .bin .eql (.t 4) (.c (.d (.int .u8 5))), none⟩ ::
    ⟨(some 10), .mv (.t 11), none⟩ ::
    []))
  (.cond (.t 10) (.seq (.reg (⟨(some 12), .off 10 (.t 1), none⟩ ::
    ⟨(some 13), .ldn 4 (.t 12), none⟩ ::
    ⟨(some 14), .call (.c (.fn 86 [])) [(.t 13)], none⟩ ::
    ⟨(some 2), .mv (.t 14), none⟩ ::
    []))
  .ret) (.seq (.reg (⟨(some 16), .bin .eql (.t 4) (.c (.d (.int .u8 6))), none⟩ ::
    ⟨(some 15), .mv (.t 16), none⟩ ::
    []))
  (.cond (.t 15) (.seq (.reg (⟨(some 17), .off 10 (.t 1), none⟩ ::
    ⟨(some 18), .ldn 4 (.t 17), none⟩ ::
    ⟨(some 19), .call (.c (.fn 86 [])) [(.t 18)], none⟩ ::
    ⟨(some 20), .mv (.t 19), none⟩ ::
    ⟨(some 21), .off 10 (.t 1), (some (20, true))⟩ ::
    ⟨(some 22), .ldn 4 (.t 21), (some (20, true))⟩ ::
    ⟨(some 23), .off 10 (.t 1), (some (20, true))⟩ ::
    ⟨(some 24), .off 0 (.t 23), (some (20, true))⟩ ::
    ⟨(some 25), .ld (.t 24), (some (20, true))⟩ ::
    ⟨(some 26), .bld [.d (.str []), .d (.int .i64 0), .d (.int .i64 0), .d (.bool false)] [(0, 1, (.t 25))], (some (20, true))⟩ ::
    ⟨(some 27), .eqs false [2, 0, 0, 1] (.t 22) (.t 26), (some (20, true))⟩ ::
    ⟨(some 28), .pick (.t 20) (.t 27) (.c (.d (.bool false))), none⟩ ::
    ⟨(some 2), .mv (.t 28), none⟩ ::
    []))
  .ret) (.seq (.reg (⟨(some 30), .bin .eql (.t 4) (.c (.d (.int .u8 7))), none⟩ ::
    ⟨(some 29), .mv (.t 30), none⟩ ::
    []))
  (.cond (.t 29) (.seq (.reg (⟨(some 31), .off 8 (.t 1), none⟩ ::
    ⟨(some 32), .ld (.t 31), none⟩ ::
    ⟨(some 33), .bin .eql (.t 32) (.c (.d (.int .i64 (-1)))), none⟩ ::
    ⟨(some 34), .mv (.t 33), none⟩ ::
    ⟨(some 35), .off 8 (.t 1), (some (34, false))⟩ ::
    ⟨(some 36), .ld (.t 35), (some (34, false))⟩ ::
    ⟨(some 37), .call (.c (.fn 62 [])) [(.t 36)], (some (34, false))⟩ ::
    ⟨(some 38), .pick (.t 34) (.c (.d (.bool true))) (.t 37), none⟩ ::
    ⟨(some 39), .mv (.t 38), none⟩ ::
    ⟨(some 40), .off 9 (.t 1), (some (39, true))⟩ ::
    ⟨(some 41), .ld (.t 40), (some (39, true))⟩ ::
    ⟨(some 42), .off 2 (.t 1), (some (39, true))⟩ ::
    ⟨(some 43), .ld (.t 42), (some (39, true))⟩ ::
    ⟨(some 44), .call (.c (.fn 87 [])) [(.t 41), (.t 43)], (some (39, true))⟩ ::
    ⟨(some 45), .pick (.t 39) (.t 44) (.c (.d (.bool false))), none⟩ ::
    ⟨(some 2), .mv (.t 45), none⟩ ::
    []))
  .ret) (.seq (.reg (⟨(some 47), .bin .eql (.t 4) (.c (.d (.int .u8 10))), none⟩ ::
    ⟨(some 46), .mv (.t 47), none⟩ ::
    []))
  (.cond (.t 46) (.seq (.reg (⟨(some 48), .off 7 (.t 1), none⟩ ::
    ⟨(some 49), .ld (.t 48), none⟩ ::
    ⟨(some 50), .call (.c (.fn 62 [])) [(.t 49)], none⟩ ::
    ⟨(some 2), .mv (.t 50), none⟩ ::
    []))
  .ret) (.seq (.reg (⟨(some 52), .bin .eql (.t 4) (.c (.d (.int .u8 11))), none⟩ ::
    ⟨(some 51), .mv (.t 52), none⟩ ::
    []))
  (.cond (.t 51) (.seq (.reg (⟨(some 53), .off 14 (.t 1), none⟩ ::
    ⟨(some 54), .ld (.t 53), none⟩ ::
    ⟨(some 55), .bin .eql (.t 54) (.c (.d (.int .i64 0))), none⟩ ::
    ⟨(some 56), .mv (.t 55), none⟩ ::
    ⟨(some 57), .off 14 (.t 1), (some (56, false))⟩ ::
    ⟨(some 58), .ld (.t 57), (some (56, false))⟩ ::
    ⟨(some 59), .bin .eql (.t 58) (.c (.d (.int .i64 200))), (some (56, false))⟩ ::
    ⟨(some 60), .pick (.t 56) (.c (.d (.bool true))) (.t 59), none⟩ ::
    ⟨(some 2), .mv (.t 60), none⟩ ::
    []))
  .ret) (.seq (.reg (⟨(some 62), .bin .eql (.t 4) (.c (.d (.int .u8 12))), none⟩ ::
    ⟨(some 61), .mv (.t 62), none⟩ ::
    []))
  (.cond (.t 61) (.seq (.reg (⟨(some 63), .off 14 (.t 1), none⟩ ::
    ⟨(some 64), .ld (.t 63), none⟩ ::
    ⟨(some 65), .bin .eql (.t 64) (.c (.d (.int .i64 0))), none⟩ ::
    ⟨(some 66), .mv (.t 65), none⟩ ::
    ⟨(some 67), .off 10 (.t 1), (some (66, true))⟩ ::
    ⟨(some 68), .ldn 4 (.t 67), (some (66, true))⟩ ::
    ⟨(some 69), .call (.c (.fn 86 [])) [(.t 68)], (some (66, true))⟩ ::
    ⟨(some 70), .pick (.t 66) (.t 69) (.c (.d (.bool false))), none⟩ ::
    ⟨(some 71), .mv (.t 70), none⟩ ::
    ⟨(some 72), .off 14 (.t 1), (some (71, false))⟩ ::
    ⟨(some 73), .ld (.t 72), (some (71, false))⟩ ::
    ⟨(some 74), .bin .eql (.t 73) (.c (.d (.int .i64 201))), (some (71, false))⟩ ::
    ⟨(some 75), .mv (.t 74), (some (71, false))⟩ ::
    ⟨(some 76), .off 10 (.t 1), (some (75, true))⟩ ::
    ⟨(some 77), .ldn 4 (.t 76), (some (75, true))⟩ ::
    ⟨(some 78), .bld [.d (.str []), .d (.int .i64 0), .d (.int .i64 0), .d (.bool false)] [], (some (75, true))⟩ ::
    ⟨(some 79), .eqs false [2, 0, 0, 1] (.t 77) (.t 78), (some (75, true))⟩ ::
    ⟨(some 80), .pick (.t 75) (.t 79) (.c (.d (.bool false))), (some (71, false))⟩ ::
    ⟨(some 81), .pick (.t 71) (.c (.d (.bool true))) (.t 80), none⟩ ::
    ⟨(some 2), .mv (.t 81), none⟩ ::
    []))
  .ret) .skip))))))))))))))))
  (.seq (.reg (⟨(some 2), .mv (.c (.d (.bool true))), none⟩ ::
    []))
  .ret))) }
/-- garland/arc.Place -/
def cf66 : CFun := { np := 1, nt := 5, res := [.tmp 2], body :=
  (.seq (.reg (⟨(some 2), .mv (.c (.d (.int .i64 0))), none⟩ ::
    []))
  (.seq (.reg (⟨(some 3), .mv (.t 0), none⟩ ::
    ⟨(some 4), .bin .and (.t 3) (.c (.d (.int .i64 65535))), none⟩ ::
    ⟨(some 2), .mv (.t 4), none⟩ ::
    []))
  .ret)) }
/-- garland/look.on -/
def cf67 : CFun := { np := 4, nt := 26, res := [.cells 8 6], body :=
  (.seq (.reg (⟨(some 4), .box (.t 0), none⟩ ::
    ⟨(some 5), .box (.t 1), none⟩ ::
    ⟨(some 6), .box (.t 2), none⟩ ::
    ⟨(some 7), .box (.t 3), none⟩ ::
    ⟨(some 8), .new [.d (.int .i64 0), .d (.int .i64 0), .d (.int .i64 0), .d (.bool false), .d (.bool false), .d (.int .i64 0)], none⟩ ::
    []))
  (.seq (.reg (⟨(some 10), .mkf 88 [(.t 4), (.t 5), (.t 6), (.t 7)], none⟩ ::
    ⟨(some 9), .mv (.t 10), none⟩ ::
    []))
  (.seq (.seq (.reg (⟨(some 11), .ld (.t 6), none⟩ ::
    ⟨(some 12), .off 0 (.t 4), none⟩ ::
    ⟨(some 13), .ld (.t 12), none⟩ ::
    ⟨(some 14), .bin .eql (.t 11) (.t 13), none⟩ ::
    ⟨(some 15), .mv (.t 14), none⟩ ::
    ⟨(some 16), .ld (.t 7), (some (15, true))⟩ ::
    ⟨(some 17), .not (.t 16), (some (15, true))⟩ ::
    ⟨(some 18), .pick (.t 15) (.t 17) (.c (.d (.bool false))), none⟩ ::
    []))
  (.cond (.t 18) (.reg (⟨(some 19), .mv (.t 9), none⟩ ::
    ⟨(some 20), .call (.t 19) [], none⟩ ::
    [])) .skip))
  (.seq (.sreg [5] (⟨(some 21), .ld (.t 6), none⟩ ::
    ⟨(some 22), .ld (.t 7), none⟩ ::
    ⟨(some 23), .off 1 (.t 5), none⟩ ::
    ⟨none, .st 1 (.t 23) (.t 21), none⟩ ::
    []) (⟨(some 24), .off 4 (.t 5), none⟩ ::
    ⟨none, .st 1 (.t 24) (.t 22), none⟩ ::
    []))
  (.seq (.reg (⟨(some 25), .ldn 6 (.t 5), none⟩ ::
    ⟨none, .st 6 (.t 8) (.t 25), none⟩ ::
    []))
  .ret))))) }
/-- garland/garlandref18.on -/
def cf68 : CFun := { np := 4, nt := 31, res := [.cells 8 6], body :=
  (.seq (.reg (⟨(some 4), .box (.t 0), none⟩ ::
    ⟨(some 5), .box (.t 1), none⟩ ::
    ⟨(some 8), .new [.d (.int .i64 0), .d (.int .i64 0), .d (.int .i64 0), .d (.bool false), .d (.bool false), .d (.int .i64 0)], none⟩ ::
    []))
  (.seq (.seq (.reg (⟨(some 9), .mv (.t 2), none⟩ ::
    ⟨(some 10), .off 0 (.t 4), none⟩ ::
    ⟨(some 11), .ld (.t 10), none⟩ ::
    ⟨(some 12), .bin .eql (.t 9) (.t 11), none⟩ ::
    ⟨(some 13), .mv (.t 12), none⟩ ::
    ⟨(some 14), .mv (.t 3), (some (13, true))⟩ ::
    ⟨(some 15), .not (.t 14), (some (13, true))⟩ ::
    ⟨(some 16), .pick (.t 13) (.t 15) (.c (.d (.bool false))), none⟩ ::
    []))
  (.cond (.t 16) (.reg (⟨(some 18), .ldn 20 (.t 4), none⟩ ::
    ⟨(some 19), .off 0 (.t 5), none⟩ ::
    ⟨(some 20), .ld (.t 19), none⟩ ::
    ⟨(some 21), .off 3 (.t 5), none⟩ ::
    ⟨(some 22), .ld (.t 21), none⟩ ::
    ⟨(some 23), .call (.c (.fn 16 [])) [(.t 18), (.t 20), (.t 22)], none⟩ ::
    ⟨(some 17), .mv (.t 23), none⟩ ::
    ⟨(some 24), .ext (.t 17) 0, none⟩ ::
    ⟨(some 25), .ext (.t 17) 1, none⟩ ::
    ⟨(some 2), .mv (.t 24), none⟩ ::
    ⟨(some 3), .mv (.t 25), none⟩ ::
    [])) .skip))
  (.seq (.reg (⟨(some 26), .mv (.t 2), none⟩ ::
    ⟨(some 27), .off 1 (.t 5), none⟩ ::
    ⟨none, .st 1 (.t 27) (.t 26), none⟩ ::
    []))
  (.seq (.reg (⟨(some 28), .mv (.t 3), none⟩ ::
    ⟨(some 29), .off 4 (.t 5), none⟩ ::
    ⟨none, .st 1 (.t 29) (.t 28), none⟩ ::
    []))
  (.seq (.reg (⟨(some 30), .ldn 6 (.t 5), none⟩ ::
    ⟨none, .st 6 (.t 8) (.t 30), none⟩ ::
    []))
  .ret))))) }
/-- garland/look.musts -/
def cf69 : CFun := { np := 1, nt := 4, res := [.tmp 2], body :=
  (.seq (.reg (⟨(some 1), .box (.t 0), none⟩ ::
    ⟨(some 2), .mv (.c (.nilf)), none⟩ ::
    []))
  (.seq (.reg (⟨(some 3), .mkf 89 [(.t 1)], none⟩ ::
    ⟨(some 2), .mv (.t 3), none⟩ ::
    []))
  .ret)) }
/-- garland/view.Anchor -/
def cf70 : CFun := { np := 1, nt := 18, res := [.tmp 2], body :=
  (.seq (.reg (⟨(some 1), .box (.t 0), none⟩ ::
    ⟨(some 2), .mv (.c (.d (.int .i64 0))), none⟩ ::
    []))
  (.seq (.seq (.reg (⟨(some 5), .ldn 20 (.t 1), none⟩ ::
    ⟨(some 6), .call (.c (.fn 52 [])) [(.t 5)], none⟩ ::
    ⟨(some 7), .not (.t 6), none⟩ ::
    []))
  (.cond (.t 7) (.seq (.reg (⟨(some 2), .mv (.c (.d (.int .i64 (-1)))), none⟩ ::
    []))
  .ret) .skip))
  (.seq (.reg (⟨(some 9), .off 1 (.t 1), none⟩ ::
    ⟨(some 10), .ld (.t 9), none⟩ ::
    ⟨(some 11), .off 0 (.t 1), none⟩ ::
    ⟨(some 12), .ld (.t 11), none⟩ ::
    ⟨(some 13), .bin .add (.t 12) (.c (.d (.int .i64 1))), none⟩ ::
    ⟨(some 14), .call (.c (.fn 91 [])) [(.t 10), (.t 13)], none⟩ ::
    ⟨(some 8), .mv (.t 14), none⟩ ::
    ⟨(some 15), .ext (.t 8) 0, none⟩ ::
    ⟨(some 16), .ext (.t 8) 1, none⟩ ::
    ⟨(some 3), .mv (.t 15), none⟩ ::
    ⟨(some 4), .mv (.t 16), none⟩ ::
    []))
  (.seq (.reg (⟨(some 17), .mv (.t 3), none⟩ ::
    ⟨(some 2), .mv (.t 17), none⟩ ::
    []))
  .ret)))) }
/-- garland/arc.In -/
def cf71 : CFun := { np := 3, nt := 26, res := [.tmp 6], body :=
  (.seq (.reg (⟨(some 6), .mv (.c (.d (.bool false))), none⟩ ::
    []))
  (.seq (.reg (⟨(some 7), .mv (.t 0), none⟩ ::
    ⟨(some 8), .mv (.t 1), none⟩ ::
    ⟨(some 9), .call (.c (.fn 47 [])) [(.t 7), (.t 8)], none⟩ ::
    ⟨(some 10), .bin .neq (.t 9) (.c (.d (.int .i64 0))), none⟩ ::
    ⟨(some 11), .mv (.t 10), none⟩ ::
    ⟨(some 12), .mv (.t 0), (some (11, true))⟩ ::
    ⟨(some 13), .mv (.t 1), (some (11, true))⟩ ::
    ⟨(some 14), .call (.c (.fn 47 [])) [(.t 12), (.t 13)], (some (11, true))⟩ ::
    ⟨(some 15), .mv (.t 0), (some (11, true))⟩ ::
    ⟨(some 16), .mv (.t 2), (some (11, true))⟩ ::
    ⟨(some 17), .call (.c (.fn 47 [])) [(.t 15), (.t 16)], (some (11, true))⟩ ::
    ⟨(some 18), .bin .lss (.t 14) (.t 17), (some (11, true))⟩ ::
    ⟨(some 19), .mv (.t 18), (some (11, true))⟩ ::
    ⟨(some 20), .mv (.t 0), (some (19, false))⟩ ::
    ⟨(some 21), .mv (.t 2), (some (19, false))⟩ ::
    ⟨(some 22), .call (.c (.fn 47 [])) [(.t 20), (.t 21)], (some (19, false))⟩ ::
    ⟨(some 23), .bin .eql (.t 22) (.c (.d (.int .i64 0))), (some (19, false))⟩ ::
    ⟨(some 24), .pick (.t 19) (.c (.d (.bool true))) (.t 23), (some (11, true))⟩ ::
    ⟨(some 25), .pick (.t 11) (.t 24) (.c (.d (.bool false))), none⟩ ::
    ⟨(some 6), .mv (.t 25), none⟩ ::
    []))
  .ret)) }
/-- garland/hop.ways$1 -/
def cf72 : CFun := { np := 3, nt := 39, res := [], body :=
  (.seq (.dreg (⟨(some 8), .off 2 (.t 1), none⟩ ::
    ⟨(some 9), .ld (.t 8), none⟩ ::
    ⟨(some 10), .off 4 (.t 1), none⟩ ::
    ⟨(some 11), .sla 16 1 (.t 10) none none, none⟩ ::
    ⟨(some 12), .bld [.nils, .nils] [(0, 1, (.t 9)), (1, 1, (.t 11))], none⟩ ::
    ⟨(some 13), .mv (.c (.d (.int .i64 0))), none⟩ ::
    []) ([]))
  (.block 0 (.loop [0, 1, 2, 12, 13] (.seq (.reg (⟨(some 14), .bin .lss (.t 13) (.c (.d (.int .i64 2))), none⟩ ::
    []))
  (.seq (.cond (.t 14) .skip (.exit 0))
  (.seq (.block 1 (.seq (.reg (⟨(some 15), .ixv 2 (.t 12) (.t 13), none⟩ ::
    ⟨(some 5), .mv (.t 15), none⟩ ::
    []))
  (.seq (.reg (⟨(some 16), .mv (.t 5), none⟩ ::
    ⟨(some 17), .len false (.t 16), none⟩ ::
    ⟨(some 18), .mv (.c (.d (.int .i64 0))), none⟩ ::
    []))
  (.block 2 (.loop [0, 1, 2, 12, 13, 16, 17, 18] (.seq (.reg (⟨(some 19), .bin .lss (.t 18) (.t 17), none⟩ ::
    []))
  (.seq (.cond (.t 19) .skip (.exit 2))
  (.seq (.block 3 (.seq (.reg (⟨(some 20), .ixs 1 (.t 16) (.t 18), none⟩ ::
    ⟨(some 21), .ld (.t 20), none⟩ ::
    ⟨(some 7), .mv (.t 21), none⟩ ::
    []))
  (.seq (.reg (⟨(some 22), .mv (.t 7), none⟩ ::
    ⟨(some 23), .bin .geq (.t 22) (.c (.d (.int .i64 0))), none⟩ ::
    ⟨(some 24), .mv (.t 23), none⟩ ::
    ⟨(some 25), .off 0 (.t 1), (some (24, true))⟩ ::
    ⟨(some 26), .ld (.t 25), (some (24, true))⟩ ::
    ⟨(some 27), .mv (.t 7), (some (24, true))⟩ ::
    ⟨(some 28), .ld (.t 2), (some (24, true))⟩ ::
    ⟨(some 29), .call (.c (.fn 71 [])) [(.t 26), (.t 27), (.t 28)], (some (24, true))⟩ ::
    ⟨(some 30), .pick (.t 24) (.t 29) (.c (.d (.bool false))), none⟩ ::
    ⟨(some 31), .mv (.t 30), none⟩ ::
    ⟨(some 32), .mv (.t 0), (some (31, true))⟩ ::
    ⟨(some 33), .mv (.t 7), (some (31, true))⟩ ::
    ⟨(some 34), .call (.t 32) [(.t 33)], (some (31, true))⟩ ::
    ⟨(some 35), .not (.t 34), (some (31, true))⟩ ::
    ⟨(some 36), .pick (.t 31) (.t 35) (.c (.d (.bool false))), none⟩ ::
    []))
  (.cond (.t 36) .ret .skip))))
  (.reg (⟨(some 37), .bin .add (.t 18) (.c (.d (.int .i64 1))), none⟩ ::
    ⟨(some 18), .mv (.t 37), none⟩ ::
    []))))))))))
  (.reg (⟨(some 38), .bin .add (.t 13) (.c (.d (.int .i64 1))), none⟩ ::
    ⟨(some 13), .mv (.t 38), none⟩ ::
    [])))))))) }
/-- garland/view.Right$1 -/
def cf73 : CFun := { np := 2, nt := 16, res := [.tmp 3], body :=
  (.seq (.reg (⟨(some 3), .mv (.c (.d (.bool false))), none⟩ ::
    []))
  (.seq (.reg (⟨(some 4), .mv (.t 0), none⟩ ::
    ⟨(some 5), .bin .eql (.t 4) (.c (.d (.int .i64 (-1)))), none⟩ ::
    ⟨(some 6), .mv (.t 5), none⟩ ::
    ⟨(some 7), .mv (.t 0), (some (6, false))⟩ ::
    ⟨(some 8), .call (.c (.fn 74 [])) [(.t 7)], (some (6, false))⟩ ::
    ⟨(some 9), .mv (.t 8), (some (6, false))⟩ ::
    ⟨(some 10), .mv (.t 0), (some (9, true))⟩ ::
    ⟨(some 11), .off 0 (.t 1), (some (9, true))⟩ ::
    ⟨(some 12), .ld (.t 11), (some (9, true))⟩ ::
    ⟨(some 13), .bin .neq (.t 10) (.t 12), (some (9, true))⟩ ::
    ⟨(some 14), .pick (.t 9) (.t 13) (.c (.d (.bool false))), (some (6, false))⟩ ::
    ⟨(some 15), .pick (.t 6) (.c (.d (.bool true))) (.t 14), none⟩ ::
    ⟨(some 3), .mv (.t 15), none⟩ ::
    []))
  .ret)) }
/-- garland/view.place -/
def cf74 : CFun := { np := 1, nt := 9, res := [.tmp 2], body :=
  (.seq (.reg (⟨(some 2), .mv (.c (.d (.bool false))), none⟩ ::
    []))
  (.seq (.reg (⟨(some 3), .mv (.t 0), none⟩ ::
    ⟨(some 4), .bin .geq (.t 3) (.c (.d (.int .i64 0))), none⟩ ::
    ⟨(some 5), .mv (.t 4), none⟩ ::
    ⟨(some 6), .mv (.t 0), (some (5, true))⟩ ::
    ⟨(some 7), .bin .lss (.t 6) (.c (.d (.int .i64 65536))), (some (5, true))⟩ ::
    ⟨(some 8), .pick (.t 5) (.t 7) (.c (.d (.bool false))), none⟩ ::
    ⟨(some 2), .mv (.t 8), none⟩ ::
    []))
  .ret)) }
/-- garland/list.Right -/
def cf75 : CFun := { np := 2, nt := 20, res := [.cell 4], body :=
  (.seq (.reg (⟨(some 2), .box (.t 0), none⟩ ::
    ⟨(some 4), .new [.d (.bool false)], none⟩ ::
    []))
  (.seq (.seq (.reg (⟨(some 7), .ld (.t 2), none⟩ ::
    ⟨(some 8), .mv (.t 1), none⟩ ::
    ⟨(some 9), .call (.c (.fn 92 [])) [(.t 7), (.t 8)], none⟩ ::
    []))
  (.block 0 (.range (.t 9) [10, 11] (.seq (.reg (⟨(some 5), .mv (.t 10), none⟩ ::
    []))
  (.reg (⟨(some 6), .mv (.t 11), none⟩ ::
    []))) (.block 1 (.seq (.reg (⟨(some 12), .ld (.t 2), none⟩ ::
    ⟨(some 13), .mv (.t 5), none⟩ ::
    ⟨(some 14), .mv (.t 6), none⟩ ::
    ⟨(some 15), .call (.c (.fn 93 [])) [(.t 12), (.t 13), (.t 14)], none⟩ ::
    ⟨(some 16), .not (.t 15), none⟩ ::
    []))
  (.cond (.t 16) (.seq (.reg (⟨none, .st 1 (.t 4) (.c (.d (.bool false))), none⟩ ::
    []))
  .ret) .skip))))))
  (.seq (.reg (⟨(some 17), .mv (.t 1), none⟩ ::
    ⟨(some 18), .len false (.t 17), none⟩ ::
    ⟨(some 19), .bin .leq (.t 18) (.c (.d (.int .i64 3))), none⟩ ::
    ⟨none, .st 1 (.t 4) (.t 19), none⟩ ::
    []))
  .ret))) }
/-- garland/msg.place -/
def cf76 : CFun := { np := 1, nt := 9, res := [.tmp 2], body :=
  (.seq (.reg (⟨(some 2), .mv (.c (.d (.bool false))), none⟩ ::
    []))
  (.seq (.reg (⟨(some 3), .mv (.t 0), none⟩ ::
    ⟨(some 4), .bin .geq (.t 3) (.c (.d (.int .i64 0))), none⟩ ::
    ⟨(some 5), .mv (.t 4), none⟩ ::
    ⟨(some 6), .mv (.t 0), (some (5, true))⟩ ::
    ⟨(some 7), .bin .lss (.t 6) (.c (.d (.int .i64 65536))), (some (5, true))⟩ ::
    ⟨(some 8), .pick (.t 5) (.t 7) (.c (.d (.bool false))), none⟩ ::
    ⟨(some 2), .mv (.t 8), none⟩ ::
    []))
  .ret)) }
/-- garland/msg.Asker -/
def cf77 : CFun := { np := 1, nt := 9, res := [.tmp 2], body :=
  (.seq (.reg (⟨(some 1), .box (.t 0), none⟩ ::
    ⟨(some 2), .mv (.c (.d (.int .i64 0))), none⟩ ::
    []))
  (.seq (.seq (.reg (⟨(some 3), .ldn 15 (.t 1), none⟩ ::
    ⟨(some 4), .call (.c (.fn 81 [])) [(.t 3)], none⟩ ::
    []))
  (.cond (.t 4) (.seq (.reg (⟨(some 5), .off 2 (.t 1), none⟩ ::
    ⟨(some 6), .ld (.t 5), none⟩ ::
    ⟨(some 2), .mv (.t 6), none⟩ ::
    []))
  .ret) .skip))
  (.seq (.reg (⟨(some 7), .off 3 (.t 1), none⟩ ::
    ⟨(some 8), .ld (.t 7), none⟩ ::
    ⟨(some 2), .mv (.t 8), none⟩ ::
    []))
  .ret))) }
/-- garland/msg.fine -/
def cf78 : CFun := { np := 1, nt := 74, res := [.tmp 2], body :=
  (.seq (.reg (⟨(some 1), .box (.t 0), none⟩ ::
    ⟨(some 2), .mv (.c (.d (.bool false))), none⟩ ::
    []))
  (.seq (.seq (.reg (⟨(some 3), .off 0 (.t 1), none⟩ ::
    ⟨(some 4), .ld (.t 3), none⟩ ::
    []))
  (.block 0 (.seq (.reg (⟨(some 6), .bin .eql (.t 4) (.c (.d (.int .u8 4))), none⟩ ::
    ⟨(some 5), .mv (.t 6), none⟩ ::
    []))
  (.cond (.t 5) (.seq (.reg (⟨(some 7), .off 4 (.t 1), none⟩ ::
    ⟨(some 8), .ld (.t 7), none⟩ ::
    ⟨(some 9), .call (.c (.fn 76 [])) [(.t 8)], none⟩ ::
    ⟨(some 2), .mv (.t 9), none⟩ ::
    []))
  .ret) (.seq (.reg (⟨(some 11), .bin .eql (.t 4) (.c (.d (.int .u8 5))), none⟩ ::
    ⟨(some 10), .mv (.t 11), none⟩ ::
    []))
  (.cond (.t 10) (.seq (.reg (⟨(some 12), .off 10 (.t 1), none⟩ ::
    ⟨(some 13), .ldn 4 (.t 12), none⟩ ::
    ⟨(some 14), .call (.c (.fn 94 [])) [(.t 13)], none⟩ ::
    ⟨(some 2), .mv (.t 14), none⟩ ::
    []))
  .ret) (.seq (.reg (⟨(some 16), .bin .eql (.t 4) (.c (.d (.int .u8 6))), none⟩ ::
    ⟨(some 15), .mv (.t 16), none⟩ ::
    []))
  (.cond (.t 15) (.seq (.reg (⟨(some 17), .off 10 (.t 1), none⟩ ::
    ⟨(some 18), .off 0 (.t 17), none⟩ ::
    ⟨(some 19), .ld (.t 18), none⟩ ::
    ⟨(some 20), .call (.c (.fn 95 [])) [(.t 19)], none⟩ ::
    ⟨(some 2), .mv (.t 20), none⟩ ::
    []))
  .ret) (.seq (.reg (⟨(some 22), .bin .eql (.t 4) (.c (.d (.int .u8 7))), none⟩ ::
    ⟨(some 21), .mv (.t 22), none⟩ ::
    []))
  (.cond (.t 21) (.seq (.reg (⟨(some 23), .off 8 (.t 1), none⟩ ::
    ⟨(some 24), .ld (.t 23), none⟩ ::
    ⟨(some 25), .bin .eql (.t 24) (.c (.d (.int .i64 (-1)))), none⟩ ::
    ⟨(some 26), .mv (.t 25), none⟩ ::
    ⟨(some 27), .off 8 (.t 1), (some (26, false))⟩ ::
    ⟨(some 28), .ld (.t 27), (some (26, false))⟩ ::
    ⟨(some 29), .call (.c (.fn 76 [])) [(.t 28)], (some (26, false))⟩ ::
    ⟨(some 30), .pick (.t 26) (.c (.d (.bool true))) (.t 29), none⟩ ::
    ⟨(some 31), .mv (.t 30), none⟩ ::
    ⟨(some 32), .off 9 (.t 1), (some (31, true))⟩ ::
    ⟨(some 33), .ld (.t 32), (some (31, true))⟩ ::
    ⟨(some 34), .off 2 (.t 1), (some (31, true))⟩ ::
    ⟨(some 35), .ld (.t 34), (some (31, true))⟩ ::
    ⟨(some 36), .call (.c (.fn 96 [])) [(.t 33), (.t 35)], (some (31, true))⟩ ::
    ⟨(some 37), .pick (.t 31) (.t 36) (.c (.d (.bool false))), none⟩ ::
    ⟨(some 2), .mv (.t 37), none⟩ ::
    []))
  .ret) (.seq (.reg (⟨(some 39), .bin .eql (.t 4) (.c (.d (.int .u8 10))), none⟩ ::
    ⟨(some 38), .mv (.t 39), none⟩ ::
    []))
  (.cond (.t 38) (.seq (.reg (⟨(some 40), .off 7 (.t 1), none⟩ ::
    ⟨(some 41), .ld (.t 40), none⟩ ::
    ⟨(some 42), .call (.c (.fn 76 [])) [(.t 41)], none⟩ ::
    ⟨(some 2), .mv (.t 42), none⟩ ::
    []))
  .ret) (.seq (.reg (⟨(some 44), .bin .eql (.t 4) (.c (.d (.int .u8 11))), none⟩ ::
    ⟨(some 43), .mv (.t 44), none⟩ ::
    []))
  (.cond (.t 43) (.seq (.reg (⟨(some 45), .off 14 (.t 1), none⟩ ::
    ⟨(some 46), .ld (.t 45), none⟩ ::
    ⟨(some 47), .bin .eql (.t 46) (.c (.d (.int .i64 0))), none⟩ ::
    ⟨(some 48), .mv (.t 47), none⟩ ::
    ⟨(some 49), .off 14 (.t 1), (some (48, false))⟩ ::
    ⟨(some 50), .ld (.t 49), (some (48, false))⟩ ::
    ⟨(some 51), .bin .eql (.t 50) (.c (.d (.int .i64 200))), (some (48, false))⟩ ::
    ⟨(some 52), .pick (.t 48) (.c (.d (.bool true))) (.t 51), none⟩ ::
    ⟨(some 2), .mv (.t 52), none⟩ ::
    []))
  .ret) (.seq (.reg (⟨(some 54), .bin .eql (.t 4) (.c (.d (.int .u8 12))), none⟩ ::
    ⟨(some 53), .mv (.t 54), none⟩ ::
    []))
  (.cond (.t 53) (.seq (.reg (⟨(some 55), .off 14 (.t 1), none⟩ ::
    ⟨(some 56), .ld (.t 55), none⟩ ::
    ⟨(some 57), .bin .eql (.t 56) (.c (.d (.int .i64 0))), none⟩ ::
    ⟨(some 58), .mv (.t 57), none⟩ ::
    ⟨(some 59), .off 10 (.t 1), (some (58, true))⟩ ::
    ⟨(some 60), .ldn 4 (.t 59), (some (58, true))⟩ ::
    ⟨(some 61), .call (.c (.fn 94 [])) [(.t 60)], (some (58, true))⟩ ::
    ⟨(some 62), .pick (.t 58) (.t 61) (.c (.d (.bool false))), none⟩ ::
    ⟨(some 63), .mv (.t 62), none⟩ ::
    ⟨(some 64), .off 14 (.t 1), (some (63, false))⟩ ::
    ⟨(some 65), .ld (.t 64), (some (63, false))⟩ ::
    ⟨(some 66), .bin .eql (.t 65) (.c (.d (.int .i64 201))), (some (63, false))⟩ ::
    ⟨(some 67), .mv (.t 66), (some (63, false))⟩ ::
    ⟨(some 68), .off 10 (.t 1), (some (67, true))⟩ ::
    ⟨(some 69), .ldn 4 (.t 68), (some (67, true))⟩ ::
    ⟨(some 70), .bld [.d (.str []), .d (.int .i64 0), .d (.int .i64 0), .d (.bool false)] [], (some (67, true))⟩ ::
    ⟨(some 71), .eqs false [2, 0, 0, 1] (.t 69) (.t 70), (some (67, true))⟩ ::
    ⟨(some 72), .pick (.t 67) (.t 71) (.c (.d (.bool false))), (some (63, false))⟩ ::
    ⟨(some 73), .pick (.t 63) (.c (.d (.bool true))) (.t 72), none⟩ ::
    ⟨(some 2), .mv (.t 73), none⟩ ::
    []))
  .ret) .skip))))))))))))))))
  (.seq (.reg (⟨(some 2), .mv (.c (.d (.bool true))), none⟩ ::
    []))
  .ret))) }
/-- garland/msg.off -/
def cf79 : CFun := { np := 1, nt := 56, res := [], body :=
  (.seq (.reg (⟨(some 2), .mv (.t 0), none⟩ ::
    ⟨(some 3), .nilc (.t 2), none⟩ ::
    ⟨(some 4), .off 0 (.t 3), none⟩ ::
    ⟨(some 5), .ld (.t 4), none⟩ ::
    []))
  (.block 0 (.seq (.reg (⟨(some 7), .bin .eql (.t 5) (.c (.d (.int .u8 4))), none⟩ ::
    ⟨(some 6), .mv (.t 7), none⟩ ::
    []))
  (.cond (.t 6) (.reg (⟨(some 8), .mv (.t 0), none⟩ ::
    ⟨(some 9), .mv (.t 0), none⟩ ::
    ⟨(some 10), .nilc (.t 8), none⟩ ::
    ⟨(some 11), .off 4 (.t 10), none⟩ ::
    ⟨none, .st 1 (.t 11) (.c (.d (.int .i64 0))), none⟩ ::
    ⟨(some 12), .nilc (.t 9), none⟩ ::
    ⟨(some 13), .off 5 (.t 12), none⟩ ::
    ⟨none, .st 1 (.t 13) (.c (.d (.bool false))), none⟩ ::
    [])) (.seq (.reg (⟨(some 15), .bin .eql (.t 5) (.c (.d (.int .u8 5))), none⟩ ::
    ⟨(some 14), .mv (.t 15), none⟩ ::
    []))
  (.cond (.t 14) (.reg (⟨(some 16), .mv (.t 0), none⟩ ::
    ⟨(some 17), .bld [.d (.str []), .d (.int .i64 0), .d (.int .i64 0), .d (.bool false)] [], none⟩ ::
    ⟨(some 18), .nilc (.t 16), none⟩ ::
    ⟨(some 19), .off 10 (.t 18), none⟩ ::
    ⟨none, .st 4 (.t 19) (.t 17), none⟩ ::
    [])) (.seq (.reg (⟨(some 21), .bin .eql (.t 5) (.c (.d (.int .u8 6))), none⟩ ::
    ⟨(some 20), .mv (.t 21), none⟩ ::
    []))
  (.cond (.t 20) (.reg (⟨(some 22), .mv (.t 0), none⟩ ::
    ⟨(some 23), .nilc (.t 22), none⟩ ::
    ⟨(some 24), .off 10 (.t 23), none⟩ ::
    ⟨(some 25), .off 0 (.t 24), none⟩ ::
    ⟨none, .st 1 (.t 25) (.c (.d (.str []))), none⟩ ::
    [])) (.seq (.reg (⟨(some 27), .bin .eql (.t 5) (.c (.d (.int .u8 7))), none⟩ ::
    ⟨(some 26), .mv (.t 27), none⟩ ::
    []))
  (.cond (.t 26) (.reg (⟨(some 28), .mv (.t 0), none⟩ ::
    ⟨(some 29), .mv (.t 0), none⟩ ::
    ⟨(some 30), .nilc (.t 28), none⟩ ::
    ⟨(some 31), .off 8 (.t 30), none⟩ ::
    ⟨none, .st 1 (.t 31) (.c (.d (.int .i64 0))), none⟩ ::
    ⟨(some 32), .nilc (.t 29), none⟩ ::
    ⟨(some 33), .off 9 (.t 32), none⟩ ::
    ⟨none, .st 1 (.t 33) (.c (.nils)), none⟩ ::
    [])) (.seq (.reg (⟨(some 35), .bin .eql (.t 5) (.c (.d (.int .u8 10))), none⟩ ::
    ⟨(some 34), .mv (.t 35), none⟩ ::
    []))
  (.cond (.t 34) (.reg (⟨(some 36), .mv (.t 0), none⟩ ::
    ⟨(some 37), .mv (.t 0), none⟩ ::
    ⟨(some 38), .nilc (.t 36), none⟩ ::
    ⟨(some 39), .off 7 (.t 38), none⟩ ::
    ⟨none, .st 1 (.t 39) (.c (.d (.int .i64 0))), none⟩ ::
    ⟨(some 40), .nilc (.t 37), none⟩ ::
    ⟨(some 41), .off 6 (.t 40), none⟩ ::
    ⟨none, .st 1 (.t 41) (.c (.d (.bool false))), none⟩ ::
    [])) (.seq (.reg (⟨(some 43), .bin .eql (.t 5) (.c (.d (.int .u8 11))), none⟩ ::
    ⟨(some 42), .mv (.t 43), none⟩ ::
    []))
  (.cond (.t 42) (.reg (⟨(some 44), .mv (.t 0), none⟩ ::
    ⟨(some 45), .nilc (.t 44), none⟩ ::
    ⟨(some 46), .off 14 (.t 45), none⟩ ::
    ⟨none, .st 1 (.t 46) (.c (.d (.int .i64 0))), none⟩ ::
    [])) (.seq (.reg (⟨(some 48), .bin .eql (.t 5) (.c (.d (.int .u8 12))), none⟩ ::
    ⟨(some 47), .mv (.t 48), none⟩ ::
    []))
  (.cond (.t 47) (.reg (⟨(some 49), .mv (.t 0), none⟩ ::
    ⟨(some 50), .mv (.t 0), none⟩ ::
    ⟨(some 51), .bld [.d (.str []), .d (.int .i64 0), .d (.int .i64 0), .d (.bool false)] [], none⟩ ::
    ⟨(some 52), .nilc (.t 49), none⟩ ::
    ⟨(some 53), .off 14 (.t 52), none⟩ ::
    ⟨none, .st 1 (.t 53) (.c (.d (.int .i64 0))), none⟩ ::
    ⟨(some 54), .nilc (.t 50), none⟩ ::
    ⟨(some 55), .off 10 (.t 54), none⟩ ::
    ⟨none, .st 4 (.t 55) (.t 51), none⟩ ::
    [])) .skip)))))))))))))))) }
/-- garland/msg.Same -/
def cf80 : CFun := { np := 2, nt := 91, res := [.tmp 4], body :=
  (.seq (.reg (⟨(some 2), .box (.t 0), none⟩ ::
    ⟨(some 3), .box (.t 1), none⟩ ::
    ⟨(some 4), .mv (.c (.d (.bool false))), none⟩ ::
    []))
  (.seq (.reg (⟨(some 7), .off 0 (.t 2), none⟩ ::
    ⟨(some 8), .ld (.t 7), none⟩ ::
    ⟨(some 9), .off 0 (.t 3), none⟩ ::
    ⟨(some 10), .ld (.t 9), none⟩ ::
    ⟨(some 11), .bin .eql (.t 8) (.t 10), none⟩ ::
    ⟨(some 12), .mv (.t 11), none⟩ ::
    ⟨(some 13), .off 1 (.t 2), (some (12, true))⟩ ::
    ⟨(some 14), .ld (.t 13), (some (12, true))⟩ ::
    ⟨(some 15), .off 1 (.t 3), (some (12, true))⟩ ::
    ⟨(some 16), .ld (.t 15), (some (12, true))⟩ ::
    ⟨(some 17), .bin .eql (.t 14) (.t 16), (some (12, true))⟩ ::
    ⟨(some 18), .pick (.t 12) (.t 17) (.c (.d (.bool false))), none⟩ ::
    ⟨(some 19), .mv (.t 18), none⟩ ::
    ⟨(some 20), .off 2 (.t 2), (some (19, true))⟩ ::
    ⟨(some 21), .ld (.t 20), (some (19, true))⟩ ::
    ⟨(some 22), .off 2 (.t 3), (some (19, true))⟩ ::
    ⟨(some 23), .ld (.t 22), (some (19, true))⟩ ::
    ⟨(some 24), .bin .eql (.t 21) (.t 23), (some (19, true))⟩ ::
    ⟨(some 25), .pick (.t 19) (.t 24) (.c (.d (.bool false))), none⟩ ::
    ⟨(some 26), .mv (.t 25), none⟩ ::
    ⟨(some 27), .off 3 (.t 2), (some (26, true))⟩ ::
    ⟨(some 28), .ld (.t 27), (some (26, true))⟩ ::
    ⟨(some 29), .off 3 (.t 3), (some (26, true))⟩ ::
    ⟨(some 30), .ld (.t 29), (some (26, true))⟩ ::
    ⟨(some 31), .bin .eql (.t 28) (.t 30), (some (26, true))⟩ ::
    ⟨(some 32), .pick (.t 26) (.t 31) (.c (.d (.bool false))), none⟩ ::
    ⟨(some 5), .mv (.t 32), none⟩ ::
    []))
  (.seq (.reg (⟨(some 33), .off 4 (.t 2), none⟩ ::
    ⟨(some 34), .ld (.t 33), none⟩ ::
    ⟨(some 35), .off 4 (.t 3), none⟩ ::
    ⟨(some 36), .ld (.t 35), none⟩ ::
    ⟨(some 37), .bin .eql (.t 34) (.t 36), none⟩ ::
    ⟨(some 38), .mv (.t 37), none⟩ ::
    ⟨(some 39), .off 5 (.t 2), (some (38, true))⟩ ::
    ⟨(some 40), .ld (.t 39), (some (38, true))⟩ ::
    ⟨(some 41), .off 5 (.t 3), (some (38, true))⟩ ::
    ⟨(some 42), .ld (.t 41), (some (38, true))⟩ ::
    ⟨(some 43), .eqb false (.t 40) (.t 42), (some (38, true))⟩ ::
    ⟨(some 44), .pick (.t 38) (.t 43) (.c (.d (.bool false))), none⟩ ::
    ⟨(some 45), .mv (.t 44), none⟩ ::
    ⟨(some 46), .off 6 (.t 2), (some (45, true))⟩ ::
    ⟨(some 47), .ld (.t 46), (some (45, true))⟩ ::
    ⟨(some 48), .off 6 (.t 3), (some (45, true))⟩ ::
    ⟨(some 49), .ld (.t 48), (some (45, true))⟩ ::
    ⟨(some 50), .eqb false (.t 47) (.t 49), (some (45, true))⟩ ::
    ⟨(some 51), .pick (.t 45) (.t 50) (.c (.d (.bool false))), none⟩ ::
    ⟨(some 52), .mv (.t 51), none⟩ ::
    ⟨(some 53), .off 7 (.t 2), (some (52, true))⟩ ::
    ⟨(some 54), .ld (.t 53), (some (52, true))⟩ ::
    ⟨(some 55), .off 7 (.t 3), (some (52, true))⟩ ::
    ⟨(some 56), .ld (.t 55), (some (52, true))⟩ ::
    ⟨(some 57), .bin .eql (.t 54) (.t 56), (some (52, true))⟩ ::
    ⟨(some 58), .pick (.t 52) (.t 57) (.c (.d (.bool false))), none⟩ ::
    ⟨(some 6), .mv (.t 58), none⟩ ::
    []))
  (.seq (.reg (⟨(some 59), .mv (.t 5), none⟩ ::
    ⟨(some 60), .mv (.t 59), none⟩ ::
    ⟨(some 61), .mv (.t 6), (some (60, true))⟩ ::
    ⟨(some 62), .pick (.t 60) (.t 61) (.c (.d (.bool false))), none⟩ ::
    ⟨(some 63), .mv (.t 62), none⟩ ::
    ⟨(some 64), .off 8 (.t 2), (some (63, true))⟩ ::
    ⟨(some 65), .ld (.t 64), (some (63, true))⟩ ::
    ⟨(some 66), .off 8 (.t 3), (some (63, true))⟩ ::
    ⟨(some 67), .ld (.t 66), (some (63, true))⟩ ::
    ⟨(some 68), .bin .eql (.t 65) (.t 67), (some (63, true))⟩ ::
    ⟨(some 69), .pick (.t 63) (.t 68) (.c (.d (.bool false))), none⟩ ::
    ⟨(some 70), .mv (.t 69), none⟩ ::
    ⟨(some 71), .off 10 (.t 2), (some (70, true))⟩ ::
    ⟨(some 72), .ldn 4 (.t 71), (some (70, true))⟩ ::
    ⟨(some 73), .off 10 (.t 3), (some (70, true))⟩ ::
    ⟨(some 74), .ldn 4 (.t 73), (some (70, true))⟩ ::
    ⟨(some 75), .eqs false [2, 0, 0, 1] (.t 72) (.t 74), (some (70, true))⟩ ::
    ⟨(some 76), .pick (.t 70) (.t 75) (.c (.d (.bool false))), none⟩ ::
    ⟨(some 77), .mv (.t 76), none⟩ ::
    ⟨(some 78), .off 14 (.t 2), (some (77, true))⟩ ::
    ⟨(some 79), .ld (.t 78), (some (77, true))⟩ ::
    ⟨(some 80), .off 14 (.t 3), (some (77, true))⟩ ::
    ⟨(some 81), .ld (.t 80), (some (77, true))⟩ ::
    ⟨(some 82), .bin .eql (.t 79) (.t 81), (some (77, true))⟩ ::
    ⟨(some 83), .pick (.t 77) (.t 82) (.c (.d (.bool false))), none⟩ ::
    ⟨(some 84), .mv (.t 83), none⟩ ::
    ⟨(some 85), .off 9 (.t 2), (some (84, true))⟩ ::
    ⟨(some 86), .ld (.t 85), (some (84, true))⟩ ::
    ⟨(some 87), .off 9 (.t 3), (some (84, true))⟩ ::
    ⟨(some 88), .ld (.t 87), (some (84, true))⟩ ::
    ⟨(some 89), .call (.c (.fn 97 [])) [(.t 86), (.t 88)], (some (84, true))⟩ ::
    ⟨(some 90), .pick (.t 84) (.t 89) (.c (.d (.bool false))), none⟩ ::
    ⟨(some 4), .mv (.t 90), none⟩ ::
    []))
  .ret)))) }
/-- garland/msg.Asks -/
def cf81 : CFun := { np := 1, nt := 11, res := [.tmp 2], body :=
  (.seq (.reg (⟨(some 1), .box (.t 0), none⟩ ::
    ⟨(some 2), .mv (.c (.d (.bool false))), none⟩ ::
    []))
  (.seq (.reg (⟨(some 3), .off 0 (.t 1), none⟩ ::
    ⟨(some 4), .ld (.t 3), none⟩ ::
    ⟨(some 5), .bin .gtr (.t 4) (.c (.d (.int .u8 0))), none⟩ ::
    ⟨(some 6), .mv (.t 5), none⟩ ::
    ⟨(some 7), .off 0 (.t 1), (some (6, true))⟩ ::
    ⟨(some 8), .ld (.t 7), (some (6, true))⟩ ::
    ⟨(some 9), .bin .leq (.t 8) (.c (.d (.int .u8 6))), (some (6, true))⟩ ::
    ⟨(some 10), .pick (.t 6) (.t 9) (.c (.d (.bool false))), none⟩ ::
    ⟨(some 2), .mv (.t 10), none⟩ ::
    []))
  .ret)) }
/-- garland/garlandref06.Asks -/
def cf82 : CFun := { np := 1, nt := 11, res := [.tmp 2], body :=
  (.seq (.reg (⟨(some 1), .box (.t 0), none⟩ ::
    ⟨(some 2), .mv (.c (.d (.bool false))), none⟩ ::
    []))
  (.seq (.reg (⟨(some 3), .off 0 (.t 1), none⟩ ::
    ⟨(some 4), .ld (.t 3), none⟩ ::
    ⟨(some 5), .bin .geq (.t 4) (.c (.d (.int .u8 1))), none⟩ ::
    ⟨(some 6), .mv (.t 5), none⟩ ::
    ⟨(some 7), .off 0 (.t 1), (some (6, true))⟩ ::
    ⟨(some 8), .ld (.t 7), (some (6, true))⟩ ::
    ⟨(some 9), .bin .leq (.t 8) (.c (.d (.int .u8 6))), (some (6, true))⟩ ::
    ⟨(some 10), .pick (.t 6) (.t 9) (.c (.d (.bool false))), none⟩ ::
    ⟨(some 2), .mv (.t 10), none⟩ ::
    []))
  .ret)) }
/-- garland/garlandref12.place -/
def cf83 : CFun := { np := 1, nt := 9, res := [.tmp 2], body :=
  (.seq (.reg (⟨(some 2), .mv (.c (.d (.bool false))), none⟩ ::
    []))
  (.seq (.reg (⟨(some 3), .mv (.t 0), none⟩ ::
    ⟨(some 4), .bin .geq (.t 3) (.c (.d (.int .i64 0))), none⟩ ::
    ⟨(some 5), .mv (.t 4), none⟩ ::
    ⟨(some 6), .mv (.t 0), (some (5, true))⟩ ::
    ⟨(some 7), .bin .lss (.t 6) (.c (.d (.int .i64 65536))), (some (5, true))⟩ ::
    ⟨(some 8), .pick (.t 5) (.t 7) (.c (.d (.bool false))), none⟩ ::
    ⟨(some 2), .mv (.t 8), none⟩ ::
    []))
  .ret)) }
/-- garland/garlandref12.farther -/
def cf84 : CFun := { np := 3, nt := 14, res := [.tmp 6], body :=
  (.seq (.reg (⟨(some 6), .mv (.c (.d (.bool false))), none⟩ ::
    []))
  (.seq (.reg (⟨(some 7), .mv (.t 0), none⟩ ::
    ⟨(some 8), .mv (.t 2), none⟩ ::
    ⟨(some 9), .call (.c (.fn 26 [])) [(.t 7), (.t 8)], none⟩ ::
    ⟨(some 10), .mv (.t 0), none⟩ ::
    ⟨(some 11), .mv (.t 1), none⟩ ::
    ⟨(some 12), .call (.c (.fn 26 [])) [(.t 10), (.t 11)], none⟩ ::
    ⟨(some 13), .bin .gtr (.t 9) (.t 12), none⟩ ::
    ⟨(some 6), .mv (.t 13), none⟩ ::
    []))
  .ret)) }
/-- garland/garlandref03.Owner -/
def cf85 : CFun := { np := 2, nt := 37, res := [.tmp 4, .tmp 5], body :=
  (.seq (.reg (⟨(some 4), .mv (.c (.d (.int .i64 0))), none⟩ ::
    ⟨(some 5), .mv (.c (.d (.bool false))), none⟩ ::
    []))
  (.seq (.seq (.reg (⟨(some 8), .mv (.t 0), none⟩ ::
    ⟨(some 9), .len false (.t 8), none⟩ ::
    ⟨(some 10), .bin .eql (.t 9) (.c (.d (.int .i64 0))), none⟩ ::
    []))
  (.cond (.t 10) (.seq (.reg (⟨(some 4), .mv (.c (.d (.int .i64 0))), none⟩ ::
    ⟨(some 5), .mv (.c (.d (.bool false))), none⟩ ::
    []))
  .ret) .skip))
  (.seq (.reg (⟨(some 11), .mv (.t 0), none⟩ ::
    ⟨(some 12), .ixs 1 (.t 11) (.c (.d (.int .i64 0))), none⟩ ::
    ⟨(some 13), .ld (.t 12), none⟩ ::
    ⟨(some 14), .call (.c (.fn 27 [])) [(.t 13)], none⟩ ::
    ⟨(some 6), .mv (.t 14), none⟩ ::
    []))
  (.seq (.seq (.reg (⟨(some 7), .mv (.c (.d (.int .i64 0))), none⟩ ::
    []))
  (.block 0 (.loop [0, 1, 6, 7] (.seq (.seq (.reg (⟨(some 15), .mv (.t 7), none⟩ ::
    ⟨(some 16), .mv (.t 0), none⟩ ::
    ⟨(some 17), .len false (.t 16), none⟩ ::
    ⟨(some 18), .bin .lss (.t 15) (.t 17), none⟩ ::
    []))
  (.cond (.t 18) .skip (.exit 0)))
  (.seq (.block 1 (.seq (.reg (⟨(some 21), .mv (.t 1), none⟩ ::
    ⟨(some 22), .mv (.t 0), none⟩ ::
    ⟨(some 23), .mv (.t 7), none⟩ ::
    ⟨(some 24), .ixs 1 (.t 22) (.t 23), none⟩ ::
    ⟨(some 25), .ld (.t 24), none⟩ ::
    ⟨(some 26), .call (.c (.fn 26 [])) [(.t 21), (.t 25)], none⟩ ::
    ⟨(some 27), .mv (.t 1), none⟩ ::
    ⟨(some 28), .mv (.t 6), none⟩ ::
    ⟨(some 29), .call (.c (.fn 26 [])) [(.t 27), (.t 28)], none⟩ ::
    ⟨(some 30), .bin .lss (.t 26) (.t 29), none⟩ ::
    []))
  (.cond (.t 30) (.reg (⟨(some 31), .mv (.t 0), none⟩ ::
    ⟨(some 32), .mv (.t 7), none⟩ ::
    ⟨(some 33), .ixs 1 (.t 31) (.t 32), none⟩ ::
    ⟨(some 34), .ld (.t 33), none⟩ ::
    ⟨(some 35), .call (.c (.fn 27 [])) [(.t 34)], none⟩ ::
    ⟨(some 6), .mv (.t 35), none⟩ ::
    [])) .skip)))
  (.reg (⟨(some 19), .mv (.t 7), none⟩ ::
    ⟨(some 20), .bin .add (.t 19) (.c (.d (.int .i64 1))), none⟩ ::
    ⟨(some 7), .mv (.t 20), none⟩ ::
    [])))))))
  (.seq (.reg (⟨(some 36), .mv (.t 6), none⟩ ::
    ⟨(some 4), .mv (.t 36), none⟩ ::
    ⟨(some 5), .mv (.c (.d (.bool true))), none⟩ ::
    []))
  .ret))))) }
/-- garland/garlandref06.Pair -/
def cf86 : CFun := { np := 1, nt := 33, res := [.tmp 2], body :=
  (.seq (.reg (⟨(some 1), .box (.t 0), none⟩ ::
    ⟨(some 2), .mv (.c (.d (.bool false))), none⟩ ::
    []))
  (.seq (.reg (⟨(some 3), .off 0 (.t 1), none⟩ ::
    ⟨(some 4), .ld (.t 3), none⟩ ::
    ⟨(some 5), .len true (.t 4), none⟩ ::
    ⟨(some 6), .bin .geq (.t 5) (.c (.d (.int .i64 1))), none⟩ ::
    ⟨(some 7), .mv (.t 6), none⟩ ::
    ⟨(some 8), .off 0 (.t 1), (some (7, true))⟩ ::
    ⟨(some 9), .ld (.t 8), (some (7, true))⟩ ::
    ⟨(some 10), .len true (.t 9), (some (7, true))⟩ ::
    ⟨(some 11), .bin .leq (.t 10) (.c (.d (.int .i64 20))), (some (7, true))⟩ ::
    ⟨(some 12), .pick (.t 7) (.t 11) (.c (.d (.bool false))), none⟩ ::
    ⟨(some 13), .mv (.t 12), none⟩ ::
    ⟨(some 14), .off 1 (.t 1), (some (13, true))⟩ ::
    ⟨(some 15), .ld (.t 14), (some (13, true))⟩ ::
    ⟨(some 16), .bin .geq (.t 15) (.c (.d (.int .i64 0))), (some (13, true))⟩ ::
    ⟨(some 17), .pick (.t 13) (.t 16) (.c (.d (.bool false))), none⟩ ::
    ⟨(some 18), .mv (.t 17), none⟩ ::
    ⟨(some 19), .off 1 (.t 1), (some (18, true))⟩ ::
    ⟨(some 20), .ld (.t 19), (some (18, true))⟩ ::
    ⟨(some 21), .bin .leq (.t 20) (.c (.d (.int .i64 1048576))), (some (18, true))⟩ ::
    ⟨(some 22), .pick (.t 18) (.t 21) (.c (.d (.bool false))), none⟩ ::
    ⟨(some 23), .mv (.t 22), none⟩ ::
    ⟨(some 24), .off 2 (.t 1), (some (23, true))⟩ ::
    ⟨(some 25), .ld (.t 24), (some (23, true))⟩ ::
    ⟨(some 26), .bin .geq (.t 25) (.c (.d (.int .i64 0))), (some (23, true))⟩ ::
    ⟨(some 27), .pick (.t 23) (.t 26) (.c (.d (.bool false))), none⟩ ::
    ⟨(some 28), .mv (.t 27), none⟩ ::
    ⟨(some 29), .off 2 (.t 1), (some (28, true))⟩ ::
    ⟨(some 30), .ld (.t 29), (some (28, true))⟩ ::
    ⟨(some 31), .bin .leq (.t 30) (.c (.d (.int .i64 1048576))), (some (28, true))⟩ ::
    ⟨(some 32), .pick (.t 28) (.t 31) (.c (.d (.bool false))), none⟩ ::
    ⟨(some 2), .mv (.t 32), none⟩ ::
    []))
  .ret)) }
/-- garland/garlandref06.list -/
def cf87 : CFun := { np := 2, nt := 44, res := [.tmp 4], body :=
  (.seq (.reg (⟨(some 4), .mv (.c (.d (.bool false))), none⟩ ::
    []))
  (.seq (.seq (.reg (⟨(some 5), .mv (.c (.d (.int .i64 0))), none⟩ ::
    []))
  (.block 0 (.loop [0, 1, 5] (.seq (.seq (.reg (⟨(some 7), .mv (.t 5), none⟩ ::
    ⟨(some 8), .mv (.t 0), none⟩ ::
    ⟨(some 9), .len false (.t 8), none⟩ ::
    ⟨(some 10), .bin .lss (.t 7) (.t 9), none⟩ ::
    []))
  (.cond (.t 10) .skip (.exit 0)))
  (.seq (.block 1 (.seq (.seq (.reg (⟨(some 13), .mv (.t 0), none⟩ ::
    ⟨(some 14), .mv (.t 5), none⟩ ::
    ⟨(some 15), .ixs 1 (.t 13) (.t 14), none⟩ ::
    ⟨(some 16), .ld (.t 15), none⟩ ::
    ⟨(some 17), .call (.c (.fn 62 [])) [(.t 16)], none⟩ ::
    ⟨(some 18), .not (.t 17), none⟩ ::
    ⟨(some 19), .mv (.t 18), none⟩ ::
    ⟨(some 20), .mv (.t 0), (some (19, false))⟩ ::
    ⟨(some 21), .mv (.t 5), (some (19, false))⟩ ::
    ⟨(some 22), .ixs 1 (.t 20) (.t 21), (some (19, false))⟩ ::
    ⟨(some 23), .ld (.t 22), (some (19, false))⟩ ::
    ⟨(some 24), .mv (.t 1), (some (19, false))⟩ ::
    ⟨(some 25), .bin .eql (.t 23) (.t 24), (some (19, false))⟩ ::
    ⟨(some 26), .pick (.t 19) (.c (.d (.bool true))) (.t 25), none⟩ ::
    []))
  (.cond (.t 26) (.seq (.reg (⟨(some 4), .mv (.c (.d (.bool false))), none⟩ ::
    []))
  .ret) .skip))
  (.seq (.reg (⟨(some 6), .mv (.c (.d (.int .i64 0))), none⟩ ::
    []))
  (.block 2 (.loop [0, 1, 5, 6] (.seq (.seq (.reg (⟨(some 27), .mv (.t 6), none⟩ ::
    ⟨(some 28), .mv (.t 5), none⟩ ::
    ⟨(some 29), .bin .lss (.t 27) (.t 28), none⟩ ::
    []))
  (.cond (.t 29) .skip (.exit 2)))
  (.seq (.block 3 (.seq (.dreg (⟨(some 32), .mv (.t 0), none⟩ ::
    ⟨(some 33), .mv (.t 6), none⟩ ::
    ⟨(some 34), .ixs 1 (.t 32) (.t 33), none⟩ ::
    ⟨(some 35), .ld (.t 34), none⟩ ::
    ⟨(some 36), .mv (.t 0), none⟩ ::
    ⟨(some 37), .mv (.t 5), none⟩ ::
    ⟨(some 38), .ixs 1 (.t 36) (.t 37), none⟩ ::
    ⟨(some 39), .ld (.t 38), none⟩ ::
    ⟨(some 40), .bin .eql (.t 35) (.t 39), none⟩ ::
    []) ([]))
  (.cond (.t 40) (.seq (.reg (⟨(some 4), .mv (.c (.d (.bool false))), none⟩ ::
    []))
  .ret) .skip)))
  (.reg (⟨(some 30), .mv (.t 6), none⟩ ::
    ⟨(some 31), .bin .add (.t 30) (.c (.d (.int .i64 1))), none⟩ ::
    ⟨(some 6), .mv (.t 31), none⟩ ::
    [])))))))))
  (.reg (⟨(some 11), .mv (.t 5), none⟩ ::
    ⟨(some 12), .bin .add (.t 11) (.c (.d (.int .i64 1))), none⟩ ::
    ⟨(some 5), .mv (.t 12), none⟩ ::
    [])))))))
  (.seq (.reg (⟨(some 41), .mv (.t 0), none⟩ ::
    ⟨(some 42), .len false (.t 41), none⟩ ::
    ⟨(some 43), .bin .leq (.t 42) (.c (.d (.int .i64 3))), none⟩ ::
    ⟨(some 4), .mv (.t 43), none⟩ ::
    []))
  .ret))) }
/-- garland/look.on$1 -/
def cf88 : CFun := { np := 4, nt := 13, res := [], body :=
  (.reg (⟨(some 5), .ldn 20 (.t 0), none⟩ ::
    ⟨(some 6), .off 0 (.t 1), none⟩ ::
    ⟨(some 7), .ld (.t 6), none⟩ ::
    ⟨(some 8), .off 3 (.t 1), none⟩ ::
    ⟨(some 9), .ld (.t 8), none⟩ ::
    ⟨(some 10), .call (.c (.fn 15 [])) [(.t 5), (.t 7), (.t 9)], none⟩ ::
    ⟨(some 4), .mv (.t 10), none⟩ ::
    ⟨(some 11), .ext (.t 4) 0, none⟩ ::
    ⟨(some 12), .ext (.t 4) 1, none⟩ ::
    ⟨none, .st 1 (.t 2) (.t 11), none⟩ ::
    ⟨none, .st 1 (.t 3) (.t 12), none⟩ ::
    [])) }
/-- garland/look.musts$1 -/
def cf89 : CFun := { np := 2, nt := 64, res := [], body :=
  (.seq (.reg (⟨(some 4), .off 2 (.t 1), none⟩ ::
    ⟨(some 5), .ld (.t 4), none⟩ ::
    ⟨(some 6), .bin .eql (.t 5) (.c (.d (.int .i64 41))), none⟩ ::
    ⟨(some 3), .mv (.t 6), none⟩ ::
    []))
  (.reg (⟨(some 7), .mv (.t 0), none⟩ ::
    ⟨(some 8), .off 0 (.t 1), none⟩ ::
    ⟨(some 9), .ld (.t 8), none⟩ ::
    ⟨(some 10), .call (.c (.fn 90 [])) [(.t 9)], none⟩ ::
    ⟨(some 11), .mv (.t 10), none⟩ ::
    ⟨(some 12), .off 1 (.t 1), (some (11, true))⟩ ::
    ⟨(some 13), .ld (.t 12), (some (11, true))⟩ ::
    ⟨(some 14), .call (.c (.fn 90 [])) [(.t 13)], (some (11, true))⟩ ::
    ⟨(some 15), .pick (.t 11) (.t 14) (.c (.d (.bool false))), none⟩ ::
    ⟨(some 16), .call (.t 7) [(.t 15)], none⟩ ::
    ⟨(some 17), .mv (.t 16), none⟩ ::
    ⟨(some 18), .mv (.t 0), (some (17, true))⟩ ::
    ⟨(some 19), .mv (.t 3), (some (17, true))⟩ ::
    ⟨(some 20), .mv (.t 19), (some (17, true))⟩ ::
    ⟨(some 21), .off 2 (.t 1), (some (20, false))⟩ ::
    ⟨(some 22), .ld (.t 21), (some (20, false))⟩ ::
    ⟨(some 23), .bin .geq (.t 22) (.c (.d (.int .i64 0))), (some (20, false))⟩ ::
    ⟨(some 24), .mv (.t 23), (some (20, false))⟩ ::
    ⟨(some 25), .off 2 (.t 1), (some (24, true))⟩ ::
    ⟨(some 26), .ld (.t 25), (some (24, true))⟩ ::
    ⟨(some 27), .bin .leq (.t 26) (.c (.d (.int .i64 40))), (some (24, true))⟩ ::
    ⟨(some 28), .pick (.t 24) (.t 27) (.c (.d (.bool false))), (some (20, false))⟩ ::
    ⟨(some 29), .pick (.t 20) (.c (.d (.bool true))) (.t 28), (some (17, true))⟩ ::
    ⟨(some 30), .call (.t 18) [(.t 29)], (some (17, true))⟩ ::
    ⟨(some 31), .pick (.t 17) (.t 30) (.c (.d (.bool false))), none⟩ ::
    ⟨(some 32), .mv (.t 31), none⟩ ::
    ⟨(some 33), .mv (.t 0), (some (32, true))⟩ ::
    ⟨(some 34), .off 5 (.t 1), (some (32, true))⟩ ::
    ⟨(some 35), .ld (.t 34), (some (32, true))⟩ ::
    ⟨(some 36), .bin .eql (.t 35) (.c (.d (.int .i64 0))), (some (32, true))⟩ ::
    ⟨(some 37), .mv (.t 36), (some (32, true))⟩ ::
    ⟨(some 38), .off 5 (.t 1), (some (37, false))⟩ ::
    ⟨(some 39), .ld (.t 38), (some (37, false))⟩ ::
    ⟨(some 40), .bin .eql (.t 39) (.c (.d (.int .i64 211))), (some (37, false))⟩ ::
    ⟨(some 41), .pick (.t 37) (.c (.d (.bool true))) (.t 40), (some (32, true))⟩ ::
    ⟨(some 42), .call (.t 33) [(.t 41)], (some (32, true))⟩ ::
    ⟨(some 43), .pick (.t 32) (.t 42) (.c (.d (.bool false))), none⟩ ::
    ⟨(some 44), .mv (.t 43), none⟩ ::
    ⟨(some 45), .mv (.t 0), (some (44, true))⟩ ::
    ⟨(some 46), .off 5 (.t 1), (some (44, true))⟩ ::
    ⟨(some 47), .ld (.t 46), (some (44, true))⟩ ::
    ⟨(some 48), .bin .eql (.t 47) (.c (.d (.int .i64 211))), (some (44, true))⟩ ::
    ⟨(some 49), .mv (.t 3), (some (44, true))⟩ ::
    ⟨(some 50), .eqb false (.t 48) (.t 49), (some (44, true))⟩ ::
    ⟨(some 51), .call (.t 45) [(.t 50)], (some (44, true))⟩ ::
    ⟨(some 52), .pick (.t 44) (.t 51) (.c (.d (.bool false))), none⟩ ::
    ⟨(some 53), .mv (.t 52), none⟩ ::
    ⟨(some 54), .mv (.t 0), (some (53, true))⟩ ::
    ⟨(some 55), .mv (.t 3), (some (53, true))⟩ ::
    ⟨(some 56), .not (.t 55), (some (53, true))⟩ ::
    ⟨(some 57), .mv (.t 56), (some (53, true))⟩ ::
    ⟨(some 58), .off 4 (.t 1), (some (57, false))⟩ ::
    ⟨(some 59), .ld (.t 58), (some (57, false))⟩ ::
    ⟨(some 60), .not (.t 59), (some (57, false))⟩ ::
    ⟨(some 61), .pick (.t 57) (.c (.d (.bool true))) (.t 60), (some (53, true))⟩ ::
    ⟨(some 62), .call (.t 54) [(.t 61)], (some (53, true))⟩ ::
    ⟨(some 63), .pick (.t 53) (.t 62) (.c (.d (.bool false))), none⟩ ::
    []))) }
/-- garland/look.place -/
def cf90 : CFun := { np := 1, nt := 9, res := [.tmp 2], body :=
  (.seq (.reg (⟨(some 2), .mv (.c (.d (.bool false))), none⟩ ::
    []))
  (.seq (.reg (⟨(some 3), .mv (.t 0), none⟩ ::
    ⟨(some 4), .bin .geq (.t 3) (.c (.d (.int .i64 0))), none⟩ ::
    ⟨(some 5), .mv (.t 4), none⟩ ::
    ⟨(some 6), .mv (.t 0), (some (5, true))⟩ ::
    ⟨(some 7), .bin .lss (.t 6) (.c (.d (.int .i64 65536))), (some (5, true))⟩ ::
    ⟨(some 8), .pick (.t 5) (.t 7) (.c (.d (.bool false))), none⟩ ::
    ⟨(some 2), .mv (.t 8), none⟩ ::
    []))
  .ret)) }
/-- garland/arc.Owner -/
def cf91 : CFun := { np := 2, nt := 32, res := [.tmp 4, .tmp 5], body :=
  (.seq (.reg (⟨(some 4), .mv (.c (.d (.int .i64 0))), none⟩ ::
    ⟨(some 5), .mv (.c (.d (.bool false))), none⟩ ::
    []))
  (.scope [0, 1, 4] (.seq (.seq (.reg (⟨(some 6), .mv (.t 0), none⟩ ::
    ⟨(some 7), .len false (.t 6), none⟩ ::
    ⟨(some 8), .bin .eql (.t 7) (.c (.d (.int .i64 0))), none⟩ ::
    []))
  (.cond (.t 8) (.seq (.reg (⟨(some 4), .mv (.c (.d (.int .i64 0))), none⟩ ::
    ⟨(some 5), .mv (.c (.d (.bool false))), none⟩ ::
    []))
  .ret) .skip))
  (.seq (.reg (⟨(some 9), .mv (.t 0), none⟩ ::
    ⟨(some 10), .ixs 1 (.t 9) (.c (.d (.int .i64 0))), none⟩ ::
    ⟨(some 11), .ld (.t 10), none⟩ ::
    ⟨(some 12), .call (.c (.fn 66 [])) [(.t 11)], none⟩ ::
    ⟨(some 4), .mv (.t 12), none⟩ ::
    []))
  (.seq (.label 0)
  (.seq (.seq (.reg (⟨(some 13), .mv (.t 0), none⟩ ::
    ⟨(some 14), .sls 1 (.t 13) (some (.c (.d (.int .i64 1)))) none, none⟩ ::
    ⟨(some 0), .mv (.t 14), none⟩ ::
    []))
  (.seq (.reg (⟨(some 15), .mv (.t 0), none⟩ ::
    ⟨(some 16), .len false (.t 15), none⟩ ::
    ⟨(some 17), .bin .gtr (.t 16) (.c (.d (.int .i64 0))), none⟩ ::
    []))
  (.cond (.t 17) (.seq (.seq (.reg (⟨(some 18), .mv (.t 1), none⟩ ::
    ⟨(some 19), .mv (.t 0), none⟩ ::
    ⟨(some 20), .ixs 1 (.t 19) (.c (.d (.int .i64 0))), none⟩ ::
    ⟨(some 21), .ld (.t 20), none⟩ ::
    ⟨(some 22), .call (.c (.fn 47 [])) [(.t 18), (.t 21)], none⟩ ::
    ⟨(some 23), .mv (.t 1), none⟩ ::
    ⟨(some 24), .mv (.t 4), none⟩ ::
    ⟨(some 25), .call (.c (.fn 47 [])) [(.t 23), (.t 24)], none⟩ ::
    ⟨(some 26), .bin .lss (.t 22) (.t 25), none⟩ ::
    []))
  (.cond (.t 26) (.reg (⟨(some 27), .mv (.t 0), none⟩ ::
    ⟨(some 28), .ixs 1 (.t 27) (.c (.d (.int .i64 0))), none⟩ ::
    ⟨(some 29), .ld (.t 28), none⟩ ::
    ⟨(some 30), .call (.c (.fn 66 [])) [(.t 29)], none⟩ ::
    ⟨(some 4), .mv (.t 30), none⟩ ::
    [])) .skip))
  (.goto 0)) .skip)))
  (.seq (.reg (⟨(some 31), .mv (.t 4), none⟩ ::
    ⟨(some 4), .mv (.t 31), none⟩ ::
    ⟨(some 5), .mv (.c (.d (.bool true))), none⟩ ::
    []))
  .ret))))))) }
/-- garland/list.sides -/
def cf92 : CFun := { np := 2, nt := 6, res := [.tmp 4], body :=
  (.seq (.reg (⟨(some 2), .box (.t 0), none⟩ ::
    ⟨(some 3), .box (.t 1), none⟩ ::
    ⟨(some 4), .mv (.c (.nilf)), none⟩ ::
    []))
  (.seq (.reg (⟨(some 5), .mkf 98 [(.t 3), (.t 2)], none⟩ ::
    ⟨(some 4), .mv (.t 5), none⟩ ::
    []))
  .ret)) }
/-- garland/list.behind -/
def cf93 : CFun := { np := 3, nt := 18, res := [.tmp 6], body :=
  (.seq (.reg (⟨(some 6), .mv (.c (.d (.bool false))), none⟩ ::
    []))
  (.seq (.reg (⟨(some 7), .mv (.t 2), none⟩ ::
    ⟨(some 8), .call (.c (.fn 99 [])) [(.t 7)], none⟩ ::
    ⟨(some 9), .mv (.t 8), none⟩ ::
    ⟨(some 10), .mv (.t 0), (some (9, true))⟩ ::
    ⟨(some 11), .mv (.t 2), (some (9, true))⟩ ::
    ⟨(some 12), .call (.c (.fn 47 [])) [(.t 10), (.t 11)], (some (9, true))⟩ ::
    ⟨(some 13), .mv (.t 0), (some (9, true))⟩ ::
    ⟨(some 14), .mv (.t 1), (some (9, true))⟩ ::
    ⟨(some 15), .call (.c (.fn 47 [])) [(.t 13), (.t 14)], (some (9, true))⟩ ::
    ⟨(some 16), .bin .gtr (.t 12) (.t 15), (some (9, true))⟩ ::
    ⟨(some 17), .pick (.t 9) (.t 16) (.c (.d (.bool false))), none⟩ ::
    ⟨(some 6), .mv (.t 17), none⟩ ::
    []))
  .ret)) }
/-- garland/msg.Pair -/
def cf94 : CFun := { np := 1, nt := 16, res := [.tmp 2], body :=
  (.seq (.reg (⟨(some 1), .box (.t 0), none⟩ ::
    ⟨(some 2), .mv (.c (.d (.bool false))), none⟩ ::
    []))
  (.seq (.reg (⟨(some 3), .off 0 (.t 1), none⟩ ::
    ⟨(some 4), .ld (.t 3), none⟩ ::
    ⟨(some 5), .call (.c (.fn 95 [])) [(.t 4)], none⟩ ::
    ⟨(some 6), .mv (.t 5), none⟩ ::
    ⟨(some 7), .off 1 (.t 1), (some (6, true))⟩ ::
    ⟨(some 8), .ld (.t 7), (some (6, true))⟩ ::
    ⟨(some 9), .call (.c (.fn 100 [])) [(.t 8)], (some (6, true))⟩ ::
    ⟨(some 10), .pick (.t 6) (.t 9) (.c (.d (.bool false))), none⟩ ::
    ⟨(some 11), .mv (.t 10), none⟩ ::
    ⟨(some 12), .off 2 (.t 1), (some (11, true))⟩ ::
    ⟨(some 13), .ld (.t 12), (some (11, true))⟩ ::
    ⟨(some 14), .call (.c (.fn 100 [])) [(.t 13)], (some (11, true))⟩ ::
    ⟨(some 15), .pick (.t 11) (.t 14) (.c (.d (.bool false))), none⟩ ::
    ⟨(some 2), .mv (.t 15), none⟩ ::
    []))
  .ret)) }
/-- garland/msg.key -/
def cf95 : CFun := { np := 1, nt := 10, res := [.tmp 2], body :=
  (.seq (.reg (⟨(some 2), .mv (.c (.d (.bool false))), none⟩ ::
    []))
  (.seq (.reg (⟨(some 3), .mv (.t 0), none⟩ ::
    ⟨(some 4), .bin .neq (.t 3) (.c (.d (.str []))), none⟩ ::
    ⟨(some 5), .mv (.t 4), none⟩ ::
    ⟨(some 6), .mv (.t 0), (some (5, true))⟩ ::
    ⟨(some 7), .len true (.t 6), (some (5, true))⟩ ::
    ⟨(some 8), .bin .leq (.t 7) (.c (.d (.int .i64 20))), (some (5, true))⟩ ::
    ⟨(some 9), .pick (.t 5) (.t 8) (.c (.d (.bool false))), none⟩ ::
    ⟨(some 2), .mv (.t 9), none⟩ ::
    []))
  .ret)) }
/-- garland/msg.list -/
def cf96 : CFun := { np := 2, nt := 22, res := [.cell 4], body :=
  (.seq (.reg (⟨(some 4), .new [.d (.bool false)], none⟩ ::
    []))
  (.seq (.seq (.reg (⟨(some 7), .mv (.t 0), none⟩ ::
    ⟨(some 8), .mv (.t 1), none⟩ ::
    ⟨(some 9), .call (.c (.fn 101 [])) [(.t 7), (.t 8)], none⟩ ::
    []))
  (.block 0 (.range (.t 9) [10, 11] (.seq (.reg (⟨(some 5), .mv (.t 10), none⟩ ::
    []))
  (.reg (⟨(some 6), .mv (.t 11), none⟩ ::
    []))) (.block 1 (.seq (.reg (⟨(some 12), .mv (.t 6), none⟩ ::
    ⟨(some 13), .not (.t 12), none⟩ ::
    ⟨(some 14), .mv (.t 13), none⟩ ::
    ⟨(some 15), .mv (.t 5), (some (14, false))⟩ ::
    ⟨(some 16), .call (.c (.fn 76 [])) [(.t 15)], (some (14, false))⟩ ::
    ⟨(some 17), .not (.t 16), (some (14, false))⟩ ::
    ⟨(some 18), .pick (.t 14) (.c (.d (.bool true))) (.t 17), none⟩ ::
    []))
  (.cond (.t 18) (.seq (.reg (⟨none, .st 1 (.t 4) (.c (.d (.bool false))), none⟩ ::
    []))
  .ret) .skip))))))
  (.seq (.reg (⟨(some 19), .mv (.t 0), none⟩ ::
    ⟨(some 20), .len false (.t 19), none⟩ ::
    ⟨(some 21), .bin .leq (.t 20) (.c (.d (.int .i64 3))), none⟩ ::
    ⟨none, .st 1 (.t 4) (.t 21), none⟩ ::
    []))
  .ret))) }
/-- slices.Equal[[]int,int] -/
def cf97 : CFun := { np := 2, nt := 26, res := [.tmp 4], body :=
  (.seq (.reg (⟨(some 4), .mv (.c (.d (.bool false))), none⟩ ::
    []))
  (.seq (.seq (.reg (⟨(some 6), .mv (.t 0), none⟩ ::
    ⟨(some 7), .len false (.t 6), none⟩ ::
    ⟨(some 8), .mv (.t 1), none⟩ ::
    ⟨(some 9), .len false (.t 8), none⟩ ::
    ⟨(some 10), .bin .neq (.t 7) (.t 9), none⟩ ::
    []))
  (.cond (.t 10) (.seq (.reg (⟨(some 4), .mv (.c (.d (.bool false))), none⟩ ::
    []))
  .ret) .skip))
  (.seq (.seq (.reg (⟨(some 11), .mv (.t 0), none⟩ ::
    ⟨(some 12), .len false (.t 11), none⟩ ::
    ⟨(some 13), .mv (.c (.d (.int .i64 0))), none⟩ ::
    []))
  (.block 0 (.loop [0, 1, 12, 13] (.seq (.reg (⟨(some 14), .bin .lss (.t 13) (.t 12), none⟩ ::
    []))
  (.seq (.cond (.t 14) .skip (.exit 0))
  (.seq (.block 1 (.seq (.reg (⟨(some 15), .mv (.t 13), none⟩ ::
    ⟨(some 5), .mv (.t 15), none⟩ ::
    []))
  (.seq (.dreg (⟨(some 16), .mv (.t 0), none⟩ ::
    ⟨(some 17), .mv (.t 5), none⟩ ::
    ⟨(some 18), .ixs 1 (.t 16) (.t 17), none⟩ ::
    ⟨(some 19), .ld (.t 18), none⟩ ::
    ⟨(some 20), .mv (.t 1), none⟩ ::
    ⟨(some 21), .mv (.t 5), none⟩ ::
    ⟨(some 22), .ixs 1 (.t 20) (.t 21), none⟩ ::
    ⟨(some 23), .ld (.t 22), none⟩ ::
    ⟨(some 24), .bin .neq (.t 19) (.t 23), none⟩ ::
    []) ([]))
  (.cond (.t 24) (.seq (.reg (⟨(some 4), .mv (.c (.d (.bool false))), none⟩ ::
    []))
  .ret) .skip))))
  (.reg (⟨(some 25), .bin .add (.t 13) (.c (.d (.int .i64 1))), none⟩ ::
    ⟨(some 13), .mv (.t 25), none⟩ ::
    []))))))))
  (.seq (.reg (⟨(some 4), .mv (.c (.d (.bool true))), none⟩ ::
    []))
  .ret)))) }
/-- garland/list.sides$1 -/
def cf98 : CFun := { np := 3, nt := 19, res := [], body :=
  (.seq (.reg (⟨(some 6), .ld (.t 1), none⟩ ::
    ⟨(some 7), .len false (.t 6), none⟩ ::
    ⟨(some 8), .mv (.c (.d (.int .i64 0))), none⟩ ::
    []))
  (.block 0 (.loop [0, 2, 6, 7, 8] (.seq (.reg (⟨(some 9), .bin .lss (.t 8) (.t 7), none⟩ ::
    []))
  (.seq (.cond (.t 9) .skip (.exit 0))
  (.seq (.block 1 (.seq (.reg (⟨(some 10), .ixs 1 (.t 6) (.t 8), none⟩ ::
    ⟨(some 11), .ld (.t 10), none⟩ ::
    ⟨(some 5), .mv (.t 11), none⟩ ::
    []))
  (.seq (.seq (.reg (⟨(some 12), .mv (.t 0), none⟩ ::
    ⟨(some 13), .ld (.t 2), none⟩ ::
    ⟨(some 14), .mv (.t 5), none⟩ ::
    ⟨(some 15), .call (.t 12) [(.t 13), (.t 14)], none⟩ ::
    ⟨(some 16), .not (.t 15), none⟩ ::
    []))
  (.cond (.t 16) .ret .skip))
  (.reg (⟨(some 17), .mv (.t 5), none⟩ ::
    ⟨none, .st 1 (.t 2) (.t 17), none⟩ ::
    [])))))
  (.reg (⟨(some 18), .bin .add (.t 8) (.c (.d (.int .i64 1))), none⟩ ::
    ⟨(some 8), .mv (.t 18), none⟩ ::
    [])))))))) }
/-- garland/list.place -/
def cf99 : CFun := { np := 1, nt := 9, res := [.tmp 2], body :=
  (.seq (.reg (⟨(some 2), .mv (.c (.d (.bool false))), none⟩ ::
    []))
  (.seq (.reg (⟨(some 3), .mv (.t 0), none⟩ ::
    ⟨(some 4), .bin .geq (.t 3) (.c (.d (.int .i64 0))), none⟩ ::
    ⟨(some 5), .mv (.t 4), none⟩ ::
    ⟨(some 6), .mv (.t 0), (some (5, true))⟩ ::
    ⟨(some 7), .bin .lss (.t 6) (.c (.d (.int .i64 65536))), (some (5, true))⟩ ::
    ⟨(some 8), .pick (.t 5) (.t 7) (.c (.d (.bool false))), none⟩ ::
    ⟨(some 2), .mv (.t 8), none⟩ ::
    []))
  .ret)) }
/-- garland/msg.within -/
def cf100 : CFun := { np := 1, nt := 9, res := [.tmp 2], body :=
  (.seq (.reg (⟨(some 2), .mv (.c (.d (.bool false))), none⟩ ::
    []))
  (.seq (.reg (⟨(some 3), .mv (.t 0), none⟩ ::
    ⟨(some 4), .bin .geq (.t 3) (.c (.d (.int .i64 0))), none⟩ ::
    ⟨(some 5), .mv (.t 4), none⟩ ::
    ⟨(some 6), .mv (.t 0), (some (5, true))⟩ ::
    ⟨(some 7), .bin .leq (.t 6) (.c (.d (.int .i64 1048576))), (some (5, true))⟩ ::
    ⟨(some 8), .pick (.t 5) (.t 7) (.c (.d (.bool false))), none⟩ ::
    ⟨(some 2), .mv (.t 8), none⟩ ::
    []))
  .ret)) }
/-- garland/msg.others -/
def cf101 : CFun := { np := 2, nt := 6, res := [.tmp 4], body :=
  (.seq (.reg (⟨(some 2), .box (.t 0), none⟩ ::
    ⟨(some 3), .box (.t 1), none⟩ ::
    ⟨(some 4), .mv (.c (.nilf)), none⟩ ::
    []))
  (.seq (.reg (⟨(some 5), .mkf 102 [(.t 2), (.t 3)], none⟩ ::
    ⟨(some 4), .mv (.t 5), none⟩ ::
    []))
  .ret)) }
/-- garland/msg.others$1 -/
def cf102 : CFun := { np := 3, nt := 29, res := [], body :=
  (.seq (.reg (⟨(some 6), .ld (.t 1), none⟩ ::
    ⟨(some 7), .len false (.t 6), none⟩ ::
    ⟨(some 8), .mv (.c (.d (.int .i64 0))), none⟩ ::
    []))
  (.block 0 (.loop [0, 1, 2, 6, 7, 8] (.seq (.reg (⟨(some 9), .bin .lss (.t 8) (.t 7), none⟩ ::
    []))
  (.seq (.cond (.t 9) .skip (.exit 0))
  (.seq (.block 1 (.seq (.reg (⟨(some 10), .mv (.t 8), none⟩ ::
    ⟨(some 11), .ixs 1 (.t 6) (.t 8), none⟩ ::
    ⟨(some 12), .ld (.t 11), none⟩ ::
    ⟨(some 4), .mv (.t 10), none⟩ ::
    ⟨(some 5), .mv (.t 12), none⟩ ::
    []))
  (.seq (.reg (⟨(some 13), .mv (.t 0), none⟩ ::
    ⟨(some 14), .mv (.t 5), none⟩ ::
    ⟨(some 15), .mv (.t 5), none⟩ ::
    ⟨(some 16), .ld (.t 2), none⟩ ::
    ⟨(some 17), .bin .neq (.t 15) (.t 16), none⟩ ::
    ⟨(some 18), .mv (.t 17), none⟩ ::
    ⟨(some 19), .ld (.t 1), (some (18, true))⟩ ::
    ⟨(some 20), .mv (.t 4), (some (18, true))⟩ ::
    ⟨(some 21), .sls 1 (.t 19) none (some (.t 20)), (some (18, true))⟩ ::
    ⟨(some 22), .mv (.t 5), (some (18, true))⟩ ::
    ⟨(some 23), .call (.c (.fn 103 [])) [(.t 21), (.t 22)], (some (18, true))⟩ ::
    ⟨(some 24), .not (.t 23), (some (18, true))⟩ ::
    ⟨(some 25), .pick (.t 18) (.t 24) (.c (.d (.bool false))), none⟩ ::
    ⟨(some 26), .call (.t 13) [(.t 14), (.t 25)], none⟩ ::
    ⟨(some 27), .not (.t 26), none⟩ ::
    []))
  (.cond (.t 27) .ret .skip))))
  (.reg (⟨(some 28), .bin .add (.t 8) (.c (.d (.int .i64 1))), none⟩ ::
    ⟨(some 8), .mv (.t 28), none⟩ ::
    [])))))))) }
/-- slices.Contains[[]int,int] -/
def cf103 : CFun := { np := 2, nt := 9, res := [.tmp 4], body :=
  (.seq (.reg (⟨(some 4), .mv (.c (.d (.bool false))), none⟩ ::
    []))
  (.seq (.reg (⟨(some 5), .mv (.t 0), none⟩ ::
    ⟨(some 6), .mv (.t 1), none⟩ ::
    ⟨(some 7), .call (.c (.fn 104 [])) [(.t 5), (.t 6)], none⟩ ::
    ⟨(some 8), .bin .geq (.t 7) (.c (.d (.int .i64 0))), none⟩ ::
    ⟨(some 4), .mv (.t 8), none⟩ ::
    []))
  .ret)) }
/-- slices.Index[[]int,int] -/
def cf104 : CFun := { np := 2, nt := 19, res := [.tmp 4], body :=
  (.seq (.reg (⟨(some 4), .mv (.c (.d (.int .i64 0))), none⟩ ::
    []))
  (.seq (.seq (.reg (⟨(some 6), .mv (.t 0), none⟩ ::
    ⟨(some 7), .len false (.t 6), none⟩ ::
    ⟨(some 8), .mv (.c (.d (.int .i64 0))), none⟩ ::
    []))
  (.block 0 (.loop [0, 1, 7, 8] (.seq (.reg (⟨(some 9), .bin .lss (.t 8) (.t 7), none⟩ ::
    []))
  (.seq (.cond (.t 9) .skip (.exit 0))
  (.seq (.block 1 (.seq (.reg (⟨(some 10), .mv (.t 8), none⟩ ::
    ⟨(some 5), .mv (.t 10), none⟩ ::
    []))
  (.seq (.reg (⟨(some 11), .mv (.t 1), none⟩ ::
    ⟨(some 12), .mv (.t 0), none⟩ ::
    ⟨(some 13), .mv (.t 5), none⟩ ::
    ⟨(some 14), .ixs 1 (.t 12) (.t 13), none⟩ ::
    ⟨(some 15), .ld (.t 14), none⟩ ::
    ⟨(some 16), .bin .eql (.t 11) (.t 15), none⟩ ::
    []))
  (.cond (.t 16) (.seq (.reg (⟨(some 17), .mv (.t 5), none⟩ ::
    ⟨(some 4), .mv (.t 17), none⟩ ::
    []))
  .ret) .skip))))
  (.reg (⟨(some 18), .bin .add (.t 8) (.c (.d (.int .i64 1))), none⟩ ::
    ⟨(some 8), .mv (.t 18), none⟩ ::
    []))))))))
  (.seq (.reg (⟨(some 4), .mv (.c (.d (.int .i64 (-1)))), none⟩ ::
    []))
  .ret))) }
def codeL : List (Option CFun) := [none, none, some cf2, some cf3, some cf4, some cf5, some cf6, some cf7, some cf8, some cf9, some cf10, some cf11, some cf12, some cf13, some cf14, some cf15, some cf16, some cf17, some cf18, some cf19, some cf20, some cf21, some cf22, some cf23, some cf24, some cf25, some cf26, some cf27, some cf28, some cf29, some cf30, some cf31, some cf32, some cf33, some cf34, some cf35, some cf36, some cf37, some cf38, some cf39, some cf40, some cf41, some cf42, some cf43, some cf44, some cf45, some cf46, some cf47, some cf48, some cf49, some cf50, some cf51, some cf52, some cf53, some cf54, some cf55, some cf56, some cf57, some cf58, some cf59, some cf60, some cf61, some cf62, some cf63, some cf64, some cf65, some cf66, some cf67, some cf68, some cf69, some cf70, some cf71, some cf72, some cf73, some cf74, some cf75, some cf76, some cf77, some cf78, some cf79, some cf80, some cf81, some cf82, some cf83, some cf84, some cf85, some cf86, some cf87, some cf88, some cf89, some cf90, some cf91, some cf92, some cf93, some cf94, some cf95, some cf96, some cf97, some cf98, some cf99, some cf100, some cf101, some cf102, some cf103, some cf104]
def code (f : Nat) : Option CFun := (codeL[f]?).join
end Go.Proofs.Ytbeocehhclfbiaa.Lite
end
