/- A part of the proof of: StabEnds: whatever the view, what is told one behind the other: the law is true, and its arguments stay as they were; the card ties stab.phases to the text. No condition but the card own. -/
import Derived.Test.YtfifgiopdbdeoaaDoorHc1
set_option linter.unusedSimpArgs false
set_option linter.unusedVariables false
section
namespace Go.Proofs.YtfifgiopdbdeoaaDoor.Lite
open Go
set_option maxRecDepth 100000
/-- gosem.cut.init -/
def cf2 : CFun := { np := 0, nt := 1, res := [], body :=
  (.reg (⟨(some 0), .call (.c (.fn 1 [])) [], none⟩ ::
    [])) }
/-- garland/garlandlaw14.StabTells -/
def cf3 : CFun := { np := 4, nt := 110, res := [.tmp 8], body :=
  (.seq (.reg (⟨(some 4), .box (.t 0), none⟩ ::
    ⟨(some 5), .box (.t 1), none⟩ ::
    ⟨(some 6), .box (.t 2), none⟩ ::
    ⟨(some 8), .mv (.c (.d (.bool false))), none⟩ ::
    []))
  (.seq (.seq (.reg (⟨(some 15), .ldn 20 (.t 4), none⟩ ::
    ⟨(some 16), .ldn 15 (.t 6), none⟩ ::
    ⟨(some 17), .call (.c (.fn 8 [])) [(.t 15), (.t 16)], none⟩ ::
    []))
  (.cond (.t 17) (.seq (.reg (⟨(some 18), .call (.c (.fn 9 [])) [], none⟩ ::
    ⟨(some 8), .mv (.t 18), none⟩ ::
    []))
  .ret) .skip))
  (.seq (.reg (⟨(some 20), .ldn 20 (.t 4), none⟩ ::
    ⟨(some 21), .ldn 2 (.t 5), none⟩ ::
    ⟨(some 22), .call (.c (.fn 10 [])) [(.t 20), (.t 21)], none⟩ ::
    ⟨(some 19), .mv (.t 22), none⟩ ::
    ⟨(some 23), .ext (.t 19) 0, none⟩ ::
    ⟨(some 24), .ext (.t 19) 1, none⟩ ::
    ⟨(some 9), .new [.d (.int .u8 0), .d (.int .i64 0)], none⟩ ::
    ⟨none, .st 2 (.t 9) (.t 23), none⟩ ::
    ⟨(some 10), .mv (.t 24), none⟩ ::
    []))
  (.seq (.reg (⟨(some 26), .ldn 20 (.t 4), none⟩ ::
    ⟨(some 27), .ldn 2 (.t 5), none⟩ ::
    ⟨(some 28), .call (.c (.fn 11 [])) [(.t 26), (.t 27)], none⟩ ::
    ⟨(some 25), .mv (.t 28), none⟩ ::
    ⟨(some 29), .ext (.t 25) 0, none⟩ ::
    ⟨(some 30), .ext (.t 25) 1, none⟩ ::
    ⟨(some 11), .new [.d (.int .u8 0), .d (.int .i64 0)], none⟩ ::
    ⟨none, .st 2 (.t 11) (.t 29), none⟩ ::
    ⟨(some 12), .mv (.t 30), none⟩ ::
    []))
  (.seq (.seq (.reg (⟨(some 31), .ldn 2 (.t 9), none⟩ ::
    ⟨(some 32), .ldn 2 (.t 11), none⟩ ::
    ⟨(some 33), .eqs true [0, 0] (.t 31) (.t 32), none⟩ ::
    ⟨(some 34), .mv (.t 33), none⟩ ::
    ⟨(some 35), .mv (.t 10), (some (34, false))⟩ ::
    ⟨(some 36), .mv (.t 12), (some (34, false))⟩ ::
    ⟨(some 37), .call (.c (.fn 12 [])) [(.t 35), (.t 36)], (some (34, false))⟩ ::
    ⟨(some 38), .not (.t 37), (some (34, false))⟩ ::
    ⟨(some 39), .pick (.t 34) (.c (.d (.bool true))) (.t 38), none⟩ ::
    []))
  (.cond (.t 39) (.seq (.reg (⟨(some 8), .mv (.c (.d (.bool false))), none⟩ ::
    []))
  .ret) .skip))
  (.seq (.reg (⟨(some 41), .ldn 20 (.t 4), none⟩ ::
    ⟨(some 42), .ldn 2 (.t 5), none⟩ ::
    ⟨(some 43), .ldn 15 (.t 6), none⟩ ::
    ⟨(some 44), .call (.c (.fn 13 [])) [(.t 41), (.t 42), (.t 43)], none⟩ ::
    ⟨(some 40), .mv (.t 44), none⟩ ::
    ⟨(some 45), .ext (.t 40) 0, none⟩ ::
    ⟨(some 46), .ext (.t 40) 1, none⟩ ::
    ⟨(some 47), .ext (.t 40) 2, none⟩ ::
    ⟨(some 13), .new [.d (.int .i64 0), .nils, .nils, .d (.int .i64 0), .d (.int .i64 0), .d (.int .i64 0), .d (.int .i64 0), .d (.int .i64 0), .d (.int .i64 0), .d (.int .i64 0), .d (.int .i64 0), .d (.int .i64 0), .d (.int .i64 0), .d (.int .i64 0), .d (.int .i64 0), .d (.int .i64 0), .d (.int .i64 0), .d (.int .i64 0), .d (.int .i64 0), .d (.int .i64 0)], none⟩ ::
    ⟨none, .st 20 (.t 13) (.t 45), none⟩ ::
    ⟨none, .st 2 (.t 9) (.t 46), none⟩ ::
    ⟨(some 10), .mv (.t 47), none⟩ ::
    []))
  (.seq (.reg (⟨(some 49), .ldn 20 (.t 4), none⟩ ::
    ⟨(some 50), .ldn 2 (.t 5), none⟩ ::
    ⟨(some 51), .ldn 15 (.t 6), none⟩ ::
    ⟨(some 52), .call (.c (.fn 14 [])) [(.t 49), (.t 50), (.t 51)], none⟩ ::
    ⟨(some 48), .mv (.t 52), none⟩ ::
    ⟨(some 53), .ext (.t 48) 0, none⟩ ::
    ⟨(some 54), .ext (.t 48) 1, none⟩ ::
    ⟨(some 55), .ext (.t 48) 2, none⟩ ::
    ⟨(some 14), .new [.d (.int .i64 0), .nils, .nils, .d (.int .i64 0), .d (.int .i64 0), .d (.int .i64 0), .d (.int .i64 0), .d (.int .i64 0), .d (.int .i64 0), .d (.int .i64 0), .d (.int .i64 0), .d (.int .i64 0), .d (.int .i64 0), .d (.int .i64 0), .d (.int .i64 0), .d (.int .i64 0), .d (.int .i64 0), .d (.int .i64 0), .d (.int .i64 0), .d (.int .i64 0)], none⟩ ::
    ⟨none, .st 20 (.t 14) (.t 53), none⟩ ::
    ⟨none, .st 2 (.t 11) (.t 54), none⟩ ::
    ⟨(some 12), .mv (.t 55), none⟩ ::
    []))
  (.seq (.seq (.reg (⟨(some 56), .ldn 20 (.t 13), none⟩ ::
    ⟨(some 57), .ldn 20 (.t 14), none⟩ ::
    ⟨(some 58), .call (.c (.fn 15 [])) [(.t 56), (.t 57)], none⟩ ::
    ⟨(some 59), .not (.t 58), none⟩ ::
    ⟨(some 60), .mv (.t 59), none⟩ ::
    ⟨(some 61), .ldn 2 (.t 9), (some (60, false))⟩ ::
    ⟨(some 62), .ldn 2 (.t 11), (some (60, false))⟩ ::
    ⟨(some 63), .eqs true [0, 0] (.t 61) (.t 62), (some (60, false))⟩ ::
    ⟨(some 64), .pick (.t 60) (.c (.d (.bool true))) (.t 63), none⟩ ::
    ⟨(some 65), .mv (.t 64), none⟩ ::
    ⟨(some 66), .mv (.t 10), (some (65, false))⟩ ::
    ⟨(some 67), .mv (.t 12), (some (65, false))⟩ ::
    ⟨(some 68), .call (.c (.fn 12 [])) [(.t 66), (.t 67)], (some (65, false))⟩ ::
    ⟨(some 69), .not (.t 68), (some (65, false))⟩ ::
    ⟨(some 70), .pick (.t 65) (.c (.d (.bool true))) (.t 69), none⟩ ::
    []))
  (.cond (.t 70) (.seq (.reg (⟨(some 8), .mv (.c (.d (.bool false))), none⟩ ::
    []))
  .ret) .skip))
  (.seq (.reg (⟨(some 72), .ldn 20 (.t 4), none⟩ ::
    ⟨(some 73), .ldn 2 (.t 5), none⟩ ::
    ⟨(some 74), .mv (.t 3), none⟩ ::
    ⟨(some 75), .call (.c (.fn 16 [])) [(.t 72), (.t 73), (.t 74)], none⟩ ::
    ⟨(some 71), .mv (.t 75), none⟩ ::
    ⟨(some 76), .ext (.t 71) 0, none⟩ ::
    ⟨(some 77), .ext (.t 71) 1, none⟩ ::
    ⟨none, .st 20 (.t 13) (.t 76), none⟩ ::
    ⟨none, .st 2 (.t 9) (.t 77), none⟩ ::
    []))
  (.seq (.reg (⟨(some 79), .ldn 20 (.t 4), none⟩ ::
    ⟨(some 80), .ldn 2 (.t 5), none⟩ ::
    ⟨(some 81), .mv (.t 3), none⟩ ::
    ⟨(some 82), .call (.c (.fn 17 [])) [(.t 79), (.t 80), (.t 81)], none⟩ ::
    ⟨(some 78), .mv (.t 82), none⟩ ::
    ⟨(some 83), .ext (.t 78) 0, none⟩ ::
    ⟨(some 84), .ext (.t 78) 1, none⟩ ::
    ⟨none, .st 20 (.t 14) (.t 83), none⟩ ::
    ⟨none, .st 2 (.t 11) (.t 84), none⟩ ::
    []))
  (.seq (.dreg (⟨(some 85), .ldn 20 (.t 13), none⟩ ::
    ⟨(some 86), .ldn 20 (.t 14), none⟩ ::
    ⟨(some 87), .call (.c (.fn 15 [])) [(.t 85), (.t 86)], none⟩ ::
    ⟨(some 88), .mv (.t 87), none⟩ ::
    ⟨(some 89), .ldn 2 (.t 9), (some (88, true))⟩ ::
    ⟨(some 90), .ldn 2 (.t 11), (some (88, true))⟩ ::
    ⟨(some 91), .eqs false [0, 0] (.t 89) (.t 90), (some (88, true))⟩ ::
    ⟨(some 92), .pick (.t 88) (.t 91) (.c (.d (.bool false))), none⟩ ::
    ⟨(some 93), .mv (.t 92), none⟩ ::
    ⟨(some 94), .ldn 2 (.t 5), (some (93, true))⟩ ::
    ⟨(some 95), .call (.c (.fn 18 [])) [(.t 94)], (some (93, true))⟩ ::
    ⟨(some 96), .ldn 2 (.t 5), (some (93, true))⟩ ::
    ⟨(some 97), .call (.c (.fn 19 [])) [(.t 96)], (some (93, true))⟩ ::
    ⟨(some 98), .eqb false (.t 95) (.t 97), (some (93, true))⟩ ::
    ⟨(some 99), .pick (.t 93) (.t 98) (.c (.d (.bool false))), none⟩ ::
    ⟨(some 100), .mv (.t 99), none⟩ ::
    ⟨(some 101), .ldn 2 (.t 5), (some (100, true))⟩ ::
    ⟨(some 102), .call (.c (.fn 20 [])) [(.t 101)], (some (100, true))⟩ ::
    ⟨(some 103), .ldn 2 (.t 5), (some (100, true))⟩ ::
    ⟨(some 104), .call (.c (.fn 21 [])) [(.t 103)], (some (100, true))⟩ ::
    ⟨(some 105), .bin .eql (.t 102) (.t 104), (some (100, true))⟩ ::
    ⟨(some 106), .pick (.t 100) (.t 105) (.c (.d (.bool false))), none⟩ ::
    ⟨(some 107), .mv (.t 106), none⟩ ::
    ⟨(some 108), .call (.c (.fn 9 [])) [], (some (107, true))⟩ ::
    ⟨(some 109), .pick (.t 107) (.t 108) (.c (.d (.bool false))), none⟩ ::
    []) (⟨(some 8), .mv (.t 109), none⟩ ::
    []))
  .ret))))))))))) }
/-- garland/garlandlaw14.StabSkips -/
def cf4 : CFun := { np := 4, nt := 246, res := [.tmp 8], body :=
  (.seq (.reg (⟨(some 4), .box (.t 0), none⟩ ::
    ⟨(some 8), .mv (.c (.d (.bool false))), none⟩ ::
    []))
  (.seq (.seq (.reg (⟨(some 19), .ldn 20 (.t 4), none⟩ ::
    ⟨(some 20), .call (.c (.fn 22 [])) [(.t 19)], none⟩ ::
    ⟨(some 21), .not (.t 20), none⟩ ::
    ⟨(some 22), .mv (.t 21), none⟩ ::
    ⟨(some 23), .off 0 (.t 4), (some (22, false))⟩ ::
    ⟨(some 24), .ld (.t 23), (some (22, false))⟩ ::
    ⟨(some 25), .off 2 (.t 4), (some (22, false))⟩ ::
    ⟨(some 26), .ld (.t 25), (some (22, false))⟩ ::
    ⟨(some 27), .off 1 (.t 4), (some (22, false))⟩ ::
    ⟨(some 28), .ld (.t 27), (some (22, false))⟩ ::
    ⟨(some 29), .call (.c (.fn 23 [])) [(.t 24), (.t 26), (.t 28)], (some (22, false))⟩ ::
    ⟨(some 30), .pick (.t 22) (.c (.d (.bool true))) (.t 29), none⟩ ::
    ⟨(some 31), .mv (.t 30), none⟩ ::
    ⟨(some 32), .mv (.t 2), (some (31, false))⟩ ::
    ⟨(some 33), .len false (.t 32), (some (31, false))⟩ ::
    ⟨(some 34), .bin .gtr (.t 33) (.c (.d (.int .i64 6))), (some (31, false))⟩ ::
    ⟨(some 35), .pick (.t 31) (.c (.d (.bool true))) (.t 34), none⟩ ::
    ⟨(some 36), .mv (.t 35), none⟩ ::
    ⟨(some 37), .mv (.t 3), (some (36, false))⟩ ::
    ⟨(some 38), .len false (.t 37), (some (36, false))⟩ ::
    ⟨(some 39), .bin .gtr (.t 38) (.c (.d (.int .i64 6))), (some (36, false))⟩ ::
    ⟨(some 40), .pick (.t 36) (.c (.d (.bool true))) (.t 39), none⟩ ::
    []))
  (.cond (.t 40) (.seq (.reg (⟨(some 41), .call (.c (.fn 9 [])) [], none⟩ ::
    ⟨(some 8), .mv (.t 41), none⟩ ::
    []))
  .ret) .skip))
  (.seq (.reg (⟨(some 43), .ldn 20 (.t 4), none⟩ ::
    ⟨(some 44), .bld [.d (.int .u8 0), .d (.int .i64 0)] [], none⟩ ::
    ⟨(some 45), .call (.c (.fn 10 [])) [(.t 43), (.t 44)], none⟩ ::
    ⟨(some 42), .mv (.t 45), none⟩ ::
    ⟨(some 46), .ext (.t 42) 0, none⟩ ::
    ⟨(some 47), .ext (.t 42) 1, none⟩ ::
    ⟨(some 9), .new [.d (.int .u8 0), .d (.int .i64 0)], none⟩ ::
    ⟨none, .st 2 (.t 9) (.t 46), none⟩ ::
    ⟨(some 10), .mv (.t 47), none⟩ ::
    []))
  (.seq (.reg (⟨(some 48), .off 1 (.t 9), none⟩ ::
    ⟨(some 49), .ld (.t 48), none⟩ ::
    ⟨(some 50), .off 0 (.t 4), none⟩ ::
    ⟨(some 51), .ld (.t 50), none⟩ ::
    ⟨(some 52), .mv (.t 1), none⟩ ::
    ⟨(some 53), .mv (.t 2), none⟩ ::
    ⟨(some 54), .call (.c (.fn 24 [])) [(.t 49), (.t 51), (.t 52), (.t 53)], none⟩ ::
    ⟨(some 11), .new [.d (.int .u8 0), .d (.int .i64 0), .d (.int .i64 0), .d (.int .i64 0), .d (.int .i64 0), .d (.bool false), .d (.bool false), .d (.int .i64 0), .d (.int .i64 0), .nils, .d (.str []), .d (.int .i64 0), .d (.int .i64 0), .d (.bool false), .d (.int .i64 0)], none⟩ ::
    ⟨none, .st 15 (.t 11) (.t 54), none⟩ ::
    []))
  (.seq (.seq (.dreg (⟨(some 55), .mv (.t 10), none⟩ ::
    ⟨(some 56), .len false (.t 55), none⟩ ::
    ⟨(some 57), .bin .neq (.t 56) (.c (.d (.int .i64 1))), none⟩ ::
    ⟨(some 58), .mv (.t 57), none⟩ ::
    ⟨(some 59), .off 1 (.t 9), (some (58, false))⟩ ::
    ⟨(some 60), .ld (.t 59), (some (58, false))⟩ ::
    ⟨(some 61), .off 0 (.t 4), (some (58, false))⟩ ::
    ⟨(some 62), .ld (.t 61), (some (58, false))⟩ ::
    ⟨(some 63), .bin .eql (.t 60) (.t 62), (some (58, false))⟩ ::
    ⟨(some 64), .pick (.t 58) (.c (.d (.bool true))) (.t 63), none⟩ ::
    ⟨(some 65), .mv (.t 64), none⟩ ::
    ⟨(some 66), .mv (.t 10), (some (65, false))⟩ ::
    ⟨(some 67), .ixs 16 (.t 66) (.c (.d (.int .i64 0))), (some (65, false))⟩ ::
    ⟨(some 68), .off 0 (.t 67), (some (65, false))⟩ ::
    ⟨(some 69), .off 3 (.t 68), (some (65, false))⟩ ::
    ⟨(some 70), .ld (.t 69), (some (65, false))⟩ ::
    ⟨(some 71), .off 1 (.t 9), (some (65, false))⟩ ::
    ⟨(some 72), .ld (.t 71), (some (65, false))⟩ ::
    ⟨(some 73), .bin .neq (.t 70) (.t 72), (some (65, false))⟩ ::
    ⟨(some 74), .pick (.t 65) (.c (.d (.bool true))) (.t 73), none⟩ ::
    ⟨(some 75), .mv (.t 74), none⟩ ::
    ⟨(some 76), .off 0 (.t 9), (some (75, false))⟩ ::
    ⟨(some 77), .ld (.t 76), (some (75, false))⟩ ::
    ⟨(some 78), .bin .neq (.t 77) (.c (.d (.int .u8 1))), (some (75, false))⟩ ::
    ⟨(some 79), .pick (.t 75) (.c (.d (.bool true))) (.t 78), none⟩ ::
    []) ([]))
  (.cond (.t 79) (.seq (.reg (⟨(some 8), .mv (.c (.d (.bool false))), none⟩ ::
    []))
  .ret) .skip))
  (.seq (.seq (.reg (⟨(some 80), .ldn 15 (.t 11), none⟩ ::
    ⟨(some 81), .call (.c (.fn 25 [])) [(.t 80)], none⟩ ::
    ⟨(some 82), .not (.t 81), none⟩ ::
    ⟨(some 83), .mv (.t 82), none⟩ ::
    ⟨(some 84), .off 1 (.t 9), (some (83, false))⟩ ::
    ⟨(some 85), .ld (.t 84), (some (83, false))⟩ ::
    ⟨(some 86), .mv (.t 2), (some (83, false))⟩ ::
    ⟨(some 87), .call (.c (.fn 26 [])) [(.t 85), (.t 86)], (some (83, false))⟩ ::
    ⟨(some 88), .not (.t 87), (some (83, false))⟩ ::
    ⟨(some 89), .pick (.t 83) (.c (.d (.bool true))) (.t 88), none⟩ ::
    ⟨(some 90), .mv (.t 89), none⟩ ::
    ⟨(some 91), .off 1 (.t 9), (some (90, false))⟩ ::
    ⟨(some 92), .ld (.t 91), (some (90, false))⟩ ::
    ⟨(some 93), .mv (.t 2), (some (90, false))⟩ ::
    ⟨(some 94), .off 1 (.t 4), (some (90, false))⟩ ::
    ⟨(some 95), .ld (.t 94), (some (90, false))⟩ ::
    ⟨(some 96), .call (.c (.fn 23 [])) [(.t 92), (.t 93), (.t 95)], (some (90, false))⟩ ::
    ⟨(some 97), .pick (.t 90) (.c (.d (.bool true))) (.t 96), none⟩ ::
    []))
  (.cond (.t 97) (.seq (.reg (⟨(some 98), .call (.c (.fn 9 [])) [], none⟩ ::
    ⟨(some 8), .mv (.t 98), none⟩ ::
    []))
  .ret) .skip))
  (.seq (.reg (⟨(some 100), .ldn 20 (.t 4), none⟩ ::
    ⟨(some 101), .ldn 2 (.t 9), none⟩ ::
    ⟨(some 102), .ldn 15 (.t 11), none⟩ ::
    ⟨(some 103), .call (.c (.fn 13 [])) [(.t 100), (.t 101), (.t 102)], none⟩ ::
    ⟨(some 99), .mv (.t 103), none⟩ ::
    ⟨(some 104), .ext (.t 99) 0, none⟩ ::
    ⟨(some 105), .ext (.t 99) 1, none⟩ ::
    ⟨(some 106), .ext (.t 99) 2, none⟩ ::
    ⟨(some 12), .new [.d (.int .i64 0), .nils, .nils, .d (.int .i64 0), .d (.int .i64 0), .d (.int .i64 0), .d (.int .i64 0), .d (.int .i64 0), .d (.int .i64 0), .d (.int .i64 0), .d (.int .i64 0), .d (.int .i64 0), .d (.int .i64 0), .d (.int .i64 0), .d (.int .i64 0), .d (.int .i64 0), .d (.int .i64 0), .d (.int .i64 0), .d (.int .i64 0), .d (.int .i64 0)], none⟩ ::
    ⟨(some 13), .new [.d (.int .u8 0), .d (.int .i64 0)], none⟩ ::
    ⟨none, .st 20 (.t 12) (.t 104), none⟩ ::
    ⟨none, .st 2 (.t 13) (.t 105), none⟩ ::
    ⟨(some 14), .mv (.t 106), none⟩ ::
    []))
  (.seq (.seq (.dreg (⟨(some 107), .ldn 20 (.t 12), none⟩ ::
    ⟨(some 108), .call (.c (.fn 22 [])) [(.t 107)], none⟩ ::
    ⟨(some 109), .not (.t 108), none⟩ ::
    ⟨(some 110), .mv (.t 109), none⟩ ::
    ⟨(some 111), .off 2 (.t 12), (some (110, false))⟩ ::
    ⟨(some 112), .ld (.t 111), (some (110, false))⟩ ::
    ⟨(some 113), .len false (.t 112), (some (110, false))⟩ ::
    ⟨(some 114), .bin .lss (.t 113) (.c (.d (.int .i64 1))), (some (110, false))⟩ ::
    ⟨(some 115), .pick (.t 110) (.c (.d (.bool true))) (.t 114), none⟩ ::
    ⟨(some 116), .mv (.t 115), none⟩ ::
    ⟨(some 117), .off 0 (.t 12), (some (116, false))⟩ ::
    ⟨(some 118), .ld (.t 117), (some (116, false))⟩ ::
    ⟨(some 119), .off 2 (.t 12), (some (116, false))⟩ ::
    ⟨(some 120), .ld (.t 119), (some (116, false))⟩ ::
    ⟨(some 121), .off 1 (.t 12), (some (116, false))⟩ ::
    ⟨(some 122), .ld (.t 121), (some (116, false))⟩ ::
    ⟨(some 123), .call (.c (.fn 23 [])) [(.t 118), (.t 120), (.t 122)], (some (116, false))⟩ ::
    ⟨(some 124), .pick (.t 116) (.c (.d (.bool true))) (.t 123), none⟩ ::
    ⟨(some 125), .mv (.t 124), none⟩ ::
    ⟨(some 126), .off 2 (.t 12), (some (125, false))⟩ ::
    ⟨(some 127), .ld (.t 126), (some (125, false))⟩ ::
    ⟨(some 128), .ixs 1 (.t 127) (.c (.d (.int .i64 0))), (some (125, false))⟩ ::
    ⟨(some 129), .ld (.t 128), (some (125, false))⟩ ::
    ⟨(some 130), .off 1 (.t 9), (some (125, false))⟩ ::
    ⟨(some 131), .ld (.t 130), (some (125, false))⟩ ::
    ⟨(some 132), .bin .neq (.t 129) (.t 131), (some (125, false))⟩ ::
    ⟨(some 133), .pick (.t 125) (.c (.d (.bool true))) (.t 132), none⟩ ::
    ⟨(some 134), .mv (.t 133), none⟩ ::
    ⟨(some 135), .mv (.t 14), (some (134, false))⟩ ::
    ⟨(some 136), .len false (.t 135), (some (134, false))⟩ ::
    ⟨(some 137), .bin .neq (.t 136) (.c (.d (.int .i64 1))), (some (134, false))⟩ ::
    ⟨(some 138), .pick (.t 134) (.c (.d (.bool true))) (.t 137), none⟩ ::
    ⟨(some 139), .mv (.t 138), none⟩ ::
    ⟨(some 140), .mv (.t 14), (some (139, false))⟩ ::
    ⟨(some 141), .ixs 16 (.t 140) (.c (.d (.int .i64 0))), (some (139, false))⟩ ::
    ⟨(some 142), .off 0 (.t 141), (some (139, false))⟩ ::
    ⟨(some 143), .off 3 (.t 142), (some (139, false))⟩ ::
    ⟨(some 144), .ld (.t 143), (some (139, false))⟩ ::
    ⟨(some 145), .off 1 (.t 13), (some (139, false))⟩ ::
    ⟨(some 146), .ld (.t 145), (some (139, false))⟩ ::
    ⟨(some 147), .bin .neq (.t 144) (.t 146), (some (139, false))⟩ ::
    ⟨(some 148), .pick (.t 139) (.c (.d (.bool true))) (.t 147), none⟩ ::
    []) ([]))
  (.cond (.t 148) (.seq (.reg (⟨(some 8), .mv (.c (.d (.bool false))), none⟩ ::
    []))
  .ret) .skip))
  (.seq (.seq (.reg (⟨(some 149), .off 0 (.t 13), none⟩ ::
    ⟨(some 150), .ld (.t 149), none⟩ ::
    ⟨(some 151), .bin .neq (.t 150) (.c (.d (.int .u8 2))), none⟩ ::
    []))
  (.cond (.t 151) (.seq (.reg (⟨(some 152), .ldn 2 (.t 13), none⟩ ::
    ⟨(some 153), .off 1 (.t 9), none⟩ ::
    ⟨(some 154), .ld (.t 153), none⟩ ::
    ⟨(some 155), .bld [.d (.int .u8 0), .d (.int .i64 0)] [(0, 1, (.c (.d (.int .u8 3)))), (1, 1, (.t 154))], none⟩ ::
    ⟨(some 156), .eqs false [0, 0] (.t 152) (.t 155), none⟩ ::
    ⟨(some 157), .mv (.t 156), none⟩ ::
    ⟨(some 158), .call (.c (.fn 9 [])) [], (some (157, true))⟩ ::
    ⟨(some 159), .pick (.t 157) (.t 158) (.c (.d (.bool false))), none⟩ ::
    ⟨(some 8), .mv (.t 159), none⟩ ::
    []))
  .ret) .skip))
  (.seq (.reg (⟨(some 160), .off 1 (.t 13), none⟩ ::
    ⟨(some 161), .ld (.t 160), none⟩ ::
    ⟨(some 162), .off 0 (.t 4), none⟩ ::
    ⟨(some 163), .ld (.t 162), none⟩ ::
    ⟨(some 164), .mv (.t 3), none⟩ ::
    ⟨(some 165), .call (.c (.fn 24 [])) [(.t 161), (.t 163), (.c (.d (.int .i64 (-1)))), (.t 164)], none⟩ ::
    ⟨(some 15), .new [.d (.int .u8 0), .d (.int .i64 0), .d (.int .i64 0), .d (.int .i64 0), .d (.int .i64 0), .d (.bool false), .d (.bool false), .d (.int .i64 0), .d (.int .i64 0), .nils, .d (.str []), .d (.int .i64 0), .d (.int .i64 0), .d (.bool false), .d (.int .i64 0)], none⟩ ::
    ⟨none, .st 15 (.t 15) (.t 165), none⟩ ::
    []))
  (.seq (.seq (.reg (⟨(some 166), .off 1 (.t 13), none⟩ ::
    ⟨(some 167), .ld (.t 166), none⟩ ::
    ⟨(some 168), .mv (.t 1), none⟩ ::
    ⟨(some 169), .bin .neq (.t 167) (.t 168), none⟩ ::
    ⟨(some 170), .mv (.t 169), none⟩ ::
    ⟨(some 171), .off 0 (.t 4), (some (170, false))⟩ ::
    ⟨(some 172), .ld (.t 171), (some (170, false))⟩ ::
    ⟨(some 173), .mv (.t 1), (some (170, false))⟩ ::
    ⟨(some 174), .off 1 (.t 9), (some (170, false))⟩ ::
    ⟨(some 175), .ld (.t 174), (some (170, false))⟩ ::
    ⟨(some 176), .call (.c (.fn 27 [])) [(.t 172), (.t 173), (.t 175)], (some (170, false))⟩ ::
    ⟨(some 177), .not (.t 176), (some (170, false))⟩ ::
    ⟨(some 178), .pick (.t 170) (.c (.d (.bool true))) (.t 177), none⟩ ::
    []))
  (.cond (.t 178) (.seq (.reg (⟨(some 8), .mv (.c (.d (.bool false))), none⟩ ::
    []))
  .ret) .skip))
  (.seq (.seq (.reg (⟨(some 179), .ldn 15 (.t 15), none⟩ ::
    ⟨(some 180), .call (.c (.fn 25 [])) [(.t 179)], none⟩ ::
    ⟨(some 181), .not (.t 180), none⟩ ::
    ⟨(some 182), .mv (.t 181), none⟩ ::
    ⟨(some 183), .off 1 (.t 13), (some (182, false))⟩ ::
    ⟨(some 184), .ld (.t 183), (some (182, false))⟩ ::
    ⟨(some 185), .mv (.t 3), (some (182, false))⟩ ::
    ⟨(some 186), .call (.c (.fn 26 [])) [(.t 184), (.t 185)], (some (182, false))⟩ ::
    ⟨(some 187), .not (.t 186), (some (182, false))⟩ ::
    ⟨(some 188), .pick (.t 182) (.c (.d (.bool true))) (.t 187), none⟩ ::
    ⟨(some 189), .mv (.t 188), none⟩ ::
    ⟨(some 190), .off 1 (.t 13), (some (189, false))⟩ ::
    ⟨(some 191), .ld (.t 190), (some (189, false))⟩ ::
    ⟨(some 192), .mv (.t 3), (some (189, false))⟩ ::
    ⟨(some 193), .off 1 (.t 4), (some (189, false))⟩ ::
    ⟨(some 194), .ld (.t 193), (some (189, false))⟩ ::
    ⟨(some 195), .call (.c (.fn 23 [])) [(.t 191), (.t 192), (.t 194)], (some (189, false))⟩ ::
    ⟨(some 196), .pick (.t 189) (.c (.d (.bool true))) (.t 195), none⟩ ::
    []))
  (.cond (.t 196) (.seq (.reg (⟨(some 197), .call (.c (.fn 9 [])) [], none⟩ ::
    ⟨(some 8), .mv (.t 197), none⟩ ::
    []))
  .ret) .skip))
  (.seq (.reg (⟨(some 199), .ldn 20 (.t 12), none⟩ ::
    ⟨(some 200), .ldn 2 (.t 13), none⟩ ::
    ⟨(some 201), .ldn 15 (.t 15), none⟩ ::
    ⟨(some 202), .call (.c (.fn 13 [])) [(.t 199), (.t 200), (.t 201)], none⟩ ::
    ⟨(some 198), .mv (.t 202), none⟩ ::
    ⟨(some 203), .ext (.t 198) 0, none⟩ ::
    ⟨(some 204), .ext (.t 198) 1, none⟩ ::
    ⟨(some 205), .ext (.t 198) 2, none⟩ ::
    ⟨(some 16), .new [.d (.int .i64 0), .nils, .nils, .d (.int .i64 0), .d (.int .i64 0), .d (.int .i64 0), .d (.int .i64 0), .d (.int .i64 0), .d (.int .i64 0), .d (.int .i64 0), .d (.int .i64 0), .d (.int .i64 0), .d (.int .i64 0), .d (.int .i64 0), .d (.int .i64 0), .d (.int .i64 0), .d (.int .i64 0), .d (.int .i64 0), .d (.int .i64 0), .d (.int .i64 0)], none⟩ ::
    ⟨(some 17), .new [.d (.int .u8 0), .d (.int .i64 0)], none⟩ ::
    ⟨none, .st 20 (.t 16) (.t 203), none⟩ ::
    ⟨none, .st 2 (.t 17) (.t 204), none⟩ ::
    ⟨(some 18), .mv (.t 205), none⟩ ::
    []))
  (.seq (.reg (⟨(some 206), .ldn 20 (.t 16), none⟩ ::
    ⟨(some 207), .call (.c (.fn 22 [])) [(.t 206)], none⟩ ::
    ⟨(some 208), .mv (.t 207), none⟩ ::
    ⟨(some 209), .off 0 (.t 16), (some (208, true))⟩ ::
    ⟨(some 210), .ld (.t 209), (some (208, true))⟩ ::
    ⟨(some 211), .off 2 (.t 16), (some (208, true))⟩ ::
    ⟨(some 212), .ld (.t 211), (some (208, true))⟩ ::
    ⟨(some 213), .off 1 (.t 16), (some (208, true))⟩ ::
    ⟨(some 214), .ld (.t 213), (some (208, true))⟩ ::
    ⟨(some 215), .call (.c (.fn 23 [])) [(.t 210), (.t 212), (.t 214)], (some (208, true))⟩ ::
    ⟨(some 216), .not (.t 215), (some (208, true))⟩ ::
    ⟨(some 217), .pick (.t 208) (.t 216) (.c (.d (.bool false))), none⟩ ::
    ⟨(some 218), .mv (.t 217), none⟩ ::
    ⟨(some 219), .off 2 (.t 16), (some (218, true))⟩ ::
    ⟨(some 220), .ld (.t 219), (some (218, true))⟩ ::
    ⟨(some 221), .len false (.t 220), (some (218, true))⟩ ::
    ⟨(some 222), .bin .gtr (.t 221) (.c (.d (.int .i64 0))), (some (218, true))⟩ ::
    ⟨(some 223), .pick (.t 218) (.t 222) (.c (.d (.bool false))), none⟩ ::
    ⟨(some 224), .mv (.t 223), none⟩ ::
    ⟨(some 225), .off 2 (.t 16), (some (224, true))⟩ ::
    ⟨(some 226), .ld (.t 225), (some (224, true))⟩ ::
    ⟨(some 227), .ixs 1 (.t 226) (.c (.d (.int .i64 0))), (some (224, true))⟩ ::
    ⟨(some 228), .ld (.t 227), (some (224, true))⟩ ::
    ⟨(some 229), .mv (.t 1), (some (224, true))⟩ ::
    ⟨(some 230), .bin .eql (.t 228) (.t 229), (some (224, true))⟩ ::
    ⟨(some 231), .pick (.t 224) (.t 230) (.c (.d (.bool false))), none⟩ ::
    ⟨(some 232), .mv (.t 231), none⟩ ::
    ⟨(some 233), .ldn 2 (.t 17), (some (232, true))⟩ ::
    ⟨(some 234), .mv (.t 1), (some (232, true))⟩ ::
    ⟨(some 235), .bld [.d (.int .u8 0), .d (.int .i64 0)] [(0, 1, (.c (.d (.int .u8 3)))), (1, 1, (.t 234))], (some (232, true))⟩ ::
    ⟨(some 236), .eqs false [0, 0] (.t 233) (.t 235), (some (232, true))⟩ ::
    ⟨(some 237), .pick (.t 232) (.t 236) (.c (.d (.bool false))), none⟩ ::
    ⟨(some 238), .mv (.t 237), none⟩ ::
    ⟨(some 239), .mv (.t 18), (some (238, true))⟩ ::
    ⟨(some 240), .len false (.t 239), (some (238, true))⟩ ::
    ⟨(some 241), .bin .eql (.t 240) (.c (.d (.int .i64 1))), (some (238, true))⟩ ::
    ⟨(some 242), .pick (.t 238) (.t 241) (.c (.d (.bool false))), none⟩ ::
    ⟨(some 243), .mv (.t 242), none⟩ ::
    ⟨(some 244), .call (.c (.fn 9 [])) [], (some (243, true))⟩ ::
    ⟨(some 245), .pick (.t 243) (.t 244) (.c (.d (.bool false))), none⟩ ::
    ⟨(some 8), .mv (.t 245), none⟩ ::
    []))
  .ret)))))))))))))) }
/-- garland/garlandlaw14.StabEnds -/
def cf5 : CFun := { np := 3, nt := 161, res := [.tmp 6], body :=
  (.seq (.reg (⟨(some 3), .box (.t 0), none⟩ ::
    ⟨(some 4), .box (.t 1), none⟩ ::
    ⟨(some 5), .box (.t 2), none⟩ ::
    ⟨(some 6), .mv (.c (.d (.bool false))), none⟩ ::
    []))
  (.seq (.seq (.reg (⟨(some 16), .ldn 20 (.t 3), none⟩ ::
    ⟨(some 17), .call (.c (.fn 22 [])) [(.t 16)], none⟩ ::
    ⟨(some 18), .not (.t 17), none⟩ ::
    []))
  (.cond (.t 18) (.seq (.reg (⟨(some 19), .call (.c (.fn 9 [])) [], none⟩ ::
    ⟨(some 6), .mv (.t 19), none⟩ ::
    []))
  .ret) .skip))
  (.seq (.reg (⟨(some 21), .ldn 20 (.t 3), none⟩ ::
    ⟨(some 22), .bld [.d (.int .u8 0), .d (.int .i64 0)] [], none⟩ ::
    ⟨(some 23), .call (.c (.fn 10 [])) [(.t 21), (.t 22)], none⟩ ::
    ⟨(some 20), .mv (.t 23), none⟩ ::
    ⟨(some 24), .ext (.t 20) 0, none⟩ ::
    ⟨(some 25), .ext (.t 20) 1, none⟩ ::
    ⟨(some 7), .new [.d (.int .u8 0), .d (.int .i64 0)], none⟩ ::
    ⟨none, .st 2 (.t 7) (.t 24), none⟩ ::
    ⟨(some 8), .mv (.t 25), none⟩ ::
    []))
  (.seq (.reg (⟨(some 26), .ldn 20 (.t 3), none⟩ ::
    ⟨(some 27), .call (.c (.fn 28 [])) [(.t 26)], none⟩ ::
    ⟨(some 9), .new [.d (.int .i64 0), .nils, .nils, .d (.int .i64 0), .d (.int .i64 0), .d (.int .i64 0), .d (.int .i64 0), .d (.int .i64 0), .d (.int .i64 0), .d (.int .i64 0), .d (.int .i64 0), .d (.int .i64 0), .d (.int .i64 0), .d (.int .i64 0), .d (.int .i64 0), .d (.int .i64 0), .d (.int .i64 0), .d (.int .i64 0), .d (.int .i64 0), .d (.int .i64 0)], none⟩ ::
    ⟨none, .st 20 (.t 9) (.t 27), none⟩ ::
    ⟨(some 10), .mv (.c (.d (.int .i64 0))), none⟩ ::
    []))
  (.seq (.seq (.reg (⟨(some 11), .mv (.c (.d (.int .i64 0))), none⟩ ::
    []))
  (.block 0 (.loop [3, 4, 5, 7, 8, 9, 10, 11] (.seq (.seq (.reg (⟨(some 28), .mv (.t 11), none⟩ ::
    ⟨(some 29), .bin .lss (.t 28) (.c (.d (.int .i64 3))), none⟩ ::
    ⟨(some 30), .mv (.t 29), none⟩ ::
    ⟨(some 31), .off 0 (.t 7), (some (30, true))⟩ ::
    ⟨(some 32), .ld (.t 31), (some (30, true))⟩ ::
    ⟨(some 33), .bin .neq (.t 32) (.c (.d (.int .u8 0))), (some (30, true))⟩ ::
    ⟨(some 34), .pick (.t 30) (.t 33) (.c (.d (.bool false))), none⟩ ::
    []))
  (.cond (.t 34) .skip (.exit 0)))
  (.seq (.block 1 (.seq (.seq (.dreg (⟨(some 37), .mv (.t 11), none⟩ ::
    ⟨(some 38), .ixa 3 1 (.t 5) (.t 37), none⟩ ::
    ⟨(some 39), .ld (.t 38), none⟩ ::
    ⟨(some 40), .len false (.t 39), none⟩ ::
    ⟨(some 41), .bin .gtr (.t 40) (.c (.d (.int .i64 6))), none⟩ ::
    ⟨(some 42), .mv (.t 41), none⟩ ::
    ⟨(some 43), .mv (.t 8), (some (42, false))⟩ ::
    ⟨(some 44), .len false (.t 43), (some (42, false))⟩ ::
    ⟨(some 45), .bin .neq (.t 44) (.c (.d (.int .i64 1))), (some (42, false))⟩ ::
    ⟨(some 46), .pick (.t 42) (.c (.d (.bool true))) (.t 45), none⟩ ::
    ⟨(some 47), .mv (.t 46), none⟩ ::
    ⟨(some 48), .mv (.t 8), (some (47, false))⟩ ::
    ⟨(some 49), .ixs 16 (.t 48) (.c (.d (.int .i64 0))), (some (47, false))⟩ ::
    ⟨(some 50), .off 15 (.t 49), (some (47, false))⟩ ::
    ⟨(some 51), .ld (.t 50), (some (47, false))⟩ ::
    ⟨(some 52), .ldn 2 (.t 7), (some (47, false))⟩ ::
    ⟨(some 53), .call (.c (.fn 20 [])) [(.t 52)], (some (47, false))⟩ ::
    ⟨(some 54), .bin .neq (.t 51) (.t 53), (some (47, false))⟩ ::
    ⟨(some 55), .pick (.t 47) (.c (.d (.bool true))) (.t 54), none⟩ ::
    ⟨(some 56), .mv (.t 55), none⟩ ::
    ⟨(some 57), .mv (.t 8), (some (56, false))⟩ ::
    ⟨(some 58), .ixs 16 (.t 57) (.c (.d (.int .i64 0))), (some (56, false))⟩ ::
    ⟨(some 59), .off 0 (.t 58), (some (56, false))⟩ ::
    ⟨(some 60), .off 3 (.t 59), (some (56, false))⟩ ::
    ⟨(some 61), .ld (.t 60), (some (56, false))⟩ ::
    ⟨(some 62), .off 1 (.t 7), (some (56, false))⟩ ::
    ⟨(some 63), .ld (.t 62), (some (56, false))⟩ ::
    ⟨(some 64), .bin .neq (.t 61) (.t 63), (some (56, false))⟩ ::
    ⟨(some 65), .pick (.t 56) (.c (.d (.bool true))) (.t 64), none⟩ ::
    []) ([]))
  (.cond (.t 65) (.seq (.reg (⟨(some 66), .mv (.t 11), none⟩ ::
    ⟨(some 67), .ixa 3 1 (.t 5) (.t 66), none⟩ ::
    ⟨(some 68), .ld (.t 67), none⟩ ::
    ⟨(some 69), .len false (.t 68), none⟩ ::
    ⟨(some 70), .bin .gtr (.t 69) (.c (.d (.int .i64 6))), none⟩ ::
    ⟨(some 71), .mv (.t 70), none⟩ ::
    ⟨(some 72), .call (.c (.fn 9 [])) [], (some (71, true))⟩ ::
    ⟨(some 73), .pick (.t 71) (.t 72) (.c (.d (.bool false))), none⟩ ::
    ⟨(some 6), .mv (.t 73), none⟩ ::
    []))
  .ret) .skip))
  (.seq (.reg (⟨(some 74), .mv (.t 10), none⟩ ::
    ⟨(some 75), .bin .add (.t 74) (.c (.d (.int .i64 1))), none⟩ ::
    ⟨(some 10), .mv (.t 75), none⟩ ::
    []))
  (.seq (.dreg (⟨(some 76), .off 1 (.t 7), none⟩ ::
    ⟨(some 77), .ld (.t 76), none⟩ ::
    ⟨(some 78), .off 0 (.t 3), none⟩ ::
    ⟨(some 79), .ld (.t 78), none⟩ ::
    ⟨(some 80), .mv (.t 11), none⟩ ::
    ⟨(some 81), .ixa 3 1 (.t 4) (.t 80), none⟩ ::
    ⟨(some 82), .ld (.t 81), none⟩ ::
    ⟨(some 83), .mv (.t 11), none⟩ ::
    ⟨(some 84), .ixa 3 1 (.t 5) (.t 83), none⟩ ::
    ⟨(some 85), .ld (.t 84), none⟩ ::
    ⟨(some 86), .call (.c (.fn 24 [])) [(.t 77), (.t 79), (.t 82), (.t 85)], none⟩ ::
    ⟨(some 12), .new [.d (.int .u8 0), .d (.int .i64 0), .d (.int .i64 0), .d (.int .i64 0), .d (.int .i64 0), .d (.bool false), .d (.bool false), .d (.int .i64 0), .d (.int .i64 0), .nils, .d (.str []), .d (.int .i64 0), .d (.int .i64 0), .d (.bool false), .d (.int .i64 0)], none⟩ ::
    []) (⟨none, .st 15 (.t 12) (.t 86), none⟩ ::
    []))
  (.seq (.seq (.reg (⟨(some 87), .off 0 (.t 7), none⟩ ::
    ⟨(some 88), .ld (.t 87), none⟩ ::
    ⟨(some 89), .bin .eql (.t 88) (.c (.d (.int .u8 3))), none⟩ ::
    []))
  (.cond (.t 89) (.reg (⟨(some 90), .off 1 (.t 12), none⟩ ::
    ⟨(some 91), .ld (.t 90), none⟩ ::
    ⟨(some 92), .off 1 (.t 7), none⟩ ::
    ⟨(some 93), .ld (.t 92), none⟩ ::
    ⟨(some 94), .off 0 (.t 3), none⟩ ::
    ⟨(some 95), .ld (.t 94), none⟩ ::
    ⟨(some 96), .bld [.d (.int .u8 0), .d (.int .i64 0), .d (.int .i64 0), .d (.int .i64 0), .d (.int .i64 0), .d (.bool false), .d (.bool false), .d (.int .i64 0), .d (.int .i64 0), .nils, .d (.str []), .d (.int .i64 0), .d (.int .i64 0), .d (.bool false), .d (.int .i64 0)] [(0, 1, (.c (.d (.int .u8 9)))), (1, 1, (.t 91)), (2, 1, (.t 93)), (3, 1, (.t 95))], none⟩ ::
    ⟨none, .st 15 (.t 12) (.t 96), none⟩ ::
    [])) .skip))
  (.seq (.seq (.reg (⟨(some 97), .ldn 15 (.t 12), none⟩ ::
    ⟨(some 98), .call (.c (.fn 25 [])) [(.t 97)], none⟩ ::
    ⟨(some 99), .not (.t 98), none⟩ ::
    []))
  (.cond (.t 99) (.seq (.reg (⟨(some 100), .call (.c (.fn 9 [])) [], none⟩ ::
    ⟨(some 6), .mv (.t 100), none⟩ ::
    []))
  .ret) .skip))
  (.seq (.reg (⟨(some 102), .ldn 20 (.t 9), none⟩ ::
    ⟨(some 103), .ldn 2 (.t 7), none⟩ ::
    ⟨(some 104), .ldn 15 (.t 12), none⟩ ::
    ⟨(some 105), .call (.c (.fn 13 [])) [(.t 102), (.t 103), (.t 104)], none⟩ ::
    ⟨(some 101), .mv (.t 105), none⟩ ::
    ⟨(some 106), .ext (.t 101) 0, none⟩ ::
    ⟨(some 107), .ext (.t 101) 1, none⟩ ::
    ⟨(some 108), .ext (.t 101) 2, none⟩ ::
    ⟨(some 13), .new [.d (.int .i64 0), .nils, .nils, .d (.int .i64 0), .d (.int .i64 0), .d (.int .i64 0), .d (.int .i64 0), .d (.int .i64 0), .d (.int .i64 0), .d (.int .i64 0), .d (.int .i64 0), .d (.int .i64 0), .d (.int .i64 0), .d (.int .i64 0), .d (.int .i64 0), .d (.int .i64 0), .d (.int .i64 0), .d (.int .i64 0), .d (.int .i64 0), .d (.int .i64 0)], none⟩ ::
    ⟨(some 14), .new [.d (.int .u8 0), .d (.int .i64 0)], none⟩ ::
    ⟨none, .st 20 (.t 13) (.t 106), none⟩ ::
    ⟨none, .st 2 (.t 14) (.t 107), none⟩ ::
    ⟨(some 15), .mv (.t 108), none⟩ ::
    []))
  (.seq (.seq (.reg (⟨(some 109), .off 0 (.t 14), none⟩ ::
    ⟨(some 110), .ld (.t 109), none⟩ ::
    ⟨(some 111), .off 0 (.t 7), none⟩ ::
    ⟨(some 112), .ld (.t 111), none⟩ ::
    ⟨(some 113), .bin .eql (.t 110) (.t 112), none⟩ ::
    ⟨(some 114), .mv (.t 113), none⟩ ::
    ⟨(some 115), .off 0 (.t 14), (some (114, false))⟩ ::
    ⟨(some 116), .ld (.t 115), (some (114, false))⟩ ::
    ⟨(some 117), .bin .neq (.t 116) (.c (.d (.int .u8 0))), (some (114, false))⟩ ::
    ⟨(some 118), .mv (.t 117), (some (114, false))⟩ ::
    ⟨(some 119), .off 0 (.t 14), (some (118, true))⟩ ::
    ⟨(some 120), .ld (.t 119), (some (118, true))⟩ ::
    ⟨(some 121), .off 0 (.t 7), (some (118, true))⟩ ::
    ⟨(some 122), .ld (.t 121), (some (118, true))⟩ ::
    ⟨(some 123), .bin .lss (.t 120) (.t 122), (some (118, true))⟩ ::
    ⟨(some 124), .pick (.t 118) (.t 123) (.c (.d (.bool false))), (some (114, false))⟩ ::
    ⟨(some 125), .pick (.t 114) (.c (.d (.bool true))) (.t 124), none⟩ ::
    ⟨(some 126), .mv (.t 125), none⟩ ::
    ⟨(some 127), .ldn 20 (.t 13), (some (126, false))⟩ ::
    ⟨(some 128), .call (.c (.fn 22 [])) [(.t 127)], (some (126, false))⟩ ::
    ⟨(some 129), .not (.t 128), (some (126, false))⟩ ::
    ⟨(some 130), .pick (.t 126) (.c (.d (.bool true))) (.t 129), none⟩ ::
    []))
  (.cond (.t 130) (.seq (.reg (⟨(some 6), .mv (.c (.d (.bool false))), none⟩ ::
    []))
  .ret) .skip))
  (.sreg [9, 7] true (⟨(some 131), .ldn 20 (.t 13), none⟩ ::
    ⟨(some 132), .ldn 2 (.t 14), none⟩ ::
    ⟨(some 133), .mv (.t 15), none⟩ ::
    ⟨none, .st 20 (.t 9) (.t 131), none⟩ ::
    ⟨none, .st 2 (.t 7) (.t 132), none⟩ ::
    []) (⟨(some 8), .mv (.t 133), none⟩ ::
    []))))))))))
  (.reg (⟨(some 35), .mv (.t 11), none⟩ ::
    ⟨(some 36), .bin .add (.t 35) (.c (.d (.int .i64 1))), none⟩ ::
    ⟨(some 11), .mv (.t 36), none⟩ ::
    [])))))))
  (.seq (.reg (⟨(some 134), .off 2 (.t 3), none⟩ ::
    ⟨(some 135), .ld (.t 134), none⟩ ::
    ⟨(some 136), .off 2 (.t 9), none⟩ ::
    ⟨none, .st 1 (.t 136) (.t 135), none⟩ ::
    []))
  (.seq (.reg (⟨(some 137), .ldn 2 (.t 7), none⟩ ::
    ⟨(some 138), .bld [.d (.int .u8 0), .d (.int .i64 0)] [], none⟩ ::
    ⟨(some 139), .eqs false [0, 0] (.t 137) (.t 138), none⟩ ::
    ⟨(some 140), .mv (.t 139), none⟩ ::
    ⟨(some 141), .mv (.t 10), (some (140, true))⟩ ::
    ⟨(some 142), .bin .geq (.t 141) (.c (.d (.int .i64 2))), (some (140, true))⟩ ::
    ⟨(some 143), .pick (.t 140) (.t 142) (.c (.d (.bool false))), none⟩ ::
    ⟨(some 144), .mv (.t 143), none⟩ ::
    ⟨(some 145), .mv (.t 10), (some (144, true))⟩ ::
    ⟨(some 146), .bin .leq (.t 145) (.c (.d (.int .i64 3))), (some (144, true))⟩ ::
    ⟨(some 147), .pick (.t 144) (.t 146) (.c (.d (.bool false))), none⟩ ::
    ⟨(some 148), .mv (.t 147), none⟩ ::
    ⟨(some 149), .mv (.t 8), (some (148, true))⟩ ::
    ⟨(some 150), .len false (.t 149), (some (148, true))⟩ ::
    ⟨(some 151), .bin .eql (.t 150) (.c (.d (.int .i64 0))), (some (148, true))⟩ ::
    ⟨(some 152), .pick (.t 148) (.t 151) (.c (.d (.bool false))), none⟩ ::
    ⟨(some 153), .mv (.t 152), none⟩ ::
    ⟨(some 154), .ldn 20 (.t 9), (some (153, true))⟩ ::
    ⟨(some 155), .ldn 20 (.t 3), (some (153, true))⟩ ::
    ⟨(some 156), .call (.c (.fn 15 [])) [(.t 154), (.t 155)], (some (153, true))⟩ ::
    ⟨(some 157), .pick (.t 153) (.t 156) (.c (.d (.bool false))), none⟩ ::
    ⟨(some 158), .mv (.t 157), none⟩ ::
    ⟨(some 159), .call (.c (.fn 9 [])) [], (some (158, true))⟩ ::
    ⟨(some 160), .pick (.t 158) (.t 159) (.c (.d (.bool false))), none⟩ ::
    ⟨(some 6), .mv (.t 160), none⟩ ::
    []))
  .ret))))))) }
/-- garland/garlandlaw14.StabNot -/
def cf6 : CFun := { np := 4, nt := 141, res := [.tmp 8], body :=
  (.seq (.reg (⟨(some 4), .box (.t 0), none⟩ ::
    ⟨(some 5), .box (.t 1), none⟩ ::
    ⟨(some 6), .box (.t 2), none⟩ ::
    ⟨(some 8), .mv (.c (.d (.bool false))), none⟩ ::
    []))
  (.seq (.seq (.reg (⟨(some 15), .ldn 20 (.t 4), none⟩ ::
    ⟨(some 16), .ldn 15 (.t 6), none⟩ ::
    ⟨(some 17), .call (.c (.fn 8 [])) [(.t 15), (.t 16)], none⟩ ::
    ⟨(some 18), .mv (.t 17), none⟩ ::
    ⟨(some 19), .ldn 20 (.t 4), (some (18, false))⟩ ::
    ⟨(some 20), .call (.c (.fn 22 [])) [(.t 19)], (some (18, false))⟩ ::
    ⟨(some 21), .not (.t 20), (some (18, false))⟩ ::
    ⟨(some 22), .pick (.t 18) (.c (.d (.bool true))) (.t 21), none⟩ ::
    ⟨(some 23), .mv (.t 22), none⟩ ::
    ⟨(some 24), .ldn 2 (.t 5), (some (23, false))⟩ ::
    ⟨(some 25), .call (.c (.fn 19 [])) [(.t 24)], (some (23, false))⟩ ::
    ⟨(some 26), .not (.t 25), (some (23, false))⟩ ::
    ⟨(some 27), .pick (.t 23) (.c (.d (.bool true))) (.t 26), none⟩ ::
    []))
  (.cond (.t 27) (.seq (.reg (⟨(some 28), .call (.c (.fn 9 [])) [], none⟩ ::
    ⟨(some 8), .mv (.t 28), none⟩ ::
    []))
  .ret) .skip))
  (.seq (.reg (⟨(some 30), .ldn 20 (.t 4), none⟩ ::
    ⟨(some 31), .ldn 2 (.t 5), none⟩ ::
    ⟨(some 32), .ldn 15 (.t 6), none⟩ ::
    ⟨(some 33), .call (.c (.fn 13 [])) [(.t 30), (.t 31), (.t 32)], none⟩ ::
    ⟨(some 29), .mv (.t 33), none⟩ ::
    ⟨(some 34), .ext (.t 29) 0, none⟩ ::
    ⟨(some 35), .ext (.t 29) 1, none⟩ ::
    ⟨(some 36), .ext (.t 29) 2, none⟩ ::
    ⟨(some 9), .new [.d (.int .i64 0), .nils, .nils, .d (.int .i64 0), .d (.int .i64 0), .d (.int .i64 0), .d (.int .i64 0), .d (.int .i64 0), .d (.int .i64 0), .d (.int .i64 0), .d (.int .i64 0), .d (.int .i64 0), .d (.int .i64 0), .d (.int .i64 0), .d (.int .i64 0), .d (.int .i64 0), .d (.int .i64 0), .d (.int .i64 0), .d (.int .i64 0), .d (.int .i64 0)], none⟩ ::
    ⟨(some 10), .new [.d (.int .u8 0), .d (.int .i64 0)], none⟩ ::
    ⟨none, .st 20 (.t 9) (.t 34), none⟩ ::
    ⟨none, .st 2 (.t 10) (.t 35), none⟩ ::
    ⟨(some 11), .mv (.t 36), none⟩ ::
    []))
  (.seq (.reg (⟨(some 37), .off 0 (.t 6), none⟩ ::
    ⟨(some 38), .ld (.t 37), none⟩ ::
    ⟨(some 39), .bin .eql (.t 38) (.c (.d (.int .u8 7))), none⟩ ::
    ⟨(some 40), .mv (.t 39), none⟩ ::
    ⟨(some 41), .off 0 (.t 5), (some (40, true))⟩ ::
    ⟨(some 42), .ld (.t 41), (some (40, true))⟩ ::
    ⟨(some 43), .bin .eql (.t 42) (.c (.d (.int .u8 1))), (some (40, true))⟩ ::
    ⟨(some 44), .mv (.t 43), (some (40, true))⟩ ::
    ⟨(some 45), .off 0 (.t 5), (some (44, false))⟩ ::
    ⟨(some 46), .ld (.t 45), (some (44, false))⟩ ::
    ⟨(some 47), .bin .eql (.t 46) (.c (.d (.int .u8 2))), (some (44, false))⟩ ::
    ⟨(some 48), .pick (.t 44) (.c (.d (.bool true))) (.t 47), (some (40, true))⟩ ::
    ⟨(some 49), .pick (.t 40) (.t 48) (.c (.d (.bool false))), none⟩ ::
    ⟨(some 50), .mv (.t 49), none⟩ ::
    ⟨(some 51), .off 0 (.t 6), (some (50, false))⟩ ::
    ⟨(some 52), .ld (.t 51), (some (50, false))⟩ ::
    ⟨(some 53), .bin .eql (.t 52) (.c (.d (.int .u8 9))), (some (50, false))⟩ ::
    ⟨(some 54), .mv (.t 53), (some (50, false))⟩ ::
    ⟨(some 55), .off 0 (.t 5), (some (54, true))⟩ ::
    ⟨(some 56), .ld (.t 55), (some (54, true))⟩ ::
    ⟨(some 57), .bin .eql (.t 56) (.c (.d (.int .u8 3))), (some (54, true))⟩ ::
    ⟨(some 58), .pick (.t 54) (.t 57) (.c (.d (.bool false))), (some (50, false))⟩ ::
    ⟨(some 59), .pick (.t 50) (.c (.d (.bool true))) (.t 58), none⟩ ::
    ⟨(some 12), .mv (.t 59), none⟩ ::
    []))
  (.seq (.seq (.reg (⟨(some 60), .mv (.t 12), none⟩ ::
    ⟨(some 61), .not (.t 60), none⟩ ::
    ⟨(some 62), .mv (.t 61), none⟩ ::
    ⟨(some 63), .off 2 (.t 6), (some (62, false))⟩ ::
    ⟨(some 64), .ld (.t 63), (some (62, false))⟩ ::
    ⟨(some 65), .off 1 (.t 5), (some (62, false))⟩ ::
    ⟨(some 66), .ld (.t 65), (some (62, false))⟩ ::
    ⟨(some 67), .bin .neq (.t 64) (.t 66), (some (62, false))⟩ ::
    ⟨(some 68), .pick (.t 62) (.c (.d (.bool true))) (.t 67), none⟩ ::
    ⟨(some 69), .mv (.t 68), none⟩ ::
    ⟨(some 70), .off 3 (.t 6), (some (69, false))⟩ ::
    ⟨(some 71), .ld (.t 70), (some (69, false))⟩ ::
    ⟨(some 72), .off 0 (.t 4), (some (69, false))⟩ ::
    ⟨(some 73), .ld (.t 72), (some (69, false))⟩ ::
    ⟨(some 74), .bin .neq (.t 71) (.t 73), (some (69, false))⟩ ::
    ⟨(some 75), .pick (.t 69) (.c (.d (.bool true))) (.t 74), none⟩ ::
    ⟨(some 76), .mv (.t 75), none⟩ ::
    ⟨(some 77), .ldn 15 (.t 6), (some (76, false))⟩ ::
    ⟨(some 78), .call (.c (.fn 25 [])) [(.t 77)], (some (76, false))⟩ ::
    ⟨(some 79), .not (.t 78), (some (76, false))⟩ ::
    ⟨(some 80), .pick (.t 76) (.c (.d (.bool true))) (.t 79), none⟩ ::
    []))
  (.cond (.t 80) (.seq (.reg (⟨(some 81), .ldn 20 (.t 9), none⟩ ::
    ⟨(some 82), .ldn 20 (.t 4), none⟩ ::
    ⟨(some 83), .call (.c (.fn 15 [])) [(.t 81), (.t 82)], none⟩ ::
    ⟨(some 84), .not (.t 83), none⟩ ::
    ⟨(some 85), .mv (.t 84), none⟩ ::
    ⟨(some 86), .ldn 2 (.t 10), (some (85, false))⟩ ::
    ⟨(some 87), .ldn 2 (.t 5), (some (85, false))⟩ ::
    ⟨(some 88), .eqs true [0, 0] (.t 86) (.t 87), (some (85, false))⟩ ::
    ⟨(some 89), .pick (.t 85) (.c (.d (.bool true))) (.t 88), none⟩ ::
    ⟨(some 90), .mv (.t 89), none⟩ ::
    ⟨(some 91), .mv (.t 11), (some (90, false))⟩ ::
    ⟨(some 92), .len false (.t 91), (some (90, false))⟩ ::
    ⟨(some 93), .bin .neq (.t 92) (.c (.d (.int .i64 0))), (some (90, false))⟩ ::
    ⟨(some 94), .pick (.t 90) (.c (.d (.bool true))) (.t 93), none⟩ ::
    []))
  (.cond (.t 94) (.seq (.reg (⟨(some 8), .mv (.c (.d (.bool false))), none⟩ ::
    []))
  .ret) .skip)) .skip))
  (.seq (.reg (⟨(some 96), .ldn 20 (.t 4), none⟩ ::
    ⟨(some 97), .ldn 2 (.t 5), none⟩ ::
    ⟨(some 98), .mv (.t 3), none⟩ ::
    ⟨(some 99), .call (.c (.fn 16 [])) [(.t 96), (.t 97), (.t 98)], none⟩ ::
    ⟨(some 95), .mv (.t 99), none⟩ ::
    ⟨(some 100), .ext (.t 95) 0, none⟩ ::
    ⟨(some 101), .ext (.t 95) 1, none⟩ ::
    ⟨(some 13), .new [.d (.int .i64 0), .nils, .nils, .d (.int .i64 0), .d (.int .i64 0), .d (.int .i64 0), .d (.int .i64 0), .d (.int .i64 0), .d (.int .i64 0), .d (.int .i64 0), .d (.int .i64 0), .d (.int .i64 0), .d (.int .i64 0), .d (.int .i64 0), .d (.int .i64 0), .d (.int .i64 0), .d (.int .i64 0), .d (.int .i64 0), .d (.int .i64 0), .d (.int .i64 0)], none⟩ ::
    ⟨(some 14), .new [.d (.int .u8 0), .d (.int .i64 0)], none⟩ ::
    ⟨none, .st 20 (.t 13) (.t 100), none⟩ ::
    ⟨none, .st 2 (.t 14) (.t 101), none⟩ ::
    []))
  (.seq (.seq (.dreg (⟨(some 102), .ldn 20 (.t 13), none⟩ ::
    ⟨(some 103), .ldn 20 (.t 4), none⟩ ::
    ⟨(some 104), .mv (.t 3), none⟩ ::
    ⟨(some 105), .call (.c (.fn 29 [])) [(.t 103), (.t 104)], none⟩ ::
    ⟨(some 106), .call (.c (.fn 15 [])) [(.t 102), (.t 105)], none⟩ ::
    ⟨(some 107), .not (.t 106), none⟩ ::
    ⟨(some 108), .mv (.t 107), none⟩ ::
    ⟨(some 109), .ldn 2 (.t 14), (some (108, false))⟩ ::
    ⟨(some 110), .ldn 2 (.t 5), (some (108, false))⟩ ::
    ⟨(some 111), .eqs true [0, 0] (.t 109) (.t 110), (some (108, false))⟩ ::
    ⟨(some 112), .mv (.t 111), (some (108, false))⟩ ::
    ⟨(some 113), .ldn 2 (.t 14), (some (112, true))⟩ ::
    ⟨(some 114), .bld [.d (.int .u8 0), .d (.int .i64 0)] [], (some (112, true))⟩ ::
    ⟨(some 115), .eqs true [0, 0] (.t 113) (.t 114), (some (112, true))⟩ ::
    ⟨(some 116), .mv (.t 115), (some (112, true))⟩ ::
    ⟨(some 117), .off 1 (.t 5), (some (116, false))⟩ ::
    ⟨(some 118), .ld (.t 117), (some (116, false))⟩ ::
    ⟨(some 119), .mv (.t 3), (some (116, false))⟩ ::
    ⟨(some 120), .bin .neq (.t 118) (.t 119), (some (116, false))⟩ ::
    []) (⟨(some 121), .pick (.t 116) (.c (.d (.bool true))) (.t 120), (some (112, true))⟩ ::
    ⟨(some 122), .pick (.t 112) (.t 121) (.c (.d (.bool false))), (some (108, false))⟩ ::
    ⟨(some 123), .pick (.t 108) (.c (.d (.bool true))) (.t 122), none⟩ ::
    []))
  (.cond (.t 123) (.seq (.reg (⟨(some 8), .mv (.c (.d (.bool false))), none⟩ ::
    []))
  .ret) .skip))
  (.seq (.reg (⟨(some 124), .off 0 (.t 5), none⟩ ::
    ⟨(some 125), .ld (.t 124), none⟩ ::
    ⟨(some 126), .bin .eql (.t 125) (.c (.d (.int .u8 0))), none⟩ ::
    ⟨(some 127), .mv (.t 126), none⟩ ::
    ⟨(some 128), .off 1 (.t 5), (some (127, false))⟩ ::
    ⟨(some 129), .ld (.t 128), (some (127, false))⟩ ::
    ⟨(some 130), .mv (.t 3), (some (127, false))⟩ ::
    ⟨(some 131), .bin .neq (.t 129) (.t 130), (some (127, false))⟩ ::
    ⟨(some 132), .pick (.t 127) (.c (.d (.bool true))) (.t 131), none⟩ ::
    ⟨(some 133), .mv (.t 132), none⟩ ::
    ⟨(some 134), .ldn 2 (.t 14), (some (133, false))⟩ ::
    ⟨(some 135), .bld [.d (.int .u8 0), .d (.int .i64 0)] [], (some (133, false))⟩ ::
    ⟨(some 136), .eqs false [0, 0] (.t 134) (.t 135), (some (133, false))⟩ ::
    ⟨(some 137), .pick (.t 133) (.c (.d (.bool true))) (.t 136), none⟩ ::
    ⟨(some 138), .mv (.t 137), none⟩ ::
    ⟨(some 139), .call (.c (.fn 9 [])) [], (some (138, true))⟩ ::
    ⟨(some 140), .pick (.t 138) (.t 139) (.c (.d (.bool false))), none⟩ ::
    ⟨(some 8), .mv (.t 140), none⟩ ::
    []))
  .ret)))))))) }
/-- garland/garlandlaw21.JobAsks -/
def cf7 : CFun := { np := 4, nt := 149, res := [.tmp 8], body :=
  (.seq (.reg (⟨(some 4), .box (.t 0), none⟩ ::
    ⟨(some 7), .box (.t 3), none⟩ ::
    ⟨(some 8), .mv (.c (.d (.bool false))), none⟩ ::
    []))
  (.seq (.seq (.reg (⟨(some 14), .ldn 20 (.t 4), none⟩ ::
    ⟨(some 15), .call (.c (.fn 30 [])) [(.t 14)], none⟩ ::
    ⟨(some 16), .mv (.t 15), none⟩ ::
    ⟨(some 17), .ldn 20 (.t 4), (some (16, false))⟩ ::
    ⟨(some 18), .call (.c (.fn 22 [])) [(.t 17)], (some (16, false))⟩ ::
    ⟨(some 19), .not (.t 18), (some (16, false))⟩ ::
    ⟨(some 20), .pick (.t 16) (.c (.d (.bool true))) (.t 19), none⟩ ::
    ⟨(some 21), .mv (.t 20), none⟩ ::
    ⟨(some 22), .off 0 (.t 7), (some (21, false))⟩ ::
    ⟨(some 23), .ld (.t 22), (some (21, false))⟩ ::
    ⟨(some 24), .len true (.t 23), (some (21, false))⟩ ::
    ⟨(some 25), .bin .gtr (.t 24) (.c (.d (.int .i64 300))), (some (21, false))⟩ ::
    ⟨(some 26), .pick (.t 21) (.c (.d (.bool true))) (.t 25), none⟩ ::
    []))
  (.cond (.t 26) (.seq (.reg (⟨(some 27), .call (.c (.fn 31 [])) [], none⟩ ::
    ⟨(some 8), .mv (.t 27), none⟩ ::
    []))
  .ret) .skip))
  (.seq (.reg (⟨(some 29), .ldn 20 (.t 4), none⟩ ::
    ⟨(some 30), .mv (.t 1), none⟩ ::
    ⟨(some 31), .mv (.t 2), none⟩ ::
    ⟨(some 32), .ldn 4 (.t 7), none⟩ ::
    ⟨(some 33), .call (.c (.fn 32 [])) [(.t 29), (.t 30), (.t 31), (.t 32)], none⟩ ::
    ⟨(some 28), .mv (.t 33), none⟩ ::
    ⟨(some 34), .ext (.t 28) 0, none⟩ ::
    ⟨(some 35), .ext (.t 28) 1, none⟩ ::
    ⟨(some 36), .ext (.t 28) 2, none⟩ ::
    ⟨(some 9), .new [.d (.int .u8 0), .d (.int .u8 0), .d (.int .i64 0), .d (.int .i64 0), .d (.int .i64 0), .d (.bool false), .d (.bool false), .d (.int .i64 0), .d (.str []), .d (.int .i64 0), .d (.int .i64 0), .d (.bool false), .d (.int .i64 0), .nils, .d (.int .i64 0)], none⟩ ::
    ⟨none, .st 15 (.t 9) (.t 34), none⟩ ::
    ⟨(some 10), .mv (.t 35), none⟩ ::
    ⟨(some 11), .mv (.t 36), none⟩ ::
    []))
  (.seq (.seq (.reg (⟨(some 37), .off 0 (.t 9), none⟩ ::
    ⟨(some 38), .ld (.t 37), none⟩ ::
    ⟨(some 39), .mv (.t 1), none⟩ ::
    ⟨(some 40), .bin .neq (.t 38) (.t 39), none⟩ ::
    ⟨(some 41), .mv (.t 40), none⟩ ::
    ⟨(some 42), .off 1 (.t 9), (some (41, false))⟩ ::
    ⟨(some 43), .ld (.t 42), (some (41, false))⟩ ::
    ⟨(some 44), .bin .eql (.t 43) (.c (.d (.int .u8 5))), (some (41, false))⟩ ::
    ⟨(some 45), .mv (.t 10), (some (41, false))⟩ ::
    ⟨(some 46), .len false (.t 45), (some (41, false))⟩ ::
    ⟨(some 47), .bin .eql (.t 46) (.c (.d (.int .i64 0))), (some (41, false))⟩ ::
    ⟨(some 48), .eqb true (.t 44) (.t 47), (some (41, false))⟩ ::
    ⟨(some 49), .pick (.t 41) (.c (.d (.bool true))) (.t 48), none⟩ ::
    ⟨(some 50), .mv (.t 49), none⟩ ::
    ⟨(some 51), .mv (.t 11), (some (50, false))⟩ ::
    ⟨(some 52), .mv (.t 51), (some (50, false))⟩ ::
    ⟨(some 53), .mv (.t 1), (some (52, true))⟩ ::
    ⟨(some 54), .bin .neq (.t 53) (.c (.d (.int .u8 2))), (some (52, true))⟩ ::
    ⟨(some 55), .pick (.t 52) (.t 54) (.c (.d (.bool false))), (some (50, false))⟩ ::
    ⟨(some 56), .mv (.t 55), (some (50, false))⟩ ::
    ⟨(some 57), .mv (.t 1), (some (56, true))⟩ ::
    ⟨(some 58), .bin .neq (.t 57) (.c (.d (.int .u8 3))), (some (56, true))⟩ ::
    ⟨(some 59), .pick (.t 56) (.t 58) (.c (.d (.bool false))), (some (50, false))⟩ ::
    ⟨(some 60), .pick (.t 50) (.c (.d (.bool true))) (.t 59), none⟩ ::
    []))
  (.cond (.t 60) (.seq (.reg (⟨(some 8), .mv (.c (.d (.bool false))), none⟩ ::
    []))
  .ret) .skip))
  (.seq (.seq (.reg (⟨(some 12), .mv (.c (.d (.int .i64 0))), none⟩ ::
    []))
  (.block 0 (.loop [4, 7, 9, 10, 12] (.seq (.seq (.reg (⟨(some 61), .mv (.t 12), none⟩ ::
    ⟨(some 62), .mv (.t 10), none⟩ ::
    ⟨(some 63), .len false (.t 62), none⟩ ::
    ⟨(some 64), .bin .lss (.t 61) (.t 63), none⟩ ::
    []))
  (.cond (.t 64) .skip (.exit 0)))
  (.seq (.block 1 (.seq (.reg (⟨(some 67), .mv (.t 10), none⟩ ::
    ⟨(some 68), .mv (.t 12), none⟩ ::
    ⟨(some 69), .ixs 15 (.t 67) (.t 68), none⟩ ::
    ⟨(some 70), .ldn 15 (.t 69), none⟩ ::
    ⟨(some 13), .new [.d (.int .u8 0), .d (.int .i64 0), .d (.int .i64 0), .d (.int .i64 0), .d (.int .i64 0), .d (.bool false), .d (.bool false), .d (.int .i64 0), .d (.int .i64 0), .nils, .d (.str []), .d (.int .i64 0), .d (.int .i64 0), .d (.bool false), .d (.int .i64 0)], none⟩ ::
    ⟨none, .st 15 (.t 13) (.t 70), none⟩ ::
    []))
  (.seq (.reg (⟨(some 71), .off 3 (.t 13), none⟩ ::
    ⟨(some 72), .ld (.t 71), none⟩ ::
    ⟨(some 73), .off 0 (.t 4), none⟩ ::
    ⟨(some 74), .ld (.t 73), none⟩ ::
    ⟨(some 75), .bin .eql (.t 72) (.t 74), none⟩ ::
    ⟨(some 76), .mv (.t 75), none⟩ ::
    ⟨(some 77), .off 2 (.t 13), (some (76, false))⟩ ::
    ⟨(some 78), .ld (.t 77), (some (76, false))⟩ ::
    ⟨(some 79), .bin .neq (.t 78) (.c (.d (.int .i64 0))), (some (76, false))⟩ ::
    ⟨(some 80), .pick (.t 76) (.c (.d (.bool true))) (.t 79), none⟩ ::
    ⟨(some 81), .mv (.t 80), none⟩ ::
    ⟨(some 82), .off 1 (.t 13), (some (81, false))⟩ ::
    ⟨(some 83), .ld (.t 82), (some (81, false))⟩ ::
    ⟨(some 84), .bin .neq (.t 83) (.c (.d (.int .i64 0))), (some (81, false))⟩ ::
    ⟨(some 85), .pick (.t 81) (.c (.d (.bool true))) (.t 84), none⟩ ::
    ⟨(some 86), .mv (.t 85), none⟩ ::
    ⟨(some 87), .off 1 (.t 9), (some (86, false))⟩ ::
    ⟨(some 88), .ld (.t 87), (some (86, false))⟩ ::
    ⟨(some 89), .bin .eql (.t 88) (.c (.d (.int .u8 1))), (some (86, false))⟩ ::
    ⟨(some 90), .mv (.t 89), (some (86, false))⟩ ::
    ⟨(some 91), .off 0 (.t 13), (some (90, true))⟩ ::
    ⟨(some 92), .ld (.t 91), (some (90, true))⟩ ::
    ⟨(some 93), .bin .neq (.t 92) (.c (.d (.int .u8 4))), (some (90, true))⟩ ::
    ⟨(some 94), .mv (.t 93), (some (90, true))⟩ ::
    ⟨(some 95), .off 3 (.t 13), (some (94, false))⟩ ::
    ⟨(some 96), .ld (.t 95), (some (94, false))⟩ ::
    ⟨(some 97), .off 2 (.t 9), (some (94, false))⟩ ::
    ⟨(some 98), .off 1 (.t 97), (some (94, false))⟩ ::
    ⟨(some 99), .ld (.t 98), (some (94, false))⟩ ::
    ⟨(some 100), .bin .neq (.t 96) (.t 99), (some (94, false))⟩ ::
    ⟨(some 101), .pick (.t 94) (.c (.d (.bool true))) (.t 100), (some (90, true))⟩ ::
    ⟨(some 102), .pick (.t 90) (.t 101) (.c (.d (.bool false))), (some (86, false))⟩ ::
    ⟨(some 103), .pick (.t 86) (.c (.d (.bool true))) (.t 102), none⟩ ::
    ⟨(some 104), .mv (.t 103), none⟩ ::
    ⟨(some 105), .off 1 (.t 9), (some (104, false))⟩ ::
    ⟨(some 106), .ld (.t 105), (some (104, false))⟩ ::
    ⟨(some 107), .bin .eql (.t 106) (.c (.d (.int .u8 3))), (some (104, false))⟩ ::
    ⟨(some 108), .mv (.t 107), (some (104, false))⟩ ::
    ⟨(some 109), .off 0 (.t 13), (some (108, true))⟩ ::
    ⟨(some 110), .ld (.t 109), (some (108, true))⟩ ::
    ⟨(some 111), .bin .neq (.t 110) (.c (.d (.int .u8 5))), (some (108, true))⟩ ::
    ⟨(some 112), .mv (.t 111), (some (108, true))⟩ ::
    ⟨(some 113), .off 10 (.t 13), (some (112, false))⟩ ::
    ⟨(some 114), .ldn 4 (.t 113), (some (112, false))⟩ ::
    ⟨(some 115), .ldn 4 (.t 7), (some (112, false))⟩ ::
    ⟨(some 116), .eqs true [2, 0, 0, 1] (.t 114) (.t 115), (some (112, false))⟩ ::
    ⟨(some 117), .pick (.t 112) (.c (.d (.bool true))) (.t 116), (some (108, true))⟩ ::
    ⟨(some 118), .pick (.t 108) (.t 117) (.c (.d (.bool false))), (some (104, false))⟩ ::
    ⟨(some 119), .pick (.t 104) (.c (.d (.bool true))) (.t 118), none⟩ ::
    ⟨(some 120), .mv (.t 119), none⟩ ::
    ⟨(some 121), .off 1 (.t 9), (some (120, false))⟩ ::
    ⟨(some 122), .ld (.t 121), (some (120, false))⟩ ::
    ⟨(some 123), .bin .eql (.t 122) (.c (.d (.int .u8 2))), (some (120, false))⟩ ::
    ⟨(some 124), .mv (.t 123), (some (120, false))⟩ ::
    ⟨(some 125), .off 0 (.t 13), (some (124, true))⟩ ::
    ⟨(some 126), .ld (.t 125), (some (124, true))⟩ ::
    ⟨(some 127), .bin .neq (.t 126) (.c (.d (.int .u8 1))), (some (124, true))⟩ ::
    ⟨(some 128), .pick (.t 124) (.t 127) (.c (.d (.bool false))), (some (120, false))⟩ ::
    ⟨(some 129), .pick (.t 120) (.c (.d (.bool true))) (.t 128), none⟩ ::
    ⟨(some 130), .mv (.t 129), none⟩ ::
    ⟨(some 131), .off 1 (.t 9), (some (130, false))⟩ ::
    ⟨(some 132), .ld (.t 131), (some (130, false))⟩ ::
    ⟨(some 133), .bin .eql (.t 132) (.c (.d (.int .u8 4))), (some (130, false))⟩ ::
    ⟨(some 134), .mv (.t 133), (some (130, false))⟩ ::
    ⟨(some 135), .off 0 (.t 13), (some (134, true))⟩ ::
    ⟨(some 136), .ld (.t 135), (some (134, true))⟩ ::
    ⟨(some 137), .bin .neq (.t 136) (.c (.d (.int .u8 6))), (some (134, true))⟩ ::
    ⟨(some 138), .mv (.t 137), (some (134, true))⟩ ::
    ⟨(some 139), .off 10 (.t 13), (some (138, false))⟩ ::
    ⟨(some 140), .ldn 4 (.t 139), (some (138, false))⟩ ::
    ⟨(some 141), .off 0 (.t 7), (some (138, false))⟩ ::
    ⟨(some 142), .ld (.t 141), (some (138, false))⟩ ::
    ⟨(some 143), .bld [.d (.str []), .d (.int .i64 0), .d (.int .i64 0), .d (.bool false)] [(0, 1, (.t 142))], (some (138, false))⟩ ::
    ⟨(some 144), .eqs true [2, 0, 0, 1] (.t 140) (.t 143), (some (138, false))⟩ ::
    ⟨(some 145), .pick (.t 138) (.c (.d (.bool true))) (.t 144), (some (134, true))⟩ ::
    ⟨(some 146), .pick (.t 134) (.t 145) (.c (.d (.bool false))), (some (130, false))⟩ ::
    ⟨(some 147), .pick (.t 130) (.c (.d (.bool true))) (.t 146), none⟩ ::
    []))
  (.cond (.t 147) (.seq (.reg (⟨(some 8), .mv (.c (.d (.bool false))), none⟩ ::
    []))
  .ret) .skip))))
  (.reg (⟨(some 65), .mv (.t 12), none⟩ ::
    ⟨(some 66), .bin .add (.t 65) (.c (.d (.int .i64 1))), none⟩ ::
    ⟨(some 12), .mv (.t 66), none⟩ ::
    [])))))))
  (.seq (.reg (⟨(some 148), .call (.c (.fn 31 [])) [], none⟩ ::
    ⟨(some 8), .mv (.t 148), none⟩ ::
    []))
  .ret)))))) }
/-- garland/garlandlaw14.great -/
def cf8 : CFun := { np := 2, nt := 20, res := [.tmp 4], body :=
  (.seq (.reg (⟨(some 2), .box (.t 0), none⟩ ::
    ⟨(some 3), .box (.t 1), none⟩ ::
    ⟨(some 4), .mv (.c (.d (.bool false))), none⟩ ::
    []))
  (.seq (.reg (⟨(some 5), .ldn 20 (.t 2), none⟩ ::
    ⟨(some 6), .call (.c (.fn 33 [])) [(.t 5)], none⟩ ::
    ⟨(some 7), .mv (.t 6), none⟩ ::
    ⟨(some 8), .off 9 (.t 3), (some (7, false))⟩ ::
    ⟨(some 9), .ld (.t 8), (some (7, false))⟩ ::
    ⟨(some 10), .len false (.t 9), (some (7, false))⟩ ::
    ⟨(some 11), .bin .gtr (.t 10) (.c (.d (.int .i64 20))), (some (7, false))⟩ ::
    ⟨(some 12), .pick (.t 7) (.c (.d (.bool true))) (.t 11), none⟩ ::
    ⟨(some 13), .mv (.t 12), none⟩ ::
    ⟨(some 14), .off 10 (.t 3), (some (13, false))⟩ ::
    ⟨(some 15), .off 0 (.t 14), (some (13, false))⟩ ::
    ⟨(some 16), .ld (.t 15), (some (13, false))⟩ ::
    ⟨(some 17), .len true (.t 16), (some (13, false))⟩ ::
    ⟨(some 18), .bin .gtr (.t 17) (.c (.d (.int .i64 100))), (some (13, false))⟩ ::
    ⟨(some 19), .pick (.t 13) (.c (.d (.bool true))) (.t 18), none⟩ ::
    ⟨(some 4), .mv (.t 19), none⟩ ::
    []))
  .ret)) }
/-- garland/garlandlaw14.wakes -/
def cf9 : CFun := { np := 0, nt := 168, res := [.tmp 0], body :=
  (.seq (.reg (⟨(some 0), .mv (.c (.d (.bool false))), none⟩ ::
    []))
  (.seq (.reg (⟨(some 17), .bls [.d (.int .i64 0), .d (.int .i64 0)] 2 1 [(0, 1, (.c (.d (.int .i64 1)))), (1, 1, (.c (.d (.int .i64 9))))], none⟩ ::
    ⟨(some 18), .call (.c (.fn 34 [])) [(.c (.d (.int .i64 5))), (.t 17)], none⟩ ::
    ⟨(some 16), .mv (.t 18), none⟩ ::
    ⟨(some 19), .ext (.t 16) 0, none⟩ ::
    ⟨(some 20), .ext (.t 16) 1, none⟩ ::
    ⟨(some 1), .new [.d (.int .i64 0), .nils, .nils, .d (.int .i64 0), .d (.int .i64 0), .d (.int .i64 0), .d (.int .i64 0), .d (.int .i64 0), .d (.int .i64 0), .d (.int .i64 0), .d (.int .i64 0), .d (.int .i64 0), .d (.int .i64 0), .d (.int .i64 0), .d (.int .i64 0), .d (.int .i64 0), .d (.int .i64 0), .d (.int .i64 0), .d (.int .i64 0), .d (.int .i64 0)], none⟩ ::
    ⟨none, .st 20 (.t 1) (.t 19), none⟩ ::
    ⟨(some 2), .mv (.t 20), none⟩ ::
    []))
  (.seq (.reg (⟨(some 22), .ldn 20 (.t 1), none⟩ ::
    ⟨(some 23), .bld [.d (.int .u8 0), .d (.int .i64 0)] [], none⟩ ::
    ⟨(some 24), .call (.c (.fn 10 [])) [(.t 22), (.t 23)], none⟩ ::
    ⟨(some 21), .mv (.t 24), none⟩ ::
    ⟨(some 25), .ext (.t 21) 0, none⟩ ::
    ⟨(some 26), .ext (.t 21) 1, none⟩ ::
    ⟨(some 3), .new [.d (.int .u8 0), .d (.int .i64 0)], none⟩ ::
    ⟨none, .st 2 (.t 3) (.t 25), none⟩ ::
    ⟨(some 4), .mv (.t 26), none⟩ ::
    []))
  (.seq (.sreg [5, 6] false (⟨(some 28), .ldn 20 (.t 1), none⟩ ::
    ⟨(some 29), .ldn 2 (.t 3), none⟩ ::
    ⟨(some 30), .bls [.d (.int .i64 0), .d (.int .i64 0)] 2 1 [(0, 1, (.c (.d (.int .i64 1)))), (1, 1, (.c (.d (.int .i64 5))))], none⟩ ::
    ⟨(some 31), .call (.c (.fn 24 [])) [(.c (.d (.int .i64 9))), (.c (.d (.int .i64 5))), (.c (.d (.int .i64 7))), (.t 30)], none⟩ ::
    ⟨(some 32), .call (.c (.fn 13 [])) [(.t 28), (.t 29), (.t 31)], none⟩ ::
    ⟨(some 27), .mv (.t 32), none⟩ ::
    ⟨(some 33), .ext (.t 27) 0, none⟩ ::
    ⟨(some 34), .ext (.t 27) 1, none⟩ ::
    ⟨(some 35), .ext (.t 27) 2, none⟩ ::
    ⟨(some 5), .new [.d (.int .i64 0), .nils, .nils, .d (.int .i64 0), .d (.int .i64 0), .d (.int .i64 0), .d (.int .i64 0), .d (.int .i64 0), .d (.int .i64 0), .d (.int .i64 0), .d (.int .i64 0), .d (.int .i64 0), .d (.int .i64 0), .d (.int .i64 0), .d (.int .i64 0), .d (.int .i64 0), .d (.int .i64 0), .d (.int .i64 0), .d (.int .i64 0), .d (.int .i64 0)], none⟩ ::
    ⟨(some 6), .new [.d (.int .u8 0), .d (.int .i64 0)], none⟩ ::
    ⟨none, .st 20 (.t 5) (.t 33), none⟩ ::
    ⟨none, .st 2 (.t 6) (.t 34), none⟩ ::
    []) (⟨(some 7), .mv (.t 35), none⟩ ::
    []))
  (.seq (.sreg [8, 9] false (⟨(some 37), .ldn 20 (.t 5), none⟩ ::
    ⟨(some 38), .ldn 2 (.t 6), none⟩ ::
    ⟨(some 39), .bls [.d (.int .i64 0), .d (.int .i64 0)] 2 1 [(0, 1, (.c (.d (.int .i64 8)))), (1, 1, (.c (.d (.int .i64 9))))], none⟩ ::
    ⟨(some 40), .call (.c (.fn 24 [])) [(.c (.d (.int .i64 7))), (.c (.d (.int .i64 5))), (.c (.d (.int .i64 (-1)))), (.t 39)], none⟩ ::
    ⟨(some 41), .call (.c (.fn 13 [])) [(.t 37), (.t 38), (.t 40)], none⟩ ::
    ⟨(some 36), .mv (.t 41), none⟩ ::
    ⟨(some 42), .ext (.t 36) 0, none⟩ ::
    ⟨(some 43), .ext (.t 36) 1, none⟩ ::
    ⟨(some 44), .ext (.t 36) 2, none⟩ ::
    ⟨(some 8), .new [.d (.int .i64 0), .nils, .nils, .d (.int .i64 0), .d (.int .i64 0), .d (.int .i64 0), .d (.int .i64 0), .d (.int .i64 0), .d (.int .i64 0), .d (.int .i64 0), .d (.int .i64 0), .d (.int .i64 0), .d (.int .i64 0), .d (.int .i64 0), .d (.int .i64 0), .d (.int .i64 0), .d (.int .i64 0), .d (.int .i64 0), .d (.int .i64 0), .d (.int .i64 0)], none⟩ ::
    ⟨(some 9), .new [.d (.int .u8 0), .d (.int .i64 0)], none⟩ ::
    ⟨none, .st 20 (.t 8) (.t 42), none⟩ ::
    ⟨none, .st 2 (.t 9) (.t 43), none⟩ ::
    []) (⟨(some 10), .mv (.t 44), none⟩ ::
    []))
  (.seq (.reg (⟨(some 46), .ldn 20 (.t 8), none⟩ ::
    ⟨(some 47), .ldn 2 (.t 9), none⟩ ::
    ⟨(some 48), .bld [.d (.int .u8 0), .d (.int .i64 0), .d (.int .i64 0), .d (.int .i64 0), .d (.int .i64 0), .d (.bool false), .d (.bool false), .d (.int .i64 0), .d (.int .i64 0), .nils, .d (.str []), .d (.int .i64 0), .d (.int .i64 0), .d (.bool false), .d (.int .i64 0)] [(0, 1, (.c (.d (.int .u8 9)))), (1, 1, (.c (.d (.int .i64 5242883)))), (2, 1, (.c (.d (.int .i64 7)))), (3, 1, (.c (.d (.int .i64 5))))], none⟩ ::
    ⟨(some 49), .call (.c (.fn 13 [])) [(.t 46), (.t 47), (.t 48)], none⟩ ::
    ⟨(some 45), .mv (.t 49), none⟩ ::
    ⟨(some 50), .ext (.t 45) 0, none⟩ ::
    ⟨(some 51), .ext (.t 45) 1, none⟩ ::
    ⟨(some 52), .ext (.t 45) 2, none⟩ ::
    ⟨(some 11), .new [.d (.int .i64 0), .nils, .nils, .d (.int .i64 0), .d (.int .i64 0), .d (.int .i64 0), .d (.int .i64 0), .d (.int .i64 0), .d (.int .i64 0), .d (.int .i64 0), .d (.int .i64 0), .d (.int .i64 0), .d (.int .i64 0), .d (.int .i64 0), .d (.int .i64 0), .d (.int .i64 0), .d (.int .i64 0), .d (.int .i64 0), .d (.int .i64 0), .d (.int .i64 0)], none⟩ ::
    ⟨(some 12), .new [.d (.int .u8 0), .d (.int .i64 0)], none⟩ ::
    ⟨none, .st 20 (.t 11) (.t 50), none⟩ ::
    ⟨none, .st 2 (.t 12) (.t 51), none⟩ ::
    ⟨(some 13), .mv (.t 52), none⟩ ::
    []))
  (.seq (.reg (⟨(some 54), .ldn 20 (.t 8), none⟩ ::
    ⟨(some 55), .ldn 2 (.t 9), none⟩ ::
    ⟨(some 56), .call (.c (.fn 16 [])) [(.t 54), (.t 55), (.c (.d (.int .i64 7)))], none⟩ ::
    ⟨(some 53), .mv (.t 56), none⟩ ::
    ⟨(some 57), .ext (.t 53) 0, none⟩ ::
    ⟨(some 58), .ext (.t 53) 1, none⟩ ::
    ⟨(some 14), .new [.d (.int .i64 0), .nils, .nils, .d (.int .i64 0), .d (.int .i64 0), .d (.int .i64 0), .d (.int .i64 0), .d (.int .i64 0), .d (.int .i64 0), .d (.int .i64 0), .d (.int .i64 0), .d (.int .i64 0), .d (.int .i64 0), .d (.int .i64 0), .d (.int .i64 0), .d (.int .i64 0), .d (.int .i64 0), .d (.int .i64 0), .d (.int .i64 0), .d (.int .i64 0)], none⟩ ::
    ⟨(some 15), .new [.d (.int .u8 0), .d (.int .i64 0)], none⟩ ::
    ⟨none, .st 20 (.t 14) (.t 57), none⟩ ::
    ⟨none, .st 2 (.t 15) (.t 58), none⟩ ::
    []))
  (.seq (.seq (.reg (⟨(some 59), .mv (.t 4), none⟩ ::
    ⟨(some 60), .len false (.t 59), none⟩ ::
    ⟨(some 61), .bin .neq (.t 60) (.c (.d (.int .i64 1))), none⟩ ::
    ⟨(some 62), .mv (.t 61), none⟩ ::
    ⟨(some 63), .mv (.t 7), (some (62, false))⟩ ::
    ⟨(some 64), .len false (.t 63), (some (62, false))⟩ ::
    ⟨(some 65), .bin .neq (.t 64) (.c (.d (.int .i64 1))), (some (62, false))⟩ ::
    ⟨(some 66), .pick (.t 62) (.c (.d (.bool true))) (.t 65), none⟩ ::
    ⟨(some 67), .mv (.t 66), none⟩ ::
    ⟨(some 68), .mv (.t 10), (some (67, false))⟩ ::
    ⟨(some 69), .len false (.t 68), (some (67, false))⟩ ::
    ⟨(some 70), .bin .neq (.t 69) (.c (.d (.int .i64 1))), (some (67, false))⟩ ::
    ⟨(some 71), .pick (.t 67) (.c (.d (.bool true))) (.t 70), none⟩ ::
    []))
  (.cond (.t 71) (.seq (.reg (⟨(some 0), .mv (.c (.d (.bool false))), none⟩ ::
    []))
  .ret) .skip))
  (.seq (.reg (⟨(some 72), .ldn 2 (.t 3), none⟩ ::
    ⟨(some 73), .bld [.d (.int .u8 0), .d (.int .i64 0)] [(0, 1, (.c (.d (.int .u8 1)))), (1, 1, (.c (.d (.int .i64 9))))], none⟩ ::
    ⟨(some 74), .eqs false [0, 0] (.t 72) (.t 73), none⟩ ::
    ⟨(some 75), .mv (.t 74), none⟩ ::
    ⟨(some 76), .mv (.t 4), (some (75, true))⟩ ::
    ⟨(some 77), .ixs 16 (.t 76) (.c (.d (.int .i64 0))), (some (75, true))⟩ ::
    ⟨(some 78), .off 0 (.t 77), (some (75, true))⟩ ::
    ⟨(some 79), .off 3 (.t 78), (some (75, true))⟩ ::
    ⟨(some 80), .ld (.t 79), (some (75, true))⟩ ::
    ⟨(some 81), .bin .eql (.t 80) (.c (.d (.int .i64 9))), (some (75, true))⟩ ::
    ⟨(some 82), .pick (.t 75) (.t 81) (.c (.d (.bool false))), none⟩ ::
    ⟨(some 83), .mv (.t 82), none⟩ ::
    ⟨(some 84), .mv (.t 4), (some (83, true))⟩ ::
    ⟨(some 85), .ixs 16 (.t 84) (.c (.d (.int .i64 0))), (some (83, true))⟩ ::
    ⟨(some 86), .off 15 (.t 85), (some (83, true))⟩ ::
    ⟨(some 87), .ld (.t 86), (some (83, true))⟩ ::
    ⟨(some 88), .bin .eql (.t 87) (.c (.d (.int .u8 1))), (some (83, true))⟩ ::
    ⟨(some 89), .pick (.t 83) (.t 88) (.c (.d (.bool false))), none⟩ ::
    ⟨(some 90), .mv (.t 89), none⟩ ::
    ⟨(some 91), .off 2 (.t 5), (some (90, true))⟩ ::
    ⟨(some 92), .ld (.t 91), (some (90, true))⟩ ::
    ⟨(some 93), .bls [.d (.int .i64 0), .d (.int .i64 0)] 2 1 [(0, 1, (.c (.d (.int .i64 9)))), (1, 1, (.c (.d (.int .i64 1))))], (some (90, true))⟩ ::
    ⟨(some 94), .call (.c (.fn 35 [])) [(.t 92), (.t 93)], (some (90, true))⟩ ::
    ⟨(some 95), .pick (.t 90) (.t 94) (.c (.d (.bool false))), none⟩ ::
    ⟨(some 96), .mv (.t 95), none⟩ ::
    ⟨(some 97), .ldn 2 (.t 6), (some (96, true))⟩ ::
    ⟨(some 98), .bld [.d (.int .u8 0), .d (.int .i64 0)] [(0, 1, (.c (.d (.int .u8 2)))), (1, 1, (.c (.d (.int .i64 7))))], (some (96, true))⟩ ::
    ⟨(some 99), .eqs false [0, 0] (.t 97) (.t 98), (some (96, true))⟩ ::
    ⟨(some 100), .pick (.t 96) (.t 99) (.c (.d (.bool false))), none⟩ ::
    ⟨(some 101), .mv (.t 100), none⟩ ::
    ⟨(some 102), .mv (.t 7), (some (101, true))⟩ ::
    ⟨(some 103), .ixs 16 (.t 102) (.c (.d (.int .i64 0))), (some (101, true))⟩ ::
    ⟨(some 104), .off 0 (.t 103), (some (101, true))⟩ ::
    ⟨(some 105), .off 3 (.t 104), (some (101, true))⟩ ::
    ⟨(some 106), .ld (.t 105), (some (101, true))⟩ ::
    ⟨(some 107), .bin .eql (.t 106) (.c (.d (.int .i64 7))), (some (101, true))⟩ ::
    ⟨(some 108), .pick (.t 101) (.t 107) (.c (.d (.bool false))), none⟩ ::
    ⟨(some 109), .mv (.t 108), none⟩ ::
    ⟨(some 110), .off 2 (.t 8), (some (109, true))⟩ ::
    ⟨(some 111), .ld (.t 110), (some (109, true))⟩ ::
    ⟨(some 112), .bls [.d (.int .i64 0), .d (.int .i64 0), .d (.int .i64 0)] 3 1 [(0, 1, (.c (.d (.int .i64 7)))), (1, 1, (.c (.d (.int .i64 8)))), (2, 1, (.c (.d (.int .i64 9))))], (some (109, true))⟩ ::
    ⟨(some 113), .call (.c (.fn 35 [])) [(.t 111), (.t 112)], (some (109, true))⟩ ::
    ⟨(some 114), .pick (.t 109) (.t 113) (.c (.d (.bool false))), none⟩ ::
    ⟨(some 115), .mv (.t 114), none⟩ ::
    ⟨(some 116), .ldn 2 (.t 9), (some (115, true))⟩ ::
    ⟨(some 117), .bld [.d (.int .u8 0), .d (.int .i64 0)] [(0, 1, (.c (.d (.int .u8 3)))), (1, 1, (.c (.d (.int .i64 7))))], (some (115, true))⟩ ::
    ⟨(some 118), .eqs false [0, 0] (.t 116) (.t 117), (some (115, true))⟩ ::
    ⟨(some 119), .pick (.t 115) (.t 118) (.c (.d (.bool false))), none⟩ ::
    ⟨(some 120), .mv (.t 119), none⟩ ::
    ⟨(some 121), .mv (.t 10), (some (120, true))⟩ ::
    ⟨(some 122), .ixs 16 (.t 121) (.c (.d (.int .i64 0))), (some (120, true))⟩ ::
    ⟨(some 123), .off 0 (.t 122), (some (120, true))⟩ ::
    ⟨(some 124), .off 0 (.t 123), (some (120, true))⟩ ::
    ⟨(some 125), .ld (.t 124), (some (120, true))⟩ ::
    ⟨(some 126), .bin .eql (.t 125) (.c (.d (.int .u8 3))), (some (120, true))⟩ ::
    ⟨(some 127), .pick (.t 120) (.t 126) (.c (.d (.bool false))), none⟩ ::
    ⟨(some 128), .mv (.t 127), none⟩ ::
    ⟨(some 129), .ldn 2 (.t 12), (some (128, true))⟩ ::
    ⟨(some 130), .bld [.d (.int .u8 0), .d (.int .i64 0)] [], (some (128, true))⟩ ::
    ⟨(some 131), .eqs false [0, 0] (.t 129) (.t 130), (some (128, true))⟩ ::
    ⟨(some 132), .pick (.t 128) (.t 131) (.c (.d (.bool false))), none⟩ ::
    ⟨(some 133), .mv (.t 132), none⟩ ::
    ⟨(some 134), .mv (.t 13), (some (133, true))⟩ ::
    ⟨(some 135), .len false (.t 134), (some (133, true))⟩ ::
    ⟨(some 136), .bin .eql (.t 135) (.c (.d (.int .i64 0))), (some (133, true))⟩ ::
    ⟨(some 137), .pick (.t 133) (.t 136) (.c (.d (.bool false))), none⟩ ::
    ⟨(some 138), .mv (.t 137), none⟩ ::
    ⟨(some 139), .ldn 20 (.t 11), (some (138, true))⟩ ::
    ⟨(some 140), .ldn 20 (.t 8), (some (138, true))⟩ ::
    ⟨(some 141), .call (.c (.fn 15 [])) [(.t 139), (.t 140)], (some (138, true))⟩ ::
    ⟨(some 142), .pick (.t 138) (.t 141) (.c (.d (.bool false))), none⟩ ::
    ⟨(some 143), .mv (.t 142), none⟩ ::
    ⟨(some 144), .off 2 (.t 14), (some (143, true))⟩ ::
    ⟨(some 145), .ld (.t 144), (some (143, true))⟩ ::
    ⟨(some 146), .bls [.d (.int .i64 0), .d (.int .i64 0)] 2 1 [(0, 1, (.c (.d (.int .i64 8)))), (1, 1, (.c (.d (.int .i64 9))))], (some (143, true))⟩ ::
    ⟨(some 147), .call (.c (.fn 35 [])) [(.t 145), (.t 146)], (some (143, true))⟩ ::
    ⟨(some 148), .pick (.t 143) (.t 147) (.c (.d (.bool false))), none⟩ ::
    ⟨(some 149), .mv (.t 148), none⟩ ::
    ⟨(some 150), .ldn 2 (.t 15), (some (149, true))⟩ ::
    ⟨(some 151), .bld [.d (.int .u8 0), .d (.int .i64 0)] [], (some (149, true))⟩ ::
    ⟨(some 152), .eqs false [0, 0] (.t 150) (.t 151), (some (149, true))⟩ ::
    ⟨(some 153), .pick (.t 149) (.t 152) (.c (.d (.bool false))), none⟩ ::
    ⟨(some 154), .mv (.t 153), none⟩ ::
    ⟨(some 155), .ldn 2 (.t 6), (some (154, true))⟩ ::
    ⟨(some 156), .call (.c (.fn 20 [])) [(.t 155)], (some (154, true))⟩ ::
    ⟨(some 157), .bin .eql (.t 156) (.c (.d (.int .u8 2))), (some (154, true))⟩ ::
    ⟨(some 158), .pick (.t 154) (.t 157) (.c (.d (.bool false))), none⟩ ::
    ⟨(some 159), .mv (.t 158), none⟩ ::
    ⟨(some 160), .ldn 2 (.t 6), (some (159, true))⟩ ::
    ⟨(some 161), .call (.c (.fn 18 [])) [(.t 160)], (some (159, true))⟩ ::
    ⟨(some 162), .pick (.t 159) (.t 161) (.c (.d (.bool false))), none⟩ ::
    ⟨(some 163), .mv (.t 162), none⟩ ::
    ⟨(some 164), .bld [.d (.int .u8 0), .d (.int .i64 0)] [(1, 1, (.c (.d (.int .i64 1))))], (some (163, true))⟩ ::
    ⟨(some 165), .call (.c (.fn 18 [])) [(.t 164)], (some (163, true))⟩ ::
    ⟨(some 166), .not (.t 165), (some (163, true))⟩ ::
    ⟨(some 167), .pick (.t 163) (.t 166) (.c (.d (.bool false))), none⟩ ::
    ⟨(some 0), .mv (.t 167), none⟩ ::
    []))
  .ret))))))))) }
/-- garland/stab.Begin -/
def cf10 : CFun := { np := 2, nt := 22, res := [.cells 4 2, .tmp 5], body :=
  (.seq (.reg (⟨(some 2), .box (.t 0), none⟩ ::
    ⟨(some 3), .box (.t 1), none⟩ ::
    ⟨(some 4), .new [.d (.int .u8 0), .d (.int .i64 0)], none⟩ ::
    ⟨(some 5), .mv (.c (.nils)), none⟩ ::
    []))
  (.seq (.seq (.reg (⟨(some 6), .ldn 2 (.t 3), none⟩ ::
    ⟨(some 7), .bld [.d (.int .u8 0), .d (.int .i64 0)] [], none⟩ ::
    ⟨(some 8), .eqs true [0, 0] (.t 6) (.t 7), none⟩ ::
    ⟨(some 9), .mv (.t 8), none⟩ ::
    ⟨(some 10), .ldn 20 (.t 2), (some (9, false))⟩ ::
    ⟨(some 11), .call (.c (.fn 36 [])) [(.t 10)], (some (9, false))⟩ ::
    ⟨(some 12), .not (.t 11), (some (9, false))⟩ ::
    ⟨(some 13), .pick (.t 9) (.c (.d (.bool true))) (.t 12), none⟩ ::
    []))
  (.cond (.t 13) (.seq (.reg (⟨(some 14), .ldn 2 (.t 3), none⟩ ::
    ⟨none, .st 2 (.t 4) (.t 14), none⟩ ::
    ⟨(some 5), .mv (.c (.nils)), none⟩ ::
    []))
  .ret) .skip))
  (.seq (.reg (⟨(some 15), .ldn 20 (.t 2), none⟩ ::
    ⟨(some 16), .call (.c (.fn 37 [])) [(.t 15)], none⟩ ::
    ⟨(some 17), .bld [.d (.int .u8 0), .d (.int .i64 0)] [(0, 1, (.c (.d (.int .u8 1)))), (1, 1, (.t 16))], none⟩ ::
    ⟨none, .st 2 (.t 3) (.t 17), none⟩ ::
    []))
  (.seq (.dreg (⟨(some 18), .ldn 2 (.t 3), none⟩ ::
    ⟨(some 19), .ldn 2 (.t 3), none⟩ ::
    ⟨(some 20), .call (.c (.fn 39 [])) [(.t 19)], none⟩ ::
    ⟨(some 21), .call (.c (.fn 38 [])) [(.t 20)], none⟩ ::
    []) (⟨none, .st 2 (.t 4) (.t 18), none⟩ ::
    ⟨(some 5), .mv (.t 21), none⟩ ::
    []))
  .ret)))) }
/-- garland/garlandref14.Begin -/
def cf11 : CFun := { np := 2, nt := 26, res := [.cells 4 2, .tmp 5], body :=
  (.seq (.reg (⟨(some 2), .box (.t 0), none⟩ ::
    ⟨(some 3), .box (.t 1), none⟩ ::
    ⟨(some 4), .new [.d (.int .u8 0), .d (.int .i64 0)], none⟩ ::
    ⟨(some 5), .mv (.c (.nils)), none⟩ ::
    []))
  (.seq (.seq (.reg (⟨(some 6), .ldn 20 (.t 2), none⟩ ::
    ⟨(some 7), .call (.c (.fn 22 [])) [(.t 6)], none⟩ ::
    ⟨(some 8), .not (.t 7), none⟩ ::
    ⟨(some 9), .mv (.t 8), none⟩ ::
    ⟨(some 10), .ldn 2 (.t 3), (some (9, false))⟩ ::
    ⟨(some 11), .call (.c (.fn 19 [])) [(.t 10)], (some (9, false))⟩ ::
    ⟨(some 12), .not (.t 11), (some (9, false))⟩ ::
    ⟨(some 13), .pick (.t 9) (.c (.d (.bool true))) (.t 12), none⟩ ::
    ⟨(some 14), .mv (.t 13), none⟩ ::
    ⟨(some 15), .off 0 (.t 3), (some (14, false))⟩ ::
    ⟨(some 16), .ld (.t 15), (some (14, false))⟩ ::
    ⟨(some 17), .bin .neq (.t 16) (.c (.d (.int .u8 0))), (some (14, false))⟩ ::
    ⟨(some 18), .pick (.t 14) (.c (.d (.bool true))) (.t 17), none⟩ ::
    []))
  (.cond (.t 18) (.seq (.reg (⟨(some 19), .ldn 2 (.t 3), none⟩ ::
    ⟨none, .st 2 (.t 4) (.t 19), none⟩ ::
    ⟨(some 5), .mv (.c (.nils)), none⟩ ::
    []))
  .ret) .skip))
  (.seq (.reg (⟨(some 20), .ldn 20 (.t 2), none⟩ ::
    ⟨(some 21), .call (.c (.fn 40 [])) [(.t 20)], none⟩ ::
    ⟨(some 22), .bld [.d (.int .u8 0), .d (.int .i64 0)] [(0, 1, (.c (.d (.int .u8 1)))), (1, 1, (.t 21))], none⟩ ::
    ⟨none, .st 2 (.t 3) (.t 22), none⟩ ::
    []))
  (.seq (.dreg (⟨(some 23), .ldn 2 (.t 3), none⟩ ::
    ⟨(some 24), .ldn 2 (.t 3), none⟩ ::
    ⟨(some 25), .call (.c (.fn 41 [])) [(.t 24)], none⟩ ::
    []) (⟨none, .st 2 (.t 4) (.t 23), none⟩ ::
    ⟨(some 5), .mv (.t 25), none⟩ ::
    []))
  .ret)))) }
/-- garland/garlandref14.Asks -/
def cf12 : CFun := { np := 2, nt := 42, res := [.tmp 4], body :=
  (.seq (.reg (⟨(some 4), .mv (.c (.d (.bool false))), none⟩ ::
    []))
  (.seq (.seq (.reg (⟨(some 6), .mv (.t 0), none⟩ ::
    ⟨(some 7), .len false (.t 6), none⟩ ::
    ⟨(some 8), .mv (.t 1), none⟩ ::
    ⟨(some 9), .len false (.t 8), none⟩ ::
    ⟨(some 10), .bin .neq (.t 7) (.t 9), none⟩ ::
    []))
  (.cond (.t 10) (.seq (.reg (⟨(some 4), .mv (.c (.d (.bool false))), none⟩ ::
    []))
  .ret) .skip))
  (.seq (.seq (.reg (⟨(some 5), .mv (.c (.d (.int .i64 0))), none⟩ ::
    []))
  (.block 0 (.loop [0, 1, 5] (.seq (.seq (.reg (⟨(some 11), .mv (.t 5), none⟩ ::
    ⟨(some 12), .mv (.t 0), none⟩ ::
    ⟨(some 13), .len false (.t 12), none⟩ ::
    ⟨(some 14), .bin .lss (.t 11) (.t 13), none⟩ ::
    []))
  (.cond (.t 14) .skip (.exit 0)))
  (.seq (.block 1 (.seq (.dreg (⟨(some 17), .mv (.t 0), none⟩ ::
    ⟨(some 18), .mv (.t 5), none⟩ ::
    ⟨(some 19), .ixs 16 (.t 17) (.t 18), none⟩ ::
    ⟨(some 20), .off 15 (.t 19), none⟩ ::
    ⟨(some 21), .ld (.t 20), none⟩ ::
    ⟨(some 22), .mv (.t 1), none⟩ ::
    ⟨(some 23), .mv (.t 5), none⟩ ::
    ⟨(some 24), .ixs 16 (.t 22) (.t 23), none⟩ ::
    ⟨(some 25), .off 15 (.t 24), none⟩ ::
    ⟨(some 26), .ld (.t 25), none⟩ ::
    ⟨(some 27), .bin .neq (.t 21) (.t 26), none⟩ ::
    ⟨(some 28), .mv (.t 27), none⟩ ::
    ⟨(some 29), .mv (.t 0), (some (28, false))⟩ ::
    ⟨(some 30), .mv (.t 5), (some (28, false))⟩ ::
    ⟨(some 31), .ixs 16 (.t 29) (.t 30), (some (28, false))⟩ ::
    ⟨(some 32), .off 0 (.t 31), (some (28, false))⟩ ::
    ⟨(some 33), .ldn 15 (.t 32), (some (28, false))⟩ ::
    ⟨(some 34), .mv (.t 1), (some (28, false))⟩ ::
    ⟨(some 35), .mv (.t 5), (some (28, false))⟩ ::
    ⟨(some 36), .ixs 16 (.t 34) (.t 35), (some (28, false))⟩ ::
    ⟨(some 37), .off 0 (.t 36), (some (28, false))⟩ ::
    ⟨(some 38), .ldn 15 (.t 37), (some (28, false))⟩ ::
    ⟨(some 39), .call (.c (.fn 42 [])) [(.t 33), (.t 38)], (some (28, false))⟩ ::
    ⟨(some 40), .not (.t 39), (some (28, false))⟩ ::
    ⟨(some 41), .pick (.t 28) (.c (.d (.bool true))) (.t 40), none⟩ ::
    []) ([]))
  (.cond (.t 41) (.seq (.reg (⟨(some 4), .mv (.c (.d (.bool false))), none⟩ ::
    []))
  .ret) .skip)))
  (.reg (⟨(some 15), .mv (.t 5), none⟩ ::
    ⟨(some 16), .bin .add (.t 15) (.c (.d (.int .i64 1))), none⟩ ::
    ⟨(some 5), .mv (.t 16), none⟩ ::
    [])))))))
  (.seq (.reg (⟨(some 4), .mv (.c (.d (.bool true))), none⟩ ::
    []))
  .ret)))) }
/-- garland/stab.Told -/
def cf13 : CFun := { np := 3, nt := 97, res := [.cells 6 20, .cells 7 2, .tmp 8], body :=
  (.seq (.reg (⟨(some 3), .box (.t 0), none⟩ ::
    ⟨(some 4), .box (.t 1), none⟩ ::
    ⟨(some 5), .box (.t 2), none⟩ ::
    ⟨(some 6), .new [.d (.int .i64 0), .nils, .nils, .d (.int .i64 0), .d (.int .i64 0), .d (.int .i64 0), .d (.int .i64 0), .d (.int .i64 0), .d (.int .i64 0), .d (.int .i64 0), .d (.int .i64 0), .d (.int .i64 0), .d (.int .i64 0), .d (.int .i64 0), .d (.int .i64 0), .d (.int .i64 0), .d (.int .i64 0), .d (.int .i64 0), .d (.int .i64 0), .d (.int .i64 0)], none⟩ ::
    ⟨(some 7), .new [.d (.int .u8 0), .d (.int .i64 0)], none⟩ ::
    ⟨(some 8), .mv (.c (.nils)), none⟩ ::
    []))
  (.scope [6, 7] (.seq (.sreg [6] true (⟨(some 10), .ldn 20 (.t 3), none⟩ ::
    ⟨(some 11), .call (.c (.fn 43 [])) [(.t 10)], none⟩ ::
    ⟨(some 12), .ldn 2 (.t 4), none⟩ ::
    ⟨none, .st 20 (.t 6) (.t 11), none⟩ ::
    []) (⟨none, .st 2 (.t 7) (.t 12), none⟩ ::
    []))
  (.seq (.seq (.reg (⟨(some 13), .ldn 20 (.t 3), none⟩ ::
    ⟨(some 14), .call (.c (.fn 36 [])) [(.t 13)], none⟩ ::
    ⟨(some 15), .not (.t 14), none⟩ ::
    ⟨(some 16), .mv (.t 15), none⟩ ::
    ⟨(some 17), .ldn 2 (.t 4), (some (16, false))⟩ ::
    ⟨(some 18), .call (.c (.fn 18 [])) [(.t 17)], (some (16, false))⟩ ::
    ⟨(some 19), .not (.t 18), (some (16, false))⟩ ::
    ⟨(some 20), .pick (.t 16) (.c (.d (.bool true))) (.t 19), none⟩ ::
    ⟨(some 21), .mv (.t 20), none⟩ ::
    ⟨(some 22), .ldn 15 (.t 5), (some (21, false))⟩ ::
    ⟨(some 23), .call (.c (.fn 44 [])) [(.t 22)], (some (21, false))⟩ ::
    ⟨(some 24), .not (.t 23), (some (21, false))⟩ ::
    ⟨(some 25), .pick (.t 21) (.c (.d (.bool true))) (.t 24), none⟩ ::
    ⟨(some 26), .mv (.t 25), none⟩ ::
    ⟨(some 27), .off 2 (.t 5), (some (26, false))⟩ ::
    ⟨(some 28), .ld (.t 27), (some (26, false))⟩ ::
    ⟨(some 29), .off 1 (.t 4), (some (26, false))⟩ ::
    ⟨(some 30), .ld (.t 29), (some (26, false))⟩ ::
    ⟨(some 31), .bin .neq (.t 28) (.t 30), (some (26, false))⟩ ::
    ⟨(some 32), .pick (.t 26) (.c (.d (.bool true))) (.t 31), none⟩ ::
    ⟨(some 33), .mv (.t 32), none⟩ ::
    ⟨(some 34), .off 3 (.t 5), (some (33, false))⟩ ::
    ⟨(some 35), .ld (.t 34), (some (33, false))⟩ ::
    ⟨(some 36), .off 0 (.t 3), (some (33, false))⟩ ::
    ⟨(some 37), .ld (.t 36), (some (33, false))⟩ ::
    ⟨(some 38), .bin .neq (.t 35) (.t 37), (some (33, false))⟩ ::
    ⟨(some 39), .pick (.t 33) (.c (.d (.bool true))) (.t 38), none⟩ ::
    []))
  (.cond (.t 39) (.goto 0) .skip))
  (.seq (.seq (.reg (⟨(some 40), .off 0 (.t 4), none⟩ ::
    ⟨(some 41), .ld (.t 40), none⟩ ::
    ⟨(some 42), .ixa 4 2 (.c (.iptr [.int .u8 0, .int .u8 0, .int .u8 1, .int .u8 1, .int .u8 1, .int .u8 2, .int .u8 3, .int .u8 3])) (.t 41), none⟩ ::
    ⟨(some 43), .off 0 (.t 42), none⟩ ::
    ⟨(some 44), .ld (.t 43), none⟩ ::
    ⟨(some 9), .mv (.t 44), none⟩ ::
    []))
  (.seq (.reg (⟨(some 45), .mv (.t 9), none⟩ ::
    ⟨(some 46), .bin .eql (.t 45) (.c (.d (.int .u8 0))), none⟩ ::
    ⟨(some 47), .mv (.t 46), none⟩ ::
    ⟨(some 48), .off 0 (.t 5), (some (47, false))⟩ ::
    ⟨(some 49), .ld (.t 48), (some (47, false))⟩ ::
    ⟨(some 50), .mv (.t 9), (some (47, false))⟩ ::
    ⟨(some 51), .bin .add (.t 50) (.c (.d (.int .u8 6))), (some (47, false))⟩ ::
    ⟨(some 52), .bin .neq (.t 49) (.t 51), (some (47, false))⟩ ::
    ⟨(some 53), .pick (.t 47) (.c (.d (.bool true))) (.t 52), none⟩ ::
    []))
  (.cond (.t 53) (.goto 0) .skip)))
  (.seq (.seq (.reg (⟨(some 54), .off 0 (.t 4), none⟩ ::
    ⟨(some 55), .ld (.t 54), none⟩ ::
    ⟨(some 56), .bin .eql (.t 55) (.c (.d (.int .u8 3))), none⟩ ::
    []))
  (.cond (.t 56) (.seq (.reg (⟨(some 57), .ldn 20 (.t 6), none⟩ ::
    ⟨(some 58), .bld [.d (.int .u8 0), .d (.int .i64 0)] [], none⟩ ::
    ⟨none, .st 20 (.t 6) (.t 57), none⟩ ::
    ⟨none, .st 2 (.t 7) (.t 58), none⟩ ::
    ⟨(some 8), .mv (.c (.nils)), none⟩ ::
    []))
  .ret) .skip))
  (.seq (.reg (⟨(some 59), .off 0 (.t 6), none⟩ ::
    ⟨(some 60), .ld (.t 59), none⟩ ::
    ⟨(some 61), .off 2 (.t 5), none⟩ ::
    ⟨(some 62), .ld (.t 61), none⟩ ::
    ⟨(some 63), .off 9 (.t 5), none⟩ ::
    ⟨(some 64), .ld (.t 63), none⟩ ::
    ⟨(some 65), .call (.c (.fn 45 [])) [(.t 60), (.t 62), (.t 64)], none⟩ ::
    ⟨(some 66), .off 2 (.t 6), none⟩ ::
    ⟨none, .st 1 (.t 66) (.t 65), none⟩ ::
    []))
  (.seq (.seq (.reg (⟨(some 67), .ldn 20 (.t 6), none⟩ ::
    ⟨(some 68), .call (.c (.fn 37 [])) [(.t 67)], none⟩ ::
    ⟨(some 69), .bld [.d (.int .u8 0), .d (.int .i64 0)] [(0, 1, (.c (.d (.int .u8 3)))), (1, 1, (.t 68))], none⟩ ::
    ⟨none, .st 2 (.t 7) (.t 69), none⟩ ::
    []))
  (.seq (.reg (⟨(some 70), .off 0 (.t 4), none⟩ ::
    ⟨(some 71), .ld (.t 70), none⟩ ::
    ⟨(some 72), .bin .eql (.t 71) (.c (.d (.int .u8 1))), none⟩ ::
    ⟨(some 73), .mv (.t 72), none⟩ ::
    ⟨(some 74), .off 8 (.t 5), (some (73, true))⟩ ::
    ⟨(some 75), .ld (.t 74), (some (73, true))⟩ ::
    ⟨(some 76), .bin .geq (.t 75) (.c (.d (.int .i64 0))), (some (73, true))⟩ ::
    ⟨(some 77), .pick (.t 73) (.t 76) (.c (.d (.bool false))), none⟩ ::
    ⟨(some 78), .mv (.t 77), none⟩ ::
    ⟨(some 79), .off 0 (.t 6), (some (78, true))⟩ ::
    ⟨(some 80), .ld (.t 79), (some (78, true))⟩ ::
    ⟨(some 81), .off 8 (.t 5), (some (78, true))⟩ ::
    ⟨(some 82), .ld (.t 81), (some (78, true))⟩ ::
    ⟨(some 83), .off 2 (.t 5), (some (78, true))⟩ ::
    ⟨(some 84), .ld (.t 83), (some (78, true))⟩ ::
    ⟨(some 85), .call (.c (.fn 46 [])) [(.t 80), (.t 82), (.t 84)], (some (78, true))⟩ ::
    ⟨(some 86), .pick (.t 78) (.t 85) (.c (.d (.bool false))), none⟩ ::
    []))
  (.cond (.t 86) (.reg (⟨(some 87), .off 8 (.t 5), none⟩ ::
    ⟨(some 88), .ld (.t 87), none⟩ ::
    ⟨(some 89), .bld [.d (.int .u8 0), .d (.int .i64 0)] [(0, 1, (.c (.d (.int .u8 2)))), (1, 1, (.t 88))], none⟩ ::
    ⟨none, .st 2 (.t 7) (.t 89), none⟩ ::
    [])) .skip)))
  (.seq (.seq (.sreg [6] true (⟨(some 90), .ldn 20 (.t 6), none⟩ ::
    ⟨(some 91), .ldn 2 (.t 7), none⟩ ::
    ⟨(some 92), .ldn 2 (.t 7), none⟩ ::
    ⟨(some 93), .call (.c (.fn 39 [])) [(.t 92)], none⟩ ::
    ⟨(some 94), .call (.c (.fn 38 [])) [(.t 93)], none⟩ ::
    ⟨none, .st 20 (.t 6) (.t 90), none⟩ ::
    []) (⟨none, .st 2 (.t 7) (.t 91), none⟩ ::
    ⟨(some 8), .mv (.t 94), none⟩ ::
    []))
  .ret)
  (.seq (.label 0)
  (.seq (.sreg [6] true (⟨(some 95), .ldn 20 (.t 6), none⟩ ::
    ⟨(some 96), .ldn 2 (.t 7), none⟩ ::
    ⟨none, .st 20 (.t 6) (.t 95), none⟩ ::
    []) (⟨none, .st 2 (.t 7) (.t 96), none⟩ ::
    ⟨(some 8), .mv (.c (.nils)), none⟩ ::
    []))
  .ret))))))))))) }
/-- garland/garlandref14.Told -/
def cf14 : CFun := { np := 3, nt := 58, res := [.cells 6 20, .cells 7 2, .tmp 8], body :=
  (.seq (.reg (⟨(some 3), .box (.t 0), none⟩ ::
    ⟨(some 4), .box (.t 1), none⟩ ::
    ⟨(some 5), .box (.t 2), none⟩ ::
    ⟨(some 6), .new [.d (.int .i64 0), .nils, .nils, .d (.int .i64 0), .d (.int .i64 0), .d (.int .i64 0), .d (.int .i64 0), .d (.int .i64 0), .d (.int .i64 0), .d (.int .i64 0), .d (.int .i64 0), .d (.int .i64 0), .d (.int .i64 0), .d (.int .i64 0), .d (.int .i64 0), .d (.int .i64 0), .d (.int .i64 0), .d (.int .i64 0), .d (.int .i64 0), .d (.int .i64 0)], none⟩ ::
    ⟨(some 7), .new [.d (.int .u8 0), .d (.int .i64 0)], none⟩ ::
    ⟨(some 8), .mv (.c (.nils)), none⟩ ::
    []))
  (.seq (.reg (⟨(some 9), .ldn 20 (.t 3), none⟩ ::
    ⟨(some 10), .call (.c (.fn 28 [])) [(.t 9)], none⟩ ::
    ⟨none, .st 20 (.t 3) (.t 10), none⟩ ::
    []))
  (.seq (.seq (.reg (⟨(some 11), .ldn 20 (.t 3), none⟩ ::
    ⟨(some 12), .ldn 2 (.t 4), none⟩ ::
    ⟨(some 13), .ldn 15 (.t 5), none⟩ ::
    ⟨(some 14), .call (.c (.fn 47 [])) [(.t 11), (.t 12), (.t 13)], none⟩ ::
    ⟨(some 15), .not (.t 14), none⟩ ::
    []))
  (.cond (.t 15) (.seq (.sreg [6] true (⟨(some 16), .ldn 20 (.t 3), none⟩ ::
    ⟨(some 17), .ldn 2 (.t 4), none⟩ ::
    ⟨none, .st 20 (.t 6) (.t 16), none⟩ ::
    []) (⟨none, .st 2 (.t 7) (.t 17), none⟩ ::
    ⟨(some 8), .mv (.c (.nils)), none⟩ ::
    []))
  .ret) .skip))
  (.seq (.seq (.reg (⟨(some 18), .off 0 (.t 4), none⟩ ::
    ⟨(some 19), .ld (.t 18), none⟩ ::
    ⟨(some 20), .bin .eql (.t 19) (.c (.d (.int .u8 3))), none⟩ ::
    []))
  (.cond (.t 20) (.seq (.reg (⟨(some 21), .ldn 20 (.t 3), none⟩ ::
    ⟨(some 22), .bld [.d (.int .u8 0), .d (.int .i64 0)] [], none⟩ ::
    ⟨none, .st 20 (.t 6) (.t 21), none⟩ ::
    ⟨none, .st 2 (.t 7) (.t 22), none⟩ ::
    ⟨(some 8), .mv (.c (.nils)), none⟩ ::
    []))
  .ret) .skip))
  (.seq (.reg (⟨(some 23), .off 0 (.t 3), none⟩ ::
    ⟨(some 24), .ld (.t 23), none⟩ ::
    ⟨(some 25), .off 2 (.t 5), none⟩ ::
    ⟨(some 26), .ld (.t 25), none⟩ ::
    ⟨(some 27), .off 9 (.t 5), none⟩ ::
    ⟨(some 28), .ld (.t 27), none⟩ ::
    ⟨(some 29), .call (.c (.fn 48 [])) [(.t 24), (.t 26), (.t 28)], none⟩ ::
    ⟨(some 30), .off 2 (.t 3), none⟩ ::
    ⟨none, .st 1 (.t 30) (.t 29), none⟩ ::
    []))
  (.seq (.seq (.reg (⟨(some 31), .off 0 (.t 4), none⟩ ::
    ⟨(some 32), .ld (.t 31), none⟩ ::
    ⟨(some 33), .bin .eql (.t 32) (.c (.d (.int .u8 1))), none⟩ ::
    ⟨(some 34), .mv (.t 33), none⟩ ::
    ⟨(some 35), .off 8 (.t 5), (some (34, true))⟩ ::
    ⟨(some 36), .ld (.t 35), (some (34, true))⟩ ::
    ⟨(some 37), .bin .geq (.t 36) (.c (.d (.int .i64 0))), (some (34, true))⟩ ::
    ⟨(some 38), .pick (.t 34) (.t 37) (.c (.d (.bool false))), none⟩ ::
    ⟨(some 39), .mv (.t 38), none⟩ ::
    ⟨(some 40), .off 0 (.t 3), (some (39, true))⟩ ::
    ⟨(some 41), .ld (.t 40), (some (39, true))⟩ ::
    ⟨(some 42), .off 8 (.t 5), (some (39, true))⟩ ::
    ⟨(some 43), .ld (.t 42), (some (39, true))⟩ ::
    ⟨(some 44), .off 2 (.t 5), (some (39, true))⟩ ::
    ⟨(some 45), .ld (.t 44), (some (39, true))⟩ ::
    ⟨(some 46), .call (.c (.fn 27 [])) [(.t 41), (.t 43), (.t 45)], (some (39, true))⟩ ::
    ⟨(some 47), .pick (.t 39) (.t 46) (.c (.d (.bool false))), none⟩ ::
    []))
  (.cond (.t 47) (.reg (⟨(some 48), .off 8 (.t 5), none⟩ ::
    ⟨(some 49), .ld (.t 48), none⟩ ::
    ⟨(some 50), .bld [.d (.int .u8 0), .d (.int .i64 0)] [(0, 1, (.c (.d (.int .u8 2)))), (1, 1, (.t 49))], none⟩ ::
    ⟨none, .st 2 (.t 4) (.t 50), none⟩ ::
    [])) (.reg (⟨(some 51), .ldn 20 (.t 3), none⟩ ::
    ⟨(some 52), .call (.c (.fn 40 [])) [(.t 51)], none⟩ ::
    ⟨(some 53), .bld [.d (.int .u8 0), .d (.int .i64 0)] [(0, 1, (.c (.d (.int .u8 3)))), (1, 1, (.t 52))], none⟩ ::
    ⟨none, .st 2 (.t 4) (.t 53), none⟩ ::
    []))))
  (.seq (.sreg [6] true (⟨(some 54), .ldn 20 (.t 3), none⟩ ::
    ⟨(some 55), .ldn 2 (.t 4), none⟩ ::
    ⟨(some 56), .ldn 2 (.t 4), none⟩ ::
    ⟨(some 57), .call (.c (.fn 41 [])) [(.t 56)], none⟩ ::
    ⟨none, .st 20 (.t 6) (.t 54), none⟩ ::
    []) (⟨none, .st 2 (.t 7) (.t 55), none⟩ ::
    ⟨(some 8), .mv (.t 57), none⟩ ::
    []))
  .ret))))))) }
/-- garland/garlandref13.Same -/
def cf15 : CFun := { np := 2, nt := 38, res := [.tmp 4], body :=
  (.seq (.reg (⟨(some 2), .box (.t 0), none⟩ ::
    ⟨(some 3), .box (.t 1), none⟩ ::
    ⟨(some 4), .mv (.c (.d (.bool false))), none⟩ ::
    []))
  (.seq (.reg (⟨(some 5), .off 0 (.t 2), none⟩ ::
    ⟨(some 6), .ld (.t 5), none⟩ ::
    ⟨(some 7), .off 0 (.t 3), none⟩ ::
    ⟨(some 8), .ld (.t 7), none⟩ ::
    ⟨(some 9), .bin .eql (.t 6) (.t 8), none⟩ ::
    ⟨(some 10), .mv (.t 9), none⟩ ::
    ⟨(some 11), .off 1 (.t 2), (some (10, true))⟩ ::
    ⟨(some 12), .ld (.t 11), (some (10, true))⟩ ::
    ⟨(some 13), .off 1 (.t 3), (some (10, true))⟩ ::
    ⟨(some 14), .ld (.t 13), (some (10, true))⟩ ::
    ⟨(some 15), .call (.c (.fn 35 [])) [(.t 12), (.t 14)], (some (10, true))⟩ ::
    ⟨(some 16), .pick (.t 10) (.t 15) (.c (.d (.bool false))), none⟩ ::
    ⟨(some 17), .mv (.t 16), none⟩ ::
    ⟨(some 18), .off 2 (.t 2), (some (17, true))⟩ ::
    ⟨(some 19), .ld (.t 18), (some (17, true))⟩ ::
    ⟨(some 20), .off 2 (.t 3), (some (17, true))⟩ ::
    ⟨(some 21), .ld (.t 20), (some (17, true))⟩ ::
    ⟨(some 22), .call (.c (.fn 35 [])) [(.t 19), (.t 21)], (some (17, true))⟩ ::
    ⟨(some 23), .pick (.t 17) (.t 22) (.c (.d (.bool false))), none⟩ ::
    ⟨(some 24), .mv (.t 23), none⟩ ::
    ⟨(some 25), .off 3 (.t 2), (some (24, true))⟩ ::
    ⟨(some 26), .ld (.t 25), (some (24, true))⟩ ::
    ⟨(some 27), .off 3 (.t 3), (some (24, true))⟩ ::
    ⟨(some 28), .ld (.t 27), (some (24, true))⟩ ::
    ⟨(some 29), .bin .eql (.t 26) (.t 28), (some (24, true))⟩ ::
    ⟨(some 30), .pick (.t 24) (.t 29) (.c (.d (.bool false))), none⟩ ::
    ⟨(some 31), .mv (.t 30), none⟩ ::
    ⟨(some 32), .off 4 (.t 2), (some (31, true))⟩ ::
    ⟨(some 33), .ldn 16 (.t 32), (some (31, true))⟩ ::
    ⟨(some 34), .off 4 (.t 3), (some (31, true))⟩ ::
    ⟨(some 35), .ldn 16 (.t 34), (some (31, true))⟩ ::
    ⟨(some 36), .eqs false [0, 0, 0, 0, 0, 0, 0, 0, 0, 0, 0, 0, 0, 0, 0, 0] (.t 33) (.t 35), (some (31, true))⟩ ::
    ⟨(some 37), .pick (.t 31) (.t 36) (.c (.d (.bool false))), none⟩ ::
    ⟨(some 4), .mv (.t 37), none⟩ ::
    []))
  .ret)) }
/-- garland/stab.Failed -/
def cf16 : CFun := { np := 3, nt := 33, res := [.cells 6 20, .cells 7 2], body :=
  (.seq (.reg (⟨(some 3), .box (.t 0), none⟩ ::
    ⟨(some 4), .box (.t 1), none⟩ ::
    ⟨(some 6), .new [.d (.int .i64 0), .nils, .nils, .d (.int .i64 0), .d (.int .i64 0), .d (.int .i64 0), .d (.int .i64 0), .d (.int .i64 0), .d (.int .i64 0), .d (.int .i64 0), .d (.int .i64 0), .d (.int .i64 0), .d (.int .i64 0), .d (.int .i64 0), .d (.int .i64 0), .d (.int .i64 0), .d (.int .i64 0), .d (.int .i64 0), .d (.int .i64 0), .d (.int .i64 0)], none⟩ ::
    ⟨(some 7), .new [.d (.int .u8 0), .d (.int .i64 0)], none⟩ ::
    []))
  (.seq (.seq (.reg (⟨(some 8), .ldn 20 (.t 3), none⟩ ::
    ⟨(some 9), .call (.c (.fn 36 [])) [(.t 8)], none⟩ ::
    ⟨(some 10), .not (.t 9), none⟩ ::
    ⟨(some 11), .mv (.t 10), none⟩ ::
    ⟨(some 12), .ldn 2 (.t 4), (some (11, false))⟩ ::
    ⟨(some 13), .call (.c (.fn 18 [])) [(.t 12)], (some (11, false))⟩ ::
    ⟨(some 14), .not (.t 13), (some (11, false))⟩ ::
    ⟨(some 15), .pick (.t 11) (.c (.d (.bool true))) (.t 14), none⟩ ::
    []))
  (.cond (.t 15) (.seq (.sreg [6] true (⟨(some 16), .ldn 20 (.t 3), none⟩ ::
    ⟨(some 17), .call (.c (.fn 43 [])) [(.t 16)], none⟩ ::
    ⟨(some 18), .ldn 2 (.t 4), none⟩ ::
    ⟨none, .st 20 (.t 6) (.t 17), none⟩ ::
    []) (⟨none, .st 2 (.t 7) (.t 18), none⟩ ::
    []))
  .ret) .skip))
  (.seq (.seq (.reg (⟨(some 19), .off 0 (.t 4), none⟩ ::
    ⟨(some 20), .ld (.t 19), none⟩ ::
    ⟨(some 21), .bin .gtr (.t 20) (.c (.d (.int .u8 0))), none⟩ ::
    ⟨(some 22), .mv (.t 21), none⟩ ::
    ⟨(some 23), .off 1 (.t 4), (some (22, true))⟩ ::
    ⟨(some 24), .ld (.t 23), (some (22, true))⟩ ::
    ⟨(some 25), .mv (.t 2), (some (22, true))⟩ ::
    ⟨(some 26), .bin .eql (.t 24) (.t 25), (some (22, true))⟩ ::
    ⟨(some 27), .pick (.t 22) (.t 26) (.c (.d (.bool false))), none⟩ ::
    []))
  (.cond (.t 27) (.reg (⟨(some 28), .bld [.d (.int .u8 0), .d (.int .i64 0)] [], none⟩ ::
    ⟨none, .st 2 (.t 4) (.t 28), none⟩ ::
    [])) .skip))
  (.seq (.sreg [6] true (⟨(some 29), .ldn 20 (.t 3), none⟩ ::
    ⟨(some 30), .mv (.t 2), none⟩ ::
    ⟨(some 31), .call (.c (.fn 49 [])) [(.t 29), (.t 30)], none⟩ ::
    ⟨(some 32), .ldn 2 (.t 4), none⟩ ::
    ⟨none, .st 20 (.t 6) (.t 31), none⟩ ::
    []) (⟨none, .st 2 (.t 7) (.t 32), none⟩ ::
    []))
  .ret)))) }
/-- garland/garlandref14.Failed -/
def cf17 : CFun := { np := 3, nt := 34, res := [.cells 6 20, .cells 7 2], body :=
  (.seq (.reg (⟨(some 3), .box (.t 0), none⟩ ::
    ⟨(some 4), .box (.t 1), none⟩ ::
    ⟨(some 6), .new [.d (.int .i64 0), .nils, .nils, .d (.int .i64 0), .d (.int .i64 0), .d (.int .i64 0), .d (.int .i64 0), .d (.int .i64 0), .d (.int .i64 0), .d (.int .i64 0), .d (.int .i64 0), .d (.int .i64 0), .d (.int .i64 0), .d (.int .i64 0), .d (.int .i64 0), .d (.int .i64 0), .d (.int .i64 0), .d (.int .i64 0), .d (.int .i64 0), .d (.int .i64 0)], none⟩ ::
    ⟨(some 7), .new [.d (.int .u8 0), .d (.int .i64 0)], none⟩ ::
    []))
  (.seq (.reg (⟨(some 8), .ldn 20 (.t 3), none⟩ ::
    ⟨(some 9), .call (.c (.fn 28 [])) [(.t 8)], none⟩ ::
    ⟨none, .st 20 (.t 3) (.t 9), none⟩ ::
    []))
  (.seq (.seq (.reg (⟨(some 10), .ldn 20 (.t 3), none⟩ ::
    ⟨(some 11), .call (.c (.fn 22 [])) [(.t 10)], none⟩ ::
    ⟨(some 12), .not (.t 11), none⟩ ::
    ⟨(some 13), .mv (.t 12), none⟩ ::
    ⟨(some 14), .ldn 2 (.t 4), (some (13, false))⟩ ::
    ⟨(some 15), .call (.c (.fn 19 [])) [(.t 14)], (some (13, false))⟩ ::
    ⟨(some 16), .not (.t 15), (some (13, false))⟩ ::
    ⟨(some 17), .pick (.t 13) (.c (.d (.bool true))) (.t 16), none⟩ ::
    []))
  (.cond (.t 17) (.seq (.sreg [6] true (⟨(some 18), .ldn 20 (.t 3), none⟩ ::
    ⟨(some 19), .ldn 2 (.t 4), none⟩ ::
    ⟨none, .st 20 (.t 6) (.t 18), none⟩ ::
    []) (⟨none, .st 2 (.t 7) (.t 19), none⟩ ::
    []))
  .ret) .skip))
  (.seq (.seq (.reg (⟨(some 20), .off 0 (.t 4), none⟩ ::
    ⟨(some 21), .ld (.t 20), none⟩ ::
    ⟨(some 22), .bin .neq (.t 21) (.c (.d (.int .u8 0))), none⟩ ::
    ⟨(some 23), .mv (.t 22), none⟩ ::
    ⟨(some 24), .off 1 (.t 4), (some (23, true))⟩ ::
    ⟨(some 25), .ld (.t 24), (some (23, true))⟩ ::
    ⟨(some 26), .mv (.t 2), (some (23, true))⟩ ::
    ⟨(some 27), .bin .eql (.t 25) (.t 26), (some (23, true))⟩ ::
    ⟨(some 28), .pick (.t 23) (.t 27) (.c (.d (.bool false))), none⟩ ::
    []))
  (.cond (.t 28) (.reg (⟨(some 29), .bld [.d (.int .u8 0), .d (.int .i64 0)] [], none⟩ ::
    ⟨none, .st 2 (.t 4) (.t 29), none⟩ ::
    [])) .skip))
  (.seq (.sreg [6] true (⟨(some 30), .ldn 20 (.t 3), none⟩ ::
    ⟨(some 31), .mv (.t 2), none⟩ ::
    ⟨(some 32), .call (.c (.fn 29 [])) [(.t 30), (.t 31)], none⟩ ::
    ⟨(some 33), .ldn 2 (.t 4), none⟩ ::
    ⟨none, .st 20 (.t 6) (.t 32), none⟩ ::
    []) (⟨none, .st 2 (.t 7) (.t 33), none⟩ ::
    []))
  .ret))))) }
/-- garland/stab.Right -/
def cf18 : CFun := { np := 1, nt := 23, res := [.tmp 2], body :=
  (.seq (.reg (⟨(some 1), .box (.t 0), none⟩ ::
    ⟨(some 2), .mv (.c (.d (.bool false))), none⟩ ::
    []))
  (.seq (.seq (.reg (⟨(some 3), .off 0 (.t 1), none⟩ ::
    ⟨(some 4), .ld (.t 3), none⟩ ::
    ⟨(some 5), .bin .eql (.t 4) (.c (.d (.int .u8 0))), none⟩ ::
    []))
  (.cond (.t 5) (.seq (.reg (⟨(some 6), .off 1 (.t 1), none⟩ ::
    ⟨(some 7), .ld (.t 6), none⟩ ::
    ⟨(some 8), .bin .eql (.t 7) (.c (.d (.int .i64 0))), none⟩ ::
    ⟨(some 2), .mv (.t 8), none⟩ ::
    []))
  .ret) .skip))
  (.seq (.reg (⟨(some 9), .off 0 (.t 1), none⟩ ::
    ⟨(some 10), .ld (.t 9), none⟩ ::
    ⟨(some 11), .conv .i64 (.t 10), none⟩ ::
    ⟨(some 12), .bin .lss (.t 11) (.c (.d (.int .i64 4))), none⟩ ::
    ⟨(some 13), .mv (.t 12), none⟩ ::
    ⟨(some 14), .off 1 (.t 1), (some (13, true))⟩ ::
    ⟨(some 15), .ld (.t 14), (some (13, true))⟩ ::
    ⟨(some 16), .bin .geq (.t 15) (.c (.d (.int .i64 0))), (some (13, true))⟩ ::
    ⟨(some 17), .pick (.t 13) (.t 16) (.c (.d (.bool false))), none⟩ ::
    ⟨(some 18), .mv (.t 17), none⟩ ::
    ⟨(some 19), .off 1 (.t 1), (some (18, true))⟩ ::
    ⟨(some 20), .ld (.t 19), (some (18, true))⟩ ::
    ⟨(some 21), .bin .lss (.t 20) (.c (.d (.int .i64 65536))), (some (18, true))⟩ ::
    ⟨(some 22), .pick (.t 18) (.t 21) (.c (.d (.bool false))), none⟩ ::
    ⟨(some 2), .mv (.t 22), none⟩ ::
    []))
  .ret))) }
/-- garland/garlandref14.Right -/
def cf19 : CFun := { np := 1, nt := 22, res := [.tmp 2], body :=
  (.seq (.reg (⟨(some 1), .box (.t 0), none⟩ ::
    ⟨(some 2), .mv (.c (.d (.bool false))), none⟩ ::
    []))
  (.seq (.seq (.reg (⟨(some 3), .off 0 (.t 1), none⟩ ::
    ⟨(some 4), .ld (.t 3), none⟩ ::
    ⟨(some 5), .bin .eql (.t 4) (.c (.d (.int .u8 0))), none⟩ ::
    []))
  (.cond (.t 5) (.seq (.reg (⟨(some 6), .off 1 (.t 1), none⟩ ::
    ⟨(some 7), .ld (.t 6), none⟩ ::
    ⟨(some 8), .bin .eql (.t 7) (.c (.d (.int .i64 0))), none⟩ ::
    ⟨(some 2), .mv (.t 8), none⟩ ::
    []))
  .ret) .skip))
  (.seq (.reg (⟨(some 9), .off 0 (.t 1), none⟩ ::
    ⟨(some 10), .ld (.t 9), none⟩ ::
    ⟨(some 11), .bin .leq (.t 10) (.c (.d (.int .u8 3))), none⟩ ::
    ⟨(some 12), .mv (.t 11), none⟩ ::
    ⟨(some 13), .off 1 (.t 1), (some (12, true))⟩ ::
    ⟨(some 14), .ld (.t 13), (some (12, true))⟩ ::
    ⟨(some 15), .bin .geq (.t 14) (.c (.d (.int .i64 0))), (some (12, true))⟩ ::
    ⟨(some 16), .pick (.t 12) (.t 15) (.c (.d (.bool false))), none⟩ ::
    ⟨(some 17), .mv (.t 16), none⟩ ::
    ⟨(some 18), .off 1 (.t 1), (some (17, true))⟩ ::
    ⟨(some 19), .ld (.t 18), (some (17, true))⟩ ::
    ⟨(some 20), .bin .lss (.t 19) (.c (.d (.int .i64 65536))), (some (17, true))⟩ ::
    ⟨(some 21), .pick (.t 17) (.t 20) (.c (.d (.bool false))), none⟩ ::
    ⟨(some 2), .mv (.t 21), none⟩ ::
    []))
  .ret))) }
/-- garland/stab.Why -/
def cf20 : CFun := { np := 1, nt := 11, res := [.tmp 2], body :=
  (.seq (.reg (⟨(some 1), .box (.t 0), none⟩ ::
    ⟨(some 2), .mv (.c (.d (.int .u8 0))), none⟩ ::
    []))
  (.seq (.seq (.reg (⟨(some 3), .ldn 2 (.t 1), none⟩ ::
    ⟨(some 4), .call (.c (.fn 18 [])) [(.t 3)], none⟩ ::
    ⟨(some 5), .not (.t 4), none⟩ ::
    []))
  (.cond (.t 5) (.seq (.reg (⟨(some 2), .mv (.c (.d (.int .u8 0))), none⟩ ::
    []))
  .ret) .skip))
  (.seq (.reg (⟨(some 6), .off 0 (.t 1), none⟩ ::
    ⟨(some 7), .ld (.t 6), none⟩ ::
    ⟨(some 8), .ixa 4 2 (.c (.iptr [.int .u8 0, .int .u8 0, .int .u8 1, .int .u8 1, .int .u8 1, .int .u8 2, .int .u8 3, .int .u8 3])) (.t 7), none⟩ ::
    ⟨(some 9), .off 1 (.t 8), none⟩ ::
    ⟨(some 10), .ld (.t 9), none⟩ ::
    ⟨(some 2), .mv (.t 10), none⟩ ::
    []))
  .ret))) }
/-- garland/garlandref14.Why -/
def cf21 : CFun := { np := 1, nt := 18, res := [.tmp 2], body :=
  (.seq (.reg (⟨(some 1), .box (.t 0), none⟩ ::
    ⟨(some 2), .mv (.c (.d (.int .u8 0))), none⟩ ::
    []))
  (.seq (.seq (.reg (⟨(some 4), .ldn 2 (.t 1), none⟩ ::
    ⟨(some 5), .call (.c (.fn 19 [])) [(.t 4)], none⟩ ::
    ⟨(some 6), .not (.t 5), none⟩ ::
    ⟨(some 7), .mv (.t 6), none⟩ ::
    ⟨(some 8), .off 0 (.t 1), (some (7, false))⟩ ::
    ⟨(some 9), .ld (.t 8), (some (7, false))⟩ ::
    ⟨(some 10), .bin .eql (.t 9) (.c (.d (.int .u8 0))), (some (7, false))⟩ ::
    ⟨(some 11), .pick (.t 7) (.c (.d (.bool true))) (.t 10), none⟩ ::
    []))
  (.cond (.t 11) (.seq (.reg (⟨(some 2), .mv (.c (.d (.int .u8 0))), none⟩ ::
    []))
  .ret) .skip))
  (.seq (.reg (⟨(some 12), .bld [.d (.int .u8 0), .d (.int .u8 0), .d (.int .u8 0)] [(0, 1, (.c (.d (.int .u8 1)))), (1, 1, (.c (.d (.int .u8 2)))), (2, 1, (.c (.d (.int .u8 3))))], none⟩ ::
    ⟨(some 3), .new [.d (.int .u8 0), .d (.int .u8 0), .d (.int .u8 0)], none⟩ ::
    ⟨none, .st 3 (.t 3) (.t 12), none⟩ ::
    []))
  (.seq (.reg (⟨(some 13), .off 0 (.t 1), none⟩ ::
    ⟨(some 14), .ld (.t 13), none⟩ ::
    ⟨(some 15), .bin .sub (.t 14) (.c (.d (.int .u8 1))), none⟩ ::
    ⟨(some 16), .ixa 3 1 (.t 3) (.t 15), none⟩ ::
    ⟨(some 17), .ld (.t 16), none⟩ ::
    ⟨(some 2), .mv (.t 17), none⟩ ::
    []))
  .ret)))) }
/-- garland/garlandref13.Right -/
def cf22 : CFun := { np := 1, nt := 79, res := [.tmp 2], body :=
  (.seq (.reg (⟨(some 1), .box (.t 0), none⟩ ::
    ⟨(some 2), .mv (.c (.d (.bool false))), none⟩ ::
    []))
  (.seq (.seq (.reg (⟨(some 5), .off 0 (.t 1), none⟩ ::
    ⟨(some 6), .ld (.t 5), none⟩ ::
    ⟨(some 7), .call (.c (.fn 50 [])) [(.t 6)], none⟩ ::
    ⟨(some 8), .not (.t 7), none⟩ ::
    ⟨(some 9), .mv (.t 8), none⟩ ::
    ⟨(some 10), .off 1 (.t 1), (some (9, false))⟩ ::
    ⟨(some 11), .ld (.t 10), (some (9, false))⟩ ::
    ⟨(some 12), .len false (.t 11), (some (9, false))⟩ ::
    ⟨(some 13), .bin .lss (.t 12) (.c (.d (.int .i64 2))), (some (9, false))⟩ ::
    ⟨(some 14), .pick (.t 9) (.c (.d (.bool true))) (.t 13), none⟩ ::
    ⟨(some 15), .mv (.t 14), none⟩ ::
    ⟨(some 16), .off 1 (.t 1), (some (15, false))⟩ ::
    ⟨(some 17), .ld (.t 16), (some (15, false))⟩ ::
    ⟨(some 18), .len false (.t 17), (some (15, false))⟩ ::
    ⟨(some 19), .bin .gtr (.t 18) (.c (.d (.int .i64 4))), (some (15, false))⟩ ::
    ⟨(some 20), .pick (.t 15) (.c (.d (.bool true))) (.t 19), none⟩ ::
    ⟨(some 21), .mv (.t 20), none⟩ ::
    ⟨(some 22), .off 0 (.t 1), (some (21, false))⟩ ::
    ⟨(some 23), .ld (.t 22), (some (21, false))⟩ ::
    ⟨(some 24), .off 2 (.t 1), (some (21, false))⟩ ::
    ⟨(some 25), .ld (.t 24), (some (21, false))⟩ ::
    ⟨(some 26), .call (.c (.fn 26 [])) [(.t 23), (.t 25)], (some (21, false))⟩ ::
    ⟨(some 27), .not (.t 26), (some (21, false))⟩ ::
    ⟨(some 28), .pick (.t 21) (.c (.d (.bool true))) (.t 27), none⟩ ::
    ⟨(some 29), .mv (.t 28), none⟩ ::
    ⟨(some 30), .ldn 20 (.t 1), (some (29, false))⟩ ::
    ⟨(some 31), .off 3 (.t 1), (some (29, false))⟩ ::
    ⟨(some 32), .ld (.t 31), (some (29, false))⟩ ::
    ⟨(some 33), .call (.c (.fn 51 [])) [(.t 30), (.t 32)], (some (29, false))⟩ ::
    ⟨(some 34), .not (.t 33), (some (29, false))⟩ ::
    ⟨(some 35), .pick (.t 29) (.c (.d (.bool true))) (.t 34), none⟩ ::
    []))
  (.cond (.t 35) (.seq (.reg (⟨(some 2), .mv (.c (.d (.bool false))), none⟩ ::
    []))
  .ret) .skip))
  (.seq (.seq (.reg (⟨(some 3), .mv (.c (.d (.int .i64 0))), none⟩ ::
    []))
  (.block 0 (.loop [1, 3] (.seq (.seq (.reg (⟨(some 36), .mv (.t 3), none⟩ ::
    ⟨(some 37), .off 1 (.t 1), none⟩ ::
    ⟨(some 38), .ld (.t 37), none⟩ ::
    ⟨(some 39), .len false (.t 38), none⟩ ::
    ⟨(some 40), .bin .lss (.t 36) (.t 39), none⟩ ::
    []))
  (.cond (.t 40) .skip (.exit 0)))
  (.seq (.block 1 (.seq (.dreg (⟨(some 43), .off 1 (.t 1), none⟩ ::
    ⟨(some 44), .ld (.t 43), none⟩ ::
    ⟨(some 45), .mv (.t 3), none⟩ ::
    ⟨(some 46), .ixs 1 (.t 44) (.t 45), none⟩ ::
    ⟨(some 47), .ld (.t 46), none⟩ ::
    ⟨(some 48), .call (.c (.fn 50 [])) [(.t 47)], none⟩ ::
    ⟨(some 49), .not (.t 48), none⟩ ::
    ⟨(some 50), .mv (.t 49), none⟩ ::
    ⟨(some 51), .mv (.t 3), (some (50, false))⟩ ::
    ⟨(some 52), .bin .gtr (.t 51) (.c (.d (.int .i64 0))), (some (50, false))⟩ ::
    ⟨(some 53), .mv (.t 52), (some (50, false))⟩ ::
    ⟨(some 54), .off 1 (.t 1), (some (53, true))⟩ ::
    ⟨(some 55), .ld (.t 54), (some (53, true))⟩ ::
    ⟨(some 56), .mv (.t 3), (some (53, true))⟩ ::
    ⟨(some 57), .ixs 1 (.t 55) (.t 56), (some (53, true))⟩ ::
    ⟨(some 58), .ld (.t 57), (some (53, true))⟩ ::
    ⟨(some 59), .off 1 (.t 1), (some (53, true))⟩ ::
    ⟨(some 60), .ld (.t 59), (some (53, true))⟩ ::
    ⟨(some 61), .mv (.t 3), (some (53, true))⟩ ::
    ⟨(some 62), .bin .sub (.t 61) (.c (.d (.int .i64 1))), (some (53, true))⟩ ::
    ⟨(some 63), .ixs 1 (.t 60) (.t 62), (some (53, true))⟩ ::
    ⟨(some 64), .ld (.t 63), (some (53, true))⟩ ::
    ⟨(some 65), .bin .leq (.t 58) (.t 64), (some (53, true))⟩ ::
    ⟨(some 66), .pick (.t 53) (.t 65) (.c (.d (.bool false))), (some (50, false))⟩ ::
    ⟨(some 67), .pick (.t 50) (.c (.d (.bool true))) (.t 66), none⟩ ::
    []) ([]))
  (.cond (.t 67) (.seq (.reg (⟨(some 2), .mv (.c (.d (.bool false))), none⟩ ::
    []))
  .ret) .skip)))
  (.reg (⟨(some 41), .mv (.t 3), none⟩ ::
    ⟨(some 42), .bin .add (.t 41) (.c (.d (.int .i64 1))), none⟩ ::
    ⟨(some 3), .mv (.t 42), none⟩ ::
    [])))))))
  (.seq (.seq (.reg (⟨(some 4), .mv (.c (.d (.int .i64 0))), none⟩ ::
    []))
  (.block 2 (.loop [1, 4] (.seq (.seq (.reg (⟨(some 68), .mv (.t 4), none⟩ ::
    ⟨(some 69), .bin .lss (.t 68) (.c (.d (.int .i64 16))), none⟩ ::
    []))
  (.cond (.t 69) .skip (.exit 2)))
  (.seq (.block 3 (.seq (.dreg (⟨(some 72), .ldn 20 (.t 1), none⟩ ::
    ⟨(some 73), .mv (.t 4), none⟩ ::
    ⟨(some 74), .off 4 (.t 1), none⟩ ::
    ⟨(some 75), .ixa 16 1 (.t 74) (.t 73), none⟩ ::
    ⟨(some 76), .ld (.t 75), none⟩ ::
    []) (⟨(some 77), .call (.c (.fn 51 [])) [(.t 72), (.t 76)], none⟩ ::
    ⟨(some 78), .not (.t 77), none⟩ ::
    []))
  (.cond (.t 78) (.seq (.reg (⟨(some 2), .mv (.c (.d (.bool false))), none⟩ ::
    []))
  .ret) .skip)))
  (.reg (⟨(some 70), .mv (.t 4), none⟩ ::
    ⟨(some 71), .bin .add (.t 70) (.c (.d (.int .i64 1))), none⟩ ::
    ⟨(some 4), .mv (.t 71), none⟩ ::
    [])))))))
  (.seq (.reg (⟨(some 2), .mv (.c (.d (.bool true))), none⟩ ::
    []))
  .ret))))) }
/-- garland/garlandref12.Skips -/
def cf23 : CFun := { np := 3, nt := 37, res := [.tmp 6], body :=
  (.seq (.reg (⟨(some 6), .mv (.c (.d (.bool false))), none⟩ ::
    []))
  (.seq (.reg (⟨(some 10), .mv (.t 0), none⟩ ::
    ⟨(some 7), .mv (.t 10), none⟩ ::
    []))
  (.seq (.seq (.reg (⟨(some 8), .mv (.c (.d (.int .i64 0))), none⟩ ::
    []))
  (.block 0 (.loop [1, 2, 7, 8] (.seq (.seq (.reg (⟨(some 11), .mv (.t 8), none⟩ ::
    ⟨(some 12), .mv (.t 1), none⟩ ::
    ⟨(some 13), .len false (.t 12), none⟩ ::
    ⟨(some 14), .bin .lss (.t 11) (.t 13), none⟩ ::
    []))
  (.cond (.t 14) .skip (.exit 0)))
  (.seq (.block 1 (.seq (.seq (.reg (⟨(some 9), .mv (.c (.d (.int .i64 0))), none⟩ ::
    []))
  (.block 2 (.loop [1, 2, 7, 8, 9] (.seq (.seq (.reg (⟨(some 17), .mv (.t 9), none⟩ ::
    ⟨(some 18), .mv (.t 2), none⟩ ::
    ⟨(some 19), .len false (.t 18), none⟩ ::
    ⟨(some 20), .bin .lss (.t 17) (.t 19), none⟩ ::
    []))
  (.cond (.t 20) .skip (.exit 2)))
  (.seq (.block 3 (.seq (.dreg (⟨(some 23), .mv (.t 7), none⟩ ::
    ⟨(some 24), .mv (.t 2), none⟩ ::
    ⟨(some 25), .mv (.t 9), none⟩ ::
    ⟨(some 26), .ixs 1 (.t 24) (.t 25), none⟩ ::
    ⟨(some 27), .ld (.t 26), none⟩ ::
    ⟨(some 28), .mv (.t 1), none⟩ ::
    ⟨(some 29), .mv (.t 8), none⟩ ::
    ⟨(some 30), .ixs 1 (.t 28) (.t 29), none⟩ ::
    ⟨(some 31), .ld (.t 30), none⟩ ::
    []) (⟨(some 32), .call (.c (.fn 27 [])) [(.t 23), (.t 27), (.t 31)], none⟩ ::
    []))
  (.cond (.t 32) (.seq (.reg (⟨(some 6), .mv (.c (.d (.bool true))), none⟩ ::
    []))
  .ret) .skip)))
  (.reg (⟨(some 21), .mv (.t 9), none⟩ ::
    ⟨(some 22), .bin .add (.t 21) (.c (.d (.int .i64 1))), none⟩ ::
    ⟨(some 9), .mv (.t 22), none⟩ ::
    [])))))))
  (.reg (⟨(some 33), .mv (.t 1), none⟩ ::
    ⟨(some 34), .mv (.t 8), none⟩ ::
    ⟨(some 35), .ixs 1 (.t 33) (.t 34), none⟩ ::
    ⟨(some 36), .ld (.t 35), none⟩ ::
    ⟨(some 7), .mv (.t 36), none⟩ ::
    []))))
  (.reg (⟨(some 15), .mv (.t 8), none⟩ ::
    ⟨(some 16), .bin .add (.t 15) (.c (.d (.int .i64 1))), none⟩ ::
    ⟨(some 8), .mv (.t 16), none⟩ ::
    [])))))))
  (.seq (.reg (⟨(some 6), .mv (.c (.d (.bool false))), none⟩ ::
    []))
  .ret)))) }
/-- garland/garlandlaw14.tell -/
def cf24 : CFun := { np := 4, nt := 17, res := [.cells 8 15], body :=
  (.seq (.reg (⟨(some 8), .new [.d (.int .u8 0), .d (.int .i64 0), .d (.int .i64 0), .d (.int .i64 0), .d (.int .i64 0), .d (.bool false), .d (.bool false), .d (.int .i64 0), .d (.int .i64 0), .nils, .d (.str []), .d (.int .i64 0), .d (.int .i64 0), .d (.bool false), .d (.int .i64 0)], none⟩ ::
    []))
  (.seq (.reg (⟨(some 9), .mv (.t 1), none⟩ ::
    ⟨(some 10), .bin .mul (.t 9) (.c (.d (.int .i64 1048576))), none⟩ ::
    ⟨(some 11), .bin .add (.t 10) (.c (.d (.int .i64 1))), none⟩ ::
    ⟨(some 12), .mv (.t 0), none⟩ ::
    ⟨(some 13), .mv (.t 1), none⟩ ::
    ⟨(some 14), .mv (.t 2), none⟩ ::
    ⟨(some 15), .mv (.t 3), none⟩ ::
    ⟨(some 16), .bld [.d (.int .u8 0), .d (.int .i64 0), .d (.int .i64 0), .d (.int .i64 0), .d (.int .i64 0), .d (.bool false), .d (.bool false), .d (.int .i64 0), .d (.int .i64 0), .nils, .d (.str []), .d (.int .i64 0), .d (.int .i64 0), .d (.bool false), .d (.int .i64 0)] [(0, 1, (.c (.d (.int .u8 7)))), (1, 1, (.t 11)), (2, 1, (.t 12)), (3, 1, (.t 13)), (8, 1, (.t 14)), (9, 1, (.t 15))], none⟩ ::
    ⟨none, .st 15 (.t 8) (.t 16), none⟩ ::
    []))
  .ret)) }
/-- garland/garlandref06.Right -/
def cf25 : CFun := { np := 1, nt := 64, res := [.tmp 2], body :=
  (.seq (.reg (⟨(some 1), .box (.t 0), none⟩ ::
    ⟨(some 2), .mv (.c (.d (.bool false))), none⟩ ::
    []))
  (.seq (.seq (.reg (⟨(some 5), .off 0 (.t 1), none⟩ ::
    ⟨(some 6), .ld (.t 5), none⟩ ::
    ⟨(some 7), .bin .lss (.t 6) (.c (.d (.int .u8 1))), none⟩ ::
    ⟨(some 8), .mv (.t 7), none⟩ ::
    ⟨(some 9), .off 0 (.t 1), (some (8, false))⟩ ::
    ⟨(some 10), .ld (.t 9), (some (8, false))⟩ ::
    ⟨(some 11), .bin .geq (.t 10) (.c (.d (.int .u8 13))), (some (8, false))⟩ ::
    ⟨(some 12), .pick (.t 8) (.c (.d (.bool true))) (.t 11), none⟩ ::
    ⟨(some 13), .mv (.t 12), none⟩ ::
    ⟨(some 14), .off 2 (.t 1), (some (13, false))⟩ ::
    ⟨(some 15), .ld (.t 14), (some (13, false))⟩ ::
    ⟨(some 16), .call (.c (.fn 52 [])) [(.t 15)], (some (13, false))⟩ ::
    ⟨(some 17), .not (.t 16), (some (13, false))⟩ ::
    ⟨(some 18), .pick (.t 13) (.c (.d (.bool true))) (.t 17), none⟩ ::
    ⟨(some 19), .mv (.t 18), none⟩ ::
    ⟨(some 20), .off 3 (.t 1), (some (19, false))⟩ ::
    ⟨(some 21), .ld (.t 20), (some (19, false))⟩ ::
    ⟨(some 22), .call (.c (.fn 52 [])) [(.t 21)], (some (19, false))⟩ ::
    ⟨(some 23), .not (.t 22), (some (19, false))⟩ ::
    ⟨(some 24), .pick (.t 19) (.c (.d (.bool true))) (.t 23), none⟩ ::
    ⟨(some 25), .mv (.t 24), none⟩ ::
    ⟨(some 26), .off 2 (.t 1), (some (25, false))⟩ ::
    ⟨(some 27), .ld (.t 26), (some (25, false))⟩ ::
    ⟨(some 28), .off 3 (.t 1), (some (25, false))⟩ ::
    ⟨(some 29), .ld (.t 28), (some (25, false))⟩ ::
    ⟨(some 30), .bin .eql (.t 27) (.t 29), (some (25, false))⟩ ::
    ⟨(some 31), .pick (.t 25) (.c (.d (.bool true))) (.t 30), none⟩ ::
    []))
  (.cond (.t 31) (.seq (.reg (⟨(some 2), .mv (.c (.d (.bool false))), none⟩ ::
    []))
  .ret) .skip))
  (.seq (.reg (⟨(some 32), .ldn 15 (.t 1), none⟩ ::
    ⟨(some 33), .call (.c (.fn 53 [])) [(.t 32)], none⟩ ::
    ⟨(some 34), .bin .mul (.t 33) (.c (.d (.int .i64 1048576))), none⟩ ::
    ⟨(some 35), .bin .add (.t 34) (.c (.d (.int .i64 1))), none⟩ ::
    ⟨(some 3), .mv (.t 35), none⟩ ::
    []))
  (.seq (.seq (.reg (⟨(some 36), .off 1 (.t 1), none⟩ ::
    ⟨(some 37), .ld (.t 36), none⟩ ::
    ⟨(some 38), .mv (.t 3), none⟩ ::
    ⟨(some 39), .bin .lss (.t 37) (.t 38), none⟩ ::
    ⟨(some 40), .mv (.t 39), none⟩ ::
    ⟨(some 41), .off 1 (.t 1), (some (40, false))⟩ ::
    ⟨(some 42), .ld (.t 41), (some (40, false))⟩ ::
    ⟨(some 43), .mv (.t 3), (some (40, false))⟩ ::
    ⟨(some 44), .bin .add (.t 43) (.c (.d (.int .i64 1048576))), (some (40, false))⟩ ::
    ⟨(some 45), .bin .geq (.t 42) (.t 44), (some (40, false))⟩ ::
    ⟨(some 46), .pick (.t 40) (.c (.d (.bool true))) (.t 45), none⟩ ::
    []))
  (.cond (.t 46) (.seq (.reg (⟨(some 2), .mv (.c (.d (.bool false))), none⟩ ::
    []))
  .ret) .skip))
  (.seq (.reg (⟨(some 47), .off 0 (.t 1), none⟩ ::
    ⟨(some 48), .ld (.t 47), none⟩ ::
    ⟨(some 49), .off 1 (.t 1), none⟩ ::
    ⟨(some 50), .ld (.t 49), none⟩ ::
    ⟨(some 51), .off 2 (.t 1), none⟩ ::
    ⟨(some 52), .ld (.t 51), none⟩ ::
    ⟨(some 53), .off 3 (.t 1), none⟩ ::
    ⟨(some 54), .ld (.t 53), none⟩ ::
    ⟨(some 55), .bld [.d (.int .u8 0), .d (.int .i64 0), .d (.int .i64 0), .d (.int .i64 0), .d (.int .i64 0), .d (.bool false), .d (.bool false), .d (.int .i64 0), .d (.int .i64 0), .nils, .d (.str []), .d (.int .i64 0), .d (.int .i64 0), .d (.bool false), .d (.int .i64 0)] [(0, 1, (.t 48)), (1, 1, (.t 50)), (2, 1, (.t 52)), (3, 1, (.t 54))], none⟩ ::
    ⟨(some 4), .new [.d (.int .u8 0), .d (.int .i64 0), .d (.int .i64 0), .d (.int .i64 0), .d (.int .i64 0), .d (.bool false), .d (.bool false), .d (.int .i64 0), .d (.int .i64 0), .nils, .d (.str []), .d (.int .i64 0), .d (.int .i64 0), .d (.bool false), .d (.int .i64 0)], none⟩ ::
    ⟨none, .st 15 (.t 4) (.t 55), none⟩ ::
    []))
  (.seq (.dreg (⟨(some 56), .ldn 15 (.t 1), none⟩ ::
    ⟨(some 57), .call (.c (.fn 54 [])) [(.t 56)], none⟩ ::
    ⟨(some 58), .ldn 15 (.t 4), none⟩ ::
    []) (⟨(some 59), .call (.c (.fn 42 [])) [(.t 57), (.t 58)], none⟩ ::
    ⟨(some 60), .mv (.t 59), none⟩ ::
    ⟨(some 61), .ldn 15 (.t 1), (some (60, true))⟩ ::
    ⟨(some 62), .call (.c (.fn 55 [])) [(.t 61)], (some (60, true))⟩ ::
    ⟨(some 63), .pick (.t 60) (.t 62) (.c (.d (.bool false))), none⟩ ::
    ⟨(some 2), .mv (.t 63), none⟩ ::
    []))
  .ret)))))) }
/-- garland/garlandref12.Right -/
def cf26 : CFun := { np := 2, nt := 48, res := [.tmp 4], body :=
  (.seq (.reg (⟨(some 4), .mv (.c (.d (.bool false))), none⟩ ::
    []))
  (.seq (.seq (.reg (⟨(some 5), .mv (.c (.d (.int .i64 0))), none⟩ ::
    []))
  (.block 0 (.loop [0, 1, 5] (.seq (.seq (.reg (⟨(some 6), .mv (.t 5), none⟩ ::
    ⟨(some 7), .mv (.t 1), none⟩ ::
    ⟨(some 8), .len false (.t 7), none⟩ ::
    ⟨(some 9), .bin .lss (.t 6) (.t 8), none⟩ ::
    []))
  (.cond (.t 9) .skip (.exit 0)))
  (.seq (.block 1 (.seq (.dreg (⟨(some 12), .mv (.t 1), none⟩ ::
    ⟨(some 13), .mv (.t 5), none⟩ ::
    ⟨(some 14), .ixs 1 (.t 12) (.t 13), none⟩ ::
    ⟨(some 15), .ld (.t 14), none⟩ ::
    ⟨(some 16), .call (.c (.fn 56 [])) [(.t 15)], none⟩ ::
    ⟨(some 17), .not (.t 16), none⟩ ::
    ⟨(some 18), .mv (.t 17), none⟩ ::
    ⟨(some 19), .mv (.t 1), (some (18, false))⟩ ::
    ⟨(some 20), .mv (.t 5), (some (18, false))⟩ ::
    ⟨(some 21), .ixs 1 (.t 19) (.t 20), (some (18, false))⟩ ::
    ⟨(some 22), .ld (.t 21), (some (18, false))⟩ ::
    ⟨(some 23), .mv (.t 0), (some (18, false))⟩ ::
    ⟨(some 24), .call (.c (.fn 57 [])) [(.t 23)], (some (18, false))⟩ ::
    ⟨(some 25), .bin .eql (.t 22) (.t 24), (some (18, false))⟩ ::
    ⟨(some 26), .pick (.t 18) (.c (.d (.bool true))) (.t 25), none⟩ ::
    ⟨(some 27), .mv (.t 26), none⟩ ::
    ⟨(some 28), .mv (.t 5), (some (27, false))⟩ ::
    ⟨(some 29), .bin .gtr (.t 28) (.c (.d (.int .i64 0))), (some (27, false))⟩ ::
    ⟨(some 30), .mv (.t 29), (some (27, false))⟩ ::
    ⟨(some 31), .mv (.t 0), (some (30, true))⟩ ::
    ⟨(some 32), .mv (.t 1), (some (30, true))⟩ ::
    ⟨(some 33), .mv (.t 5), (some (30, true))⟩ ::
    ⟨(some 34), .bin .sub (.t 33) (.c (.d (.int .i64 1))), (some (30, true))⟩ ::
    ⟨(some 35), .ixs 1 (.t 32) (.t 34), (some (30, true))⟩ ::
    ⟨(some 36), .ld (.t 35), (some (30, true))⟩ ::
    ⟨(some 37), .mv (.t 1), (some (30, true))⟩ ::
    ⟨(some 38), .mv (.t 5), (some (30, true))⟩ ::
    ⟨(some 39), .ixs 1 (.t 37) (.t 38), (some (30, true))⟩ ::
    ⟨(some 40), .ld (.t 39), (some (30, true))⟩ ::
    ⟨(some 41), .call (.c (.fn 58 [])) [(.t 31), (.t 36), (.t 40)], (some (30, true))⟩ ::
    ⟨(some 42), .not (.t 41), (some (30, true))⟩ ::
    ⟨(some 43), .pick (.t 30) (.t 42) (.c (.d (.bool false))), (some (27, false))⟩ ::
    ⟨(some 44), .pick (.t 27) (.c (.d (.bool true))) (.t 43), none⟩ ::
    []) ([]))
  (.cond (.t 44) (.seq (.reg (⟨(some 4), .mv (.c (.d (.bool false))), none⟩ ::
    []))
  .ret) .skip)))
  (.reg (⟨(some 10), .mv (.t 5), none⟩ ::
    ⟨(some 11), .bin .add (.t 10) (.c (.d (.int .i64 1))), none⟩ ::
    ⟨(some 5), .mv (.t 11), none⟩ ::
    [])))))))
  (.seq (.reg (⟨(some 45), .mv (.t 1), none⟩ ::
    ⟨(some 46), .len false (.t 45), none⟩ ::
    ⟨(some 47), .bin .leq (.t 46) (.c (.d (.int .i64 3))), none⟩ ::
    ⟨(some 4), .mv (.t 47), none⟩ ::
    []))
  .ret))) }
/-- garland/garlandref03.In -/
def cf27 : CFun := { np := 3, nt := 30, res := [.tmp 6], body :=
  (.seq (.reg (⟨(some 6), .mv (.c (.d (.bool false))), none⟩ ::
    []))
  (.seq (.seq (.reg (⟨(some 7), .mv (.t 0), none⟩ ::
    ⟨(some 8), .call (.c (.fn 57 [])) [(.t 7)], none⟩ ::
    ⟨(some 9), .mv (.t 2), none⟩ ::
    ⟨(some 10), .call (.c (.fn 57 [])) [(.t 9)], none⟩ ::
    ⟨(some 11), .bin .eql (.t 8) (.t 10), none⟩ ::
    []))
  (.cond (.t 11) (.seq (.reg (⟨(some 12), .mv (.t 1), none⟩ ::
    ⟨(some 13), .call (.c (.fn 57 [])) [(.t 12)], none⟩ ::
    ⟨(some 14), .mv (.t 0), none⟩ ::
    ⟨(some 15), .call (.c (.fn 57 [])) [(.t 14)], none⟩ ::
    ⟨(some 16), .bin .neq (.t 13) (.t 15), none⟩ ::
    ⟨(some 6), .mv (.t 16), none⟩ ::
    []))
  .ret) .skip))
  (.seq (.reg (⟨(some 17), .mv (.t 0), none⟩ ::
    ⟨(some 18), .mv (.t 1), none⟩ ::
    ⟨(some 19), .call (.c (.fn 59 [])) [(.t 17), (.t 18)], none⟩ ::
    ⟨(some 20), .bin .gtr (.t 19) (.c (.d (.int .i64 0))), none⟩ ::
    ⟨(some 21), .mv (.t 20), none⟩ ::
    ⟨(some 22), .mv (.t 0), (some (21, true))⟩ ::
    ⟨(some 23), .mv (.t 1), (some (21, true))⟩ ::
    ⟨(some 24), .call (.c (.fn 59 [])) [(.t 22), (.t 23)], (some (21, true))⟩ ::
    ⟨(some 25), .mv (.t 0), (some (21, true))⟩ ::
    ⟨(some 26), .mv (.t 2), (some (21, true))⟩ ::
    ⟨(some 27), .call (.c (.fn 59 [])) [(.t 25), (.t 26)], (some (21, true))⟩ ::
    ⟨(some 28), .bin .lss (.t 24) (.t 27), (some (21, true))⟩ ::
    ⟨(some 29), .pick (.t 21) (.t 28) (.c (.d (.bool false))), none⟩ ::
    ⟨(some 6), .mv (.t 29), none⟩ ::
    []))
  .ret))) }
/-- garland/garlandref13.Own -/
def cf28 : CFun := { np := 1, nt := 14, res := [.cells 2 20], body :=
  (.seq (.reg (⟨(some 1), .box (.t 0), none⟩ ::
    ⟨(some 2), .new [.d (.int .i64 0), .nils, .nils, .d (.int .i64 0), .d (.int .i64 0), .d (.int .i64 0), .d (.int .i64 0), .d (.int .i64 0), .d (.int .i64 0), .d (.int .i64 0), .d (.int .i64 0), .d (.int .i64 0), .d (.int .i64 0), .d (.int .i64 0), .d (.int .i64 0), .d (.int .i64 0), .d (.int .i64 0), .d (.int .i64 0), .d (.int .i64 0), .d (.int .i64 0)], none⟩ ::
    []))
  (.seq (.reg (⟨(some 3), .bls [] 0 1 [], none⟩ ::
    ⟨(some 4), .off 1 (.t 1), none⟩ ::
    ⟨(some 5), .ld (.t 4), none⟩ ::
    ⟨(some 6), .app 1 (.t 3) (.t 5), none⟩ ::
    ⟨(some 7), .off 1 (.t 1), none⟩ ::
    ⟨none, .st 1 (.t 7) (.t 6), none⟩ ::
    []))
  (.seq (.reg (⟨(some 8), .bls [] 0 1 [], none⟩ ::
    ⟨(some 9), .off 2 (.t 1), none⟩ ::
    ⟨(some 10), .ld (.t 9), none⟩ ::
    ⟨(some 11), .app 1 (.t 8) (.t 10), none⟩ ::
    ⟨(some 12), .off 2 (.t 1), none⟩ ::
    ⟨none, .st 1 (.t 12) (.t 11), none⟩ ::
    []))
  (.seq (.reg (⟨(some 13), .ldn 20 (.t 1), none⟩ ::
    ⟨none, .st 20 (.t 2) (.t 13), none⟩ ::
    []))
  .ret)))) }
/-- garland/garlandref13.Dead -/
def cf29 : CFun := { np := 2, nt := 52, res := [.cells 4 20], body :=
  (.seq (.reg (⟨(some 2), .box (.t 0), none⟩ ::
    ⟨(some 4), .new [.d (.int .i64 0), .nils, .nils, .d (.int .i64 0), .d (.int .i64 0), .d (.int .i64 0), .d (.int .i64 0), .d (.int .i64 0), .d (.int .i64 0), .d (.int .i64 0), .d (.int .i64 0), .d (.int .i64 0), .d (.int .i64 0), .d (.int .i64 0), .d (.int .i64 0), .d (.int .i64 0), .d (.int .i64 0), .d (.int .i64 0), .d (.int .i64 0), .d (.int .i64 0)], none⟩ ::
    []))
  (.seq (.reg (⟨(some 7), .ldn 20 (.t 2), none⟩ ::
    ⟨(some 8), .call (.c (.fn 28 [])) [(.t 7)], none⟩ ::
    ⟨none, .st 20 (.t 2) (.t 8), none⟩ ::
    []))
  (.seq (.seq (.reg (⟨(some 9), .ldn 20 (.t 2), none⟩ ::
    ⟨(some 10), .call (.c (.fn 22 [])) [(.t 9)], none⟩ ::
    ⟨(some 11), .not (.t 10), none⟩ ::
    []))
  (.cond (.t 11) (.seq (.reg (⟨(some 12), .ldn 20 (.t 2), none⟩ ::
    ⟨none, .st 20 (.t 4) (.t 12), none⟩ ::
    []))
  .ret) .skip))
  (.seq (.seq (.reg (⟨(some 5), .mv (.c (.d (.int .i64 0))), none⟩ ::
    []))
  (.block 0 (.loop [1, 2, 4, 5] (.seq (.seq (.reg (⟨(some 13), .mv (.t 5), none⟩ ::
    ⟨(some 14), .off 1 (.t 2), none⟩ ::
    ⟨(some 15), .ld (.t 14), none⟩ ::
    ⟨(some 16), .len false (.t 15), none⟩ ::
    ⟨(some 17), .bin .lss (.t 13) (.t 16), none⟩ ::
    []))
  (.cond (.t 17) .skip (.exit 0)))
  (.seq (.block 1 (.seq (.reg (⟨(some 20), .off 1 (.t 2), none⟩ ::
    ⟨(some 21), .ld (.t 20), none⟩ ::
    ⟨(some 22), .mv (.t 5), none⟩ ::
    ⟨(some 23), .ixs 1 (.t 21) (.t 22), none⟩ ::
    ⟨(some 24), .ld (.t 23), none⟩ ::
    ⟨(some 25), .mv (.t 1), none⟩ ::
    ⟨(some 26), .bin .eql (.t 24) (.t 25), none⟩ ::
    []))
  (.cond (.t 26) (.seq (.reg (⟨(some 27), .ldn 20 (.t 2), none⟩ ::
    ⟨none, .st 20 (.t 4) (.t 27), none⟩ ::
    []))
  .ret) .skip)))
  (.reg (⟨(some 18), .mv (.t 5), none⟩ ::
    ⟨(some 19), .bin .add (.t 18) (.c (.d (.int .i64 1))), none⟩ ::
    ⟨(some 5), .mv (.t 19), none⟩ ::
    [])))))))
  (.seq (.reg (⟨(some 28), .off 2 (.t 2), none⟩ ::
    ⟨(some 29), .ld (.t 28), none⟩ ::
    ⟨(some 30), .mv (.t 1), none⟩ ::
    ⟨(some 31), .call (.c (.fn 60 [])) [(.t 29), (.t 30)], none⟩ ::
    ⟨(some 32), .off 2 (.t 2), none⟩ ::
    ⟨none, .st 1 (.t 32) (.t 31), none⟩ ::
    []))
  (.seq (.seq (.reg (⟨(some 33), .off 3 (.t 2), none⟩ ::
    ⟨(some 34), .ld (.t 33), none⟩ ::
    ⟨(some 35), .mv (.t 1), none⟩ ::
    ⟨(some 36), .bin .eql (.t 34) (.t 35), none⟩ ::
    []))
  (.cond (.t 36) (.reg (⟨(some 37), .off 3 (.t 2), none⟩ ::
    ⟨none, .st 1 (.t 37) (.c (.d (.int .i64 (-1)))), none⟩ ::
    [])) .skip))
  (.seq (.seq (.reg (⟨(some 6), .mv (.c (.d (.int .i64 0))), none⟩ ::
    []))
  (.block 2 (.loop [1, 2, 4, 6] (.seq (.seq (.reg (⟨(some 38), .mv (.t 6), none⟩ ::
    ⟨(some 39), .bin .lss (.t 38) (.c (.d (.int .i64 16))), none⟩ ::
    []))
  (.cond (.t 39) .skip (.exit 2)))
  (.seq (.block 3 (.seq (.reg (⟨(some 42), .mv (.t 6), none⟩ ::
    ⟨(some 43), .off 4 (.t 2), none⟩ ::
    ⟨(some 44), .ixa 16 1 (.t 43) (.t 42), none⟩ ::
    ⟨(some 45), .ld (.t 44), none⟩ ::
    ⟨(some 46), .mv (.t 1), none⟩ ::
    ⟨(some 47), .bin .eql (.t 45) (.t 46), none⟩ ::
    []))
  (.cond (.t 47) (.reg (⟨(some 48), .mv (.t 6), none⟩ ::
    ⟨(some 49), .off 4 (.t 2), none⟩ ::
    ⟨(some 50), .ixa 16 1 (.t 49) (.t 48), none⟩ ::
    ⟨none, .st 1 (.t 50) (.c (.d (.int .i64 (-1)))), none⟩ ::
    [])) .skip)))
  (.reg (⟨(some 40), .mv (.t 6), none⟩ ::
    ⟨(some 41), .bin .add (.t 40) (.c (.d (.int .i64 1))), none⟩ ::
    ⟨(some 6), .mv (.t 41), none⟩ ::
    [])))))))
  (.seq (.reg (⟨(some 51), .ldn 20 (.t 2), none⟩ ::
    ⟨none, .st 20 (.t 4) (.t 51), none⟩ ::
    []))
  .ret)))))))) }
/-- garland/garlandref15.Great -/
def cf30 : CFun := { np := 1, nt := 13, res := [.tmp 2], body :=
  (.seq (.reg (⟨(some 1), .box (.t 0), none⟩ ::
    ⟨(some 2), .mv (.c (.d (.bool false))), none⟩ ::
    []))
  (.seq (.reg (⟨(some 3), .off 1 (.t 1), none⟩ ::
    ⟨(some 4), .ld (.t 3), none⟩ ::
    ⟨(some 5), .len false (.t 4), none⟩ ::
    ⟨(some 6), .bin .gtr (.t 5) (.c (.d (.int .i64 20))), none⟩ ::
    ⟨(some 7), .mv (.t 6), none⟩ ::
    ⟨(some 8), .off 2 (.t 1), (some (7, false))⟩ ::
    ⟨(some 9), .ld (.t 8), (some (7, false))⟩ ::
    ⟨(some 10), .len false (.t 9), (some (7, false))⟩ ::
    ⟨(some 11), .bin .gtr (.t 10) (.c (.d (.int .i64 20))), (some (7, false))⟩ ::
    ⟨(some 12), .pick (.t 7) (.c (.d (.bool true))) (.t 11), none⟩ ::
    ⟨(some 2), .mv (.t 12), none⟩ ::
    []))
  .ret)) }
/-- garland/garlandlaw21.wakes -/
def cf31 : CFun := { np := 0, nt := 193, res := [.tmp 0], body :=
  (.seq (.reg (⟨(some 0), .mv (.c (.d (.bool false))), none⟩ ::
    []))
  (.seq (.reg (⟨(some 19), .call (.c (.fn 61 [])) [], none⟩ ::
    ⟨(some 20), .bld [.d (.str []), .d (.int .i64 0), .d (.int .i64 0), .d (.bool false)] [], none⟩ ::
    ⟨(some 21), .call (.c (.fn 32 [])) [(.t 19), (.c (.d (.int .u8 1))), (.c (.d (.int .i64 15))), (.t 20)], none⟩ ::
    ⟨(some 18), .mv (.t 21), none⟩ ::
    ⟨(some 22), .ext (.t 18) 0, none⟩ ::
    ⟨(some 23), .ext (.t 18) 1, none⟩ ::
    ⟨(some 24), .ext (.t 18) 2, none⟩ ::
    ⟨(some 1), .new [.d (.int .u8 0), .d (.int .u8 0), .d (.int .i64 0), .d (.int .i64 0), .d (.int .i64 0), .d (.bool false), .d (.bool false), .d (.int .i64 0), .d (.str []), .d (.int .i64 0), .d (.int .i64 0), .d (.bool false), .d (.int .i64 0), .nils, .d (.int .i64 0)], none⟩ ::
    ⟨none, .st 15 (.t 1) (.t 22), none⟩ ::
    ⟨(some 2), .mv (.t 23), none⟩ ::
    ⟨(some 3), .mv (.t 24), none⟩ ::
    []))
  (.seq (.reg (⟨(some 26), .call (.c (.fn 61 [])) [], none⟩ ::
    ⟨(some 27), .bld [.d (.str []), .d (.int .i64 0), .d (.int .i64 0), .d (.bool false)] [], none⟩ ::
    ⟨(some 28), .call (.c (.fn 32 [])) [(.t 26), (.c (.d (.int .u8 1))), (.c (.d (.int .i64 30))), (.t 27)], none⟩ ::
    ⟨(some 25), .mv (.t 28), none⟩ ::
    ⟨(some 29), .ext (.t 25) 0, none⟩ ::
    ⟨(some 30), .ext (.t 25) 1, none⟩ ::
    ⟨(some 31), .ext (.t 25) 2, none⟩ ::
    ⟨(some 4), .new [.d (.int .u8 0), .d (.int .u8 0), .d (.int .i64 0), .d (.int .i64 0), .d (.int .i64 0), .d (.bool false), .d (.bool false), .d (.int .i64 0), .d (.str []), .d (.int .i64 0), .d (.int .i64 0), .d (.bool false), .d (.int .i64 0), .nils, .d (.int .i64 0)], none⟩ ::
    ⟨none, .st 15 (.t 4) (.t 29), none⟩ ::
    ⟨(some 5), .mv (.t 30), none⟩ ::
    ⟨(some 6), .mv (.t 31), none⟩ ::
    []))
  (.seq (.seq (.reg (⟨(some 32), .mv (.t 5), none⟩ ::
    ⟨(some 33), .len false (.t 32), none⟩ ::
    ⟨(some 34), .bin .neq (.t 33) (.c (.d (.int .i64 1))), none⟩ ::
    []))
  (.cond (.t 34) (.seq (.reg (⟨(some 0), .mv (.c (.d (.bool false))), none⟩ ::
    []))
  .ret) .skip))
  (.seq (.sreg [7] false (⟨(some 36), .call (.c (.fn 61 [])) [], none⟩ ::
    ⟨(some 37), .ldn 15 (.t 4), none⟩ ::
    ⟨(some 38), .call (.c (.fn 63 [])) [(.c (.d (.int .u8 4))), (.c (.d (.int .i64 20))), (.c (.d (.int .i64 40))), (.c (.d (.bool true))), (.c (.d (.int .i64 0)))], none⟩ ::
    ⟨(some 39), .call (.c (.fn 62 [])) [(.t 36), (.t 37), (.t 38)], none⟩ ::
    ⟨(some 35), .mv (.t 39), none⟩ ::
    ⟨(some 40), .ext (.t 35) 0, none⟩ ::
    ⟨(some 41), .ext (.t 35) 1, none⟩ ::
    ⟨(some 42), .ext (.t 35) 2, none⟩ ::
    ⟨(some 7), .new [.d (.int .u8 0), .d (.int .u8 0), .d (.int .i64 0), .d (.int .i64 0), .d (.int .i64 0), .d (.bool false), .d (.bool false), .d (.int .i64 0), .d (.str []), .d (.int .i64 0), .d (.int .i64 0), .d (.bool false), .d (.int .i64 0), .nils, .d (.int .i64 0)], none⟩ ::
    ⟨none, .st 15 (.t 7) (.t 40), none⟩ ::
    ⟨(some 8), .mv (.t 41), none⟩ ::
    []) (⟨(some 9), .mv (.t 42), none⟩ ::
    []))
  (.seq (.reg (⟨(some 43), .bld [.d (.str []), .d (.int .i64 0), .d (.int .i64 0), .d (.bool false)] [(0, 1, (.c (.d (.str [97])))), (1, 1, (.c (.d (.int .i64 3))))], none⟩ ::
    ⟨(some 10), .new [.d (.str []), .d (.int .i64 0), .d (.int .i64 0), .d (.bool false)], none⟩ ::
    ⟨none, .st 4 (.t 10) (.t 43), none⟩ ::
    []))
  (.seq (.sreg [11] false (⟨(some 45), .call (.c (.fn 61 [])) [], none⟩ ::
    ⟨(some 46), .ldn 4 (.t 10), none⟩ ::
    ⟨(some 47), .call (.c (.fn 32 [])) [(.t 45), (.c (.d (.int .u8 2))), (.c (.d (.int .i64 0))), (.t 46)], none⟩ ::
    ⟨(some 44), .mv (.t 47), none⟩ ::
    ⟨(some 48), .ext (.t 44) 0, none⟩ ::
    ⟨(some 49), .ext (.t 44) 1, none⟩ ::
    ⟨(some 50), .ext (.t 44) 2, none⟩ ::
    ⟨(some 11), .new [.d (.int .u8 0), .d (.int .u8 0), .d (.int .i64 0), .d (.int .i64 0), .d (.int .i64 0), .d (.bool false), .d (.bool false), .d (.int .i64 0), .d (.str []), .d (.int .i64 0), .d (.int .i64 0), .d (.bool false), .d (.int .i64 0), .nils, .d (.int .i64 0)], none⟩ ::
    ⟨none, .st 15 (.t 11) (.t 48), none⟩ ::
    ⟨(some 12), .mv (.t 49), none⟩ ::
    []) (⟨(some 13), .mv (.t 50), none⟩ ::
    []))
  (.seq (.seq (.reg (⟨(some 51), .mv (.t 12), none⟩ ::
    ⟨(some 52), .len false (.t 51), none⟩ ::
    ⟨(some 53), .bin .neq (.t 52) (.c (.d (.int .i64 1))), none⟩ ::
    ⟨(some 54), .mv (.t 53), none⟩ ::
    ⟨(some 55), .mv (.t 12), (some (54, false))⟩ ::
    ⟨(some 56), .ixs 15 (.t 55) (.c (.d (.int .i64 0))), (some (54, false))⟩ ::
    ⟨(some 57), .off 0 (.t 56), (some (54, false))⟩ ::
    ⟨(some 58), .ld (.t 57), (some (54, false))⟩ ::
    ⟨(some 59), .bin .neq (.t 58) (.c (.d (.int .u8 4))), (some (54, false))⟩ ::
    ⟨(some 60), .pick (.t 54) (.c (.d (.bool true))) (.t 59), none⟩ ::
    []))
  (.cond (.t 60) (.seq (.reg (⟨(some 0), .mv (.c (.d (.bool false))), none⟩ ::
    []))
  .ret) .skip))
  (.seq (.sreg [11] false (⟨(some 62), .call (.c (.fn 61 [])) [], none⟩ ::
    ⟨(some 63), .ldn 15 (.t 11), none⟩ ::
    ⟨(some 64), .mv (.t 12), none⟩ ::
    ⟨(some 65), .ixs 15 (.t 64) (.c (.d (.int .i64 0))), none⟩ ::
    ⟨(some 66), .off 3 (.t 65), none⟩ ::
    ⟨(some 67), .ld (.t 66), none⟩ ::
    ⟨(some 68), .call (.c (.fn 63 [])) [(.c (.d (.int .u8 4))), (.t 67), (.c (.d (.int .i64 20))), (.c (.d (.bool true))), (.c (.d (.int .i64 0)))], none⟩ ::
    ⟨(some 69), .call (.c (.fn 62 [])) [(.t 62), (.t 63), (.t 68)], none⟩ ::
    ⟨(some 61), .mv (.t 69), none⟩ ::
    ⟨(some 70), .ext (.t 61) 0, none⟩ ::
    ⟨(some 71), .ext (.t 61) 1, none⟩ ::
    ⟨(some 72), .ext (.t 61) 2, none⟩ ::
    ⟨none, .st 15 (.t 11) (.t 70), none⟩ ::
    ⟨(some 12), .mv (.t 71), none⟩ ::
    []) ([]))
  (.seq (.sreg [11] false (⟨(some 74), .call (.c (.fn 61 [])) [], none⟩ ::
    ⟨(some 75), .ldn 15 (.t 11), none⟩ ::
    ⟨(some 76), .call (.c (.fn 63 [])) [(.c (.d (.int .u8 1))), (.c (.d (.int .i64 20))), (.c (.d (.int .i64 0))), (.c (.d (.bool false))), (.c (.d (.int .i64 0)))], none⟩ ::
    ⟨(some 77), .call (.c (.fn 62 [])) [(.t 74), (.t 75), (.t 76)], none⟩ ::
    ⟨(some 73), .mv (.t 77), none⟩ ::
    ⟨(some 78), .ext (.t 73) 0, none⟩ ::
    ⟨(some 79), .ext (.t 73) 1, none⟩ ::
    ⟨(some 80), .ext (.t 73) 2, none⟩ ::
    ⟨none, .st 15 (.t 11) (.t 78), none⟩ ::
    ⟨(some 12), .mv (.t 79), none⟩ ::
    []) (⟨(some 14), .mv (.t 80), none⟩ ::
    []))
  (.seq (.seq (.reg (⟨(some 81), .mv (.t 12), none⟩ ::
    ⟨(some 82), .len false (.t 81), none⟩ ::
    ⟨(some 83), .bin .neq (.t 82) (.c (.d (.int .i64 2))), none⟩ ::
    []))
  (.cond (.t 83) (.seq (.reg (⟨(some 0), .mv (.c (.d (.bool false))), none⟩ ::
    []))
  .ret) .skip))
  (.seq (.sreg [11] false (⟨(some 85), .call (.c (.fn 61 [])) [], none⟩ ::
    ⟨(some 86), .ldn 15 (.t 11), none⟩ ::
    ⟨(some 87), .call (.c (.fn 63 [])) [(.c (.d (.int .u8 5))), (.c (.d (.int .i64 20))), (.c (.d (.int .i64 0))), (.c (.d (.bool false))), (.c (.d (.int .i64 0)))], none⟩ ::
    ⟨(some 88), .call (.c (.fn 62 [])) [(.t 85), (.t 86), (.t 87)], none⟩ ::
    ⟨(some 84), .mv (.t 88), none⟩ ::
    ⟨(some 89), .ext (.t 84) 0, none⟩ ::
    ⟨(some 90), .ext (.t 84) 1, none⟩ ::
    ⟨(some 91), .ext (.t 84) 2, none⟩ ::
    ⟨none, .st 15 (.t 11) (.t 89), none⟩ ::
    []) ([]))
  (.seq (.sreg [11] false (⟨(some 93), .call (.c (.fn 61 [])) [], none⟩ ::
    ⟨(some 94), .ldn 15 (.t 11), none⟩ ::
    ⟨(some 95), .call (.c (.fn 64 [])) [(.t 93), (.t 94), (.c (.d (.int .i64 40)))], none⟩ ::
    ⟨(some 92), .mv (.t 95), none⟩ ::
    ⟨(some 96), .ext (.t 92) 0, none⟩ ::
    ⟨(some 97), .ext (.t 92) 1, none⟩ ::
    ⟨(some 98), .ext (.t 92) 2, none⟩ ::
    ⟨none, .st 15 (.t 11) (.t 96), none⟩ ::
    []) ([]))
  (.seq (.reg (⟨(some 100), .call (.c (.fn 61 [])) [], none⟩ ::
    ⟨(some 101), .bld [.d (.str []), .d (.int .i64 0), .d (.int .i64 0), .d (.bool false)] [], none⟩ ::
    ⟨(some 102), .call (.c (.fn 32 [])) [(.t 100), (.c (.d (.int .u8 3))), (.c (.d (.int .i64 0))), (.t 101)], none⟩ ::
    ⟨(some 99), .mv (.t 102), none⟩ ::
    ⟨(some 103), .ext (.t 99) 0, none⟩ ::
    ⟨(some 104), .ext (.t 99) 1, none⟩ ::
    ⟨(some 105), .ext (.t 99) 2, none⟩ ::
    ⟨(some 15), .new [.d (.int .u8 0), .d (.int .u8 0), .d (.int .i64 0), .d (.int .i64 0), .d (.int .i64 0), .d (.bool false), .d (.bool false), .d (.int .i64 0), .d (.str []), .d (.int .i64 0), .d (.int .i64 0), .d (.bool false), .d (.int .i64 0), .nils, .d (.int .i64 0)], none⟩ ::
    ⟨none, .st 15 (.t 15) (.t 103), none⟩ ::
    ⟨(some 16), .mv (.t 104), none⟩ ::
    ⟨(some 17), .mv (.t 105), none⟩ ::
    []))
  (.seq (.dreg (⟨(some 106), .off 1 (.t 1), none⟩ ::
    ⟨(some 107), .ld (.t 106), none⟩ ::
    ⟨(some 108), .bin .eql (.t 107) (.c (.d (.int .u8 5))), none⟩ ::
    ⟨(some 109), .mv (.t 108), none⟩ ::
    ⟨(some 110), .off 12 (.t 1), (some (109, true))⟩ ::
    ⟨(some 111), .ld (.t 110), (some (109, true))⟩ ::
    ⟨(some 112), .bin .eql (.t 111) (.c (.d (.int .i64 20))), (some (109, true))⟩ ::
    ⟨(some 113), .pick (.t 109) (.t 112) (.c (.d (.bool false))), none⟩ ::
    ⟨(some 114), .mv (.t 113), none⟩ ::
    ⟨(some 115), .off 14 (.t 1), (some (114, true))⟩ ::
    ⟨(some 116), .ld (.t 115), (some (114, true))⟩ ::
    ⟨(some 117), .bin .eql (.t 116) (.c (.d (.int .i64 0))), (some (114, true))⟩ ::
    ⟨(some 118), .pick (.t 114) (.t 117) (.c (.d (.bool false))), none⟩ ::
    ⟨(some 119), .mv (.t 118), none⟩ ::
    ⟨(some 120), .mv (.t 2), (some (119, true))⟩ ::
    ⟨(some 121), .len false (.t 120), (some (119, true))⟩ ::
    ⟨(some 122), .bin .eql (.t 121) (.c (.d (.int .i64 0))), (some (119, true))⟩ ::
    ⟨(some 123), .pick (.t 119) (.t 122) (.c (.d (.bool false))), none⟩ ::
    ⟨(some 124), .mv (.t 123), none⟩ ::
    ⟨(some 125), .mv (.t 3), (some (124, true))⟩ ::
    ⟨(some 126), .not (.t 125), (some (124, true))⟩ ::
    ⟨(some 127), .pick (.t 124) (.t 126) (.c (.d (.bool false))), none⟩ ::
    ⟨(some 128), .mv (.t 127), none⟩ ::
    ⟨(some 129), .mv (.t 5), (some (128, true))⟩ ::
    ⟨(some 130), .ixs 15 (.t 129) (.c (.d (.int .i64 0))), (some (128, true))⟩ ::
    ⟨(some 131), .off 3 (.t 130), (some (128, true))⟩ ::
    ⟨(some 132), .ld (.t 131), (some (128, true))⟩ ::
    ⟨(some 133), .bin .eql (.t 132) (.c (.d (.int .i64 20))), (some (128, true))⟩ ::
    ⟨(some 134), .pick (.t 128) (.t 133) (.c (.d (.bool false))), none⟩ ::
    ⟨(some 135), .mv (.t 134), none⟩ ::
    ⟨(some 136), .mv (.t 5), (some (135, true))⟩ ::
    ⟨(some 137), .ixs 15 (.t 136) (.c (.d (.int .i64 0))), (some (135, true))⟩ ::
    ⟨(some 138), .off 0 (.t 137), (some (135, true))⟩ ::
    ⟨(some 139), .ld (.t 138), (some (135, true))⟩ ::
    ⟨(some 140), .bin .eql (.t 139) (.c (.d (.int .u8 4))), (some (135, true))⟩ ::
    ⟨(some 141), .pick (.t 135) (.t 140) (.c (.d (.bool false))), none⟩ ::
    ⟨(some 142), .mv (.t 141), none⟩ ::
    ⟨(some 143), .mv (.t 5), (some (142, true))⟩ ::
    ⟨(some 144), .ixs 15 (.t 143) (.c (.d (.int .i64 0))), (some (142, true))⟩ ::
    ⟨(some 145), .off 4 (.t 144), (some (142, true))⟩ ::
    ⟨(some 146), .ld (.t 145), (some (142, true))⟩ ::
    ⟨(some 147), .bin .eql (.t 146) (.c (.d (.int .i64 30))), (some (142, true))⟩ ::
    ⟨(some 148), .pick (.t 142) (.t 147) (.c (.d (.bool false))), none⟩ ::
    ⟨(some 149), .mv (.t 148), none⟩ ::
    ⟨(some 150), .off 1 (.t 7), (some (149, true))⟩ ::
    ⟨(some 151), .ld (.t 150), (some (149, true))⟩ ::
    ⟨(some 152), .bin .eql (.t 151) (.c (.d (.int .u8 5))), (some (149, true))⟩ ::
    ⟨(some 153), .pick (.t 149) (.t 152) (.c (.d (.bool false))), none⟩ ::
    ⟨(some 154), .mv (.t 153), none⟩ ::
    ⟨(some 155), .off 12 (.t 7), (some (154, true))⟩ ::
    ⟨(some 156), .ld (.t 155), (some (154, true))⟩ ::
    ⟨(some 157), .bin .eql (.t 156) (.c (.d (.int .i64 40))), (some (154, true))⟩ ::
    ⟨(some 158), .pick (.t 154) (.t 157) (.c (.d (.bool false))), none⟩ ::
    ⟨(some 159), .mv (.t 158), none⟩ ::
    ⟨(some 160), .mv (.t 8), (some (159, true))⟩ ::
    ⟨(some 161), .len false (.t 160), (some (159, true))⟩ ::
    ⟨(some 162), .bin .eql (.t 161) (.c (.d (.int .i64 0))), (some (159, true))⟩ ::
    ⟨(some 163), .pick (.t 159) (.t 162) (.c (.d (.bool false))), none⟩ ::
    ⟨(some 164), .mv (.t 163), none⟩ ::
    ⟨(some 165), .mv (.t 14), (some (164, true))⟩ ::
    ⟨(some 166), .pick (.t 164) (.t 165) (.c (.d (.bool false))), none⟩ ::
    ⟨(some 167), .mv (.t 166), none⟩ ::
    ⟨(some 168), .off 1 (.t 11), (some (167, true))⟩ ::
    ⟨(some 169), .ld (.t 168), (some (167, true))⟩ ::
    ⟨(some 170), .bin .eql (.t 169) (.c (.d (.int .u8 5))), (some (167, true))⟩ ::
    ⟨(some 171), .pick (.t 167) (.t 170) (.c (.d (.bool false))), none⟩ ::
    ⟨(some 172), .mv (.t 171), none⟩ ::
    ⟨(some 173), .off 14 (.t 11), (some (172, true))⟩ ::
    ⟨(some 174), .ld (.t 173), (some (172, true))⟩ ::
    ⟨(some 175), .bin .eql (.t 174) (.c (.d (.int .i64 210))), (some (172, true))⟩ ::
    ⟨(some 176), .pick (.t 172) (.t 175) (.c (.d (.bool false))), none⟩ ::
    ⟨(some 177), .mv (.t 176), none⟩ ::
    ⟨(some 178), .off 1 (.t 15), (some (177, true))⟩ ::
    ⟨(some 179), .ld (.t 178), (some (177, true))⟩ ::
    ⟨(some 180), .bin .eql (.t 179) (.c (.d (.int .u8 5))), (some (177, true))⟩ ::
    ⟨(some 181), .pick (.t 177) (.t 180) (.c (.d (.bool false))), none⟩ ::
    ⟨(some 182), .mv (.t 181), none⟩ ::
    ⟨(some 183), .off 14 (.t 15), (some (182, true))⟩ ::
    ⟨(some 184), .ld (.t 183), (some (182, true))⟩ ::
    ⟨(some 185), .bin .eql (.t 184) (.c (.d (.int .i64 2))), (some (182, true))⟩ ::
    ⟨(some 186), .pick (.t 182) (.t 185) (.c (.d (.bool false))), none⟩ ::
    ⟨(some 187), .mv (.t 186), none⟩ ::
    ⟨(some 188), .ldn 15 (.t 11), (some (187, true))⟩ ::
    ⟨(some 189), .ldn 15 (.t 11), (some (187, true))⟩ ::
    ⟨(some 190), .call (.c (.fn 66 [])) [(.t 189)], (some (187, true))⟩ ::
    ⟨(some 191), .call (.c (.fn 65 [])) [(.t 188), (.t 190)], (some (187, true))⟩ ::
    ⟨(some 192), .pick (.t 187) (.t 191) (.c (.d (.bool false))), none⟩ ::
    []) (⟨(some 0), .mv (.t 192), none⟩ ::
    []))
  .ret))))))))))))))) }
/-- garland/garlandref13.Great -/
def cf33 : CFun := { np := 1, nt := 13, res := [.tmp 2], body :=
  (.seq (.reg (⟨(some 1), .box (.t 0), none⟩ ::
    ⟨(some 2), .mv (.c (.d (.bool false))), none⟩ ::
    []))
  (.seq (.reg (⟨(some 3), .off 1 (.t 1), none⟩ ::
    ⟨(some 4), .ld (.t 3), none⟩ ::
    ⟨(some 5), .len false (.t 4), none⟩ ::
    ⟨(some 6), .bin .gtr (.t 5) (.c (.d (.int .i64 20))), none⟩ ::
    ⟨(some 7), .mv (.t 6), none⟩ ::
    ⟨(some 8), .off 2 (.t 1), (some (7, false))⟩ ::
    ⟨(some 9), .ld (.t 8), (some (7, false))⟩ ::
    ⟨(some 10), .len false (.t 9), (some (7, false))⟩ ::
    ⟨(some 11), .bin .gtr (.t 10) (.c (.d (.int .i64 20))), (some (7, false))⟩ ::
    ⟨(some 12), .pick (.t 7) (.c (.d (.bool true))) (.t 11), none⟩ ::
    ⟨(some 2), .mv (.t 12), none⟩ ::
    []))
  .ret)) }
/-- garland/garlandref13.New -/
def cf34 : CFun := { np := 2, nt := 25, res := [.cells 4 20, .tmp 5], body :=
  (.seq (.reg (⟨(some 4), .new [.d (.int .i64 0), .nils, .nils, .d (.int .i64 0), .d (.int .i64 0), .d (.int .i64 0), .d (.int .i64 0), .d (.int .i64 0), .d (.int .i64 0), .d (.int .i64 0), .d (.int .i64 0), .d (.int .i64 0), .d (.int .i64 0), .d (.int .i64 0), .d (.int .i64 0), .d (.int .i64 0), .d (.int .i64 0), .d (.int .i64 0), .d (.int .i64 0), .d (.int .i64 0)], none⟩ ::
    ⟨(some 5), .mv (.c (.d (.int .i64 0))), none⟩ ::
    []))
  (.seq (.reg (⟨(some 8), .mv (.t 0), none⟩ ::
    ⟨(some 9), .bls [] 0 1 [], none⟩ ::
    ⟨(some 10), .mv (.t 1), none⟩ ::
    ⟨(some 11), .app 1 (.t 9) (.t 10), none⟩ ::
    ⟨(some 12), .bld [.d (.int .i64 0), .nils, .nils, .d (.int .i64 0), .d (.int .i64 0), .d (.int .i64 0), .d (.int .i64 0), .d (.int .i64 0), .d (.int .i64 0), .d (.int .i64 0), .d (.int .i64 0), .d (.int .i64 0), .d (.int .i64 0), .d (.int .i64 0), .d (.int .i64 0), .d (.int .i64 0), .d (.int .i64 0), .d (.int .i64 0), .d (.int .i64 0), .d (.int .i64 0)] [(0, 1, (.t 8)), (1, 1, (.t 11)), (3, 1, (.c (.d (.int .i64 (-1)))))], none⟩ ::
    ⟨(some 6), .new [.d (.int .i64 0), .nils, .nils, .d (.int .i64 0), .d (.int .i64 0), .d (.int .i64 0), .d (.int .i64 0), .d (.int .i64 0), .d (.int .i64 0), .d (.int .i64 0), .d (.int .i64 0), .d (.int .i64 0), .d (.int .i64 0), .d (.int .i64 0), .d (.int .i64 0), .d (.int .i64 0), .d (.int .i64 0), .d (.int .i64 0), .d (.int .i64 0), .d (.int .i64 0)], none⟩ ::
    ⟨none, .st 20 (.t 6) (.t 12), none⟩ ::
    []))
  (.seq (.seq (.reg (⟨(some 7), .mv (.c (.d (.int .i64 0))), none⟩ ::
    []))
  (.block 0 (.loop [4, 6, 7] (.seq (.seq (.reg (⟨(some 13), .mv (.t 7), none⟩ ::
    ⟨(some 14), .bin .lss (.t 13) (.c (.d (.int .i64 16))), none⟩ ::
    []))
  (.cond (.t 14) .skip (.exit 0)))
  (.seq (.block 1 (.reg (⟨(some 17), .mv (.t 7), none⟩ ::
    ⟨(some 18), .off 4 (.t 6), none⟩ ::
    ⟨(some 19), .ixa 16 1 (.t 18) (.t 17), none⟩ ::
    ⟨none, .st 1 (.t 19) (.c (.d (.int .i64 (-1)))), none⟩ ::
    [])))
  (.reg (⟨(some 15), .mv (.t 7), none⟩ ::
    ⟨(some 16), .bin .add (.t 15) (.c (.d (.int .i64 1))), none⟩ ::
    ⟨(some 7), .mv (.t 16), none⟩ ::
    [])))))))
  (.seq (.seq (.reg (⟨(some 20), .ldn 20 (.t 6), none⟩ ::
    ⟨(some 21), .call (.c (.fn 22 [])) [(.t 20)], none⟩ ::
    ⟨(some 22), .not (.t 21), none⟩ ::
    []))
  (.cond (.t 22) (.seq (.reg (⟨(some 23), .bld [.d (.int .i64 0), .nils, .nils, .d (.int .i64 0), .d (.int .i64 0), .d (.int .i64 0), .d (.int .i64 0), .d (.int .i64 0), .d (.int .i64 0), .d (.int .i64 0), .d (.int .i64 0), .d (.int .i64 0), .d (.int .i64 0), .d (.int .i64 0), .d (.int .i64 0), .d (.int .i64 0), .d (.int .i64 0), .d (.int .i64 0), .d (.int .i64 0), .d (.int .i64 0)] [], none⟩ ::
    ⟨none, .st 20 (.t 4) (.t 23), none⟩ ::
    ⟨(some 5), .mv (.c (.d (.int .i64 2))), none⟩ ::
    []))
  .ret) .skip))
  (.seq (.reg (⟨(some 24), .ldn 20 (.t 6), none⟩ ::
    ⟨none, .st 20 (.t 4) (.t 24), none⟩ ::
    ⟨(some 5), .mv (.c (.d (.int .i64 0))), none⟩ ::
    []))
  .ret))))) }
/-- garland/garlandref12.Ints -/
def cf35 : CFun := { np := 2, nt := 26, res := [.tmp 4], body :=
  (.seq (.reg (⟨(some 4), .mv (.c (.d (.bool false))), none⟩ ::
    []))
  (.seq (.seq (.reg (⟨(some 6), .mv (.t 0), none⟩ ::
    ⟨(some 7), .len false (.t 6), none⟩ ::
    ⟨(some 8), .mv (.t 1), none⟩ ::
    ⟨(some 9), .len false (.t 8), none⟩ ::
    ⟨(some 10), .bin .neq (.t 7) (.t 9), none⟩ ::
    []))
  (.cond (.t 10) (.seq (.reg (⟨(some 4), .mv (.c (.d (.bool false))), none⟩ ::
    []))
  .ret) .skip))
  (.seq (.seq (.reg (⟨(some 5), .mv (.c (.d (.int .i64 0))), none⟩ ::
    []))
  (.block 0 (.loop [0, 1, 5] (.seq (.seq (.reg (⟨(some 11), .mv (.t 5), none⟩ ::
    ⟨(some 12), .mv (.t 0), none⟩ ::
    ⟨(some 13), .len false (.t 12), none⟩ ::
    ⟨(some 14), .bin .lss (.t 11) (.t 13), none⟩ ::
    []))
  (.cond (.t 14) .skip (.exit 0)))
  (.seq (.block 1 (.seq (.dreg (⟨(some 17), .mv (.t 0), none⟩ ::
    ⟨(some 18), .mv (.t 5), none⟩ ::
    ⟨(some 19), .ixs 1 (.t 17) (.t 18), none⟩ ::
    ⟨(some 20), .ld (.t 19), none⟩ ::
    ⟨(some 21), .mv (.t 1), none⟩ ::
    ⟨(some 22), .mv (.t 5), none⟩ ::
    ⟨(some 23), .ixs 1 (.t 21) (.t 22), none⟩ ::
    ⟨(some 24), .ld (.t 23), none⟩ ::
    []) (⟨(some 25), .bin .neq (.t 20) (.t 24), none⟩ ::
    []))
  (.cond (.t 25) (.seq (.reg (⟨(some 4), .mv (.c (.d (.bool false))), none⟩ ::
    []))
  .ret) .skip)))
  (.reg (⟨(some 15), .mv (.t 5), none⟩ ::
    ⟨(some 16), .bin .add (.t 15) (.c (.d (.int .i64 1))), none⟩ ::
    ⟨(some 5), .mv (.t 16), none⟩ ::
    [])))))))
  (.seq (.reg (⟨(some 4), .mv (.c (.d (.bool true))), none⟩ ::
    []))
  .ret)))) }
/-- garland/view.Right -/
def cf36 : CFun := { np := 1, nt := 76, res := [.tmp 2], body :=
  (.seq (.reg (⟨(some 1), .box (.t 0), none⟩ ::
    ⟨(some 2), .mv (.c (.d (.bool false))), none⟩ ::
    []))
  (.scope [] (.seq (.reg (⟨(some 9), .off 1 (.t 1), none⟩ ::
    ⟨(some 10), .ld (.t 9), none⟩ ::
    ⟨(some 11), .len false (.t 10), none⟩ ::
    ⟨(some 3), .mv (.t 11), none⟩ ::
    []))
  (.seq (.reg (⟨(some 12), .mkf 76 [(.t 1)], none⟩ ::
    ⟨(some 4), .mv (.t 12), none⟩ ::
    []))
  (.seq (.seq (.reg (⟨(some 13), .off 0 (.t 1), none⟩ ::
    ⟨(some 14), .ld (.t 13), none⟩ ::
    ⟨(some 15), .call (.c (.fn 77 [])) [(.t 14)], none⟩ ::
    ⟨(some 16), .not (.t 15), none⟩ ::
    ⟨(some 17), .mv (.t 16), none⟩ ::
    ⟨(some 18), .mv (.t 3), (some (17, false))⟩ ::
    ⟨(some 19), .bin .lss (.t 18) (.c (.d (.int .i64 2))), (some (17, false))⟩ ::
    ⟨(some 20), .pick (.t 17) (.c (.d (.bool true))) (.t 19), none⟩ ::
    ⟨(some 21), .mv (.t 20), none⟩ ::
    ⟨(some 22), .mv (.t 3), (some (21, false))⟩ ::
    ⟨(some 23), .bin .gtr (.t 22) (.c (.d (.int .i64 4))), (some (21, false))⟩ ::
    ⟨(some 24), .pick (.t 21) (.c (.d (.bool true))) (.t 23), none⟩ ::
    ⟨(some 25), .mv (.t 24), none⟩ ::
    ⟨(some 26), .off 0 (.t 1), (some (25, false))⟩ ::
    ⟨(some 27), .ld (.t 26), (some (25, false))⟩ ::
    ⟨(some 28), .off 2 (.t 1), (some (25, false))⟩ ::
    ⟨(some 29), .ld (.t 28), (some (25, false))⟩ ::
    ⟨(some 30), .call (.c (.fn 78 [])) [(.t 27), (.t 29)], (some (25, false))⟩ ::
    ⟨(some 31), .not (.t 30), (some (25, false))⟩ ::
    ⟨(some 32), .pick (.t 25) (.c (.d (.bool true))) (.t 31), none⟩ ::
    ⟨(some 33), .mv (.t 32), none⟩ ::
    ⟨(some 34), .mv (.t 4), (some (33, false))⟩ ::
    ⟨(some 35), .off 3 (.t 1), (some (33, false))⟩ ::
    ⟨(some 36), .ld (.t 35), (some (33, false))⟩ ::
    ⟨(some 37), .call (.t 34) [(.t 36)], (some (33, false))⟩ ::
    ⟨(some 38), .not (.t 37), (some (33, false))⟩ ::
    ⟨(some 39), .pick (.t 33) (.c (.d (.bool true))) (.t 38), none⟩ ::
    []))
  (.cond (.t 39) (.goto 0) .skip))
  (.seq (.seq (.reg (⟨(some 40), .off 1 (.t 1), none⟩ ::
    ⟨(some 41), .ld (.t 40), none⟩ ::
    ⟨(some 42), .len false (.t 41), none⟩ ::
    ⟨(some 43), .mv (.c (.d (.int .i64 0))), none⟩ ::
    []))
  (.block 0 (.loop [1, 4, 41, 42, 43] (.seq (.reg (⟨(some 44), .bin .lss (.t 43) (.t 42), none⟩ ::
    []))
  (.seq (.cond (.t 44) .skip (.exit 0))
  (.seq (.block 1 (.seq (.reg (⟨(some 45), .mv (.t 43), none⟩ ::
    ⟨(some 46), .ixs 1 (.t 41) (.t 43), none⟩ ::
    ⟨(some 47), .ld (.t 46), none⟩ ::
    ⟨(some 5), .mv (.t 45), none⟩ ::
    ⟨(some 6), .mv (.t 47), none⟩ ::
    []))
  (.seq (.reg (⟨(some 48), .mv (.t 6), none⟩ ::
    ⟨(some 49), .call (.c (.fn 77 [])) [(.t 48)], none⟩ ::
    ⟨(some 50), .not (.t 49), none⟩ ::
    ⟨(some 51), .mv (.t 50), none⟩ ::
    ⟨(some 52), .mv (.t 5), (some (51, false))⟩ ::
    ⟨(some 53), .bin .gtr (.t 52) (.c (.d (.int .i64 0))), (some (51, false))⟩ ::
    ⟨(some 54), .mv (.t 53), (some (51, false))⟩ ::
    ⟨(some 55), .mv (.t 6), (some (54, true))⟩ ::
    ⟨(some 56), .off 1 (.t 1), (some (54, true))⟩ ::
    ⟨(some 57), .ld (.t 56), (some (54, true))⟩ ::
    ⟨(some 58), .mv (.t 5), (some (54, true))⟩ ::
    ⟨(some 59), .bin .sub (.t 58) (.c (.d (.int .i64 1))), (some (54, true))⟩ ::
    ⟨(some 60), .ixs 1 (.t 57) (.t 59), (some (54, true))⟩ ::
    ⟨(some 61), .ld (.t 60), (some (54, true))⟩ ::
    ⟨(some 62), .bin .leq (.t 55) (.t 61), (some (54, true))⟩ ::
    ⟨(some 63), .pick (.t 54) (.t 62) (.c (.d (.bool false))), (some (51, false))⟩ ::
    ⟨(some 64), .pick (.t 51) (.c (.d (.bool true))) (.t 63), none⟩ ::
    []))
  (.cond (.t 64) (.goto 0) .skip))))
  (.reg (⟨(some 65), .bin .add (.t 43) (.c (.d (.int .i64 1))), none⟩ ::
    ⟨(some 43), .mv (.t 65), none⟩ ::
    []))))))))
  (.seq (.seq (.reg (⟨(some 66), .off 4 (.t 1), none⟩ ::
    ⟨(some 67), .ldn 16 (.t 66), none⟩ ::
    ⟨(some 68), .mv (.c (.d (.int .i64 0))), none⟩ ::
    []))
  (.block 2 (.loop [4, 67, 68] (.seq (.reg (⟨(some 69), .bin .lss (.t 68) (.c (.d (.int .i64 16))), none⟩ ::
    []))
  (.seq (.cond (.t 69) .skip (.exit 2))
  (.seq (.block 3 (.seq (.reg (⟨(some 70), .ixv 16 (.t 67) (.t 68), none⟩ ::
    ⟨(some 8), .mv (.t 70), none⟩ ::
    []))
  (.seq (.reg (⟨(some 71), .mv (.t 4), none⟩ ::
    ⟨(some 72), .mv (.t 8), none⟩ ::
    ⟨(some 73), .call (.t 71) [(.t 72)], none⟩ ::
    ⟨(some 74), .not (.t 73), none⟩ ::
    []))
  (.cond (.t 74) (.goto 0) .skip))))
  (.reg (⟨(some 75), .bin .add (.t 68) (.c (.d (.int .i64 1))), none⟩ ::
    ⟨(some 68), .mv (.t 75), none⟩ ::
    []))))))))
  (.seq (.seq (.reg (⟨(some 2), .mv (.c (.d (.bool true))), none⟩ ::
    []))
  .ret)
  (.seq (.label 0)
  (.seq (.reg (⟨(some 2), .mv (.c (.d (.bool false))), none⟩ ::
    []))
  .ret)))))))))) }
/-- garland/view.First -/
def cf37 : CFun := { np := 1, nt := 18, res := [.tmp 2], body :=
  (.seq (.reg (⟨(some 1), .box (.t 0), none⟩ ::
    ⟨(some 2), .mv (.c (.d (.int .i64 0))), none⟩ ::
    []))
  (.seq (.seq (.reg (⟨(some 3), .ldn 20 (.t 1), none⟩ ::
    ⟨(some 4), .call (.c (.fn 36 [])) [(.t 3)], none⟩ ::
    ⟨(some 5), .not (.t 4), none⟩ ::
    ⟨(some 6), .mv (.t 5), none⟩ ::
    ⟨(some 7), .off 2 (.t 1), (some (6, false))⟩ ::
    ⟨(some 8), .ld (.t 7), (some (6, false))⟩ ::
    ⟨(some 9), .len false (.t 8), (some (6, false))⟩ ::
    ⟨(some 10), .bin .eql (.t 9) (.c (.d (.int .i64 0))), (some (6, false))⟩ ::
    ⟨(some 11), .pick (.t 6) (.c (.d (.bool true))) (.t 10), none⟩ ::
    []))
  (.cond (.t 11) (.seq (.reg (⟨(some 12), .ldn 20 (.t 1), none⟩ ::
    ⟨(some 13), .call (.c (.fn 79 [])) [(.t 12)], none⟩ ::
    ⟨(some 2), .mv (.t 13), none⟩ ::
    []))
  .ret) .skip))
  (.seq (.reg (⟨(some 14), .off 2 (.t 1), none⟩ ::
    ⟨(some 15), .ld (.t 14), none⟩ ::
    ⟨(some 16), .ixs 1 (.t 15) (.c (.d (.int .i64 0))), none⟩ ::
    ⟨(some 17), .ld (.t 16), none⟩ ::
    ⟨(some 2), .mv (.t 17), none⟩ ::
    []))
  .ret))) }
/-- slices.Collect[garland/api.Ask] -/
def cf38 : CFun := { np := 1, nt := 5, res := [.tmp 2], body :=
  (.seq (.reg (⟨(some 2), .mv (.c (.nils)), none⟩ ::
    []))
  (.seq (.reg (⟨(some 3), .mv (.t 0), none⟩ ::
    ⟨(some 4), .call (.c (.fn 80 [])) [(.c (.nils)), (.t 3)], none⟩ ::
    ⟨(some 2), .mv (.t 4), none⟩ ::
    []))
  .ret)) }
/-- garland/stab.asks -/
def cf39 : CFun := { np := 1, nt := 4, res := [.tmp 2], body :=
  (.seq (.reg (⟨(some 1), .box (.t 0), none⟩ ::
    ⟨(some 2), .mv (.c (.nilf)), none⟩ ::
    []))
  (.seq (.reg (⟨(some 3), .mkf 81 [(.t 1)], none⟩ ::
    ⟨(some 2), .mv (.t 3), none⟩ ::
    []))
  .ret)) }
/-- garland/garlandref13.First -/
def cf40 : CFun := { np := 1, nt := 17, res := [.tmp 2], body :=
  (.seq (.reg (⟨(some 1), .box (.t 0), none⟩ ::
    ⟨(some 2), .mv (.c (.d (.int .i64 0))), none⟩ ::
    []))
  (.seq (.seq (.reg (⟨(some 3), .ldn 20 (.t 1), none⟩ ::
    ⟨(some 4), .call (.c (.fn 22 [])) [(.t 3)], none⟩ ::
    ⟨(some 5), .mv (.t 4), none⟩ ::
    ⟨(some 6), .off 2 (.t 1), (some (5, true))⟩ ::
    ⟨(some 7), .ld (.t 6), (some (5, true))⟩ ::
    ⟨(some 8), .len false (.t 7), (some (5, true))⟩ ::
    ⟨(some 9), .bin .gtr (.t 8) (.c (.d (.int .i64 0))), (some (5, true))⟩ ::
    ⟨(some 10), .pick (.t 5) (.t 9) (.c (.d (.bool false))), none⟩ ::
    []))
  (.cond (.t 10) (.seq (.reg (⟨(some 11), .off 2 (.t 1), none⟩ ::
    ⟨(some 12), .ld (.t 11), none⟩ ::
    ⟨(some 13), .ixs 1 (.t 12) (.c (.d (.int .i64 0))), none⟩ ::
    ⟨(some 14), .ld (.t 13), none⟩ ::
    ⟨(some 2), .mv (.t 14), none⟩ ::
    []))
  .ret) .skip))
  (.seq (.reg (⟨(some 15), .ldn 20 (.t 1), none⟩ ::
    ⟨(some 16), .call (.c (.fn 82 [])) [(.t 15)], none⟩ ::
    ⟨(some 2), .mv (.t 16), none⟩ ::
    []))
  .ret))) }
/-- garland/garlandref14.asks -/
def cf41 : CFun := { np := 1, nt := 15, res := [.tmp 2], body :=
  (.seq (.reg (⟨(some 1), .box (.t 0), none⟩ ::
    ⟨(some 2), .mv (.c (.nils)), none⟩ ::
    []))
  (.seq (.reg (⟨(some 3), .mv (.c (.d (.int .u8 1))), none⟩ ::
    []))
  (.seq (.seq (.reg (⟨(some 4), .off 0 (.t 1), none⟩ ::
    ⟨(some 5), .ld (.t 4), none⟩ ::
    ⟨(some 6), .bin .eql (.t 5) (.c (.d (.int .u8 3))), none⟩ ::
    []))
  (.cond (.t 6) (.reg (⟨(some 3), .mv (.c (.d (.int .u8 3))), none⟩ ::
    [])) .skip))
  (.seq (.dreg (⟨(some 7), .mv (.t 3), none⟩ ::
    ⟨(some 8), .off 1 (.t 1), none⟩ ::
    ⟨(some 9), .ld (.t 8), none⟩ ::
    ⟨(some 10), .bld [.d (.int .u8 0), .d (.int .i64 0), .d (.int .i64 0), .d (.int .i64 0), .d (.int .i64 0), .d (.bool false), .d (.bool false), .d (.int .i64 0), .d (.int .i64 0), .nils, .d (.str []), .d (.int .i64 0), .d (.int .i64 0), .d (.bool false), .d (.int .i64 0)] [(0, 1, (.t 7)), (3, 1, (.t 9))], none⟩ ::
    ⟨(some 11), .ldn 2 (.t 1), none⟩ ::
    ⟨(some 12), .call (.c (.fn 21 [])) [(.t 11)], none⟩ ::
    []) (⟨(some 13), .bld [.d (.int .u8 0), .d (.int .i64 0), .d (.int .i64 0), .d (.int .i64 0), .d (.int .i64 0), .d (.bool false), .d (.bool false), .d (.int .i64 0), .d (.int .i64 0), .nils, .d (.str []), .d (.int .i64 0), .d (.int .i64 0), .d (.bool false), .d (.int .i64 0), .d (.int .u8 0)] [(0, 15, (.t 10)), (15, 1, (.t 12))], none⟩ ::
    ⟨(some 14), .bls [.d (.int .u8 0), .d (.int .i64 0), .d (.int .i64 0), .d (.int .i64 0), .d (.int .i64 0), .d (.bool false), .d (.bool false), .d (.int .i64 0), .d (.int .i64 0), .nils, .d (.str []), .d (.int .i64 0), .d (.int .i64 0), .d (.bool false), .d (.int .i64 0), .d (.int .u8 0)] 1 16 [(0, 16, (.t 13))], none⟩ ::
    ⟨(some 2), .mv (.t 14), none⟩ ::
    []))
  .ret)))) }
/-- garland/garlandref06.Same -/
def cf42 : CFun := { np := 2, nt := 106, res := [.tmp 4], body :=
  (.seq (.reg (⟨(some 2), .box (.t 0), none⟩ ::
    ⟨(some 3), .box (.t 1), none⟩ ::
    ⟨(some 4), .mv (.c (.d (.bool false))), none⟩ ::
    []))
  (.seq (.seq (.reg (⟨(some 6), .off 9 (.t 2), none⟩ ::
    ⟨(some 7), .ld (.t 6), none⟩ ::
    ⟨(some 8), .len false (.t 7), none⟩ ::
    ⟨(some 9), .off 9 (.t 3), none⟩ ::
    ⟨(some 10), .ld (.t 9), none⟩ ::
    ⟨(some 11), .len false (.t 10), none⟩ ::
    ⟨(some 12), .bin .neq (.t 8) (.t 11), none⟩ ::
    []))
  (.cond (.t 12) (.seq (.reg (⟨(some 4), .mv (.c (.d (.bool false))), none⟩ ::
    []))
  .ret) .skip))
  (.seq (.seq (.reg (⟨(some 5), .mv (.c (.d (.int .i64 0))), none⟩ ::
    []))
  (.block 0 (.loop [2, 3, 5] (.seq (.seq (.reg (⟨(some 13), .mv (.t 5), none⟩ ::
    ⟨(some 14), .off 9 (.t 2), none⟩ ::
    ⟨(some 15), .ld (.t 14), none⟩ ::
    ⟨(some 16), .len false (.t 15), none⟩ ::
    ⟨(some 17), .bin .lss (.t 13) (.t 16), none⟩ ::
    []))
  (.cond (.t 17) .skip (.exit 0)))
  (.seq (.block 1 (.seq (.dreg (⟨(some 20), .off 9 (.t 2), none⟩ ::
    ⟨(some 21), .ld (.t 20), none⟩ ::
    ⟨(some 22), .mv (.t 5), none⟩ ::
    ⟨(some 23), .ixs 1 (.t 21) (.t 22), none⟩ ::
    ⟨(some 24), .ld (.t 23), none⟩ ::
    ⟨(some 25), .off 9 (.t 3), none⟩ ::
    ⟨(some 26), .ld (.t 25), none⟩ ::
    ⟨(some 27), .mv (.t 5), none⟩ ::
    ⟨(some 28), .ixs 1 (.t 26) (.t 27), none⟩ ::
    ⟨(some 29), .ld (.t 28), none⟩ ::
    []) (⟨(some 30), .bin .neq (.t 24) (.t 29), none⟩ ::
    []))
  (.cond (.t 30) (.seq (.reg (⟨(some 4), .mv (.c (.d (.bool false))), none⟩ ::
    []))
  .ret) .skip)))
  (.reg (⟨(some 18), .mv (.t 5), none⟩ ::
    ⟨(some 19), .bin .add (.t 18) (.c (.d (.int .i64 1))), none⟩ ::
    ⟨(some 5), .mv (.t 19), none⟩ ::
    [])))))))
  (.seq (.reg (⟨(some 31), .off 0 (.t 2), none⟩ ::
    ⟨(some 32), .ld (.t 31), none⟩ ::
    ⟨(some 33), .off 0 (.t 3), none⟩ ::
    ⟨(some 34), .ld (.t 33), none⟩ ::
    ⟨(some 35), .bin .eql (.t 32) (.t 34), none⟩ ::
    ⟨(some 36), .mv (.t 35), none⟩ ::
    ⟨(some 37), .off 1 (.t 2), (some (36, true))⟩ ::
    ⟨(some 38), .ld (.t 37), (some (36, true))⟩ ::
    ⟨(some 39), .off 1 (.t 3), (some (36, true))⟩ ::
    ⟨(some 40), .ld (.t 39), (some (36, true))⟩ ::
    ⟨(some 41), .bin .eql (.t 38) (.t 40), (some (36, true))⟩ ::
    ⟨(some 42), .pick (.t 36) (.t 41) (.c (.d (.bool false))), none⟩ ::
    ⟨(some 43), .mv (.t 42), none⟩ ::
    ⟨(some 44), .off 2 (.t 2), (some (43, true))⟩ ::
    ⟨(some 45), .ld (.t 44), (some (43, true))⟩ ::
    ⟨(some 46), .off 2 (.t 3), (some (43, true))⟩ ::
    ⟨(some 47), .ld (.t 46), (some (43, true))⟩ ::
    ⟨(some 48), .bin .eql (.t 45) (.t 47), (some (43, true))⟩ ::
    ⟨(some 49), .pick (.t 43) (.t 48) (.c (.d (.bool false))), none⟩ ::
    ⟨(some 50), .mv (.t 49), none⟩ ::
    ⟨(some 51), .off 3 (.t 2), (some (50, true))⟩ ::
    ⟨(some 52), .ld (.t 51), (some (50, true))⟩ ::
    ⟨(some 53), .off 3 (.t 3), (some (50, true))⟩ ::
    ⟨(some 54), .ld (.t 53), (some (50, true))⟩ ::
    ⟨(some 55), .bin .eql (.t 52) (.t 54), (some (50, true))⟩ ::
    ⟨(some 56), .pick (.t 50) (.t 55) (.c (.d (.bool false))), none⟩ ::
    ⟨(some 57), .mv (.t 56), none⟩ ::
    ⟨(some 58), .off 4 (.t 2), (some (57, true))⟩ ::
    ⟨(some 59), .ld (.t 58), (some (57, true))⟩ ::
    ⟨(some 60), .off 4 (.t 3), (some (57, true))⟩ ::
    ⟨(some 61), .ld (.t 60), (some (57, true))⟩ ::
    ⟨(some 62), .bin .eql (.t 59) (.t 61), (some (57, true))⟩ ::
    ⟨(some 63), .pick (.t 57) (.t 62) (.c (.d (.bool false))), none⟩ ::
    ⟨(some 64), .mv (.t 63), none⟩ ::
    ⟨(some 65), .off 5 (.t 2), (some (64, true))⟩ ::
    ⟨(some 66), .ld (.t 65), (some (64, true))⟩ ::
    ⟨(some 67), .off 5 (.t 3), (some (64, true))⟩ ::
    ⟨(some 68), .ld (.t 67), (some (64, true))⟩ ::
    ⟨(some 69), .eqb false (.t 66) (.t 68), (some (64, true))⟩ ::
    ⟨(some 70), .pick (.t 64) (.t 69) (.c (.d (.bool false))), none⟩ ::
    ⟨(some 71), .mv (.t 70), none⟩ ::
    ⟨(some 72), .off 6 (.t 2), (some (71, true))⟩ ::
    ⟨(some 73), .ld (.t 72), (some (71, true))⟩ ::
    ⟨(some 74), .off 6 (.t 3), (some (71, true))⟩ ::
    ⟨(some 75), .ld (.t 74), (some (71, true))⟩ ::
    ⟨(some 76), .eqb false (.t 73) (.t 75), (some (71, true))⟩ ::
    ⟨(some 77), .pick (.t 71) (.t 76) (.c (.d (.bool false))), none⟩ ::
    ⟨(some 78), .mv (.t 77), none⟩ ::
    ⟨(some 79), .off 7 (.t 2), (some (78, true))⟩ ::
    ⟨(some 80), .ld (.t 79), (some (78, true))⟩ ::
    ⟨(some 81), .off 7 (.t 3), (some (78, true))⟩ ::
    ⟨(some 82), .ld (.t 81), (some (78, true))⟩ ::
    ⟨(some 83), .bin .eql (.t 80) (.t 82), (some (78, true))⟩ ::
    ⟨(some 84), .pick (.t 78) (.t 83) (.c (.d (.bool false))), none⟩ ::
    ⟨(some 85), .mv (.t 84), none⟩ ::
    ⟨(some 86), .off 8 (.t 2), (some (85, true))⟩ ::
    ⟨(some 87), .ld (.t 86), (some (85, true))⟩ ::
    ⟨(some 88), .off 8 (.t 3), (some (85, true))⟩ ::
    ⟨(some 89), .ld (.t 88), (some (85, true))⟩ ::
    ⟨(some 90), .bin .eql (.t 87) (.t 89), (some (85, true))⟩ ::
    ⟨(some 91), .pick (.t 85) (.t 90) (.c (.d (.bool false))), none⟩ ::
    ⟨(some 92), .mv (.t 91), none⟩ ::
    ⟨(some 93), .off 10 (.t 2), (some (92, true))⟩ ::
    ⟨(some 94), .ldn 4 (.t 93), (some (92, true))⟩ ::
    ⟨(some 95), .off 10 (.t 3), (some (92, true))⟩ ::
    ⟨(some 96), .ldn 4 (.t 95), (some (92, true))⟩ ::
    ⟨(some 97), .eqs false [2, 0, 0, 1] (.t 94) (.t 96), (some (92, true))⟩ ::
    ⟨(some 98), .pick (.t 92) (.t 97) (.c (.d (.bool false))), none⟩ ::
    ⟨(some 99), .mv (.t 98), none⟩ ::
    ⟨(some 100), .off 14 (.t 2), (some (99, true))⟩ ::
    ⟨(some 101), .ld (.t 100), (some (99, true))⟩ ::
    ⟨(some 102), .off 14 (.t 3), (some (99, true))⟩ ::
    ⟨(some 103), .ld (.t 102), (some (99, true))⟩ ::
    ⟨(some 104), .bin .eql (.t 101) (.t 103), (some (99, true))⟩ ::
    ⟨(some 105), .pick (.t 99) (.t 104) (.c (.d (.bool false))), none⟩ ::
    ⟨(some 4), .mv (.t 105), none⟩ ::
    []))
  .ret)))) }
end Go.Proofs.YtfifgiopdbdeoaaDoor.Lite
end
