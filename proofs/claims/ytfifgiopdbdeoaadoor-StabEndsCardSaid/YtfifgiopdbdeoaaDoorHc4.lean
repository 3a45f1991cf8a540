/- A part of the proof of: StabEnds: whatever the view, what is told one behind the other: the law is true, and its arguments stay as they were; the card ties stab.phases to the text. No condition but the card own. -/
import Derived.LoopNIn
import Derived.Test.YtfifgiopdbdeoaaDoorHc1
import Derived.Test.YtfifgiopdbdeoaaDoorHc2
import Derived.Test.YtfifgiopdbdeoaaDoorHc3
set_option linter.unusedSimpArgs false
set_option linter.unusedVariables false
section
namespace Go.Proofs.YtfifgiopdbdeoaaDoor.Lite
open Go
set_option maxRecDepth 100000
/-- garland/view.Own -/
def cf43 : CFun := { np := 1, nt := 12, res := [.cells 2 20], body :=
  (.seq (.reg (⟨(some 1), .box (.t 0), none⟩ ::
    ⟨(some 2), .new [.d (.int .i64 0), .nils, .nils, .d (.int .i64 0), .d (.int .i64 0), .d (.int .i64 0), .d (.int .i64 0), .d (.int .i64 0), .d (.int .i64 0), .d (.int .i64 0), .d (.int .i64 0), .d (.int .i64 0), .d (.int .i64 0), .d (.int .i64 0), .d (.int .i64 0), .d (.int .i64 0), .d (.int .i64 0), .d (.int .i64 0), .d (.int .i64 0), .d (.int .i64 0)], none⟩ ::
    []))
  (.seq (.dreg (⟨(some 3), .off 1 (.t 1), none⟩ ::
    ⟨(some 4), .ld (.t 3), none⟩ ::
    ⟨(some 5), .call (.c (.fn 83 [])) [(.t 4)], none⟩ ::
    ⟨(some 6), .off 2 (.t 1), none⟩ ::
    ⟨(some 7), .ld (.t 6), none⟩ ::
    ⟨(some 8), .call (.c (.fn 83 [])) [(.t 7)], none⟩ ::
    ⟨(some 9), .off 1 (.t 1), none⟩ ::
    []) (⟨none, .st 1 (.t 9) (.t 5), none⟩ ::
    ⟨(some 10), .off 2 (.t 1), none⟩ ::
    ⟨none, .st 1 (.t 10) (.t 8), none⟩ ::
    []))
  (.seq (.reg (⟨(some 11), .ldn 20 (.t 1), none⟩ ::
    ⟨none, .st 20 (.t 2) (.t 11), none⟩ ::
    []))
  .ret))) }
/-- garland/msg.Right -/
def cf44 : CFun := { np := 1, nt := 61, res := [.tmp 2], body :=
  (.seq (.reg (⟨(some 1), .box (.t 0), none⟩ ::
    ⟨(some 2), .mv (.c (.d (.bool false))), none⟩ ::
    []))
  (.scope [] (.seq (.reg (⟨(some 4), .off 0 (.t 1), none⟩ ::
    ⟨(some 5), .ld (.t 4), none⟩ ::
    ⟨(some 6), .off 1 (.t 1), none⟩ ::
    ⟨(some 7), .ld (.t 6), none⟩ ::
    ⟨(some 8), .off 2 (.t 1), none⟩ ::
    ⟨(some 9), .ld (.t 8), none⟩ ::
    ⟨(some 10), .off 3 (.t 1), none⟩ ::
    ⟨(some 11), .ld (.t 10), none⟩ ::
    ⟨(some 12), .bld [.d (.int .u8 0), .d (.int .i64 0), .d (.int .i64 0), .d (.int .i64 0), .d (.int .i64 0), .d (.bool false), .d (.bool false), .d (.int .i64 0), .d (.int .i64 0), .nils, .d (.str []), .d (.int .i64 0), .d (.int .i64 0), .d (.bool false), .d (.int .i64 0)] [(0, 1, (.t 5)), (1, 1, (.t 7)), (2, 1, (.t 9)), (3, 1, (.t 11))], none⟩ ::
    ⟨(some 3), .new [.d (.int .u8 0), .d (.int .i64 0), .d (.int .i64 0), .d (.int .i64 0), .d (.int .i64 0), .d (.bool false), .d (.bool false), .d (.int .i64 0), .d (.int .i64 0), .nils, .d (.str []), .d (.int .i64 0), .d (.int .i64 0), .d (.bool false), .d (.int .i64 0)], none⟩ ::
    ⟨none, .st 15 (.t 3) (.t 12), none⟩ ::
    []))
  (.seq (.seq (.reg (⟨(some 13), .off 0 (.t 1), none⟩ ::
    ⟨(some 14), .ld (.t 13), none⟩ ::
    ⟨(some 15), .bin .lss (.t 14) (.c (.d (.int .u8 1))), none⟩ ::
    ⟨(some 16), .mv (.t 15), none⟩ ::
    ⟨(some 17), .off 0 (.t 1), (some (16, false))⟩ ::
    ⟨(some 18), .ld (.t 17), (some (16, false))⟩ ::
    ⟨(some 19), .bin .geq (.t 18) (.c (.d (.int .u8 13))), (some (16, false))⟩ ::
    ⟨(some 20), .pick (.t 16) (.c (.d (.bool true))) (.t 19), none⟩ ::
    ⟨(some 21), .mv (.t 20), none⟩ ::
    ⟨(some 22), .off 2 (.t 1), (some (21, false))⟩ ::
    ⟨(some 23), .ld (.t 22), (some (21, false))⟩ ::
    ⟨(some 24), .call (.c (.fn 84 [])) [(.t 23)], (some (21, false))⟩ ::
    ⟨(some 25), .not (.t 24), (some (21, false))⟩ ::
    ⟨(some 26), .pick (.t 21) (.c (.d (.bool true))) (.t 25), none⟩ ::
    ⟨(some 27), .mv (.t 26), none⟩ ::
    ⟨(some 28), .off 3 (.t 1), (some (27, false))⟩ ::
    ⟨(some 29), .ld (.t 28), (some (27, false))⟩ ::
    ⟨(some 30), .call (.c (.fn 84 [])) [(.t 29)], (some (27, false))⟩ ::
    ⟨(some 31), .not (.t 30), (some (27, false))⟩ ::
    ⟨(some 32), .pick (.t 27) (.c (.d (.bool true))) (.t 31), none⟩ ::
    ⟨(some 33), .mv (.t 32), none⟩ ::
    ⟨(some 34), .off 2 (.t 1), (some (33, false))⟩ ::
    ⟨(some 35), .ld (.t 34), (some (33, false))⟩ ::
    ⟨(some 36), .off 3 (.t 1), (some (33, false))⟩ ::
    ⟨(some 37), .ld (.t 36), (some (33, false))⟩ ::
    ⟨(some 38), .bin .eql (.t 35) (.t 37), (some (33, false))⟩ ::
    ⟨(some 39), .pick (.t 33) (.c (.d (.bool true))) (.t 38), none⟩ ::
    []))
  (.cond (.t 39) (.goto 0) .skip))
  (.seq (.seq (.dreg (⟨(some 40), .off 1 (.t 1), none⟩ ::
    ⟨(some 41), .ld (.t 40), none⟩ ::
    ⟨(some 42), .bin .lss (.t 41) (.c (.d (.int .i64 1))), none⟩ ::
    ⟨(some 43), .mv (.t 42), none⟩ ::
    ⟨(some 44), .off 1 (.t 1), (some (43, false))⟩ ::
    ⟨(some 45), .ld (.t 44), (some (43, false))⟩ ::
    ⟨(some 46), .bin .sub (.t 45) (.c (.d (.int .i64 1))), (some (43, false))⟩ ::
    ⟨(some 47), .bin .quo (.t 46) (.c (.d (.int .i64 1048576))), (some (43, false))⟩ ::
    ⟨(some 48), .ldn 15 (.t 1), (some (43, false))⟩ ::
    ⟨(some 49), .call (.c (.fn 85 [])) [(.t 48)], (some (43, false))⟩ ::
    ⟨(some 50), .bin .neq (.t 47) (.t 49), (some (43, false))⟩ ::
    ⟨(some 51), .pick (.t 43) (.c (.d (.bool true))) (.t 50), none⟩ ::
    ⟨(some 52), .mv (.t 51), none⟩ ::
    ⟨(some 53), .ldn 15 (.t 1), (some (52, false))⟩ ::
    ⟨(some 54), .call (.c (.fn 86 [])) [(.t 53)], (some (52, false))⟩ ::
    ⟨(some 55), .not (.t 54), (some (52, false))⟩ ::
    ⟨(some 56), .pick (.t 52) (.c (.d (.bool true))) (.t 55), none⟩ ::
    []) ([]))
  (.cond (.t 56) (.goto 0) .skip))
  (.seq (.reg (⟨(some 57), .call (.c (.fn 87 [])) [(.t 1)], none⟩ ::
    []))
  (.seq (.seq (.reg (⟨(some 58), .ldn 15 (.t 1), none⟩ ::
    ⟨(some 59), .ldn 15 (.t 3), none⟩ ::
    ⟨(some 60), .call (.c (.fn 88 [])) [(.t 58), (.t 59)], none⟩ ::
    ⟨(some 2), .mv (.t 60), none⟩ ::
    []))
  .ret)
  (.seq (.label 0)
  (.seq (.reg (⟨(some 2), .mv (.c (.d (.bool false))), none⟩ ::
    []))
  .ret))))))))) }
/-- garland/list.Make -/
def cf45 : CFun := { np := 3, nt := 33, res := [.cell 6], body :=
  (.seq (.reg (⟨(some 3), .box (.t 0), none⟩ ::
    ⟨(some 6), .new [.nils], none⟩ ::
    []))
  (.scope [6] (.seq (.seq (.dreg (⟨(some 9), .ld (.t 3), none⟩ ::
    ⟨(some 10), .mv (.t 1), none⟩ ::
    ⟨(some 11), .bls [.d (.int .i64 0)] 1 1 [(0, 1, (.t 10))], none⟩ ::
    ⟨(some 12), .mv (.t 2), none⟩ ::
    ⟨(some 13), .bls [.nils, .nils] 2 1 [(0, 1, (.t 11)), (1, 1, (.t 12))], none⟩ ::
    ⟨(some 14), .call (.c (.fn 90 [])) [(.t 13)], none⟩ ::
    []) (⟨(some 15), .call (.c (.fn 89 [])) [(.t 9), (.t 14)], none⟩ ::
    []))
  (.block 0 (.range (.t 15) [16, 17] (.seq (.reg (⟨(some 7), .mv (.t 16), none⟩ ::
    []))
  (.reg (⟨(some 8), .mv (.t 17), none⟩ ::
    []))) (.block 1 (.seq (.seq (.reg (⟨(some 18), .ld (.t 6), none⟩ ::
    ⟨(some 19), .len false (.t 18), none⟩ ::
    ⟨(some 20), .bin .eql (.t 19) (.c (.d (.int .i64 3))), none⟩ ::
    ⟨(some 21), .mv (.t 20), none⟩ ::
    ⟨(some 22), .ld (.t 3), (some (21, false))⟩ ::
    ⟨(some 23), .mv (.t 7), (some (21, false))⟩ ::
    ⟨(some 24), .mv (.t 8), (some (21, false))⟩ ::
    ⟨(some 25), .call (.c (.fn 91 [])) [(.t 22), (.t 23), (.t 24)], (some (21, false))⟩ ::
    ⟨(some 26), .not (.t 25), (some (21, false))⟩ ::
    ⟨(some 27), .pick (.t 21) (.c (.d (.bool true))) (.t 26), none⟩ ::
    []))
  (.cond (.t 27) (.goto 0) .skip))
  (.reg (⟨(some 28), .ld (.t 6), none⟩ ::
    ⟨(some 29), .mv (.t 8), none⟩ ::
    ⟨(some 30), .bls [.d (.int .i64 0)] 1 1 [(0, 1, (.t 29))], none⟩ ::
    ⟨(some 31), .app 1 (.t 28) (.t 30), none⟩ ::
    ⟨none, .st 1 (.t 6) (.t 31), none⟩ ::
    [])))))))
  (.seq (.label 0)
  (.seq (.reg (⟨(some 32), .ld (.t 6), none⟩ ::
    ⟨none, .st 1 (.t 6) (.t 32), none⟩ ::
    []))
  .ret))))) }
/-- garland/arc.In -/
def cf46 : CFun := { np := 3, nt := 26, res := [.tmp 6], body :=
  (.seq (.reg (⟨(some 6), .mv (.c (.d (.bool false))), none⟩ ::
    []))
  (.seq (.reg (⟨(some 7), .mv (.t 0), none⟩ ::
    ⟨(some 8), .mv (.t 1), none⟩ ::
    ⟨(some 9), .call (.c (.fn 92 [])) [(.t 7), (.t 8)], none⟩ ::
    ⟨(some 10), .bin .neq (.t 9) (.c (.d (.int .i64 0))), none⟩ ::
    ⟨(some 11), .mv (.t 10), none⟩ ::
    ⟨(some 12), .mv (.t 0), (some (11, true))⟩ ::
    ⟨(some 13), .mv (.t 1), (some (11, true))⟩ ::
    ⟨(some 14), .call (.c (.fn 92 [])) [(.t 12), (.t 13)], (some (11, true))⟩ ::
    ⟨(some 15), .mv (.t 0), (some (11, true))⟩ ::
    ⟨(some 16), .mv (.t 2), (some (11, true))⟩ ::
    ⟨(some 17), .call (.c (.fn 92 [])) [(.t 15), (.t 16)], (some (11, true))⟩ ::
    ⟨(some 18), .bin .lss (.t 14) (.t 17), (some (11, true))⟩ ::
    ⟨(some 19), .mv (.t 18), (some (11, true))⟩ ::
    ⟨(some 20), .mv (.t 0), (some (19, false))⟩ ::
    ⟨(some 21), .mv (.t 2), (some (19, false))⟩ ::
    ⟨(some 22), .call (.c (.fn 92 [])) [(.t 20), (.t 21)], (some (19, false))⟩ ::
    ⟨(some 23), .bin .eql (.t 22) (.c (.d (.int .i64 0))), (some (19, false))⟩ ::
    ⟨(some 24), .pick (.t 19) (.c (.d (.bool true))) (.t 23), (some (11, true))⟩ ::
    ⟨(some 25), .pick (.t 11) (.t 24) (.c (.d (.bool false))), none⟩ ::
    ⟨(some 6), .mv (.t 25), none⟩ ::
    []))
  .ret)) }
/-- garland/garlandref14.counts -/
def cf47 : CFun := { np := 3, nt := 48, res := [.tmp 6], body :=
  (.seq (.reg (⟨(some 3), .box (.t 0), none⟩ ::
    ⟨(some 4), .box (.t 1), none⟩ ::
    ⟨(some 5), .box (.t 2), none⟩ ::
    ⟨(some 6), .mv (.c (.d (.bool false))), none⟩ ::
    []))
  (.seq (.seq (.reg (⟨(some 7), .ldn 20 (.t 3), none⟩ ::
    ⟨(some 8), .call (.c (.fn 22 [])) [(.t 7)], none⟩ ::
    ⟨(some 9), .not (.t 8), none⟩ ::
    ⟨(some 10), .mv (.t 9), none⟩ ::
    ⟨(some 11), .ldn 2 (.t 4), (some (10, false))⟩ ::
    ⟨(some 12), .call (.c (.fn 19 [])) [(.t 11)], (some (10, false))⟩ ::
    ⟨(some 13), .not (.t 12), (some (10, false))⟩ ::
    ⟨(some 14), .pick (.t 10) (.c (.d (.bool true))) (.t 13), none⟩ ::
    ⟨(some 15), .mv (.t 14), none⟩ ::
    ⟨(some 16), .off 0 (.t 4), (some (15, false))⟩ ::
    ⟨(some 17), .ld (.t 16), (some (15, false))⟩ ::
    ⟨(some 18), .bin .eql (.t 17) (.c (.d (.int .u8 0))), (some (15, false))⟩ ::
    ⟨(some 19), .pick (.t 15) (.c (.d (.bool true))) (.t 18), none⟩ ::
    ⟨(some 20), .mv (.t 19), none⟩ ::
    ⟨(some 21), .ldn 15 (.t 5), (some (20, false))⟩ ::
    ⟨(some 22), .call (.c (.fn 25 [])) [(.t 21)], (some (20, false))⟩ ::
    ⟨(some 23), .not (.t 22), (some (20, false))⟩ ::
    ⟨(some 24), .pick (.t 20) (.c (.d (.bool true))) (.t 23), none⟩ ::
    ⟨(some 25), .mv (.t 24), none⟩ ::
    ⟨(some 26), .off 2 (.t 5), (some (25, false))⟩ ::
    ⟨(some 27), .ld (.t 26), (some (25, false))⟩ ::
    ⟨(some 28), .off 1 (.t 4), (some (25, false))⟩ ::
    ⟨(some 29), .ld (.t 28), (some (25, false))⟩ ::
    ⟨(some 30), .bin .neq (.t 27) (.t 29), (some (25, false))⟩ ::
    ⟨(some 31), .pick (.t 25) (.c (.d (.bool true))) (.t 30), none⟩ ::
    ⟨(some 32), .mv (.t 31), none⟩ ::
    ⟨(some 33), .off 3 (.t 5), (some (32, false))⟩ ::
    ⟨(some 34), .ld (.t 33), (some (32, false))⟩ ::
    ⟨(some 35), .off 0 (.t 3), (some (32, false))⟩ ::
    ⟨(some 36), .ld (.t 35), (some (32, false))⟩ ::
    ⟨(some 37), .bin .neq (.t 34) (.t 36), (some (32, false))⟩ ::
    ⟨(some 38), .pick (.t 32) (.c (.d (.bool true))) (.t 37), none⟩ ::
    []))
  (.cond (.t 38) (.seq (.reg (⟨(some 6), .mv (.c (.d (.bool false))), none⟩ ::
    []))
  .ret) .skip))
  (.seq (.seq (.reg (⟨(some 39), .off 0 (.t 4), none⟩ ::
    ⟨(some 40), .ld (.t 39), none⟩ ::
    ⟨(some 41), .bin .eql (.t 40) (.c (.d (.int .u8 3))), none⟩ ::
    []))
  (.cond (.t 41) (.seq (.reg (⟨(some 42), .off 0 (.t 5), none⟩ ::
    ⟨(some 43), .ld (.t 42), none⟩ ::
    ⟨(some 44), .bin .eql (.t 43) (.c (.d (.int .u8 9))), none⟩ ::
    ⟨(some 6), .mv (.t 44), none⟩ ::
    []))
  .ret) .skip))
  (.seq (.reg (⟨(some 45), .off 0 (.t 5), none⟩ ::
    ⟨(some 46), .ld (.t 45), none⟩ ::
    ⟨(some 47), .bin .eql (.t 46) (.c (.d (.int .u8 7))), none⟩ ::
    ⟨(some 6), .mv (.t 47), none⟩ ::
    []))
  .ret)))) }
/-- garland/garlandref12.Make -/
def cf48 : CFun := { np := 3, nt := 59, res := [.tmp 6], body :=
  (.seq (.reg (⟨(some 6), .mv (.c (.nils)), none⟩ ::
    []))
  (.seq (.seq (.reg (⟨(some 9), .mv (.t 1), none⟩ ::
    ⟨(some 10), .call (.c (.fn 56 [])) [(.t 9)], none⟩ ::
    ⟨(some 11), .not (.t 10), none⟩ ::
    ⟨(some 12), .mv (.t 11), none⟩ ::
    ⟨(some 13), .mv (.t 0), (some (12, false))⟩ ::
    ⟨(some 14), .call (.c (.fn 57 [])) [(.t 13)], (some (12, false))⟩ ::
    ⟨(some 15), .mv (.t 1), (some (12, false))⟩ ::
    ⟨(some 16), .bin .eql (.t 14) (.t 15), (some (12, false))⟩ ::
    ⟨(some 17), .pick (.t 12) (.c (.d (.bool true))) (.t 16), none⟩ ::
    []))
  (.cond (.t 17) (.seq (.reg (⟨(some 6), .mv (.c (.nils)), none⟩ ::
    []))
  .ret) .skip))
  (.seq (.reg (⟨(some 18), .mv (.t 1), none⟩ ::
    ⟨(some 19), .bls [.d (.int .i64 0)] 1 1 [(0, 1, (.t 18))], none⟩ ::
    ⟨(some 7), .mv (.t 19), none⟩ ::
    []))
  (.seq (.seq (.reg (⟨(some 8), .mv (.c (.d (.int .i64 0))), none⟩ ::
    []))
  (.block 0 (.loop [0, 2, 7, 8] (.seq (.seq (.reg (⟨(some 20), .mv (.t 8), none⟩ ::
    ⟨(some 21), .mv (.t 2), none⟩ ::
    ⟨(some 22), .len false (.t 21), none⟩ ::
    ⟨(some 23), .bin .lss (.t 20) (.t 22), none⟩ ::
    ⟨(some 24), .mv (.t 23), none⟩ ::
    ⟨(some 25), .mv (.t 7), (some (24, true))⟩ ::
    ⟨(some 26), .len false (.t 25), (some (24, true))⟩ ::
    ⟨(some 27), .bin .lss (.t 26) (.c (.d (.int .i64 3))), (some (24, true))⟩ ::
    ⟨(some 28), .pick (.t 24) (.t 27) (.c (.d (.bool false))), none⟩ ::
    []))
  (.cond (.t 28) .skip (.exit 0)))
  (.seq (.block 1 (.seq (.seq (.dreg (⟨(some 31), .mv (.t 2), none⟩ ::
    ⟨(some 32), .mv (.t 8), none⟩ ::
    ⟨(some 33), .ixs 1 (.t 31) (.t 32), none⟩ ::
    ⟨(some 34), .ld (.t 33), none⟩ ::
    ⟨(some 35), .call (.c (.fn 56 [])) [(.t 34)], none⟩ ::
    ⟨(some 36), .not (.t 35), none⟩ ::
    ⟨(some 37), .mv (.t 36), none⟩ ::
    ⟨(some 38), .mv (.t 0), (some (37, false))⟩ ::
    ⟨(some 39), .mv (.t 7), (some (37, false))⟩ ::
    ⟨(some 40), .mv (.t 8), (some (37, false))⟩ ::
    ⟨(some 41), .ixs 1 (.t 39) (.t 40), (some (37, false))⟩ ::
    ⟨(some 42), .ld (.t 41), (some (37, false))⟩ ::
    ⟨(some 43), .mv (.t 2), (some (37, false))⟩ ::
    ⟨(some 44), .mv (.t 8), (some (37, false))⟩ ::
    ⟨(some 45), .ixs 1 (.t 43) (.t 44), (some (37, false))⟩ ::
    ⟨(some 46), .ld (.t 45), (some (37, false))⟩ ::
    []) (⟨(some 47), .call (.c (.fn 58 [])) [(.t 38), (.t 42), (.t 46)], (some (37, false))⟩ ::
    ⟨(some 48), .not (.t 47), (some (37, false))⟩ ::
    ⟨(some 49), .pick (.t 37) (.c (.d (.bool true))) (.t 48), none⟩ ::
    []))
  (.cond (.t 49) (.seq (.reg (⟨(some 50), .mv (.t 7), none⟩ ::
    ⟨(some 6), .mv (.t 50), none⟩ ::
    []))
  .ret) .skip))
  (.reg (⟨(some 51), .mv (.t 7), none⟩ ::
    ⟨(some 52), .mv (.t 2), none⟩ ::
    ⟨(some 53), .mv (.t 8), none⟩ ::
    ⟨(some 54), .ixs 1 (.t 52) (.t 53), none⟩ ::
    ⟨(some 55), .ld (.t 54), none⟩ ::
    ⟨(some 56), .bls [.d (.int .i64 0)] 1 1 [(0, 1, (.t 55))], none⟩ ::
    ⟨(some 57), .app 1 (.t 51) (.t 56), none⟩ ::
    ⟨(some 7), .mv (.t 57), none⟩ ::
    []))))
  (.reg (⟨(some 29), .mv (.t 8), none⟩ ::
    ⟨(some 30), .bin .add (.t 29) (.c (.d (.int .i64 1))), none⟩ ::
    ⟨(some 8), .mv (.t 30), none⟩ ::
    [])))))))
  (.seq (.reg (⟨(some 58), .mv (.t 7), none⟩ ::
    ⟨(some 6), .mv (.t 58), none⟩ ::
    []))
  .ret))))) }
/-- garland/view.Dead -/
def cf49 : CFun := { np := 2, nt := 45, res := [.cells 4 20], body :=
  (.seq (.reg (⟨(some 2), .box (.t 0), none⟩ ::
    ⟨(some 3), .box (.t 1), none⟩ ::
    ⟨(some 4), .new [.d (.int .i64 0), .nils, .nils, .d (.int .i64 0), .d (.int .i64 0), .d (.int .i64 0), .d (.int .i64 0), .d (.int .i64 0), .d (.int .i64 0), .d (.int .i64 0), .d (.int .i64 0), .d (.int .i64 0), .d (.int .i64 0), .d (.int .i64 0), .d (.int .i64 0), .d (.int .i64 0), .d (.int .i64 0), .d (.int .i64 0), .d (.int .i64 0), .d (.int .i64 0)], none⟩ ::
    []))
  (.seq (.reg (⟨(some 8), .ldn 20 (.t 2), none⟩ ::
    ⟨(some 9), .call (.c (.fn 43 [])) [(.t 8)], none⟩ ::
    ⟨none, .st 20 (.t 2) (.t 9), none⟩ ::
    []))
  (.seq (.seq (.reg (⟨(some 10), .ldn 20 (.t 2), none⟩ ::
    ⟨(some 11), .call (.c (.fn 36 [])) [(.t 10)], none⟩ ::
    ⟨(some 12), .not (.t 11), none⟩ ::
    ⟨(some 13), .mv (.t 12), none⟩ ::
    ⟨(some 14), .off 1 (.t 2), (some (13, false))⟩ ::
    ⟨(some 15), .ld (.t 14), (some (13, false))⟩ ::
    ⟨(some 16), .ld (.t 3), (some (13, false))⟩ ::
    ⟨(some 17), .call (.c (.fn 93 [])) [(.t 15), (.t 16)], (some (13, false))⟩ ::
    ⟨(some 18), .pick (.t 13) (.c (.d (.bool true))) (.t 17), none⟩ ::
    []))
  (.cond (.t 18) (.seq (.reg (⟨(some 19), .ldn 20 (.t 2), none⟩ ::
    ⟨none, .st 20 (.t 4) (.t 19), none⟩ ::
    []))
  .ret) .skip))
  (.seq (.reg (⟨(some 20), .off 2 (.t 2), none⟩ ::
    ⟨(some 21), .ld (.t 20), none⟩ ::
    ⟨(some 22), .ld (.t 3), none⟩ ::
    ⟨(some 23), .call (.c (.fn 94 [])) [(.t 21), (.t 22)], none⟩ ::
    ⟨(some 24), .off 2 (.t 2), none⟩ ::
    ⟨none, .st 1 (.t 24) (.t 23), none⟩ ::
    []))
  (.seq (.reg (⟨(some 25), .mkf 95 [(.t 3)], none⟩ ::
    ⟨(some 5), .mv (.t 25), none⟩ ::
    []))
  (.seq (.reg (⟨(some 26), .mv (.t 5), none⟩ ::
    ⟨(some 27), .off 3 (.t 2), none⟩ ::
    ⟨(some 28), .ld (.t 27), none⟩ ::
    ⟨(some 29), .call (.t 26) [(.t 28)], none⟩ ::
    ⟨(some 30), .off 3 (.t 2), none⟩ ::
    ⟨none, .st 1 (.t 30) (.t 29), none⟩ ::
    []))
  (.seq (.seq (.reg (⟨(some 31), .off 4 (.t 2), none⟩ ::
    ⟨(some 32), .ldn 16 (.t 31), none⟩ ::
    ⟨(some 33), .mv (.c (.d (.int .i64 0))), none⟩ ::
    []))
  (.block 0 (.loop [2, 4, 5, 32, 33] (.seq (.reg (⟨(some 34), .bin .lss (.t 33) (.c (.d (.int .i64 16))), none⟩ ::
    []))
  (.seq (.cond (.t 34) .skip (.exit 0))
  (.seq (.block 1 (.seq (.reg (⟨(some 35), .mv (.t 33), none⟩ ::
    ⟨(some 36), .ixv 16 (.t 32) (.t 33), none⟩ ::
    ⟨(some 6), .mv (.t 35), none⟩ ::
    ⟨(some 7), .mv (.t 36), none⟩ ::
    []))
  (.reg (⟨(some 37), .mv (.t 6), none⟩ ::
    ⟨(some 38), .mv (.t 5), none⟩ ::
    ⟨(some 39), .mv (.t 7), none⟩ ::
    ⟨(some 40), .call (.t 38) [(.t 39)], none⟩ ::
    ⟨(some 41), .off 4 (.t 2), none⟩ ::
    ⟨(some 42), .ixa 16 1 (.t 41) (.t 37), none⟩ ::
    ⟨none, .st 1 (.t 42) (.t 40), none⟩ ::
    []))))
  (.reg (⟨(some 43), .bin .add (.t 33) (.c (.d (.int .i64 1))), none⟩ ::
    ⟨(some 33), .mv (.t 43), none⟩ ::
    []))))))))
  (.seq (.reg (⟨(some 44), .ldn 20 (.t 2), none⟩ ::
    ⟨none, .st 20 (.t 4) (.t 44), none⟩ ::
    []))
  .ret)))))))) }
/-- garland/garlandref13.place -/
def cf50 : CFun := { np := 1, nt := 9, res := [.tmp 2], body :=
  (.seq (.reg (⟨(some 2), .mv (.c (.d (.bool false))), none⟩ ::
    []))
  (.seq (.reg (⟨(some 3), .mv (.t 0), none⟩ ::
    ⟨(some 4), .bin .geq (.t 3) (.c (.d (.int .i64 0))), none⟩ ::
    ⟨(some 5), .mv (.t 4), none⟩ ::
    ⟨(some 6), .mv (.t 0), (some (5, true))⟩ ::
    ⟨(some 7), .bin .lss (.t 6) (.c (.d (.int .i64 65536))), (some (5, true))⟩ ::
    ⟨(some 8), .pick (.t 5) (.t 7) (.c (.d (.bool false))), none⟩ ::
    ⟨(some 2), .mv (.t 8), none⟩ ::
    []))
  .ret)) }
/-- garland/garlandref13.other -/
def cf51 : CFun := { np := 2, nt := 17, res := [.tmp 4], body :=
  (.seq (.reg (⟨(some 2), .box (.t 0), none⟩ ::
    ⟨(some 4), .mv (.c (.d (.bool false))), none⟩ ::
    []))
  (.seq (.reg (⟨(some 5), .mv (.t 1), none⟩ ::
    ⟨(some 6), .bin .eql (.t 5) (.c (.d (.int .i64 (-1)))), none⟩ ::
    ⟨(some 7), .mv (.t 6), none⟩ ::
    ⟨(some 8), .mv (.t 1), (some (7, false))⟩ ::
    ⟨(some 9), .call (.c (.fn 50 [])) [(.t 8)], (some (7, false))⟩ ::
    ⟨(some 10), .mv (.t 9), (some (7, false))⟩ ::
    ⟨(some 11), .mv (.t 1), (some (10, true))⟩ ::
    ⟨(some 12), .off 0 (.t 2), (some (10, true))⟩ ::
    ⟨(some 13), .ld (.t 12), (some (10, true))⟩ ::
    ⟨(some 14), .bin .neq (.t 11) (.t 13), (some (10, true))⟩ ::
    ⟨(some 15), .pick (.t 10) (.t 14) (.c (.d (.bool false))), (some (7, false))⟩ ::
    ⟨(some 16), .pick (.t 7) (.c (.d (.bool true))) (.t 15), none⟩ ::
    ⟨(some 4), .mv (.t 16), none⟩ ::
    []))
  .ret)) }
/-- garland/garlandref06.place -/
def cf52 : CFun := { np := 1, nt := 9, res := [.tmp 2], body :=
  (.seq (.reg (⟨(some 2), .mv (.c (.d (.bool false))), none⟩ ::
    []))
  (.seq (.reg (⟨(some 3), .mv (.t 0), none⟩ ::
    ⟨(some 4), .bin .geq (.t 3) (.c (.d (.int .i64 0))), none⟩ ::
    ⟨(some 5), .mv (.t 4), none⟩ ::
    ⟨(some 6), .mv (.t 0), (some (5, true))⟩ ::
    ⟨(some 7), .bin .lss (.t 6) (.c (.d (.int .i64 65536))), (some (5, true))⟩ ::
    ⟨(some 8), .pick (.t 5) (.t 7) (.c (.d (.bool false))), none⟩ ::
    ⟨(some 2), .mv (.t 8), none⟩ ::
    []))
  .ret)) }
/-- garland/garlandref06.Asker -/
def cf53 : CFun := { np := 1, nt := 9, res := [.tmp 2], body :=
  (.seq (.reg (⟨(some 1), .box (.t 0), none⟩ ::
    ⟨(some 2), .mv (.c (.d (.int .i64 0))), none⟩ ::
    []))
  (.seq (.seq (.reg (⟨(some 3), .ldn 15 (.t 1), none⟩ ::
    ⟨(some 4), .call (.c (.fn 96 [])) [(.t 3)], none⟩ ::
    []))
  (.cond (.t 4) (.seq (.reg (⟨(some 5), .off 2 (.t 1), none⟩ ::
    ⟨(some 6), .ld (.t 5), none⟩ ::
    ⟨(some 2), .mv (.t 6), none⟩ ::
    []))
  .ret) .skip))
  (.seq (.reg (⟨(some 7), .off 3 (.t 1), none⟩ ::
    ⟨(some 8), .ld (.t 7), none⟩ ::
    ⟨(some 2), .mv (.t 8), none⟩ ::
    []))
  .ret))) }
/-- garland/garlandref06.bare -/
def cf54 : CFun := { np := 1, nt := 31, res := [.cells 2 15], body :=
  (.seq (.reg (⟨(some 1), .box (.t 0), none⟩ ::
    ⟨(some 2), .new [.d (.int .u8 0), .d (.int .i64 0), .d (.int .i64 0), .d (.int .i64 0), .d (.int .i64 0), .d (.bool false), .d (.bool false), .d (.int .i64 0), .d (.int .i64 0), .nils, .d (.str []), .d (.int .i64 0), .d (.int .i64 0), .d (.bool false), .d (.int .i64 0)], none⟩ ::
    []))
  (.seq (.seq (.reg (⟨(some 3), .off 0 (.t 1), none⟩ ::
    ⟨(some 4), .ld (.t 3), none⟩ ::
    []))
  (.block 0 (.seq (.reg (⟨(some 6), .bin .eql (.t 4) (.c (.d (.int .u8 4))), none⟩ ::
    ⟨(some 5), .mv (.t 6), none⟩ ::
    []))
  (.cond (.t 5) (.reg (⟨(some 7), .off 4 (.t 1), none⟩ ::
    ⟨none, .st 1 (.t 7) (.c (.d (.int .i64 0))), none⟩ ::
    ⟨(some 8), .off 5 (.t 1), none⟩ ::
    ⟨none, .st 1 (.t 8) (.c (.d (.bool false))), none⟩ ::
    [])) (.seq (.seq (.reg (⟨(some 10), .bin .eql (.t 4) (.c (.d (.int .u8 5))), none⟩ ::
    ⟨(some 9), .mv (.t 10), none⟩ ::
    []))
  (.cond (.t 9) .skip (.reg (⟨(some 11), .bin .eql (.t 4) (.c (.d (.int .u8 6))), none⟩ ::
    ⟨(some 9), .mv (.t 11), none⟩ ::
    []))))
  (.cond (.t 9) (.reg (⟨(some 12), .bld [.d (.str []), .d (.int .i64 0), .d (.int .i64 0), .d (.bool false)] [], none⟩ ::
    ⟨(some 13), .off 10 (.t 1), none⟩ ::
    ⟨none, .st 4 (.t 13) (.t 12), none⟩ ::
    [])) (.seq (.reg (⟨(some 15), .bin .eql (.t 4) (.c (.d (.int .u8 7))), none⟩ ::
    ⟨(some 14), .mv (.t 15), none⟩ ::
    []))
  (.cond (.t 14) (.reg (⟨(some 16), .off 8 (.t 1), none⟩ ::
    ⟨none, .st 1 (.t 16) (.c (.d (.int .i64 0))), none⟩ ::
    ⟨(some 17), .off 9 (.t 1), none⟩ ::
    ⟨none, .st 1 (.t 17) (.c (.nils)), none⟩ ::
    [])) (.seq (.reg (⟨(some 19), .bin .eql (.t 4) (.c (.d (.int .u8 10))), none⟩ ::
    ⟨(some 18), .mv (.t 19), none⟩ ::
    []))
  (.cond (.t 18) (.reg (⟨(some 20), .off 7 (.t 1), none⟩ ::
    ⟨none, .st 1 (.t 20) (.c (.d (.int .i64 0))), none⟩ ::
    ⟨(some 21), .off 6 (.t 1), none⟩ ::
    ⟨none, .st 1 (.t 21) (.c (.d (.bool false))), none⟩ ::
    [])) (.seq (.reg (⟨(some 23), .bin .eql (.t 4) (.c (.d (.int .u8 11))), none⟩ ::
    ⟨(some 22), .mv (.t 23), none⟩ ::
    []))
  (.cond (.t 22) (.reg (⟨(some 24), .off 14 (.t 1), none⟩ ::
    ⟨none, .st 1 (.t 24) (.c (.d (.int .i64 0))), none⟩ ::
    [])) (.seq (.reg (⟨(some 26), .bin .eql (.t 4) (.c (.d (.int .u8 12))), none⟩ ::
    ⟨(some 25), .mv (.t 26), none⟩ ::
    []))
  (.cond (.t 25) (.reg (⟨(some 27), .bld [.d (.str []), .d (.int .i64 0), .d (.int .i64 0), .d (.bool false)] [], none⟩ ::
    ⟨(some 28), .off 14 (.t 1), none⟩ ::
    ⟨none, .st 1 (.t 28) (.c (.d (.int .i64 0))), none⟩ ::
    ⟨(some 29), .off 10 (.t 1), none⟩ ::
    ⟨none, .st 4 (.t 29) (.t 27), none⟩ ::
    [])) .skip))))))))))))))
  (.seq (.reg (⟨(some 30), .ldn 15 (.t 1), none⟩ ::
    ⟨none, .st 15 (.t 2) (.t 30), none⟩ ::
    []))
  .ret))) }
/-- garland/garlandref06.has -/
def cf55 : CFun := { np := 1, nt := 82, res := [.tmp 2], body :=
  (.seq (.reg (⟨(some 1), .box (.t 0), none⟩ ::
    ⟨(some 2), .mv (.c (.d (.bool false))), none⟩ ::
    []))
  (.seq (.seq (.reg (⟨(some 3), .off 0 (.t 1), none⟩ ::
    ⟨(some 4), .ld (.t 3), none⟩ ::
    []))
  (.block 0 (.seq (.reg (⟨(some 6), .bin .eql (.t 4) (.c (.d (.int .u8 4))), none⟩ ::
    ⟨(some 5), .mv (.t 6), none⟩ ::
    []))
  (.cond (.t 5) (.seq (.reg (⟨(some 7), .off 4 (.t 1), none⟩ ::
    ⟨(some 8), .ld (.t 7), none⟩ ::
    ⟨(some 9), .call (.c (.fn 52 [])) [(.t 8)], none⟩ ::
    ⟨(some 2), .mv (.t 9), none⟩ ::
    []))
  .ret) (.seq (.reg (⟨(some 11), .bin .eql (.t 4) (.c (.d (.int .u8 5))), none⟩ ::
    ⟨(some 10), .mv (.t 11), none⟩ ::
    []))
  (.cond (.t 10) (.seq (.reg (⟨(some 12), .off 10 (.t 1), none⟩ ::
    ⟨(some 13), .ldn 4 (.t 12), none⟩ ::
    ⟨(some 14), .call (.c (.fn 97 [])) [(.t 13)], none⟩ ::
    ⟨(some 2), .mv (.t 14), none⟩ ::
    []))
  .ret) (.seq (.reg (⟨(some 16), .bin .eql (.t 4) (.c (.d (.int .u8 6))), none⟩ ::
    ⟨(some 15), .mv (.t 16), none⟩ ::
    []))
  (.cond (.t 15) (.seq (.reg (⟨(some 17), .off 10 (.t 1), none⟩ ::
    ⟨(some 18), .ldn 4 (.t 17), none⟩ ::
    ⟨(some 19), .call (.c (.fn 97 [])) [(.t 18)], none⟩ ::
    ⟨(some 20), .mv (.t 19), none⟩ ::
    ⟨(some 21), .off 10 (.t 1), (some (20, true))⟩ ::
    ⟨(some 22), .ldn 4 (.t 21), (some (20, true))⟩ ::
    ⟨(some 23), .off 10 (.t 1), (some (20, true))⟩ ::
    ⟨(some 24), .off 0 (.t 23), (some (20, true))⟩ ::
    ⟨(some 25), .ld (.t 24), (some (20, true))⟩ ::
    ⟨(some 26), .bld [.d (.str []), .d (.int .i64 0), .d (.int .i64 0), .d (.bool false)] [(0, 1, (.t 25))], (some (20, true))⟩ ::
    ⟨(some 27), .eqs false [2, 0, 0, 1] (.t 22) (.t 26), (some (20, true))⟩ ::
    ⟨(some 28), .pick (.t 20) (.t 27) (.c (.d (.bool false))), none⟩ ::
    ⟨(some 2), .mv (.t 28), none⟩ ::
    []))
  .ret) (.seq (.reg (⟨(some 30), .bin .eql (.t 4) (.c (.d (.int .u8 7))), none⟩ ::
    ⟨(some 29), .mv (.t 30), none⟩ ::
    []))
  (.cond (.t 29) (.seq (.reg (⟨(some 31), .off 8 (.t 1), none⟩ ::
    ⟨(some 32), .ld (.t 31), none⟩ ::
    ⟨(some 33), .bin .eql (.t 32) (.c (.d (.int .i64 (-1)))), none⟩ ::
    ⟨(some 34), .mv (.t 33), none⟩ ::
    ⟨(some 35), .off 8 (.t 1), (some (34, false))⟩ ::
    ⟨(some 36), .ld (.t 35), (some (34, false))⟩ ::
    ⟨(some 37), .call (.c (.fn 52 [])) [(.t 36)], (some (34, false))⟩ ::
    ⟨(some 38), .pick (.t 34) (.c (.d (.bool true))) (.t 37), none⟩ ::
    ⟨(some 39), .mv (.t 38), none⟩ ::
    ⟨(some 40), .off 9 (.t 1), (some (39, true))⟩ ::
    ⟨(some 41), .ld (.t 40), (some (39, true))⟩ ::
    ⟨(some 42), .off 2 (.t 1), (some (39, true))⟩ ::
    ⟨(some 43), .ld (.t 42), (some (39, true))⟩ ::
    ⟨(some 44), .call (.c (.fn 98 [])) [(.t 41), (.t 43)], (some (39, true))⟩ ::
    ⟨(some 45), .pick (.t 39) (.t 44) (.c (.d (.bool false))), none⟩ ::
    ⟨(some 2), .mv (.t 45), none⟩ ::
    []))
  .ret) (.seq (.reg (⟨(some 47), .bin .eql (.t 4) (.c (.d (.int .u8 10))), none⟩ ::
    ⟨(some 46), .mv (.t 47), none⟩ ::
    []))
  (.cond (.t 46) (.seq (.reg (⟨(some 48), .off 7 (.t 1), none⟩ ::
    ⟨(some 49), .ld (.t 48), none⟩ ::
    ⟨(some 50), .call (.c (.fn 52 [])) [(.t 49)], none⟩ ::
    ⟨(some 2), .mv (.t 50), none⟩ ::
    []))
  .ret) (.seq (.reg (⟨(some 52), .bin .eql (.t 4) (.c (.d (.int .u8 11))), none⟩ ::
    ⟨(some 51), .mv (.t 52), none⟩ ::
    []))
  (.cond (.t 51) (.seq (.reg (⟨(some 53), .off 14 (.t 1), none⟩ ::
    ⟨(some 54), .ld (.t 53), none⟩ ::
    ⟨(some 55), .bin .eql (.t 54) (.c (.d (.int .i64 0))), none⟩ ::
    ⟨(some 56), .mv (.t 55), none⟩ ::
    ⟨(some 57), .off 14 (.t 1), (some (56, false))⟩ ::
    ⟨(some 58), .ld (.t 57), (some (56, false))⟩ ::
    ⟨(some 59), .bin .eql (.t 58) (.c (.d (.int .i64 200))), (some (56, false))⟩ ::
    ⟨(some 60), .pick (.t 56) (.c (.d (.bool true))) (.t 59), none⟩ ::
    ⟨(some 2), .mv (.t 60), none⟩ ::
    []))
  .ret) (.seq (.reg (⟨(some 62), .bin .eql (.t 4) (.c (.d (.int .u8 12))), none⟩ ::
    ⟨(some 61), .mv (.t 62), none⟩ ::
    []))
  (.cond (.t 61) (.seq (.reg (⟨(some 63), .off 14 (.t 1), none⟩ ::
    ⟨(some 64), .ld (.t 63), none⟩ ::
    ⟨(some 65), .bin .eql (.t 64) (.c (.d (.int .i64 0))), none⟩ ::
    ⟨(some 66), .mv (.t 65), none⟩ ::
    ⟨(some 67), .off 10 (.t 1), (some (66, true))⟩ ::
    ⟨(some 68), .ldn 4 (.t 67), (some (66, true))⟩ ::
    ⟨(some 69), .call (.c (.fn 97 [])) [(.t 68)], (some (66, true))⟩ ::
    ⟨(some 70), .pick (.t 66) (.t 69) (.c (.d (.bool false))), none⟩ ::
    ⟨(some 71), .mv (.t 70), none⟩ ::
    ⟨(some 72), .off 14 (.t 1), (some (71, false))⟩ ::
    ⟨(some 73), .ld (.t 72), (some (71, false))⟩ ::
    ⟨(some 74), .bin .eql (.t 73) (.c (.d (.int .i64 201))), (some (71, false))⟩ ::
    ⟨(some 75), .mv (.t 74), (some (71, false))⟩ ::
    ⟨(some 76), .off 10 (.t 1), (some (75, true))⟩ ::
    ⟨(some 77), .ldn 4 (.t 76), (some (75, true))⟩ ::
    ⟨(some 78), .bld [.d (.str []), .d (.int .i64 0), .d (.int .i64 0), .d (.bool false)] [], (some (75, true))⟩ ::
    ⟨(some 79), .eqs false [2, 0, 0, 1] (.t 77) (.t 78), (some (75, true))⟩ ::
    ⟨(some 80), .pick (.t 75) (.t 79) (.c (.d (.bool false))), (some (71, false))⟩ ::
    ⟨(some 81), .pick (.t 71) (.c (.d (.bool true))) (.t 80), none⟩ ::
    ⟨(some 2), .mv (.t 81), none⟩ ::
    []))
  .ret) .skip))))))))))))))))
  (.seq (.reg (⟨(some 2), .mv (.c (.d (.bool true))), none⟩ ::
    []))
  .ret))) }
/-- garland/garlandref12.place -/
def cf56 : CFun := { np := 1, nt := 9, res := [.tmp 2], body :=
  (.seq (.reg (⟨(some 2), .mv (.c (.d (.bool false))), none⟩ ::
    []))
  (.seq (.reg (⟨(some 3), .mv (.t 0), none⟩ ::
    ⟨(some 4), .bin .geq (.t 3) (.c (.d (.int .i64 0))), none⟩ ::
    ⟨(some 5), .mv (.t 4), none⟩ ::
    ⟨(some 6), .mv (.t 0), (some (5, true))⟩ ::
    ⟨(some 7), .bin .lss (.t 6) (.c (.d (.int .i64 65536))), (some (5, true))⟩ ::
    ⟨(some 8), .pick (.t 5) (.t 7) (.c (.d (.bool false))), none⟩ ::
    ⟨(some 2), .mv (.t 8), none⟩ ::
    []))
  .ret)) }
/-- garland/garlandref03.Place -/
def cf57 : CFun := { np := 1, nt := 7, res := [.tmp 2], body :=
  (.seq (.reg (⟨(some 2), .mv (.c (.d (.int .i64 0))), none⟩ ::
    []))
  (.seq (.reg (⟨(some 3), .mv (.t 0), none⟩ ::
    ⟨(some 4), .bin .rem (.t 3) (.c (.d (.int .i64 65536))), none⟩ ::
    ⟨(some 5), .bin .add (.t 4) (.c (.d (.int .i64 65536))), none⟩ ::
    ⟨(some 6), .bin .rem (.t 5) (.c (.d (.int .i64 65536))), none⟩ ::
    ⟨(some 2), .mv (.t 6), none⟩ ::
    []))
  .ret)) }
/-- garland/garlandref12.farther -/
def cf58 : CFun := { np := 3, nt := 14, res := [.tmp 6], body :=
  (.seq (.reg (⟨(some 6), .mv (.c (.d (.bool false))), none⟩ ::
    []))
  (.seq (.reg (⟨(some 7), .mv (.t 0), none⟩ ::
    ⟨(some 8), .mv (.t 2), none⟩ ::
    ⟨(some 9), .call (.c (.fn 59 [])) [(.t 7), (.t 8)], none⟩ ::
    ⟨(some 10), .mv (.t 0), none⟩ ::
    ⟨(some 11), .mv (.t 1), none⟩ ::
    ⟨(some 12), .call (.c (.fn 59 [])) [(.t 10), (.t 11)], none⟩ ::
    ⟨(some 13), .bin .gtr (.t 9) (.t 12), none⟩ ::
    ⟨(some 6), .mv (.t 13), none⟩ ::
    []))
  .ret)) }
/-- garland/garlandref03.Far -/
def cf59 : CFun := { np := 2, nt := 11, res := [.tmp 4], body :=
  (.seq (.reg (⟨(some 4), .mv (.c (.d (.int .i64 0))), none⟩ ::
    []))
  (.seq (.reg (⟨(some 5), .mv (.t 1), none⟩ ::
    ⟨(some 6), .call (.c (.fn 57 [])) [(.t 5)], none⟩ ::
    ⟨(some 7), .mv (.t 0), none⟩ ::
    ⟨(some 8), .call (.c (.fn 57 [])) [(.t 7)], none⟩ ::
    ⟨(some 9), .bin .sub (.t 6) (.t 8), none⟩ ::
    ⟨(some 10), .call (.c (.fn 57 [])) [(.t 9)], none⟩ ::
    ⟨(some 4), .mv (.t 10), none⟩ ::
    []))
  .ret)) }
/-- garland/garlandref12.Drop -/
def cf60 : CFun := { np := 2, nt := 27, res := [.tmp 4], body :=
  (.seq (.reg (⟨(some 4), .mv (.c (.nils)), none⟩ ::
    []))
  (.seq (.reg (⟨(some 5), .mv (.c (.nils)), none⟩ ::
    []))
  (.seq (.seq (.reg (⟨(some 6), .mv (.c (.d (.int .i64 0))), none⟩ ::
    []))
  (.block 0 (.loop [0, 1, 5, 6] (.seq (.seq (.reg (⟨(some 7), .mv (.t 6), none⟩ ::
    ⟨(some 8), .mv (.t 0), none⟩ ::
    ⟨(some 9), .len false (.t 8), none⟩ ::
    ⟨(some 10), .bin .lss (.t 7) (.t 9), none⟩ ::
    []))
  (.cond (.t 10) .skip (.exit 0)))
  (.seq (.block 1 (.seq (.reg (⟨(some 13), .mv (.t 0), none⟩ ::
    ⟨(some 14), .mv (.t 6), none⟩ ::
    ⟨(some 15), .ixs 1 (.t 13) (.t 14), none⟩ ::
    ⟨(some 16), .ld (.t 15), none⟩ ::
    ⟨(some 17), .mv (.t 1), none⟩ ::
    ⟨(some 18), .bin .neq (.t 16) (.t 17), none⟩ ::
    []))
  (.cond (.t 18) (.reg (⟨(some 19), .mv (.t 5), none⟩ ::
    ⟨(some 20), .mv (.t 0), none⟩ ::
    ⟨(some 21), .mv (.t 6), none⟩ ::
    ⟨(some 22), .ixs 1 (.t 20) (.t 21), none⟩ ::
    ⟨(some 23), .ld (.t 22), none⟩ ::
    ⟨(some 24), .bls [.d (.int .i64 0)] 1 1 [(0, 1, (.t 23))], none⟩ ::
    ⟨(some 25), .app 1 (.t 19) (.t 24), none⟩ ::
    ⟨(some 5), .mv (.t 25), none⟩ ::
    [])) .skip)))
  (.reg (⟨(some 11), .mv (.t 6), none⟩ ::
    ⟨(some 12), .bin .add (.t 11) (.c (.d (.int .i64 1))), none⟩ ::
    ⟨(some 6), .mv (.t 12), none⟩ ::
    [])))))))
  (.seq (.reg (⟨(some 26), .mv (.t 5), none⟩ ::
    ⟨(some 4), .mv (.t 26), none⟩ ::
    []))
  .ret)))) }
/-- garland/garlandlaw21.nine -/
def cf61 : CFun := { np := 0, nt := 11, res := [.cells 0 20], body :=
  (.seq (.reg (⟨(some 0), .new [.d (.int .i64 0), .nils, .nils, .d (.int .i64 0), .d (.int .i64 0), .d (.int .i64 0), .d (.int .i64 0), .d (.int .i64 0), .d (.int .i64 0), .d (.int .i64 0), .d (.int .i64 0), .d (.int .i64 0), .d (.int .i64 0), .d (.int .i64 0), .d (.int .i64 0), .d (.int .i64 0), .d (.int .i64 0), .d (.int .i64 0), .d (.int .i64 0), .d (.int .i64 0)], none⟩ ::
    []))
  (.seq (.reg (⟨(some 4), .bls [.d (.int .i64 0), .d (.int .i64 0)] 2 1 [(0, 1, (.c (.d (.int .i64 20)))), (1, 1, (.c (.d (.int .i64 40))))], none⟩ ::
    ⟨(some 5), .call (.c (.fn 34 [])) [(.c (.d (.int .i64 9))), (.t 4)], none⟩ ::
    ⟨(some 3), .mv (.t 5), none⟩ ::
    ⟨(some 6), .ext (.t 3) 0, none⟩ ::
    ⟨(some 7), .ext (.t 3) 1, none⟩ ::
    ⟨(some 1), .new [.d (.int .i64 0), .nils, .nils, .d (.int .i64 0), .d (.int .i64 0), .d (.int .i64 0), .d (.int .i64 0), .d (.int .i64 0), .d (.int .i64 0), .d (.int .i64 0), .d (.int .i64 0), .d (.int .i64 0), .d (.int .i64 0), .d (.int .i64 0), .d (.int .i64 0), .d (.int .i64 0), .d (.int .i64 0), .d (.int .i64 0), .d (.int .i64 0), .d (.int .i64 0)], none⟩ ::
    ⟨none, .st 20 (.t 1) (.t 6), none⟩ ::
    ⟨(some 2), .mv (.t 7), none⟩ ::
    []))
  (.seq (.reg (⟨(some 8), .ldn 20 (.t 1), none⟩ ::
    ⟨(some 9), .bls [.d (.int .i64 0)] 1 1 [(0, 1, (.c (.d (.int .i64 20))))], none⟩ ::
    ⟨(some 10), .call (.c (.fn 99 [])) [(.t 8), (.t 9)], none⟩ ::
    ⟨none, .st 20 (.t 0) (.t 10), none⟩ ::
    []))
  .ret))) }
/-- garland/garlandlaw21.said -/
def cf63 : CFun := { np := 5, nt := 30, res := [.cells 10 15], body :=
  (.seq (.reg (⟨(some 10), .new [.d (.int .u8 0), .d (.int .i64 0), .d (.int .i64 0), .d (.int .i64 0), .d (.int .i64 0), .d (.bool false), .d (.bool false), .d (.int .i64 0), .d (.int .i64 0), .nils, .d (.str []), .d (.int .i64 0), .d (.int .i64 0), .d (.bool false), .d (.int .i64 0)], none⟩ ::
    []))
  (.seq (.reg (⟨(some 12), .mv (.t 0), none⟩ ::
    ⟨(some 13), .bin .add (.t 12) (.c (.d (.int .u8 6))), none⟩ ::
    ⟨(some 14), .mv (.t 1), none⟩ ::
    ⟨(some 15), .mv (.t 4), none⟩ ::
    ⟨(some 16), .bld [.d (.int .u8 0), .d (.int .i64 0), .d (.int .i64 0), .d (.int .i64 0), .d (.int .i64 0), .d (.bool false), .d (.bool false), .d (.int .i64 0), .d (.int .i64 0), .nils, .d (.str []), .d (.int .i64 0), .d (.int .i64 0), .d (.bool false), .d (.int .i64 0)] [(0, 1, (.t 13)), (1, 1, (.c (.d (.int .i64 9437185)))), (2, 1, (.t 14)), (3, 1, (.c (.d (.int .i64 9)))), (14, 1, (.t 15))], none⟩ ::
    ⟨(some 11), .new [.d (.int .u8 0), .d (.int .i64 0), .d (.int .i64 0), .d (.int .i64 0), .d (.int .i64 0), .d (.bool false), .d (.bool false), .d (.int .i64 0), .d (.int .i64 0), .nils, .d (.str []), .d (.int .i64 0), .d (.int .i64 0), .d (.bool false), .d (.int .i64 0)], none⟩ ::
    ⟨none, .st 15 (.t 11) (.t 16), none⟩ ::
    []))
  (.seq (.seq (.reg (⟨(some 17), .mv (.t 0), none⟩ ::
    []))
  (.block 0 (.seq (.reg (⟨(some 19), .bin .eql (.t 17) (.c (.d (.int .u8 4))), none⟩ ::
    ⟨(some 18), .mv (.t 19), none⟩ ::
    []))
  (.cond (.t 18) (.reg (⟨(some 20), .mv (.t 2), none⟩ ::
    ⟨(some 21), .mv (.t 3), none⟩ ::
    ⟨(some 22), .off 7 (.t 11), none⟩ ::
    ⟨none, .st 1 (.t 22) (.t 20), none⟩ ::
    ⟨(some 23), .off 6 (.t 11), none⟩ ::
    ⟨none, .st 1 (.t 23) (.t 21), none⟩ ::
    [])) (.seq (.reg (⟨(some 25), .bin .eql (.t 17) (.c (.d (.int .u8 1))), none⟩ ::
    ⟨(some 24), .mv (.t 25), none⟩ ::
    []))
  (.cond (.t 24) (.reg (⟨(some 26), .bls [.d (.int .i64 0), .d (.int .i64 0)] 2 1 [(0, 1, (.c (.d (.int .i64 40)))), (1, 1, (.c (.d (.int .i64 9))))], none⟩ ::
    ⟨(some 27), .off 8 (.t 11), none⟩ ::
    ⟨none, .st 1 (.t 27) (.c (.d (.int .i64 (-1)))), none⟩ ::
    ⟨(some 28), .off 9 (.t 11), none⟩ ::
    ⟨none, .st 1 (.t 28) (.t 26), none⟩ ::
    [])) .skip))))))
  (.seq (.reg (⟨(some 29), .ldn 15 (.t 11), none⟩ ::
    ⟨none, .st 15 (.t 10) (.t 29), none⟩ ::
    []))
  .ret)))) }
/-- garland/job.Failed -/
def cf64 : CFun := { np := 3, nt := 49, res := [.cells 6 15, .tmp 7, .tmp 8], body :=
  (.seq (.reg (⟨(some 3), .box (.t 0), none⟩ ::
    ⟨(some 4), .box (.t 1), none⟩ ::
    ⟨(some 6), .new [.d (.int .u8 0), .d (.int .u8 0), .d (.int .i64 0), .d (.int .i64 0), .d (.int .i64 0), .d (.bool false), .d (.bool false), .d (.int .i64 0), .d (.str []), .d (.int .i64 0), .d (.int .i64 0), .d (.bool false), .d (.int .i64 0), .nils, .d (.int .i64 0)], none⟩ ::
    ⟨(some 7), .mv (.c (.nils)), none⟩ ::
    ⟨(some 8), .mv (.c (.d (.bool false))), none⟩ ::
    []))
  (.seq (.dreg (⟨(some 10), .ldn 20 (.t 3), none⟩ ::
    ⟨(some 11), .ldn 15 (.t 4), none⟩ ::
    ⟨(some 12), .call (.c (.fn 66 [])) [(.t 11)], none⟩ ::
    []) (⟨(some 13), .bld [.d (.int .i64 0), .nils, .nils, .d (.int .i64 0), .d (.int .i64 0), .d (.int .i64 0), .d (.int .i64 0), .d (.int .i64 0), .d (.int .i64 0), .d (.int .i64 0), .d (.int .i64 0), .d (.int .i64 0), .d (.int .i64 0), .d (.int .i64 0), .d (.int .i64 0), .d (.int .i64 0), .d (.int .i64 0), .d (.int .i64 0), .d (.int .i64 0), .d (.int .i64 0), .d (.int .u8 0), .d (.int .u8 0), .d (.int .i64 0), .d (.int .i64 0), .d (.int .i64 0), .d (.bool false), .d (.bool false), .d (.int .i64 0), .d (.str []), .d (.int .i64 0), .d (.int .i64 0), .d (.bool false), .d (.int .i64 0), .nils, .d (.int .i64 0), .nils, .d (.bool false)] [(0, 20, (.t 10)), (20, 15, (.t 12))], none⟩ ::
    ⟨(some 14), .box (.t 13), none⟩ ::
    ⟨(some 9), .mv (.t 14), none⟩ ::
    []))
  (.seq (.block 0 (.seq (.reg (⟨(some 18), .ldn 20 (.t 3), none⟩ ::
    ⟨(some 19), .call (.c (.fn 36 [])) [(.t 18)], none⟩ ::
    ⟨(some 20), .not (.t 19), none⟩ ::
    ⟨(some 21), .mv (.t 20), none⟩ ::
    ⟨(some 22), .ldn 15 (.t 4), (some (21, false))⟩ ::
    ⟨(some 23), .mv (.t 2), (some (21, false))⟩ ::
    ⟨(some 24), .call (.c (.fn 100 [])) [(.t 22), (.t 23)], (some (21, false))⟩ ::
    ⟨(some 25), .not (.t 24), (some (21, false))⟩ ::
    ⟨(some 26), .pick (.t 21) (.c (.d (.bool true))) (.t 25), none⟩ ::
    ⟨(some 17), .mv (.t 26), none⟩ ::
    []))
  (.cond (.t 17) .skip (.seq (.reg (⟨(some 28), .off 1 (.t 4), none⟩ ::
    ⟨(some 29), .ld (.t 28), none⟩ ::
    ⟨(some 30), .bin .eql (.t 29) (.c (.d (.int .u8 1))), none⟩ ::
    ⟨(some 27), .mv (.t 30), none⟩ ::
    []))
  (.cond (.t 27) (.reg (⟨(some 31), .mv (.t 9), none⟩ ::
    ⟨(some 32), .ldn 20 (.t 3), none⟩ ::
    ⟨(some 33), .off 2 (.t 4), none⟩ ::
    ⟨(some 34), .ldn 6 (.t 33), none⟩ ::
    ⟨(some 35), .call (.c (.fn 108 [])) [(.t 32), (.t 34)], none⟩ ::
    ⟨(some 36), .call (.c (.fn 74 [])) [(.t 31), (.t 35)], none⟩ ::
    [])) (.seq (.reg (⟨(some 38), .off 1 (.t 4), none⟩ ::
    ⟨(some 39), .ld (.t 38), none⟩ ::
    ⟨(some 40), .bin .eql (.t 39) (.c (.d (.int .u8 3))), none⟩ ::
    ⟨(some 37), .mv (.t 40), none⟩ ::
    []))
  (.cond (.t 37) (.reg (⟨(some 41), .mv (.t 9), none⟩ ::
    ⟨(some 42), .mv (.t 2), none⟩ ::
    ⟨(some 43), .call (.c (.fn 106 [])) [(.t 41), (.t 42), (.c (.d (.int .i64 210)))], none⟩ ::
    [])) (.reg (⟨(some 15), .mv (.t 9), none⟩ ::
    ⟨(some 16), .call (.c (.fn 72 [])) [(.t 15), (.c (.d (.int .i64 210)))], none⟩ ::
    [])))))))))
  (.seq (.reg (⟨(some 44), .mv (.t 9), none⟩ ::
    ⟨(some 45), .call (.c (.fn 73 [])) [(.t 44)], none⟩ ::
    ⟨(some 46), .ext (.t 45) 0, none⟩ ::
    ⟨(some 47), .ext (.t 45) 1, none⟩ ::
    ⟨(some 48), .ext (.t 45) 2, none⟩ ::
    ⟨none, .st 15 (.t 6) (.t 46), none⟩ ::
    ⟨(some 7), .mv (.t 47), none⟩ ::
    ⟨(some 8), .mv (.t 48), none⟩ ::
    []))
  .ret)))) }
/-- garland/job.Same -/
def cf65 : CFun := { np := 2, nt := 54, res := [.tmp 4], body :=
  (.seq (.reg (⟨(some 2), .box (.t 0), none⟩ ::
    ⟨(some 3), .box (.t 1), none⟩ ::
    ⟨(some 4), .mv (.c (.d (.bool false))), none⟩ ::
    []))
  (.seq (.reg (⟨(some 6), .off 0 (.t 2), none⟩ ::
    ⟨(some 7), .ld (.t 6), none⟩ ::
    ⟨(some 8), .off 0 (.t 3), none⟩ ::
    ⟨(some 9), .ld (.t 8), none⟩ ::
    ⟨(some 10), .bin .eql (.t 7) (.t 9), none⟩ ::
    ⟨(some 11), .mv (.t 10), none⟩ ::
    ⟨(some 12), .off 1 (.t 2), (some (11, true))⟩ ::
    ⟨(some 13), .ld (.t 12), (some (11, true))⟩ ::
    ⟨(some 14), .off 1 (.t 3), (some (11, true))⟩ ::
    ⟨(some 15), .ld (.t 14), (some (11, true))⟩ ::
    ⟨(some 16), .bin .eql (.t 13) (.t 15), (some (11, true))⟩ ::
    ⟨(some 17), .pick (.t 11) (.t 16) (.c (.d (.bool false))), none⟩ ::
    ⟨(some 18), .mv (.t 17), none⟩ ::
    ⟨(some 19), .off 2 (.t 2), (some (18, true))⟩ ::
    ⟨(some 20), .ldn 6 (.t 19), (some (18, true))⟩ ::
    ⟨(some 21), .off 2 (.t 3), (some (18, true))⟩ ::
    ⟨(some 22), .ldn 6 (.t 21), (some (18, true))⟩ ::
    ⟨(some 23), .eqs false [0, 0, 0, 1, 1, 0] (.t 20) (.t 22), (some (18, true))⟩ ::
    ⟨(some 24), .pick (.t 18) (.t 23) (.c (.d (.bool false))), none⟩ ::
    ⟨(some 25), .mv (.t 24), none⟩ ::
    ⟨(some 26), .off 8 (.t 2), (some (25, true))⟩ ::
    ⟨(some 27), .ldn 4 (.t 26), (some (25, true))⟩ ::
    ⟨(some 28), .off 8 (.t 3), (some (25, true))⟩ ::
    ⟨(some 29), .ldn 4 (.t 28), (some (25, true))⟩ ::
    ⟨(some 30), .eqs false [2, 0, 0, 1] (.t 27) (.t 29), (some (25, true))⟩ ::
    ⟨(some 31), .pick (.t 25) (.t 30) (.c (.d (.bool false))), none⟩ ::
    ⟨(some 5), .mv (.t 31), none⟩ ::
    []))
  (.seq (.reg (⟨(some 32), .mv (.t 5), none⟩ ::
    ⟨(some 33), .mv (.t 32), none⟩ ::
    ⟨(some 34), .off 12 (.t 2), (some (33, true))⟩ ::
    ⟨(some 35), .ld (.t 34), (some (33, true))⟩ ::
    ⟨(some 36), .off 12 (.t 3), (some (33, true))⟩ ::
    ⟨(some 37), .ld (.t 36), (some (33, true))⟩ ::
    ⟨(some 38), .bin .eql (.t 35) (.t 37), (some (33, true))⟩ ::
    ⟨(some 39), .pick (.t 33) (.t 38) (.c (.d (.bool false))), none⟩ ::
    ⟨(some 40), .mv (.t 39), none⟩ ::
    ⟨(some 41), .off 14 (.t 2), (some (40, true))⟩ ::
    ⟨(some 42), .ld (.t 41), (some (40, true))⟩ ::
    ⟨(some 43), .off 14 (.t 3), (some (40, true))⟩ ::
    ⟨(some 44), .ld (.t 43), (some (40, true))⟩ ::
    ⟨(some 45), .bin .eql (.t 42) (.t 44), (some (40, true))⟩ ::
    ⟨(some 46), .pick (.t 40) (.t 45) (.c (.d (.bool false))), none⟩ ::
    ⟨(some 47), .mv (.t 46), none⟩ ::
    ⟨(some 48), .off 13 (.t 2), (some (47, true))⟩ ::
    ⟨(some 49), .ld (.t 48), (some (47, true))⟩ ::
    ⟨(some 50), .off 13 (.t 3), (some (47, true))⟩ ::
    ⟨(some 51), .ld (.t 50), (some (47, true))⟩ ::
    ⟨(some 52), .call (.c (.fn 109 [])) [(.t 49), (.t 51)], (some (47, true))⟩ ::
    ⟨(some 53), .pick (.t 47) (.t 52) (.c (.d (.bool false))), none⟩ ::
    ⟨(some 4), .mv (.t 53), none⟩ ::
    []))
  .ret))) }
/-- garland/job.Own -/
def cf66 : CFun := { np := 1, nt := 8, res := [.cells 2 15], body :=
  (.seq (.reg (⟨(some 1), .box (.t 0), none⟩ ::
    ⟨(some 2), .new [.d (.int .u8 0), .d (.int .u8 0), .d (.int .i64 0), .d (.int .i64 0), .d (.int .i64 0), .d (.bool false), .d (.bool false), .d (.int .i64 0), .d (.str []), .d (.int .i64 0), .d (.int .i64 0), .d (.bool false), .d (.int .i64 0), .nils, .d (.int .i64 0)], none⟩ ::
    []))
  (.seq (.reg (⟨(some 3), .off 13 (.t 1), none⟩ ::
    ⟨(some 4), .ld (.t 3), none⟩ ::
    ⟨(some 5), .call (.c (.fn 83 [])) [(.t 4)], none⟩ ::
    ⟨(some 6), .off 13 (.t 1), none⟩ ::
    ⟨none, .st 1 (.t 6) (.t 5), none⟩ ::
    []))
  (.seq (.reg (⟨(some 7), .ldn 15 (.t 1), none⟩ ::
    ⟨none, .st 15 (.t 2) (.t 7), none⟩ ::
    []))
  .ret))) }
/-- garland/mix.Of -/
def cf67 : CFun := { np := 1, nt := 13, res := [.tmp 2, .tmp 3], body :=
  (.seq (.reg (⟨(some 2), .mv (.c (.d (.int .i64 0))), none⟩ ::
    ⟨(some 3), .mv (.c (.d (.int .i64 0))), none⟩ ::
    []))
  (.scope [] (.seq (.seq (.reg (⟨(some 4), .mv (.t 0), none⟩ ::
    ⟨(some 5), .bin .eql (.t 4) (.c (.d (.str []))), none⟩ ::
    ⟨(some 6), .mv (.t 5), none⟩ ::
    ⟨(some 7), .mv (.t 0), (some (6, false))⟩ ::
    ⟨(some 8), .len true (.t 7), (some (6, false))⟩ ::
    ⟨(some 9), .bin .gtr (.t 8) (.c (.d (.int .i64 20))), (some (6, false))⟩ ::
    ⟨(some 10), .pick (.t 6) (.c (.d (.bool true))) (.t 9), none⟩ ::
    []))
  (.cond (.t 10) (.goto 0) .skip))
  (.seq (.seq (.reg (⟨(some 11), .mv (.t 0), none⟩ ::
    ⟨(some 12), .call (.c (.fn 110 [])) [(.c (.d (.int .i64 7))), (.t 11)], none⟩ ::
    ⟨(some 2), .mv (.t 12), none⟩ ::
    ⟨(some 3), .mv (.c (.d (.int .i64 0))), none⟩ ::
    []))
  .ret)
  (.seq (.label 0)
  (.seq (.reg (⟨(some 2), .mv (.c (.d (.int .i64 0))), none⟩ ::
    ⟨(some 3), .mv (.c (.d (.int .i64 2))), none⟩ ::
    []))
  .ret)))))) }
/-- garland/job.Begin$1 -/
def cf68 : CFun := { np := 2, nt := 10, res := [.tmp 2], body :=
  (.seq (.reg (⟨(some 2), .mv (.c (.d (.bool false))), none⟩ ::
    []))
  (.seq (.reg (⟨(some 3), .ld (.t 0), none⟩ ::
    ⟨none, .st 1 (.t 1) (.t 3), none⟩ ::
    []))
  (.seq (.reg (⟨(some 4), .ld (.t 0), none⟩ ::
    ⟨(some 5), .bin .geq (.t 4) (.c (.d (.int .i64 0))), none⟩ ::
    ⟨(some 6), .mv (.t 5), none⟩ ::
    ⟨(some 7), .ld (.t 0), (some (6, true))⟩ ::
    ⟨(some 8), .bin .lss (.t 7) (.c (.d (.int .i64 65536))), (some (6, true))⟩ ::
    ⟨(some 9), .pick (.t 6) (.t 8) (.c (.d (.bool false))), none⟩ ::
    ⟨(some 2), .mv (.t 9), none⟩ ::
    []))
  .ret))) }
/-- garland/job.Begin$2 -/
def cf69 : CFun := { np := 2, nt := 10, res := [.tmp 2], body :=
  (.seq (.reg (⟨(some 2), .mv (.c (.d (.bool false))), none⟩ ::
    []))
  (.seq (.reg (⟨(some 3), .ld (.t 1), none⟩ ::
    ⟨(some 4), .ldn 4 (.t 0), none⟩ ::
    ⟨(some 5), .nilc (.t 3), none⟩ ::
    ⟨(some 6), .off 20 (.t 5), none⟩ ::
    ⟨(some 7), .off 8 (.t 6), none⟩ ::
    ⟨none, .st 4 (.t 7) (.t 4), none⟩ ::
    []))
  (.seq (.reg (⟨(some 8), .ldn 4 (.t 0), none⟩ ::
    ⟨(some 9), .call (.c (.fn 70 [])) [(.t 8)], none⟩ ::
    ⟨(some 2), .mv (.t 9), none⟩ ::
    []))
  .ret))) }
/-- garland/msg.Pair -/
def cf70 : CFun := { np := 1, nt := 16, res := [.tmp 2], body :=
  (.seq (.reg (⟨(some 1), .box (.t 0), none⟩ ::
    ⟨(some 2), .mv (.c (.d (.bool false))), none⟩ ::
    []))
  (.seq (.reg (⟨(some 3), .off 0 (.t 1), none⟩ ::
    ⟨(some 4), .ld (.t 3), none⟩ ::
    ⟨(some 5), .call (.c (.fn 111 [])) [(.t 4)], none⟩ ::
    ⟨(some 6), .mv (.t 5), none⟩ ::
    ⟨(some 7), .off 1 (.t 1), (some (6, true))⟩ ::
    ⟨(some 8), .ld (.t 7), (some (6, true))⟩ ::
    ⟨(some 9), .call (.c (.fn 112 [])) [(.t 8)], (some (6, true))⟩ ::
    ⟨(some 10), .pick (.t 6) (.t 9) (.c (.d (.bool false))), none⟩ ::
    ⟨(some 11), .mv (.t 10), none⟩ ::
    ⟨(some 12), .off 2 (.t 1), (some (11, true))⟩ ::
    ⟨(some 13), .ld (.t 12), (some (11, true))⟩ ::
    ⟨(some 14), .call (.c (.fn 112 [])) [(.t 13)], (some (11, true))⟩ ::
    ⟨(some 15), .pick (.t 11) (.t 14) (.c (.d (.bool false))), none⟩ ::
    ⟨(some 2), .mv (.t 15), none⟩ ::
    []))
  .ret)) }
/-- garland/job.Begin$3 -/
def cf71 : CFun := { np := 3, nt := 13, res := [.tmp 3], body :=
  (.seq (.reg (⟨(some 3), .mv (.c (.d (.bool false))), none⟩ ::
    []))
  (.seq (.reg (⟨(some 4), .ld (.t 1), none⟩ ::
    ⟨(some 5), .off 0 (.t 0), none⟩ ::
    ⟨(some 6), .ld (.t 5), none⟩ ::
    ⟨(some 7), .nilc (.t 4), none⟩ ::
    ⟨(some 8), .off 20 (.t 7), none⟩ ::
    ⟨(some 9), .off 8 (.t 8), none⟩ ::
    ⟨(some 10), .off 0 (.t 9), none⟩ ::
    ⟨none, .st 1 (.t 10) (.t 6), none⟩ ::
    []))
  (.seq (.reg (⟨(some 11), .ld (.t 2), none⟩ ::
    ⟨(some 12), .bin .eql (.t 11) (.c (.d (.int .i64 0))), none⟩ ::
    ⟨(some 3), .mv (.t 12), none⟩ ::
    []))
  .ret))) }
/-- (*garland/job.work).ends -/
def cf72 : CFun := { np := 2, nt := 17, res := [], body :=
  (.reg (⟨(some 4), .mv (.t 0), none⟩ ::
    ⟨(some 5), .mv (.t 0), none⟩ ::
    ⟨(some 6), .mv (.t 0), none⟩ ::
    ⟨(some 7), .mv (.t 1), none⟩ ::
    ⟨(some 8), .nilc (.t 4), none⟩ ::
    ⟨(some 9), .off 20 (.t 8), none⟩ ::
    ⟨(some 10), .off 1 (.t 9), none⟩ ::
    ⟨none, .st 1 (.t 10) (.c (.d (.int .u8 5))), none⟩ ::
    ⟨(some 11), .nilc (.t 5), none⟩ ::
    ⟨(some 12), .off 20 (.t 11), none⟩ ::
    ⟨(some 13), .off 13 (.t 12), none⟩ ::
    ⟨none, .st 1 (.t 13) (.c (.nils)), none⟩ ::
    ⟨(some 14), .nilc (.t 6), none⟩ ::
    ⟨(some 15), .off 20 (.t 14), none⟩ ::
    ⟨(some 16), .off 14 (.t 15), none⟩ ::
    ⟨none, .st 1 (.t 16) (.t 7), none⟩ ::
    [])) }
/-- (*garland/job.work).told -/
def cf73 : CFun := { np := 1, nt := 17, res := [.cells 2 15, .tmp 3, .tmp 4], body :=
  (.seq (.reg (⟨(some 2), .new [.d (.int .u8 0), .d (.int .u8 0), .d (.int .i64 0), .d (.int .i64 0), .d (.int .i64 0), .d (.bool false), .d (.bool false), .d (.int .i64 0), .d (.str []), .d (.int .i64 0), .d (.int .i64 0), .d (.bool false), .d (.int .i64 0), .nils, .d (.int .i64 0)], none⟩ ::
    ⟨(some 3), .mv (.c (.nils)), none⟩ ::
    ⟨(some 4), .mv (.c (.d (.bool false))), none⟩ ::
    []))
  (.seq (.sreg [2] false (⟨(some 5), .mv (.t 0), none⟩ ::
    ⟨(some 6), .nilc (.t 5), none⟩ ::
    ⟨(some 7), .off 20 (.t 6), none⟩ ::
    ⟨(some 8), .ldn 15 (.t 7), none⟩ ::
    ⟨(some 9), .mv (.t 0), none⟩ ::
    ⟨(some 10), .nilc (.t 9), none⟩ ::
    ⟨(some 11), .off 35 (.t 10), none⟩ ::
    ⟨(some 12), .ld (.t 11), none⟩ ::
    ⟨(some 13), .mv (.t 0), none⟩ ::
    ⟨(some 14), .nilc (.t 13), none⟩ ::
    ⟨(some 15), .off 36 (.t 14), none⟩ ::
    ⟨(some 16), .ld (.t 15), none⟩ ::
    ⟨none, .st 15 (.t 2) (.t 8), none⟩ ::
    ⟨(some 3), .mv (.t 12), none⟩ ::
    []) (⟨(some 4), .mv (.t 16), none⟩ ::
    []))
  .ret)) }
/-- garland/look.Begin -/
def cf75 : CFun := { np := 2, nt := 17, res := [.cells 4 6], body :=
  (.seq (.reg (⟨(some 2), .box (.t 0), none⟩ ::
    ⟨(some 4), .new [.d (.int .i64 0), .d (.int .i64 0), .d (.int .i64 0), .d (.bool false), .d (.bool false), .d (.int .i64 0)], none⟩ ::
    []))
  (.seq (.seq (.reg (⟨(some 5), .ldn 20 (.t 2), none⟩ ::
    ⟨(some 6), .call (.c (.fn 36 [])) [(.t 5)], none⟩ ::
    ⟨(some 7), .not (.t 6), none⟩ ::
    []))
  (.cond (.t 7) (.seq (.reg (⟨(some 8), .ldn 6 (.t 4), none⟩ ::
    ⟨none, .st 6 (.t 4) (.t 8), none⟩ ::
    []))
  .ret) .skip))
  (.seq (.reg (⟨(some 9), .mv (.t 1), none⟩ ::
    ⟨(some 10), .call (.c (.fn 115 [])) [(.t 9)], none⟩ ::
    ⟨(some 11), .off 0 (.t 4), none⟩ ::
    ⟨none, .st 1 (.t 11) (.t 10), none⟩ ::
    []))
  (.seq (.reg (⟨(some 12), .ldn 20 (.t 2), none⟩ ::
    ⟨(some 13), .ldn 6 (.t 4), none⟩ ::
    ⟨(some 14), .off 0 (.t 2), none⟩ ::
    ⟨(some 15), .ld (.t 14), none⟩ ::
    ⟨(some 16), .call (.c (.fn 116 [])) [(.t 12), (.t 13), (.t 15), (.c (.d (.bool false)))], none⟩ ::
    ⟨none, .st 6 (.t 4) (.t 16), none⟩ ::
    []))
  .ret)))) }
/-- garland/view.Right$1 -/
def cf76 : CFun := { np := 2, nt := 16, res := [.tmp 3], body :=
  (.seq (.reg (⟨(some 3), .mv (.c (.d (.bool false))), none⟩ ::
    []))
  (.seq (.reg (⟨(some 4), .mv (.t 0), none⟩ ::
    ⟨(some 5), .bin .eql (.t 4) (.c (.d (.int .i64 (-1)))), none⟩ ::
    ⟨(some 6), .mv (.t 5), none⟩ ::
    ⟨(some 7), .mv (.t 0), (some (6, false))⟩ ::
    ⟨(some 8), .call (.c (.fn 77 [])) [(.t 7)], (some (6, false))⟩ ::
    ⟨(some 9), .mv (.t 8), (some (6, false))⟩ ::
    ⟨(some 10), .mv (.t 0), (some (9, true))⟩ ::
    ⟨(some 11), .off 0 (.t 1), (some (9, true))⟩ ::
    ⟨(some 12), .ld (.t 11), (some (9, true))⟩ ::
    ⟨(some 13), .bin .neq (.t 10) (.t 12), (some (9, true))⟩ ::
    ⟨(some 14), .pick (.t 9) (.t 13) (.c (.d (.bool false))), (some (6, false))⟩ ::
    ⟨(some 15), .pick (.t 6) (.c (.d (.bool true))) (.t 14), none⟩ ::
    ⟨(some 3), .mv (.t 15), none⟩ ::
    []))
  .ret)) }
/-- garland/view.place -/
def cf77 : CFun := { np := 1, nt := 9, res := [.tmp 2], body :=
  (.seq (.reg (⟨(some 2), .mv (.c (.d (.bool false))), none⟩ ::
    []))
  (.seq (.reg (⟨(some 3), .mv (.t 0), none⟩ ::
    ⟨(some 4), .bin .geq (.t 3) (.c (.d (.int .i64 0))), none⟩ ::
    ⟨(some 5), .mv (.t 4), none⟩ ::
    ⟨(some 6), .mv (.t 0), (some (5, true))⟩ ::
    ⟨(some 7), .bin .lss (.t 6) (.c (.d (.int .i64 65536))), (some (5, true))⟩ ::
    ⟨(some 8), .pick (.t 5) (.t 7) (.c (.d (.bool false))), none⟩ ::
    ⟨(some 2), .mv (.t 8), none⟩ ::
    []))
  .ret)) }
/-- garland/list.Right -/
def cf78 : CFun := { np := 2, nt := 20, res := [.cell 4], body :=
  (.seq (.reg (⟨(some 2), .box (.t 0), none⟩ ::
    ⟨(some 4), .new [.d (.bool false)], none⟩ ::
    []))
  (.seq (.seq (.reg (⟨(some 7), .ld (.t 2), none⟩ ::
    ⟨(some 8), .mv (.t 1), none⟩ ::
    ⟨(some 9), .call (.c (.fn 89 [])) [(.t 7), (.t 8)], none⟩ ::
    []))
  (.block 0 (.range (.t 9) [10, 11] (.seq (.reg (⟨(some 5), .mv (.t 10), none⟩ ::
    []))
  (.reg (⟨(some 6), .mv (.t 11), none⟩ ::
    []))) (.block 1 (.seq (.reg (⟨(some 12), .ld (.t 2), none⟩ ::
    ⟨(some 13), .mv (.t 5), none⟩ ::
    ⟨(some 14), .mv (.t 6), none⟩ ::
    ⟨(some 15), .call (.c (.fn 91 [])) [(.t 12), (.t 13), (.t 14)], none⟩ ::
    ⟨(some 16), .not (.t 15), none⟩ ::
    []))
  (.cond (.t 16) (.seq (.reg (⟨none, .st 1 (.t 4) (.c (.d (.bool false))), none⟩ ::
    []))
  .ret) .skip))))))
  (.seq (.reg (⟨(some 17), .mv (.t 1), none⟩ ::
    ⟨(some 18), .len false (.t 17), none⟩ ::
    ⟨(some 19), .bin .leq (.t 18) (.c (.d (.int .i64 3))), none⟩ ::
    ⟨none, .st 1 (.t 4) (.t 19), none⟩ ::
    []))
  .ret))) }
/-- garland/view.Anchor -/
def cf79 : CFun := { np := 1, nt := 18, res := [.tmp 2], body :=
  (.seq (.reg (⟨(some 1), .box (.t 0), none⟩ ::
    ⟨(some 2), .mv (.c (.d (.int .i64 0))), none⟩ ::
    []))
  (.seq (.seq (.reg (⟨(some 5), .ldn 20 (.t 1), none⟩ ::
    ⟨(some 6), .call (.c (.fn 36 [])) [(.t 5)], none⟩ ::
    ⟨(some 7), .not (.t 6), none⟩ ::
    []))
  (.cond (.t 7) (.seq (.reg (⟨(some 2), .mv (.c (.d (.int .i64 (-1)))), none⟩ ::
    []))
  .ret) .skip))
  (.seq (.reg (⟨(some 9), .off 1 (.t 1), none⟩ ::
    ⟨(some 10), .ld (.t 9), none⟩ ::
    ⟨(some 11), .off 0 (.t 1), none⟩ ::
    ⟨(some 12), .ld (.t 11), none⟩ ::
    ⟨(some 13), .bin .add (.t 12) (.c (.d (.int .i64 1))), none⟩ ::
    ⟨(some 14), .call (.c (.fn 117 [])) [(.t 10), (.t 13)], none⟩ ::
    ⟨(some 8), .mv (.t 14), none⟩ ::
    ⟨(some 15), .ext (.t 8) 0, none⟩ ::
    ⟨(some 16), .ext (.t 8) 1, none⟩ ::
    ⟨(some 3), .mv (.t 15), none⟩ ::
    ⟨(some 4), .mv (.t 16), none⟩ ::
    []))
  (.seq (.reg (⟨(some 17), .mv (.t 3), none⟩ ::
    ⟨(some 2), .mv (.t 17), none⟩ ::
    []))
  .ret)))) }
/-- slices.AppendSeq[[]garland/api.Ask,garland/api.Ask] -/
def cf80 : CFun := { np := 2, nt := 13, res := [.tmp 4], body :=
  (.seq (.reg (⟨(some 2), .box (.t 0), none⟩ ::
    ⟨(some 4), .mv (.c (.nils)), none⟩ ::
    []))
  (.seq (.seq (.reg (⟨(some 6), .mv (.t 1), none⟩ ::
    []))
  (.block 0 (.range (.t 6) [7] (.reg (⟨(some 5), .new [.d (.int .u8 0), .d (.int .i64 0), .d (.int .i64 0), .d (.int .i64 0), .d (.int .i64 0), .d (.bool false), .d (.bool false), .d (.int .i64 0), .d (.int .i64 0), .nils, .d (.str []), .d (.int .i64 0), .d (.int .i64 0), .d (.bool false), .d (.int .i64 0), .d (.int .u8 0)], none⟩ ::
    ⟨none, .st 16 (.t 5) (.t 7), none⟩ ::
    [])) (.block 1 (.reg (⟨(some 8), .ld (.t 2), none⟩ ::
    ⟨(some 9), .ldn 16 (.t 5), none⟩ ::
    ⟨(some 10), .bls [.d (.int .u8 0), .d (.int .i64 0), .d (.int .i64 0), .d (.int .i64 0), .d (.int .i64 0), .d (.bool false), .d (.bool false), .d (.int .i64 0), .d (.int .i64 0), .nils, .d (.str []), .d (.int .i64 0), .d (.int .i64 0), .d (.bool false), .d (.int .i64 0), .d (.int .u8 0)] 1 16 [(0, 16, (.t 9))], none⟩ ::
    ⟨(some 11), .app 16 (.t 8) (.t 10), none⟩ ::
    ⟨none, .st 1 (.t 2) (.t 11), none⟩ ::
    []))))))
  (.seq (.reg (⟨(some 12), .ld (.t 2), none⟩ ::
    ⟨(some 4), .mv (.t 12), none⟩ ::
    []))
  .ret))) }
/-- garland/stab.asks$1 -/
def cf81 : CFun := { np := 2, nt := 21, res := [], body :=
  (.seq (.reg (⟨(some 4), .off 0 (.t 1), none⟩ ::
    ⟨(some 5), .ld (.t 4), none⟩ ::
    ⟨(some 6), .ixa 4 2 (.c (.iptr [.int .u8 0, .int .u8 0, .int .u8 1, .int .u8 1, .int .u8 1, .int .u8 2, .int .u8 3, .int .u8 3])) (.t 5), none⟩ ::
    ⟨(some 7), .ldn 2 (.t 6), none⟩ ::
    ⟨(some 3), .new [.d (.int .u8 0), .d (.int .u8 0)], none⟩ ::
    ⟨none, .st 2 (.t 3) (.t 7), none⟩ ::
    []))
  (.seq (.reg (⟨(some 8), .off 0 (.t 3), none⟩ ::
    ⟨(some 9), .ld (.t 8), none⟩ ::
    ⟨(some 10), .bin .neq (.t 9) (.c (.d (.int .u8 0))), none⟩ ::
    []))
  (.cond (.t 10) (.reg (⟨(some 11), .mv (.t 0), none⟩ ::
    ⟨(some 12), .off 0 (.t 3), none⟩ ::
    ⟨(some 13), .ld (.t 12), none⟩ ::
    ⟨(some 14), .off 1 (.t 1), none⟩ ::
    ⟨(some 15), .ld (.t 14), none⟩ ::
    ⟨(some 16), .bld [.d (.int .u8 0), .d (.int .i64 0), .d (.int .i64 0), .d (.int .i64 0), .d (.int .i64 0), .d (.bool false), .d (.bool false), .d (.int .i64 0), .d (.int .i64 0), .nils, .d (.str []), .d (.int .i64 0), .d (.int .i64 0), .d (.bool false), .d (.int .i64 0)] [(0, 1, (.t 13)), (3, 1, (.t 15))], none⟩ ::
    ⟨(some 17), .off 1 (.t 3), none⟩ ::
    ⟨(some 18), .ld (.t 17), none⟩ ::
    ⟨(some 19), .bld [.d (.int .u8 0), .d (.int .i64 0), .d (.int .i64 0), .d (.int .i64 0), .d (.int .i64 0), .d (.bool false), .d (.bool false), .d (.int .i64 0), .d (.int .i64 0), .nils, .d (.str []), .d (.int .i64 0), .d (.int .i64 0), .d (.bool false), .d (.int .i64 0), .d (.int .u8 0)] [(0, 15, (.t 16)), (15, 1, (.t 18))], none⟩ ::
    ⟨(some 20), .call (.t 11) [(.t 19)], none⟩ ::
    [])) .skip))) }
/-- garland/garlandref13.Anchor -/
def cf82 : CFun := { np := 1, nt := 18, res := [.tmp 2], body :=
  (.seq (.reg (⟨(some 1), .box (.t 0), none⟩ ::
    ⟨(some 2), .mv (.c (.d (.int .i64 0))), none⟩ ::
    []))
  (.seq (.seq (.reg (⟨(some 5), .ldn 20 (.t 1), none⟩ ::
    ⟨(some 6), .call (.c (.fn 22 [])) [(.t 5)], none⟩ ::
    ⟨(some 7), .not (.t 6), none⟩ ::
    []))
  (.cond (.t 7) (.seq (.reg (⟨(some 2), .mv (.c (.d (.int .i64 (-1)))), none⟩ ::
    []))
  .ret) .skip))
  (.seq (.reg (⟨(some 9), .off 1 (.t 1), none⟩ ::
    ⟨(some 10), .ld (.t 9), none⟩ ::
    ⟨(some 11), .off 0 (.t 1), none⟩ ::
    ⟨(some 12), .ld (.t 11), none⟩ ::
    ⟨(some 13), .bin .add (.t 12) (.c (.d (.int .i64 1))), none⟩ ::
    ⟨(some 14), .call (.c (.fn 118 [])) [(.t 10), (.t 13)], none⟩ ::
    ⟨(some 8), .mv (.t 14), none⟩ ::
    ⟨(some 15), .ext (.t 8) 0, none⟩ ::
    ⟨(some 16), .ext (.t 8) 1, none⟩ ::
    ⟨(some 3), .mv (.t 15), none⟩ ::
    ⟨(some 4), .mv (.t 16), none⟩ ::
    []))
  (.seq (.reg (⟨(some 17), .mv (.t 3), none⟩ ::
    ⟨(some 2), .mv (.t 17), none⟩ ::
    []))
  .ret)))) }
/-- slices.Clone[[]int,int] -/
def cf83 : CFun := { np := 1, nt := 8, res := [.tmp 2], rf := true, body :=
  (.seq (.reg (⟨(some 2), .mv (.c (.nils)), none⟩ ::
    []))
  (.seq (.seq (.reg (⟨(some 3), .mv (.t 0), none⟩ ::
    ⟨(some 4), .nw (.nlc false (.t 3)), none⟩ ::
    []))
  (.cond (.t 4) (.seq (.reg (⟨(some 2), .mv (.c (.nils)), none⟩ ::
    []))
  .ret) .skip))
  (.seq (.reg (⟨(some 5), .nw (.emp0 1), none⟩ ::
    ⟨(some 6), .mv (.t 0), none⟩ ::
    ⟨(some 7), .nw (.appb 1 (.t 5) (.t 6)), none⟩ ::
    ⟨(some 2), .mv (.t 7), none⟩ ::
    []))
  .ret))) }
/-- garland/msg.place -/
def cf84 : CFun := { np := 1, nt := 9, res := [.tmp 2], body :=
  (.seq (.reg (⟨(some 2), .mv (.c (.d (.bool false))), none⟩ ::
    []))
  (.seq (.reg (⟨(some 3), .mv (.t 0), none⟩ ::
    ⟨(some 4), .bin .geq (.t 3) (.c (.d (.int .i64 0))), none⟩ ::
    ⟨(some 5), .mv (.t 4), none⟩ ::
    ⟨(some 6), .mv (.t 0), (some (5, true))⟩ ::
    ⟨(some 7), .bin .lss (.t 6) (.c (.d (.int .i64 65536))), (some (5, true))⟩ ::
    ⟨(some 8), .pick (.t 5) (.t 7) (.c (.d (.bool false))), none⟩ ::
    ⟨(some 2), .mv (.t 8), none⟩ ::
    []))
  .ret)) }
/-- garland/msg.Asker -/
def cf85 : CFun := { np := 1, nt := 9, res := [.tmp 2], body :=
  (.seq (.reg (⟨(some 1), .box (.t 0), none⟩ ::
    ⟨(some 2), .mv (.c (.d (.int .i64 0))), none⟩ ::
    []))
  (.seq (.seq (.reg (⟨(some 3), .ldn 15 (.t 1), none⟩ ::
    ⟨(some 4), .call (.c (.fn 119 [])) [(.t 3)], none⟩ ::
    []))
  (.cond (.t 4) (.seq (.reg (⟨(some 5), .off 2 (.t 1), none⟩ ::
    ⟨(some 6), .ld (.t 5), none⟩ ::
    ⟨(some 2), .mv (.t 6), none⟩ ::
    []))
  .ret) .skip))
  (.seq (.reg (⟨(some 7), .off 3 (.t 1), none⟩ ::
    ⟨(some 8), .ld (.t 7), none⟩ ::
    ⟨(some 2), .mv (.t 8), none⟩ ::
    []))
  .ret))) }
/-- garland/msg.fine -/
def cf86 : CFun := { np := 1, nt := 74, res := [.tmp 2], body :=
  (.seq (.reg (⟨(some 1), .box (.t 0), none⟩ ::
    ⟨(some 2), .mv (.c (.d (.bool false))), none⟩ ::
    []))
  (.seq (.seq (.reg (⟨(some 3), .off 0 (.t 1), none⟩ ::
    ⟨(some 4), .ld (.t 3), none⟩ ::
    []))
  (.block 0 (.seq (.reg (⟨(some 6), .bin .eql (.t 4) (.c (.d (.int .u8 4))), none⟩ ::
    ⟨(some 5), .mv (.t 6), none⟩ ::
    []))
  (.cond (.t 5) (.seq (.reg (⟨(some 7), .off 4 (.t 1), none⟩ ::
    ⟨(some 8), .ld (.t 7), none⟩ ::
    ⟨(some 9), .call (.c (.fn 84 [])) [(.t 8)], none⟩ ::
    ⟨(some 2), .mv (.t 9), none⟩ ::
    []))
  .ret) (.seq (.reg (⟨(some 11), .bin .eql (.t 4) (.c (.d (.int .u8 5))), none⟩ ::
    ⟨(some 10), .mv (.t 11), none⟩ ::
    []))
  (.cond (.t 10) (.seq (.reg (⟨(some 12), .off 10 (.t 1), none⟩ ::
    ⟨(some 13), .ldn 4 (.t 12), none⟩ ::
    ⟨(some 14), .call (.c (.fn 70 [])) [(.t 13)], none⟩ ::
    ⟨(some 2), .mv (.t 14), none⟩ ::
    []))
  .ret) (.seq (.reg (⟨(some 16), .bin .eql (.t 4) (.c (.d (.int .u8 6))), none⟩ ::
    ⟨(some 15), .mv (.t 16), none⟩ ::
    []))
  (.cond (.t 15) (.seq (.reg (⟨(some 17), .off 10 (.t 1), none⟩ ::
    ⟨(some 18), .off 0 (.t 17), none⟩ ::
    ⟨(some 19), .ld (.t 18), none⟩ ::
    ⟨(some 20), .call (.c (.fn 111 [])) [(.t 19)], none⟩ ::
    ⟨(some 2), .mv (.t 20), none⟩ ::
    []))
  .ret) (.seq (.reg (⟨(some 22), .bin .eql (.t 4) (.c (.d (.int .u8 7))), none⟩ ::
    ⟨(some 21), .mv (.t 22), none⟩ ::
    []))
  (.cond (.t 21) (.seq (.reg (⟨(some 23), .off 8 (.t 1), none⟩ ::
    ⟨(some 24), .ld (.t 23), none⟩ ::
    ⟨(some 25), .bin .eql (.t 24) (.c (.d (.int .i64 (-1)))), none⟩ ::
    ⟨(some 26), .mv (.t 25), none⟩ ::
    ⟨(some 27), .off 8 (.t 1), (some (26, false))⟩ ::
    ⟨(some 28), .ld (.t 27), (some (26, false))⟩ ::
    ⟨(some 29), .call (.c (.fn 84 [])) [(.t 28)], (some (26, false))⟩ ::
    ⟨(some 30), .pick (.t 26) (.c (.d (.bool true))) (.t 29), none⟩ ::
    ⟨(some 31), .mv (.t 30), none⟩ ::
    ⟨(some 32), .off 9 (.t 1), (some (31, true))⟩ ::
    ⟨(some 33), .ld (.t 32), (some (31, true))⟩ ::
    ⟨(some 34), .off 2 (.t 1), (some (31, true))⟩ ::
    ⟨(some 35), .ld (.t 34), (some (31, true))⟩ ::
    ⟨(some 36), .call (.c (.fn 120 [])) [(.t 33), (.t 35)], (some (31, true))⟩ ::
    ⟨(some 37), .pick (.t 31) (.t 36) (.c (.d (.bool false))), none⟩ ::
    ⟨(some 2), .mv (.t 37), none⟩ ::
    []))
  .ret) (.seq (.reg (⟨(some 39), .bin .eql (.t 4) (.c (.d (.int .u8 10))), none⟩ ::
    ⟨(some 38), .mv (.t 39), none⟩ ::
    []))
  (.cond (.t 38) (.seq (.reg (⟨(some 40), .off 7 (.t 1), none⟩ ::
    ⟨(some 41), .ld (.t 40), none⟩ ::
    ⟨(some 42), .call (.c (.fn 84 [])) [(.t 41)], none⟩ ::
    ⟨(some 2), .mv (.t 42), none⟩ ::
    []))
  .ret) (.seq (.reg (⟨(some 44), .bin .eql (.t 4) (.c (.d (.int .u8 11))), none⟩ ::
    ⟨(some 43), .mv (.t 44), none⟩ ::
    []))
  (.cond (.t 43) (.seq (.reg (⟨(some 45), .off 14 (.t 1), none⟩ ::
    ⟨(some 46), .ld (.t 45), none⟩ ::
    ⟨(some 47), .bin .eql (.t 46) (.c (.d (.int .i64 0))), none⟩ ::
    ⟨(some 48), .mv (.t 47), none⟩ ::
    ⟨(some 49), .off 14 (.t 1), (some (48, false))⟩ ::
    ⟨(some 50), .ld (.t 49), (some (48, false))⟩ ::
    ⟨(some 51), .bin .eql (.t 50) (.c (.d (.int .i64 200))), (some (48, false))⟩ ::
    ⟨(some 52), .pick (.t 48) (.c (.d (.bool true))) (.t 51), none⟩ ::
    ⟨(some 2), .mv (.t 52), none⟩ ::
    []))
  .ret) (.seq (.reg (⟨(some 54), .bin .eql (.t 4) (.c (.d (.int .u8 12))), none⟩ ::
    ⟨(some 53), .mv (.t 54), none⟩ ::
    []))
  (.cond (.t 53) (.seq (.reg (⟨(some 55), .off 14 (.t 1), none⟩ ::
    ⟨(some 56), .ld (.t 55), none⟩ ::
    ⟨(some 57), .bin .eql (.t 56) (.c (.d (.int .i64 0))), none⟩ ::
    ⟨(some 58), .mv (.t 57), none⟩ ::
    ⟨(some 59), .off 10 (.t 1), (some (58, true))⟩ ::
    ⟨(some 60), .ldn 4 (.t 59), (some (58, true))⟩ ::
    ⟨(some 61), .call (.c (.fn 70 [])) [(.t 60)], (some (58, true))⟩ ::
    ⟨(some 62), .pick (.t 58) (.t 61) (.c (.d (.bool false))), none⟩ ::
    ⟨(some 63), .mv (.t 62), none⟩ ::
    ⟨(some 64), .off 14 (.t 1), (some (63, false))⟩ ::
    ⟨(some 65), .ld (.t 64), (some (63, false))⟩ ::
    ⟨(some 66), .bin .eql (.t 65) (.c (.d (.int .i64 201))), (some (63, false))⟩ ::
    ⟨(some 67), .mv (.t 66), (some (63, false))⟩ ::
    ⟨(some 68), .off 10 (.t 1), (some (67, true))⟩ ::
    ⟨(some 69), .ldn 4 (.t 68), (some (67, true))⟩ ::
    ⟨(some 70), .bld [.d (.str []), .d (.int .i64 0), .d (.int .i64 0), .d (.bool false)] [], (some (67, true))⟩ ::
    ⟨(some 71), .eqs false [2, 0, 0, 1] (.t 69) (.t 70), (some (67, true))⟩ ::
    ⟨(some 72), .pick (.t 67) (.t 71) (.c (.d (.bool false))), (some (63, false))⟩ ::
    ⟨(some 73), .pick (.t 63) (.c (.d (.bool true))) (.t 72), none⟩ ::
    ⟨(some 2), .mv (.t 73), none⟩ ::
    []))
  .ret) .skip))))))))))))))))
  (.seq (.reg (⟨(some 2), .mv (.c (.d (.bool true))), none⟩ ::
    []))
  .ret))) }
/-- garland/msg.off -/
def cf87 : CFun := { np := 1, nt := 56, res := [], body :=
  (.seq (.reg (⟨(some 2), .mv (.t 0), none⟩ ::
    ⟨(some 3), .nilc (.t 2), none⟩ ::
    ⟨(some 4), .off 0 (.t 3), none⟩ ::
    ⟨(some 5), .ld (.t 4), none⟩ ::
    []))
  (.block 0 (.seq (.reg (⟨(some 7), .bin .eql (.t 5) (.c (.d (.int .u8 4))), none⟩ ::
    ⟨(some 6), .mv (.t 7), none⟩ ::
    []))
  (.cond (.t 6) (.reg (⟨(some 8), .mv (.t 0), none⟩ ::
    ⟨(some 9), .mv (.t 0), none⟩ ::
    ⟨(some 10), .nilc (.t 8), none⟩ ::
    ⟨(some 11), .off 4 (.t 10), none⟩ ::
    ⟨none, .st 1 (.t 11) (.c (.d (.int .i64 0))), none⟩ ::
    ⟨(some 12), .nilc (.t 9), none⟩ ::
    ⟨(some 13), .off 5 (.t 12), none⟩ ::
    ⟨none, .st 1 (.t 13) (.c (.d (.bool false))), none⟩ ::
    [])) (.seq (.reg (⟨(some 15), .bin .eql (.t 5) (.c (.d (.int .u8 5))), none⟩ ::
    ⟨(some 14), .mv (.t 15), none⟩ ::
    []))
  (.cond (.t 14) (.reg (⟨(some 16), .mv (.t 0), none⟩ ::
    ⟨(some 17), .bld [.d (.str []), .d (.int .i64 0), .d (.int .i64 0), .d (.bool false)] [], none⟩ ::
    ⟨(some 18), .nilc (.t 16), none⟩ ::
    ⟨(some 19), .off 10 (.t 18), none⟩ ::
    ⟨none, .st 4 (.t 19) (.t 17), none⟩ ::
    [])) (.seq (.reg (⟨(some 21), .bin .eql (.t 5) (.c (.d (.int .u8 6))), none⟩ ::
    ⟨(some 20), .mv (.t 21), none⟩ ::
    []))
  (.cond (.t 20) (.reg (⟨(some 22), .mv (.t 0), none⟩ ::
    ⟨(some 23), .nilc (.t 22), none⟩ ::
    ⟨(some 24), .off 10 (.t 23), none⟩ ::
    ⟨(some 25), .off 0 (.t 24), none⟩ ::
    ⟨none, .st 1 (.t 25) (.c (.d (.str []))), none⟩ ::
    [])) (.seq (.reg (⟨(some 27), .bin .eql (.t 5) (.c (.d (.int .u8 7))), none⟩ ::
    ⟨(some 26), .mv (.t 27), none⟩ ::
    []))
  (.cond (.t 26) (.reg (⟨(some 28), .mv (.t 0), none⟩ ::
    ⟨(some 29), .mv (.t 0), none⟩ ::
    ⟨(some 30), .nilc (.t 28), none⟩ ::
    ⟨(some 31), .off 8 (.t 30), none⟩ ::
    ⟨none, .st 1 (.t 31) (.c (.d (.int .i64 0))), none⟩ ::
    ⟨(some 32), .nilc (.t 29), none⟩ ::
    ⟨(some 33), .off 9 (.t 32), none⟩ ::
    ⟨none, .st 1 (.t 33) (.c (.nils)), none⟩ ::
    [])) (.seq (.reg (⟨(some 35), .bin .eql (.t 5) (.c (.d (.int .u8 10))), none⟩ ::
    ⟨(some 34), .mv (.t 35), none⟩ ::
    []))
  (.cond (.t 34) (.reg (⟨(some 36), .mv (.t 0), none⟩ ::
    ⟨(some 37), .mv (.t 0), none⟩ ::
    ⟨(some 38), .nilc (.t 36), none⟩ ::
    ⟨(some 39), .off 7 (.t 38), none⟩ ::
    ⟨none, .st 1 (.t 39) (.c (.d (.int .i64 0))), none⟩ ::
    ⟨(some 40), .nilc (.t 37), none⟩ ::
    ⟨(some 41), .off 6 (.t 40), none⟩ ::
    ⟨none, .st 1 (.t 41) (.c (.d (.bool false))), none⟩ ::
    [])) (.seq (.reg (⟨(some 43), .bin .eql (.t 5) (.c (.d (.int .u8 11))), none⟩ ::
    ⟨(some 42), .mv (.t 43), none⟩ ::
    []))
  (.cond (.t 42) (.reg (⟨(some 44), .mv (.t 0), none⟩ ::
    ⟨(some 45), .nilc (.t 44), none⟩ ::
    ⟨(some 46), .off 14 (.t 45), none⟩ ::
    ⟨none, .st 1 (.t 46) (.c (.d (.int .i64 0))), none⟩ ::
    [])) (.seq (.reg (⟨(some 48), .bin .eql (.t 5) (.c (.d (.int .u8 12))), none⟩ ::
    ⟨(some 47), .mv (.t 48), none⟩ ::
    []))
  (.cond (.t 47) (.reg (⟨(some 49), .mv (.t 0), none⟩ ::
    ⟨(some 50), .mv (.t 0), none⟩ ::
    ⟨(some 51), .bld [.d (.str []), .d (.int .i64 0), .d (.int .i64 0), .d (.bool false)] [], none⟩ ::
    ⟨(some 52), .nilc (.t 49), none⟩ ::
    ⟨(some 53), .off 14 (.t 52), none⟩ ::
    ⟨none, .st 1 (.t 53) (.c (.d (.int .i64 0))), none⟩ ::
    ⟨(some 54), .nilc (.t 50), none⟩ ::
    ⟨(some 55), .off 10 (.t 54), none⟩ ::
    ⟨none, .st 4 (.t 55) (.t 51), none⟩ ::
    [])) .skip)))))))))))))))) }
/-- garland/msg.Same -/
def cf88 : CFun := { np := 2, nt := 91, res := [.tmp 4], body :=
  (.seq (.reg (⟨(some 2), .box (.t 0), none⟩ ::
    ⟨(some 3), .box (.t 1), none⟩ ::
    ⟨(some 4), .mv (.c (.d (.bool false))), none⟩ ::
    []))
  (.seq (.reg (⟨(some 7), .off 0 (.t 2), none⟩ ::
    ⟨(some 8), .ld (.t 7), none⟩ ::
    ⟨(some 9), .off 0 (.t 3), none⟩ ::
    ⟨(some 10), .ld (.t 9), none⟩ ::
    ⟨(some 11), .bin .eql (.t 8) (.t 10), none⟩ ::
    ⟨(some 12), .mv (.t 11), none⟩ ::
    ⟨(some 13), .off 1 (.t 2), (some (12, true))⟩ ::
    ⟨(some 14), .ld (.t 13), (some (12, true))⟩ ::
    ⟨(some 15), .off 1 (.t 3), (some (12, true))⟩ ::
    ⟨(some 16), .ld (.t 15), (some (12, true))⟩ ::
    ⟨(some 17), .bin .eql (.t 14) (.t 16), (some (12, true))⟩ ::
    ⟨(some 18), .pick (.t 12) (.t 17) (.c (.d (.bool false))), none⟩ ::
    ⟨(some 19), .mv (.t 18), none⟩ ::
    ⟨(some 20), .off 2 (.t 2), (some (19, true))⟩ ::
    ⟨(some 21), .ld (.t 20), (some (19, true))⟩ ::
    ⟨(some 22), .off 2 (.t 3), (some (19, true))⟩ ::
    ⟨(some 23), .ld (.t 22), (some (19, true))⟩ ::
    ⟨(some 24), .bin .eql (.t 21) (.t 23), (some (19, true))⟩ ::
    ⟨(some 25), .pick (.t 19) (.t 24) (.c (.d (.bool false))), none⟩ ::
    ⟨(some 26), .mv (.t 25), none⟩ ::
    ⟨(some 27), .off 3 (.t 2), (some (26, true))⟩ ::
    ⟨(some 28), .ld (.t 27), (some (26, true))⟩ ::
    ⟨(some 29), .off 3 (.t 3), (some (26, true))⟩ ::
    ⟨(some 30), .ld (.t 29), (some (26, true))⟩ ::
    ⟨(some 31), .bin .eql (.t 28) (.t 30), (some (26, true))⟩ ::
    ⟨(some 32), .pick (.t 26) (.t 31) (.c (.d (.bool false))), none⟩ ::
    ⟨(some 5), .mv (.t 32), none⟩ ::
    []))
  (.seq (.reg (⟨(some 33), .off 4 (.t 2), none⟩ ::
    ⟨(some 34), .ld (.t 33), none⟩ ::
    ⟨(some 35), .off 4 (.t 3), none⟩ ::
    ⟨(some 36), .ld (.t 35), none⟩ ::
    ⟨(some 37), .bin .eql (.t 34) (.t 36), none⟩ ::
    ⟨(some 38), .mv (.t 37), none⟩ ::
    ⟨(some 39), .off 5 (.t 2), (some (38, true))⟩ ::
    ⟨(some 40), .ld (.t 39), (some (38, true))⟩ ::
    ⟨(some 41), .off 5 (.t 3), (some (38, true))⟩ ::
    ⟨(some 42), .ld (.t 41), (some (38, true))⟩ ::
    ⟨(some 43), .eqb false (.t 40) (.t 42), (some (38, true))⟩ ::
    ⟨(some 44), .pick (.t 38) (.t 43) (.c (.d (.bool false))), none⟩ ::
    ⟨(some 45), .mv (.t 44), none⟩ ::
    ⟨(some 46), .off 6 (.t 2), (some (45, true))⟩ ::
    ⟨(some 47), .ld (.t 46), (some (45, true))⟩ ::
    ⟨(some 48), .off 6 (.t 3), (some (45, true))⟩ ::
    ⟨(some 49), .ld (.t 48), (some (45, true))⟩ ::
    ⟨(some 50), .eqb false (.t 47) (.t 49), (some (45, true))⟩ ::
    ⟨(some 51), .pick (.t 45) (.t 50) (.c (.d (.bool false))), none⟩ ::
    ⟨(some 52), .mv (.t 51), none⟩ ::
    ⟨(some 53), .off 7 (.t 2), (some (52, true))⟩ ::
    ⟨(some 54), .ld (.t 53), (some (52, true))⟩ ::
    ⟨(some 55), .off 7 (.t 3), (some (52, true))⟩ ::
    ⟨(some 56), .ld (.t 55), (some (52, true))⟩ ::
    ⟨(some 57), .bin .eql (.t 54) (.t 56), (some (52, true))⟩ ::
    ⟨(some 58), .pick (.t 52) (.t 57) (.c (.d (.bool false))), none⟩ ::
    ⟨(some 6), .mv (.t 58), none⟩ ::
    []))
  (.seq (.reg (⟨(some 59), .mv (.t 5), none⟩ ::
    ⟨(some 60), .mv (.t 59), none⟩ ::
    ⟨(some 61), .mv (.t 6), (some (60, true))⟩ ::
    ⟨(some 62), .pick (.t 60) (.t 61) (.c (.d (.bool false))), none⟩ ::
    ⟨(some 63), .mv (.t 62), none⟩ ::
    ⟨(some 64), .off 8 (.t 2), (some (63, true))⟩ ::
    ⟨(some 65), .ld (.t 64), (some (63, true))⟩ ::
    ⟨(some 66), .off 8 (.t 3), (some (63, true))⟩ ::
    ⟨(some 67), .ld (.t 66), (some (63, true))⟩ ::
    ⟨(some 68), .bin .eql (.t 65) (.t 67), (some (63, true))⟩ ::
    ⟨(some 69), .pick (.t 63) (.t 68) (.c (.d (.bool false))), none⟩ ::
    ⟨(some 70), .mv (.t 69), none⟩ ::
    ⟨(some 71), .off 10 (.t 2), (some (70, true))⟩ ::
    ⟨(some 72), .ldn 4 (.t 71), (some (70, true))⟩ ::
    ⟨(some 73), .off 10 (.t 3), (some (70, true))⟩ ::
    ⟨(some 74), .ldn 4 (.t 73), (some (70, true))⟩ ::
    ⟨(some 75), .eqs false [2, 0, 0, 1] (.t 72) (.t 74), (some (70, true))⟩ ::
    ⟨(some 76), .pick (.t 70) (.t 75) (.c (.d (.bool false))), none⟩ ::
    ⟨(some 77), .mv (.t 76), none⟩ ::
    ⟨(some 78), .off 14 (.t 2), (some (77, true))⟩ ::
    ⟨(some 79), .ld (.t 78), (some (77, true))⟩ ::
    ⟨(some 80), .off 14 (.t 3), (some (77, true))⟩ ::
    ⟨(some 81), .ld (.t 80), (some (77, true))⟩ ::
    ⟨(some 82), .bin .eql (.t 79) (.t 81), (some (77, true))⟩ ::
    ⟨(some 83), .pick (.t 77) (.t 82) (.c (.d (.bool false))), none⟩ ::
    ⟨(some 84), .mv (.t 83), none⟩ ::
    ⟨(some 85), .off 9 (.t 2), (some (84, true))⟩ ::
    ⟨(some 86), .ld (.t 85), (some (84, true))⟩ ::
    ⟨(some 87), .off 9 (.t 3), (some (84, true))⟩ ::
    ⟨(some 88), .ld (.t 87), (some (84, true))⟩ ::
    ⟨(some 89), .call (.c (.fn 109 [])) [(.t 86), (.t 88)], (some (84, true))⟩ ::
    ⟨(some 90), .pick (.t 84) (.t 89) (.c (.d (.bool false))), none⟩ ::
    ⟨(some 4), .mv (.t 90), none⟩ ::
    []))
  .ret)))) }
/-- garland/list.sides -/
def cf89 : CFun := { np := 2, nt := 6, res := [.tmp 4], body :=
  (.seq (.reg (⟨(some 2), .box (.t 0), none⟩ ::
    ⟨(some 3), .box (.t 1), none⟩ ::
    ⟨(some 4), .mv (.c (.nilf)), none⟩ ::
    []))
  (.seq (.reg (⟨(some 5), .mkf 121 [(.t 3), (.t 2)], none⟩ ::
    ⟨(some 4), .mv (.t 5), none⟩ ::
    []))
  .ret)) }
/-- slices.Concat[[]int,int] -/
def cf90 : CFun := { np := 1, nt := 36, res := [.tmp 2], body :=
  (.seq (.reg (⟨(some 2), .mv (.c (.nils)), none⟩ ::
    []))
  (.seq (.reg (⟨(some 3), .mv (.c (.d (.int .i64 0))), none⟩ ::
    []))
  (.seq (.seq (.reg (⟨(some 9), .mv (.t 0), none⟩ ::
    ⟨(some 10), .len false (.t 9), none⟩ ::
    ⟨(some 11), .mv (.c (.d (.int .i64 0))), none⟩ ::
    []))
  (.block 0 (.loop [0, 3, 9, 10, 11] (.seq (.reg (⟨(some 12), .bin .lss (.t 11) (.t 10), none⟩ ::
    []))
  (.seq (.cond (.t 12) .skip (.exit 0))
  (.seq (.block 1 (.seq (.reg (⟨(some 13), .ixs 1 (.t 9) (.t 11), none⟩ ::
    ⟨(some 14), .ld (.t 13), none⟩ ::
    ⟨(some 5), .mv (.t 14), none⟩ ::
    []))
  (.seq (.reg (⟨(some 15), .mv (.t 3), none⟩ ::
    ⟨(some 16), .mv (.t 5), none⟩ ::
    ⟨(some 17), .len false (.t 16), none⟩ ::
    ⟨(some 18), .bin .add (.t 15) (.t 17), none⟩ ::
    ⟨(some 3), .mv (.t 18), none⟩ ::
    []))
  (.seq (.reg (⟨(some 19), .mv (.t 3), none⟩ ::
    ⟨(some 20), .bin .lss (.t 19) (.c (.d (.int .i64 0))), none⟩ ::
    []))
  (.cond (.t 20) .bad .skip)))))
  (.reg (⟨(some 22), .bin .add (.t 11) (.c (.d (.int .i64 1))), none⟩ ::
    ⟨(some 11), .mv (.t 22), none⟩ ::
    []))))))))
  (.seq (.reg (⟨(some 23), .mv (.t 3), none⟩ ::
    ⟨(some 24), .call (.c (.fn 122 [])) [(.c (.nils)), (.t 23)], none⟩ ::
    ⟨(some 6), .mv (.t 24), none⟩ ::
    []))
  (.seq (.seq (.reg (⟨(some 25), .mv (.t 0), none⟩ ::
    ⟨(some 26), .len false (.t 25), none⟩ ::
    ⟨(some 27), .mv (.c (.d (.int .i64 0))), none⟩ ::
    []))
  (.block 2 (.loop [6, 25, 26, 27] (.seq (.reg (⟨(some 28), .bin .lss (.t 27) (.t 26), none⟩ ::
    []))
  (.seq (.cond (.t 28) .skip (.exit 2))
  (.seq (.block 3 (.seq (.reg (⟨(some 29), .ixs 1 (.t 25) (.t 27), none⟩ ::
    ⟨(some 30), .ld (.t 29), none⟩ ::
    ⟨(some 8), .mv (.t 30), none⟩ ::
    []))
  (.reg (⟨(some 31), .mv (.t 6), none⟩ ::
    ⟨(some 32), .mv (.t 8), none⟩ ::
    ⟨(some 33), .nw (.apps 1 (.t 31) (.t 32)), none⟩ ::
    ⟨(some 6), .mv (.t 33), none⟩ ::
    []))))
  (.reg (⟨(some 34), .bin .add (.t 27) (.c (.d (.int .i64 1))), none⟩ ::
    ⟨(some 27), .mv (.t 34), none⟩ ::
    []))))))))
  (.seq (.reg (⟨(some 35), .mv (.t 6), none⟩ ::
    ⟨(some 2), .mv (.t 35), none⟩ ::
    []))
  .ret)))))) }
/-- garland/list.behind -/
def cf91 : CFun := { np := 3, nt := 18, res := [.tmp 6], body :=
  (.seq (.reg (⟨(some 6), .mv (.c (.d (.bool false))), none⟩ ::
    []))
  (.seq (.reg (⟨(some 7), .mv (.t 2), none⟩ ::
    ⟨(some 8), .call (.c (.fn 123 [])) [(.t 7)], none⟩ ::
    ⟨(some 9), .mv (.t 8), none⟩ ::
    ⟨(some 10), .mv (.t 0), (some (9, true))⟩ ::
    ⟨(some 11), .mv (.t 2), (some (9, true))⟩ ::
    ⟨(some 12), .call (.c (.fn 92 [])) [(.t 10), (.t 11)], (some (9, true))⟩ ::
    ⟨(some 13), .mv (.t 0), (some (9, true))⟩ ::
    ⟨(some 14), .mv (.t 1), (some (9, true))⟩ ::
    ⟨(some 15), .call (.c (.fn 92 [])) [(.t 13), (.t 14)], (some (9, true))⟩ ::
    ⟨(some 16), .bin .gtr (.t 12) (.t 15), (some (9, true))⟩ ::
    ⟨(some 17), .pick (.t 9) (.t 16) (.c (.d (.bool false))), none⟩ ::
    ⟨(some 6), .mv (.t 17), none⟩ ::
    []))
  .ret)) }
/-- garland/arc.Far -/
def cf92 : CFun := { np := 2, nt := 9, res := [.tmp 4], body :=
  (.seq (.reg (⟨(some 4), .mv (.c (.d (.int .i64 0))), none⟩ ::
    []))
  (.seq (.reg (⟨(some 5), .mv (.t 1), none⟩ ::
    ⟨(some 6), .mv (.t 0), none⟩ ::
    ⟨(some 7), .bin .sub (.t 5) (.t 6), none⟩ ::
    ⟨(some 8), .call (.c (.fn 115 [])) [(.t 7)], none⟩ ::
    ⟨(some 4), .mv (.t 8), none⟩ ::
    []))
  .ret)) }
/-- slices.Contains[[]int,int] -/
def cf93 : CFun := { np := 2, nt := 9, res := [.tmp 4], body :=
  (.seq (.reg (⟨(some 4), .mv (.c (.d (.bool false))), none⟩ ::
    []))
  (.seq (.reg (⟨(some 5), .mv (.t 0), none⟩ ::
    ⟨(some 6), .mv (.t 1), none⟩ ::
    ⟨(some 7), .call (.c (.fn 124 [])) [(.t 5), (.t 6)], none⟩ ::
    ⟨(some 8), .bin .geq (.t 7) (.c (.d (.int .i64 0))), none⟩ ::
    ⟨(some 4), .mv (.t 8), none⟩ ::
    []))
  .ret)) }
/-- garland/list.Drop -/
def cf94 : CFun := { np := 2, nt := 9, res := [.tmp 4], body :=
  (.seq (.reg (⟨(some 3), .box (.t 1), none⟩ ::
    ⟨(some 4), .mv (.c (.nils)), none⟩ ::
    []))
  (.seq (.reg (⟨(some 5), .mv (.t 0), none⟩ ::
    ⟨(some 6), .call (.c (.fn 83 [])) [(.t 5)], none⟩ ::
    ⟨(some 7), .mkf 126 [(.t 3)], none⟩ ::
    ⟨(some 8), .call (.c (.fn 125 [])) [(.t 6), (.t 7)], none⟩ ::
    ⟨(some 4), .mv (.t 8), none⟩ ::
    []))
  .ret)) }
/-- garland/view.Dead$1 -/
def cf95 : CFun := { np := 2, nt := 8, res := [.tmp 3], body :=
  (.seq (.reg (⟨(some 3), .mv (.c (.d (.int .i64 0))), none⟩ ::
    []))
  (.seq (.seq (.reg (⟨(some 4), .mv (.t 0), none⟩ ::
    ⟨(some 5), .ld (.t 1), none⟩ ::
    ⟨(some 6), .bin .eql (.t 4) (.t 5), none⟩ ::
    []))
  (.cond (.t 6) (.seq (.reg (⟨(some 3), .mv (.c (.d (.int .i64 (-1)))), none⟩ ::
    []))
  .ret) .skip))
  (.seq (.reg (⟨(some 7), .mv (.t 0), none⟩ ::
    ⟨(some 3), .mv (.t 7), none⟩ ::
    []))
  .ret))) }
/-- garland/garlandref06.Asks -/
def cf96 : CFun := { np := 1, nt := 11, res := [.tmp 2], body :=
  (.seq (.reg (⟨(some 1), .box (.t 0), none⟩ ::
    ⟨(some 2), .mv (.c (.d (.bool false))), none⟩ ::
    []))
  (.seq (.reg (⟨(some 3), .off 0 (.t 1), none⟩ ::
    ⟨(some 4), .ld (.t 3), none⟩ ::
    ⟨(some 5), .bin .geq (.t 4) (.c (.d (.int .u8 1))), none⟩ ::
    ⟨(some 6), .mv (.t 5), none⟩ ::
    ⟨(some 7), .off 0 (.t 1), (some (6, true))⟩ ::
    ⟨(some 8), .ld (.t 7), (some (6, true))⟩ ::
    ⟨(some 9), .bin .leq (.t 8) (.c (.d (.int .u8 6))), (some (6, true))⟩ ::
    ⟨(some 10), .pick (.t 6) (.t 9) (.c (.d (.bool false))), none⟩ ::
    ⟨(some 2), .mv (.t 10), none⟩ ::
    []))
  .ret)) }
/-- garland/garlandref06.Pair -/
def cf97 : CFun := { np := 1, nt := 33, res := [.tmp 2], body :=
  (.seq (.reg (⟨(some 1), .box (.t 0), none⟩ ::
    ⟨(some 2), .mv (.c (.d (.bool false))), none⟩ ::
    []))
  (.seq (.reg (⟨(some 3), .off 0 (.t 1), none⟩ ::
    ⟨(some 4), .ld (.t 3), none⟩ ::
    ⟨(some 5), .len true (.t 4), none⟩ ::
    ⟨(some 6), .bin .geq (.t 5) (.c (.d (.int .i64 1))), none⟩ ::
    ⟨(some 7), .mv (.t 6), none⟩ ::
    ⟨(some 8), .off 0 (.t 1), (some (7, true))⟩ ::
    ⟨(some 9), .ld (.t 8), (some (7, true))⟩ ::
    ⟨(some 10), .len true (.t 9), (some (7, true))⟩ ::
    ⟨(some 11), .bin .leq (.t 10) (.c (.d (.int .i64 20))), (some (7, true))⟩ ::
    ⟨(some 12), .pick (.t 7) (.t 11) (.c (.d (.bool false))), none⟩ ::
    ⟨(some 13), .mv (.t 12), none⟩ ::
    ⟨(some 14), .off 1 (.t 1), (some (13, true))⟩ ::
    ⟨(some 15), .ld (.t 14), (some (13, true))⟩ ::
    ⟨(some 16), .bin .geq (.t 15) (.c (.d (.int .i64 0))), (some (13, true))⟩ ::
    ⟨(some 17), .pick (.t 13) (.t 16) (.c (.d (.bool false))), none⟩ ::
    ⟨(some 18), .mv (.t 17), none⟩ ::
    ⟨(some 19), .off 1 (.t 1), (some (18, true))⟩ ::
    ⟨(some 20), .ld (.t 19), (some (18, true))⟩ ::
    ⟨(some 21), .bin .leq (.t 20) (.c (.d (.int .i64 1048576))), (some (18, true))⟩ ::
    ⟨(some 22), .pick (.t 18) (.t 21) (.c (.d (.bool false))), none⟩ ::
    ⟨(some 23), .mv (.t 22), none⟩ ::
    ⟨(some 24), .off 2 (.t 1), (some (23, true))⟩ ::
    ⟨(some 25), .ld (.t 24), (some (23, true))⟩ ::
    ⟨(some 26), .bin .geq (.t 25) (.c (.d (.int .i64 0))), (some (23, true))⟩ ::
    ⟨(some 27), .pick (.t 23) (.t 26) (.c (.d (.bool false))), none⟩ ::
    ⟨(some 28), .mv (.t 27), none⟩ ::
    ⟨(some 29), .off 2 (.t 1), (some (28, true))⟩ ::
    ⟨(some 30), .ld (.t 29), (some (28, true))⟩ ::
    ⟨(some 31), .bin .leq (.t 30) (.c (.d (.int .i64 1048576))), (some (28, true))⟩ ::
    ⟨(some 32), .pick (.t 28) (.t 31) (.c (.d (.bool false))), none⟩ ::
    ⟨(some 2), .mv (.t 32), none⟩ ::
    []))
  .ret)) }
/-- garland/garlandref06.list -/
def cf98 : CFun := { np := 2, nt := 44, res := [.tmp 4], body :=
  (.seq (.reg (⟨(some 4), .mv (.c (.d (.bool false))), none⟩ ::
    []))
  (.seq (.seq (.reg (⟨(some 5), .mv (.c (.d (.int .i64 0))), none⟩ ::
    []))
  (.block 0 (.loop [0, 1, 5] (.seq (.seq (.reg (⟨(some 7), .mv (.t 5), none⟩ ::
    ⟨(some 8), .mv (.t 0), none⟩ ::
    ⟨(some 9), .len false (.t 8), none⟩ ::
    ⟨(some 10), .bin .lss (.t 7) (.t 9), none⟩ ::
    []))
  (.cond (.t 10) .skip (.exit 0)))
  (.seq (.block 1 (.seq (.seq (.reg (⟨(some 13), .mv (.t 0), none⟩ ::
    ⟨(some 14), .mv (.t 5), none⟩ ::
    ⟨(some 15), .ixs 1 (.t 13) (.t 14), none⟩ ::
    ⟨(some 16), .ld (.t 15), none⟩ ::
    ⟨(some 17), .call (.c (.fn 52 [])) [(.t 16)], none⟩ ::
    ⟨(some 18), .not (.t 17), none⟩ ::
    ⟨(some 19), .mv (.t 18), none⟩ ::
    ⟨(some 20), .mv (.t 0), (some (19, false))⟩ ::
    ⟨(some 21), .mv (.t 5), (some (19, false))⟩ ::
    ⟨(some 22), .ixs 1 (.t 20) (.t 21), (some (19, false))⟩ ::
    ⟨(some 23), .ld (.t 22), (some (19, false))⟩ ::
    ⟨(some 24), .mv (.t 1), (some (19, false))⟩ ::
    ⟨(some 25), .bin .eql (.t 23) (.t 24), (some (19, false))⟩ ::
    ⟨(some 26), .pick (.t 19) (.c (.d (.bool true))) (.t 25), none⟩ ::
    []))
  (.cond (.t 26) (.seq (.reg (⟨(some 4), .mv (.c (.d (.bool false))), none⟩ ::
    []))
  .ret) .skip))
  (.seq (.reg (⟨(some 6), .mv (.c (.d (.int .i64 0))), none⟩ ::
    []))
  (.block 2 (.loop [0, 1, 5, 6] (.seq (.seq (.reg (⟨(some 27), .mv (.t 6), none⟩ ::
    ⟨(some 28), .mv (.t 5), none⟩ ::
    ⟨(some 29), .bin .lss (.t 27) (.t 28), none⟩ ::
    []))
  (.cond (.t 29) .skip (.exit 2)))
  (.seq (.block 3 (.seq (.dreg (⟨(some 32), .mv (.t 0), none⟩ ::
    ⟨(some 33), .mv (.t 6), none⟩ ::
    ⟨(some 34), .ixs 1 (.t 32) (.t 33), none⟩ ::
    ⟨(some 35), .ld (.t 34), none⟩ ::
    ⟨(some 36), .mv (.t 0), none⟩ ::
    ⟨(some 37), .mv (.t 5), none⟩ ::
    ⟨(some 38), .ixs 1 (.t 36) (.t 37), none⟩ ::
    ⟨(some 39), .ld (.t 38), none⟩ ::
    []) (⟨(some 40), .bin .eql (.t 35) (.t 39), none⟩ ::
    []))
  (.cond (.t 40) (.seq (.reg (⟨(some 4), .mv (.c (.d (.bool false))), none⟩ ::
    []))
  .ret) .skip)))
  (.reg (⟨(some 30), .mv (.t 6), none⟩ ::
    ⟨(some 31), .bin .add (.t 30) (.c (.d (.int .i64 1))), none⟩ ::
    ⟨(some 6), .mv (.t 31), none⟩ ::
    [])))))))))
  (.reg (⟨(some 11), .mv (.t 5), none⟩ ::
    ⟨(some 12), .bin .add (.t 11) (.c (.d (.int .i64 1))), none⟩ ::
    ⟨(some 5), .mv (.t 12), none⟩ ::
    [])))))))
  (.seq (.reg (⟨(some 41), .mv (.t 0), none⟩ ::
    ⟨(some 42), .len false (.t 41), none⟩ ::
    ⟨(some 43), .bin .leq (.t 42) (.c (.d (.int .i64 3))), none⟩ ::
    ⟨(some 4), .mv (.t 43), none⟩ ::
    []))
  .ret))) }
/-- garland/garlandref13.Listed -/
def cf99 : CFun := { np := 2, nt := 20, res := [.cells 4 20], body :=
  (.seq (.reg (⟨(some 2), .box (.t 0), none⟩ ::
    ⟨(some 4), .new [.d (.int .i64 0), .nils, .nils, .d (.int .i64 0), .d (.int .i64 0), .d (.int .i64 0), .d (.int .i64 0), .d (.int .i64 0), .d (.int .i64 0), .d (.int .i64 0), .d (.int .i64 0), .d (.int .i64 0), .d (.int .i64 0), .d (.int .i64 0), .d (.int .i64 0), .d (.int .i64 0), .d (.int .i64 0), .d (.int .i64 0), .d (.int .i64 0), .d (.int .i64 0)], none⟩ ::
    []))
  (.seq (.reg (⟨(some 5), .ldn 20 (.t 2), none⟩ ::
    ⟨(some 6), .call (.c (.fn 28 [])) [(.t 5)], none⟩ ::
    ⟨none, .st 20 (.t 2) (.t 6), none⟩ ::
    []))
  (.seq (.seq (.reg (⟨(some 7), .ldn 20 (.t 2), none⟩ ::
    ⟨(some 8), .call (.c (.fn 22 [])) [(.t 7)], none⟩ ::
    ⟨(some 9), .mv (.t 8), none⟩ ::
    ⟨(some 10), .off 0 (.t 2), (some (9, true))⟩ ::
    ⟨(some 11), .ld (.t 10), (some (9, true))⟩ ::
    ⟨(some 12), .mv (.t 1), (some (9, true))⟩ ::
    ⟨(some 13), .call (.c (.fn 26 [])) [(.t 11), (.t 12)], (some (9, true))⟩ ::
    ⟨(some 14), .pick (.t 9) (.t 13) (.c (.d (.bool false))), none⟩ ::
    []))
  (.cond (.t 14) (.reg (⟨(some 15), .bls [] 0 1 [], none⟩ ::
    ⟨(some 16), .mv (.t 1), none⟩ ::
    ⟨(some 17), .app 1 (.t 15) (.t 16), none⟩ ::
    ⟨(some 18), .off 2 (.t 2), none⟩ ::
    ⟨none, .st 1 (.t 18) (.t 17), none⟩ ::
    [])) .skip))
  (.seq (.reg (⟨(some 19), .ldn 20 (.t 2), none⟩ ::
    ⟨none, .st 20 (.t 4) (.t 19), none⟩ ::
    []))
  .ret)))) }
/-- garland/job.asked -/
def cf100 : CFun := { np := 2, nt := 30, res := [.tmp 4], body :=
  (.seq (.reg (⟨(some 2), .box (.t 0), none⟩ ::
    ⟨(some 4), .mv (.c (.d (.bool false))), none⟩ ::
    []))
  (.seq (.seq (.reg (⟨(some 5), .off 1 (.t 2), none⟩ ::
    ⟨(some 6), .ld (.t 5), none⟩ ::
    []))
  (.block 0 (.seq (.reg (⟨(some 8), .bin .eql (.t 6) (.c (.d (.int .u8 1))), none⟩ ::
    ⟨(some 7), .mv (.t 8), none⟩ ::
    []))
  (.cond (.t 7) (.seq (.reg (⟨(some 9), .mv (.t 1), none⟩ ::
    ⟨(some 10), .off 2 (.t 2), none⟩ ::
    ⟨(some 11), .off 1 (.t 10), none⟩ ::
    ⟨(some 12), .ld (.t 11), none⟩ ::
    ⟨(some 13), .bin .eql (.t 9) (.t 12), none⟩ ::
    ⟨(some 4), .mv (.t 13), none⟩ ::
    []))
  .ret) (.seq (.seq (.reg (⟨(some 15), .bin .eql (.t 6) (.c (.d (.int .u8 2))), none⟩ ::
    ⟨(some 14), .mv (.t 15), none⟩ ::
    []))
  (.cond (.t 14) .skip (.reg (⟨(some 16), .bin .eql (.t 6) (.c (.d (.int .u8 4))), none⟩ ::
    ⟨(some 14), .mv (.t 16), none⟩ ::
    []))))
  (.cond (.t 14) (.seq (.reg (⟨(some 17), .mv (.t 1), none⟩ ::
    ⟨(some 18), .off 12 (.t 2), none⟩ ::
    ⟨(some 19), .ld (.t 18), none⟩ ::
    ⟨(some 20), .bin .eql (.t 17) (.t 19), none⟩ ::
    ⟨(some 4), .mv (.t 20), none⟩ ::
    []))
  .ret) .skip))))))
  (.seq (.reg (⟨(some 21), .off 1 (.t 2), none⟩ ::
    ⟨(some 22), .ld (.t 21), none⟩ ::
    ⟨(some 23), .bin .eql (.t 22) (.c (.d (.int .u8 3))), none⟩ ::
    ⟨(some 24), .mv (.t 23), none⟩ ::
    ⟨(some 25), .off 13 (.t 2), (some (24, true))⟩ ::
    ⟨(some 26), .ld (.t 25), (some (24, true))⟩ ::
    ⟨(some 27), .mv (.t 1), (some (24, true))⟩ ::
    ⟨(some 28), .call (.c (.fn 93 [])) [(.t 26), (.t 27)], (some (24, true))⟩ ::
    ⟨(some 29), .pick (.t 24) (.t 28) (.c (.d (.bool false))), none⟩ ::
    ⟨(some 4), .mv (.t 29), none⟩ ::
    []))
  .ret))) }
/-- garland/job.Told$1 -/
def cf101 : CFun := { np := 4, nt := 11, res := [], body :=
  (.dreg (⟨(some 4), .ld (.t 0), none⟩ ::
    ⟨(some 5), .ldn 20 (.t 1), none⟩ ::
    ⟨(some 6), .off 2 (.t 2), none⟩ ::
    ⟨(some 7), .ldn 6 (.t 6), none⟩ ::
    ⟨(some 8), .ldn 15 (.t 3), none⟩ ::
    ⟨(some 9), .call (.c (.fn 102 [])) [(.t 5), (.t 7), (.t 8)], none⟩ ::
    []) (⟨(some 10), .call (.c (.fn 74 [])) [(.t 4), (.t 9)], none⟩ ::
    [])) }
/-- garland/look.Told -/
def cf102 : CFun := { np := 3, nt := 59, res := [.cells 6 6], body :=
  (.seq (.reg (⟨(some 3), .box (.t 0), none⟩ ::
    ⟨(some 4), .box (.t 1), none⟩ ::
    ⟨(some 5), .box (.t 2), none⟩ ::
    ⟨(some 6), .new [.d (.int .i64 0), .d (.int .i64 0), .d (.int .i64 0), .d (.bool false), .d (.bool false), .d (.int .i64 0)], none⟩ ::
    []))
  (.scope [4, 6] (.seq (.seq (.reg (⟨(some 7), .ldn 6 (.t 4), none⟩ ::
    ⟨(some 8), .call (.c (.fn 127 [])) [(.t 7)], none⟩ ::
    ⟨(some 9), .mv (.t 8), none⟩ ::
    ⟨(some 10), .off 0 (.t 5), (some (9, false))⟩ ::
    ⟨(some 11), .ld (.t 10), (some (9, false))⟩ ::
    ⟨(some 12), .bin .neq (.t 11) (.c (.d (.int .u8 10))), (some (9, false))⟩ ::
    ⟨(some 13), .pick (.t 9) (.c (.d (.bool true))) (.t 12), none⟩ ::
    ⟨(some 14), .mv (.t 13), none⟩ ::
    ⟨(some 15), .off 2 (.t 5), (some (14, false))⟩ ::
    ⟨(some 16), .ld (.t 15), (some (14, false))⟩ ::
    ⟨(some 17), .off 1 (.t 4), (some (14, false))⟩ ::
    ⟨(some 18), .ld (.t 17), (some (14, false))⟩ ::
    ⟨(some 19), .bin .neq (.t 16) (.t 18), (some (14, false))⟩ ::
    ⟨(some 20), .pick (.t 14) (.c (.d (.bool true))) (.t 19), none⟩ ::
    ⟨(some 21), .mv (.t 20), none⟩ ::
    ⟨(some 22), .off 3 (.t 5), (some (21, false))⟩ ::
    ⟨(some 23), .ld (.t 22), (some (21, false))⟩ ::
    ⟨(some 24), .off 0 (.t 3), (some (21, false))⟩ ::
    ⟨(some 25), .ld (.t 24), (some (21, false))⟩ ::
    ⟨(some 26), .bin .neq (.t 23) (.t 25), (some (21, false))⟩ ::
    ⟨(some 27), .pick (.t 21) (.c (.d (.bool true))) (.t 26), none⟩ ::
    ⟨(some 28), .mv (.t 27), none⟩ ::
    ⟨(some 29), .ldn 15 (.t 5), (some (28, false))⟩ ::
    ⟨(some 30), .call (.c (.fn 44 [])) [(.t 29)], (some (28, false))⟩ ::
    ⟨(some 31), .not (.t 30), (some (28, false))⟩ ::
    ⟨(some 32), .pick (.t 28) (.c (.d (.bool true))) (.t 31), none⟩ ::
    ⟨(some 33), .mv (.t 32), none⟩ ::
    ⟨(some 34), .ldn 6 (.t 4), (some (33, false))⟩ ::
    ⟨(some 35), .call (.c (.fn 128 [])) [(.t 34)], (some (33, false))⟩ ::
    ⟨(some 36), .not (.t 35), (some (33, false))⟩ ::
    ⟨(some 37), .pick (.t 33) (.c (.d (.bool true))) (.t 36), none⟩ ::
    ⟨(some 38), .mv (.t 37), none⟩ ::
    ⟨(some 39), .ldn 20 (.t 3), (some (38, false))⟩ ::
    ⟨(some 40), .call (.c (.fn 36 [])) [(.t 39)], (some (38, false))⟩ ::
    ⟨(some 41), .not (.t 40), (some (38, false))⟩ ::
    ⟨(some 42), .pick (.t 38) (.c (.d (.bool true))) (.t 41), none⟩ ::
    []))
  (.cond (.t 42) (.goto 0) .skip))
  (.seq (.seq (.reg (⟨(some 43), .off 2 (.t 4), none⟩ ::
    ⟨(some 44), .ld (.t 43), none⟩ ::
    ⟨(some 45), .bin .add (.t 44) (.c (.d (.int .i64 1))), none⟩ ::
    ⟨(some 46), .off 2 (.t 4), none⟩ ::
    ⟨none, .st 1 (.t 46) (.t 45), none⟩ ::
    []))
  (.seq (.reg (⟨(some 47), .off 2 (.t 4), none⟩ ::
    ⟨(some 48), .ld (.t 47), none⟩ ::
    ⟨(some 49), .bin .gtr (.t 48) (.c (.d (.int .i64 40))), none⟩ ::
    []))
  (.cond (.t 49) (.seq (.reg (⟨(some 50), .off 5 (.t 4), none⟩ ::
    ⟨none, .st 1 (.t 50) (.c (.d (.int .i64 211))), none⟩ ::
    []))
  (.goto 0)) .skip)))
  (.seq (.seq (.reg (⟨(some 51), .ldn 20 (.t 3), none⟩ ::
    ⟨(some 52), .ldn 6 (.t 4), none⟩ ::
    ⟨(some 53), .off 7 (.t 5), none⟩ ::
    ⟨(some 54), .ld (.t 53), none⟩ ::
    ⟨(some 55), .off 6 (.t 5), none⟩ ::
    ⟨(some 56), .ld (.t 55), none⟩ ::
    ⟨(some 57), .call (.c (.fn 116 [])) [(.t 51), (.t 52), (.t 54), (.t 56)], none⟩ ::
    ⟨none, .st 6 (.t 6) (.t 57), none⟩ ::
    []))
  .ret)
  (.seq (.label 0)
  (.seq (.reg (⟨(some 58), .ldn 6 (.t 4), none⟩ ::
    ⟨none, .st 6 (.t 6) (.t 58), none⟩ ::
    []))
  .ret))))))) }
/-- garland/job.Told$2 -/
def cf103 : CFun := { np := 3, nt := 12, res := [], body :=
  (.dreg (⟨(some 3), .ld (.t 0), none⟩ ::
    ⟨(some 4), .off 12 (.t 1), none⟩ ::
    ⟨(some 5), .ld (.t 4), none⟩ ::
    ⟨(some 6), .bls [.d (.int .i64 0)] 1 1 [(0, 1, (.t 5))], none⟩ ::
    ⟨(some 7), .off 9 (.t 2), none⟩ ::
    ⟨(some 8), .ld (.t 7), none⟩ ::
    ⟨(some 9), .bls [.nils, .nils] 2 1 [(0, 1, (.t 6)), (1, 1, (.t 8))], none⟩ ::
    ⟨(some 10), .call (.c (.fn 90 [])) [(.t 9)], none⟩ ::
    []) (⟨(some 11), .call (.c (.fn 104 [])) [(.t 3), (.t 10)], none⟩ ::
    [])) }
/-- (*garland/job.work).put -/
def cf104 : CFun := { np := 2, nt := 68, res := [], body :=
  (.seq (.reg (⟨(some 2), .box (.t 0), none⟩ ::
    []))
  (.seq (.reg (⟨(some 5), .mv (.t 1), none⟩ ::
    ⟨(some 6), .mv (.t 1), none⟩ ::
    ⟨(some 7), .len false (.t 6), none⟩ ::
    ⟨(some 8), .mnx false (.t 7) (.c (.d (.int .i64 3))), none⟩ ::
    ⟨(some 9), .sls 1 (.t 5) none (some (.t 8)), none⟩ ::
    ⟨(some 1), .mv (.t 9), none⟩ ::
    []))
  (.seq (.dreg (⟨(some 10), .ld (.t 2), none⟩ ::
    ⟨(some 11), .mv (.t 1), none⟩ ::
    ⟨(some 12), .ld (.t 2), none⟩ ::
    ⟨(some 13), .nilc (.t 12), none⟩ ::
    ⟨(some 14), .off 0 (.t 13), none⟩ ::
    ⟨(some 15), .off 0 (.t 14), none⟩ ::
    ⟨(some 16), .ld (.t 15), none⟩ ::
    ⟨(some 17), .call (.c (.fn 93 [])) [(.t 11), (.t 16)], none⟩ ::
    []) (⟨(some 18), .nilc (.t 10), none⟩ ::
    ⟨(some 19), .off 36 (.t 18), none⟩ ::
    ⟨none, .st 1 (.t 19) (.t 17), none⟩ ::
    []))
  (.seq (.reg (⟨(some 20), .ld (.t 2), none⟩ ::
    ⟨(some 21), .nilc (.t 20), none⟩ ::
    ⟨(some 22), .off 20 (.t 21), none⟩ ::
    ⟨(some 23), .off 13 (.t 22), none⟩ ::
    ⟨none, .st 1 (.t 23) (.c (.nils)), none⟩ ::
    []))
  (.seq (.seq (.reg (⟨(some 24), .ld (.t 2), none⟩ ::
    ⟨(some 25), .nilc (.t 24), none⟩ ::
    ⟨(some 26), .off 0 (.t 25), none⟩ ::
    ⟨(some 27), .off 0 (.t 26), none⟩ ::
    ⟨(some 28), .ld (.t 27), none⟩ ::
    ⟨(some 29), .mv (.t 1), none⟩ ::
    ⟨(some 30), .call (.c (.fn 129 [])) [(.t 28), (.t 29)], none⟩ ::
    []))
  (.block 0 (.range (.t 30) [31] (.reg (⟨(some 4), .mv (.t 31), none⟩ ::
    [])) (.block 1 (.seq (.dreg (⟨(some 32), .ld (.t 2), none⟩ ::
    ⟨(some 33), .ld (.t 2), none⟩ ::
    ⟨(some 34), .nilc (.t 33), none⟩ ::
    ⟨(some 35), .off 20 (.t 34), none⟩ ::
    ⟨(some 36), .off 13 (.t 35), none⟩ ::
    ⟨(some 37), .ld (.t 36), none⟩ ::
    ⟨(some 38), .mv (.t 4), none⟩ ::
    ⟨(some 39), .bls [.d (.int .i64 0)] 1 1 [(0, 1, (.t 38))], none⟩ ::
    ⟨(some 40), .app 1 (.t 37) (.t 39), none⟩ ::
    []) (⟨(some 41), .nilc (.t 32), none⟩ ::
    ⟨(some 42), .off 20 (.t 41), none⟩ ::
    ⟨(some 43), .off 13 (.t 42), none⟩ ::
    ⟨none, .st 1 (.t 43) (.t 40), none⟩ ::
    []))
  (.dreg (⟨(some 44), .ld (.t 2), none⟩ ::
    ⟨(some 45), .mv (.t 4), none⟩ ::
    ⟨(some 46), .ld (.t 2), none⟩ ::
    ⟨(some 47), .nilc (.t 46), none⟩ ::
    ⟨(some 48), .off 20 (.t 47), none⟩ ::
    ⟨(some 49), .off 8 (.t 48), none⟩ ::
    ⟨(some 50), .ldn 4 (.t 49), none⟩ ::
    ⟨(some 51), .bld [.d (.int .u8 0), .d (.int .i64 0), .d (.int .i64 0), .d (.int .i64 0), .d (.int .i64 0), .d (.bool false), .d (.bool false), .d (.int .i64 0), .d (.int .i64 0), .nils, .d (.str []), .d (.int .i64 0), .d (.int .i64 0), .d (.bool false), .d (.int .i64 0)] [(0, 1, (.c (.d (.int .u8 5)))), (3, 1, (.t 45)), (10, 4, (.t 50))], none⟩ ::
    ⟨(some 52), .bls [.d (.int .u8 0), .d (.int .i64 0), .d (.int .i64 0), .d (.int .i64 0), .d (.int .i64 0), .d (.bool false), .d (.bool false), .d (.int .i64 0), .d (.int .i64 0), .nils, .d (.str []), .d (.int .i64 0), .d (.int .i64 0), .d (.bool false), .d (.int .i64 0)] 1 15 [(0, 15, (.t 51))], none⟩ ::
    ⟨(some 53), .call (.c (.fn 114 [])) [(.t 44), (.c (.d (.int .u8 3))), (.t 52)], none⟩ ::
    []) ([])))))))
  (.seq (.reg (⟨(some 54), .ld (.t 2), none⟩ ::
    ⟨(some 55), .nilc (.t 54), none⟩ ::
    ⟨(some 56), .off 20 (.t 55), none⟩ ::
    ⟨(some 57), .off 13 (.t 56), none⟩ ::
    ⟨(some 58), .ld (.t 57), none⟩ ::
    ⟨(some 59), .len false (.t 58), none⟩ ::
    ⟨(some 60), .bin .eql (.t 59) (.c (.d (.int .i64 0))), none⟩ ::
    []))
  (.cond (.t 60) (.dreg (⟨(some 61), .ld (.t 2), none⟩ ::
    ⟨(some 62), .ld (.t 2), none⟩ ::
    ⟨(some 63), .nilc (.t 62), none⟩ ::
    ⟨(some 64), .off 20 (.t 63), none⟩ ::
    ⟨(some 65), .off 14 (.t 64), none⟩ ::
    ⟨(some 66), .ld (.t 65), none⟩ ::
    []) (⟨(some 67), .call (.c (.fn 72 [])) [(.t 61), (.t 66)], none⟩ ::
    [])) .skip))))))) }
/-- garland/job.Told$3 -/
def cf105 : CFun := { np := 2, nt := 8, res := [], body :=
  (.reg (⟨(some 2), .ld (.t 0), none⟩ ::
    ⟨(some 3), .off 2 (.t 1), none⟩ ::
    ⟨(some 4), .ld (.t 3), none⟩ ::
    ⟨(some 5), .off 14 (.t 1), none⟩ ::
    ⟨(some 6), .ld (.t 5), none⟩ ::
    ⟨(some 7), .call (.c (.fn 106 [])) [(.t 2), (.t 4), (.t 6)], none⟩ ::
    [])) }
/-- (*garland/job.work).without -/
def cf106 : CFun := { np := 3, nt := 38, res := [], body :=
  (.seq (.reg (⟨(some 4), .box (.t 1), none⟩ ::
    []))
  (.seq (.reg (⟨(some 6), .mv (.t 0), none⟩ ::
    ⟨(some 7), .mv (.t 0), none⟩ ::
    ⟨(some 8), .nilc (.t 7), none⟩ ::
    ⟨(some 9), .off 20 (.t 8), none⟩ ::
    ⟨(some 10), .off 13 (.t 9), none⟩ ::
    ⟨(some 11), .ld (.t 10), none⟩ ::
    ⟨(some 12), .mkf 130 [(.t 4)], none⟩ ::
    ⟨(some 13), .call (.c (.fn 125 [])) [(.t 11), (.t 12)], none⟩ ::
    ⟨(some 14), .nilc (.t 6), none⟩ ::
    ⟨(some 15), .off 20 (.t 14), none⟩ ::
    ⟨(some 16), .off 13 (.t 15), none⟩ ::
    ⟨none, .st 1 (.t 16) (.t 13), none⟩ ::
    []))
  (.seq (.seq (.reg (⟨(some 17), .mv (.t 2), none⟩ ::
    ⟨(some 18), .bin .neq (.t 17) (.c (.d (.int .i64 0))), none⟩ ::
    []))
  (.cond (.t 18) (.reg (⟨(some 19), .mv (.t 0), none⟩ ::
    ⟨(some 20), .mv (.t 2), none⟩ ::
    ⟨(some 21), .nilc (.t 19), none⟩ ::
    ⟨(some 22), .off 20 (.t 21), none⟩ ::
    ⟨(some 23), .off 14 (.t 22), none⟩ ::
    ⟨none, .st 1 (.t 23) (.t 20), none⟩ ::
    [])) .skip))
  (.seq (.reg (⟨(some 24), .mv (.t 0), none⟩ ::
    ⟨(some 25), .nilc (.t 24), none⟩ ::
    ⟨(some 26), .off 20 (.t 25), none⟩ ::
    ⟨(some 27), .off 13 (.t 26), none⟩ ::
    ⟨(some 28), .ld (.t 27), none⟩ ::
    ⟨(some 29), .len false (.t 28), none⟩ ::
    ⟨(some 30), .bin .eql (.t 29) (.c (.d (.int .i64 0))), none⟩ ::
    []))
  (.cond (.t 30) (.reg (⟨(some 31), .mv (.t 0), none⟩ ::
    ⟨(some 32), .mv (.t 0), none⟩ ::
    ⟨(some 33), .nilc (.t 32), none⟩ ::
    ⟨(some 34), .off 20 (.t 33), none⟩ ::
    ⟨(some 35), .off 14 (.t 34), none⟩ ::
    ⟨(some 36), .ld (.t 35), none⟩ ::
    ⟨(some 37), .call (.c (.fn 72 [])) [(.t 31), (.t 36)], none⟩ ::
    [])) .skip))))) }
/-- garland/job.Told$4 -/
def cf107 : CFun := { np := 2, nt := 15, res := [], body :=
  (.seq (.reg (⟨(some 2), .ld (.t 0), none⟩ ::
    ⟨(some 3), .off 14 (.t 1), none⟩ ::
    ⟨(some 4), .ld (.t 3), none⟩ ::
    ⟨(some 5), .call (.c (.fn 72 [])) [(.t 2), (.t 4)], none⟩ ::
    []))
  (.seq (.reg (⟨(some 6), .off 14 (.t 1), none⟩ ::
    ⟨(some 7), .ld (.t 6), none⟩ ::
    ⟨(some 8), .bin .eql (.t 7) (.c (.d (.int .i64 0))), none⟩ ::
    []))
  (.cond (.t 8) (.reg (⟨(some 9), .ld (.t 0), none⟩ ::
    ⟨(some 10), .off 10 (.t 1), none⟩ ::
    ⟨(some 11), .ldn 4 (.t 10), none⟩ ::
    ⟨(some 12), .nilc (.t 9), none⟩ ::
    ⟨(some 13), .off 20 (.t 12), none⟩ ::
    ⟨(some 14), .off 8 (.t 13), none⟩ ::
    ⟨none, .st 4 (.t 14) (.t 11), none⟩ ::
    [])) .skip))) }
/-- garland/look.Again -/
def cf108 : CFun := { np := 2, nt := 33, res := [.cells 4 6], body :=
  (.seq (.reg (⟨(some 2), .box (.t 0), none⟩ ::
    ⟨(some 3), .box (.t 1), none⟩ ::
    ⟨(some 4), .new [.d (.int .i64 0), .d (.int .i64 0), .d (.int .i64 0), .d (.bool false), .d (.bool false), .d (.int .i64 0)], none⟩ ::
    []))
  (.seq (.seq (.reg (⟨(some 5), .ldn 6 (.t 3), none⟩ ::
    ⟨(some 6), .call (.c (.fn 127 [])) [(.t 5)], none⟩ ::
    ⟨(some 7), .mv (.t 6), none⟩ ::
    ⟨(some 8), .ldn 6 (.t 3), (some (7, false))⟩ ::
    ⟨(some 9), .call (.c (.fn 128 [])) [(.t 8)], (some (7, false))⟩ ::
    ⟨(some 10), .not (.t 9), (some (7, false))⟩ ::
    ⟨(some 11), .pick (.t 7) (.c (.d (.bool true))) (.t 10), none⟩ ::
    ⟨(some 12), .mv (.t 11), none⟩ ::
    ⟨(some 13), .ldn 20 (.t 2), (some (12, false))⟩ ::
    ⟨(some 14), .call (.c (.fn 36 [])) [(.t 13)], (some (12, false))⟩ ::
    ⟨(some 15), .not (.t 14), (some (12, false))⟩ ::
    ⟨(some 16), .pick (.t 12) (.c (.d (.bool true))) (.t 15), none⟩ ::
    []))
  (.cond (.t 16) (.seq (.reg (⟨(some 17), .ldn 6 (.t 3), none⟩ ::
    ⟨none, .st 6 (.t 4) (.t 17), none⟩ ::
    []))
  .ret) .skip))
  (.seq (.seq (.reg (⟨(some 18), .off 2 (.t 3), none⟩ ::
    ⟨(some 19), .ld (.t 18), none⟩ ::
    ⟨(some 20), .bin .add (.t 19) (.c (.d (.int .i64 1))), none⟩ ::
    ⟨(some 21), .off 2 (.t 3), none⟩ ::
    ⟨none, .st 1 (.t 21) (.t 20), none⟩ ::
    []))
  (.seq (.reg (⟨(some 22), .off 2 (.t 3), none⟩ ::
    ⟨(some 23), .ld (.t 22), none⟩ ::
    ⟨(some 24), .bin .gtr (.t 23) (.c (.d (.int .i64 40))), none⟩ ::
    []))
  (.cond (.t 24) (.seq (.reg (⟨(some 25), .off 5 (.t 3), none⟩ ::
    ⟨none, .st 1 (.t 25) (.c (.d (.int .i64 211))), none⟩ ::
    []))
  (.seq (.reg (⟨(some 26), .ldn 6 (.t 3), none⟩ ::
    ⟨none, .st 6 (.t 4) (.t 26), none⟩ ::
    []))
  .ret)) .skip)))
  (.seq (.reg (⟨(some 27), .off 3 (.t 3), none⟩ ::
    ⟨none, .st 1 (.t 27) (.c (.d (.bool true))), none⟩ ::
    []))
  (.seq (.reg (⟨(some 28), .ldn 20 (.t 2), none⟩ ::
    ⟨(some 29), .ldn 6 (.t 3), none⟩ ::
    ⟨(some 30), .off 0 (.t 2), none⟩ ::
    ⟨(some 31), .ld (.t 30), none⟩ ::
    ⟨(some 32), .call (.c (.fn 116 [])) [(.t 28), (.t 29), (.t 31), (.c (.d (.bool false)))], none⟩ ::
    ⟨none, .st 6 (.t 4) (.t 32), none⟩ ::
    []))
  .ret))))) }
/-- slices.Equal[[]int,int] -/
def cf109 : CFun := { np := 2, nt := 26, res := [.tmp 4], body :=
  (.seq (.reg (⟨(some 4), .mv (.c (.d (.bool false))), none⟩ ::
    []))
  (.seq (.seq (.reg (⟨(some 6), .mv (.t 0), none⟩ ::
    ⟨(some 7), .len false (.t 6), none⟩ ::
    ⟨(some 8), .mv (.t 1), none⟩ ::
    ⟨(some 9), .len false (.t 8), none⟩ ::
    ⟨(some 10), .bin .neq (.t 7) (.t 9), none⟩ ::
    []))
  (.cond (.t 10) (.seq (.reg (⟨(some 4), .mv (.c (.d (.bool false))), none⟩ ::
    []))
  .ret) .skip))
  (.seq (.seq (.reg (⟨(some 11), .mv (.t 0), none⟩ ::
    ⟨(some 12), .len false (.t 11), none⟩ ::
    ⟨(some 13), .mv (.c (.d (.int .i64 0))), none⟩ ::
    []))
  (.block 0 (.loop [0, 1, 12, 13] (.seq (.reg (⟨(some 14), .bin .lss (.t 13) (.t 12), none⟩ ::
    []))
  (.seq (.cond (.t 14) .skip (.exit 0))
  (.seq (.block 1 (.seq (.reg (⟨(some 15), .mv (.t 13), none⟩ ::
    ⟨(some 5), .mv (.t 15), none⟩ ::
    []))
  (.seq (.dreg (⟨(some 16), .mv (.t 0), none⟩ ::
    ⟨(some 17), .mv (.t 5), none⟩ ::
    ⟨(some 18), .ixs 1 (.t 16) (.t 17), none⟩ ::
    ⟨(some 19), .ld (.t 18), none⟩ ::
    ⟨(some 20), .mv (.t 1), none⟩ ::
    ⟨(some 21), .mv (.t 5), none⟩ ::
    ⟨(some 22), .ixs 1 (.t 20) (.t 21), none⟩ ::
    ⟨(some 23), .ld (.t 22), none⟩ ::
    []) (⟨(some 24), .bin .neq (.t 19) (.t 23), none⟩ ::
    []))
  (.cond (.t 24) (.seq (.reg (⟨(some 4), .mv (.c (.d (.bool false))), none⟩ ::
    []))
  .ret) .skip))))
  (.reg (⟨(some 25), .bin .add (.t 13) (.c (.d (.int .i64 1))), none⟩ ::
    ⟨(some 13), .mv (.t 25), none⟩ ::
    []))))))))
  (.seq (.reg (⟨(some 4), .mv (.c (.d (.bool true))), none⟩ ::
    []))
  .ret)))) }
/-- garland/mix.Go -/
def cf110 : CFun := { np := 2, nt := 16, res := [.tmp 4], body :=
  (.seq (.reg (⟨(some 2), .box (.t 0), none⟩ ::
    ⟨(some 4), .mv (.c (.d (.int .i64 0))), none⟩ ::
    []))
  (.seq (.reg (⟨(some 6), .ld (.t 2), none⟩ ::
    ⟨(some 7), .conv .u16 (.t 6), none⟩ ::
    ⟨(some 8), .conv .i64 (.t 7), none⟩ ::
    ⟨none, .st 1 (.t 2) (.t 8), none⟩ ::
    []))
  (.seq (.seq (.reg (⟨(some 9), .mv (.t 1), none⟩ ::
    ⟨(some 10), .call (.c (.fn 131 [])) [(.t 9)], none⟩ ::
    []))
  (.block 0 (.range (.t 10) [11] (.reg (⟨(some 5), .mv (.t 11), none⟩ ::
    [])) (.block 1 (.reg (⟨(some 12), .ld (.t 2), none⟩ ::
    ⟨(some 13), .mv (.t 5), none⟩ ::
    ⟨(some 14), .call (.c (.fn 132 [])) [(.t 12), (.t 13)], none⟩ ::
    ⟨none, .st 1 (.t 2) (.t 14), none⟩ ::
    []))))))
  (.seq (.reg (⟨(some 15), .ld (.t 2), none⟩ ::
    ⟨(some 4), .mv (.t 15), none⟩ ::
    []))
  .ret)))) }
/-- garland/msg.key -/
def cf111 : CFun := { np := 1, nt := 10, res := [.tmp 2], body :=
  (.seq (.reg (⟨(some 2), .mv (.c (.d (.bool false))), none⟩ ::
    []))
  (.seq (.reg (⟨(some 3), .mv (.t 0), none⟩ ::
    ⟨(some 4), .bin .neq (.t 3) (.c (.d (.str []))), none⟩ ::
    ⟨(some 5), .mv (.t 4), none⟩ ::
    ⟨(some 6), .mv (.t 0), (some (5, true))⟩ ::
    ⟨(some 7), .len true (.t 6), (some (5, true))⟩ ::
    ⟨(some 8), .bin .leq (.t 7) (.c (.d (.int .i64 20))), (some (5, true))⟩ ::
    ⟨(some 9), .pick (.t 5) (.t 8) (.c (.d (.bool false))), none⟩ ::
    ⟨(some 2), .mv (.t 9), none⟩ ::
    []))
  .ret)) }
/-- garland/msg.within -/
def cf112 : CFun := { np := 1, nt := 9, res := [.tmp 2], body :=
  (.seq (.reg (⟨(some 2), .mv (.c (.d (.bool false))), none⟩ ::
    []))
  (.seq (.reg (⟨(some 3), .mv (.t 0), none⟩ ::
    ⟨(some 4), .bin .geq (.t 3) (.c (.d (.int .i64 0))), none⟩ ::
    ⟨(some 5), .mv (.t 4), none⟩ ::
    ⟨(some 6), .mv (.t 0), (some (5, true))⟩ ::
    ⟨(some 7), .bin .leq (.t 6) (.c (.d (.int .i64 1048576))), (some (5, true))⟩ ::
    ⟨(some 8), .pick (.t 5) (.t 7) (.c (.d (.bool false))), none⟩ ::
    ⟨(some 2), .mv (.t 8), none⟩ ::
    []))
  .ret)) }
/-- (*garland/job.work).found -/
def cf113 : CFun := { np := 1, nt := 87, res := [], body :=
  (.seq (.dreg (⟨(some 3), .mv (.t 0), none⟩ ::
    ⟨(some 4), .nilc (.t 3), none⟩ ::
    ⟨(some 5), .off 20 (.t 4), none⟩ ::
    ⟨(some 6), .off 12 (.t 5), none⟩ ::
    ⟨(some 7), .ld (.t 6), none⟩ ::
    ⟨(some 8), .mv (.t 0), none⟩ ::
    ⟨(some 9), .nilc (.t 8), none⟩ ::
    ⟨(some 10), .off 0 (.t 9), none⟩ ::
    ⟨(some 11), .off 0 (.t 10), none⟩ ::
    ⟨(some 12), .ld (.t 11), none⟩ ::
    []) (⟨(some 13), .bin .eql (.t 7) (.t 12), none⟩ ::
    ⟨(some 2), .mv (.t 13), none⟩ ::
    []))
  (.block 0 (.seq (.reg (⟨(some 31), .mv (.t 0), none⟩ ::
    ⟨(some 32), .nilc (.t 31), none⟩ ::
    ⟨(some 33), .off 20 (.t 32), none⟩ ::
    ⟨(some 34), .off 0 (.t 33), none⟩ ::
    ⟨(some 35), .ld (.t 34), none⟩ ::
    ⟨(some 36), .bin .eql (.t 35) (.c (.d (.int .u8 1))), none⟩ ::
    ⟨(some 30), .mv (.t 36), none⟩ ::
    []))
  (.cond (.t 30) (.reg (⟨(some 37), .mv (.t 0), none⟩ ::
    ⟨(some 38), .call (.c (.fn 72 [])) [(.t 37), (.c (.d (.int .i64 0)))], none⟩ ::
    [])) (.seq (.reg (⟨(some 40), .mv (.t 0), none⟩ ::
    ⟨(some 41), .nilc (.t 40), none⟩ ::
    ⟨(some 42), .off 20 (.t 41), none⟩ ::
    ⟨(some 43), .off 0 (.t 42), none⟩ ::
    ⟨(some 44), .ld (.t 43), none⟩ ::
    ⟨(some 45), .bin .eql (.t 44) (.c (.d (.int .u8 2))), none⟩ ::
    ⟨(some 46), .mv (.t 45), none⟩ ::
    ⟨(some 47), .mv (.t 2), (some (46, true))⟩ ::
    ⟨(some 48), .pick (.t 46) (.t 47) (.c (.d (.bool false))), none⟩ ::
    ⟨(some 39), .mv (.t 48), none⟩ ::
    []))
  (.cond (.t 39) (.dreg (⟨(some 49), .mv (.t 0), none⟩ ::
    ⟨(some 50), .mv (.t 0), none⟩ ::
    ⟨(some 51), .nilc (.t 50), none⟩ ::
    ⟨(some 52), .off 0 (.t 51), none⟩ ::
    ⟨(some 53), .off 0 (.t 52), none⟩ ::
    ⟨(some 54), .ld (.t 53), none⟩ ::
    ⟨(some 55), .bls [.d (.int .i64 0)] 1 1 [(0, 1, (.t 54))], none⟩ ::
    ⟨(some 56), .mv (.t 0), none⟩ ::
    ⟨(some 57), .nilc (.t 56), none⟩ ::
    ⟨(some 58), .off 0 (.t 57), none⟩ ::
    ⟨(some 59), .off 2 (.t 58), none⟩ ::
    ⟨(some 60), .ld (.t 59), none⟩ ::
    ⟨(some 61), .bls [.nils, .nils] 2 1 [(0, 1, (.t 55)), (1, 1, (.t 60))], none⟩ ::
    ⟨(some 62), .call (.c (.fn 90 [])) [(.t 61)], none⟩ ::
    ⟨(some 63), .call (.c (.fn 104 [])) [(.t 49), (.t 62)], none⟩ ::
    []) ([])) (.seq (.reg (⟨(some 65), .mv (.t 0), none⟩ ::
    ⟨(some 66), .nilc (.t 65), none⟩ ::
    ⟨(some 67), .off 20 (.t 66), none⟩ ::
    ⟨(some 68), .off 0 (.t 67), none⟩ ::
    ⟨(some 69), .ld (.t 68), none⟩ ::
    ⟨(some 70), .bin .eql (.t 69) (.c (.d (.int .u8 2))), none⟩ ::
    ⟨(some 64), .mv (.t 70), none⟩ ::
    []))
  (.cond (.t 64) (.reg (⟨(some 71), .mv (.t 0), none⟩ ::
    ⟨(some 72), .mv (.t 0), none⟩ ::
    ⟨(some 73), .nilc (.t 72), none⟩ ::
    ⟨(some 74), .off 20 (.t 73), none⟩ ::
    ⟨(some 75), .off 12 (.t 74), none⟩ ::
    ⟨(some 76), .ld (.t 75), none⟩ ::
    ⟨(some 77), .bld [.d (.int .u8 0), .d (.int .i64 0), .d (.int .i64 0), .d (.int .i64 0), .d (.int .i64 0), .d (.bool false), .d (.bool false), .d (.int .i64 0), .d (.int .i64 0), .nils, .d (.str []), .d (.int .i64 0), .d (.int .i64 0), .d (.bool false), .d (.int .i64 0)] [(0, 1, (.c (.d (.int .u8 1)))), (3, 1, (.t 76))], none⟩ ::
    ⟨(some 78), .bls [.d (.int .u8 0), .d (.int .i64 0), .d (.int .i64 0), .d (.int .i64 0), .d (.int .i64 0), .d (.bool false), .d (.bool false), .d (.int .i64 0), .d (.int .i64 0), .nils, .d (.str []), .d (.int .i64 0), .d (.int .i64 0), .d (.bool false), .d (.int .i64 0)] 1 15 [(0, 15, (.t 77))], none⟩ ::
    ⟨(some 79), .call (.c (.fn 114 [])) [(.t 71), (.c (.d (.int .u8 2))), (.t 78)], none⟩ ::
    [])) (.seq (.reg (⟨(some 81), .mv (.t 2), none⟩ ::
    ⟨(some 80), .mv (.t 81), none⟩ ::
    []))
  (.cond (.t 80) (.seq (.reg (⟨(some 82), .mv (.t 0), none⟩ ::
    ⟨(some 83), .call (.c (.fn 72 [])) [(.t 82), (.c (.d (.int .i64 0)))], none⟩ ::
    []))
  (.reg (⟨(some 84), .mv (.t 0), none⟩ ::
    ⟨(some 85), .nilc (.t 84), none⟩ ::
    ⟨(some 86), .off 36 (.t 85), none⟩ ::
    ⟨none, .st 1 (.t 86) (.c (.d (.bool true))), none⟩ ::
    []))) (.dreg (⟨(some 14), .mv (.t 0), none⟩ ::
    ⟨(some 15), .mv (.t 0), none⟩ ::
    ⟨(some 16), .nilc (.t 15), none⟩ ::
    ⟨(some 17), .off 20 (.t 16), none⟩ ::
    ⟨(some 18), .off 12 (.t 17), none⟩ ::
    ⟨(some 19), .ld (.t 18), none⟩ ::
    ⟨(some 20), .mv (.t 0), none⟩ ::
    ⟨(some 21), .nilc (.t 20), none⟩ ::
    ⟨(some 22), .off 20 (.t 21), none⟩ ::
    ⟨(some 23), .off 8 (.t 22), none⟩ ::
    ⟨(some 24), .off 0 (.t 23), none⟩ ::
    ⟨(some 25), .ld (.t 24), none⟩ ::
    ⟨(some 26), .bld [.d (.str []), .d (.int .i64 0), .d (.int .i64 0), .d (.bool false)] [(0, 1, (.t 25))], none⟩ ::
    ⟨(some 27), .bld [.d (.int .u8 0), .d (.int .i64 0), .d (.int .i64 0), .d (.int .i64 0), .d (.int .i64 0), .d (.bool false), .d (.bool false), .d (.int .i64 0), .d (.int .i64 0), .nils, .d (.str []), .d (.int .i64 0), .d (.int .i64 0), .d (.bool false), .d (.int .i64 0)] [(0, 1, (.c (.d (.int .u8 6)))), (3, 1, (.t 19)), (10, 4, (.t 26))], none⟩ ::
    ⟨(some 28), .bls [.d (.int .u8 0), .d (.int .i64 0), .d (.int .i64 0), .d (.int .i64 0), .d (.int .i64 0), .d (.bool false), .d (.bool false), .d (.int .i64 0), .d (.int .i64 0), .nils, .d (.str []), .d (.int .i64 0), .d (.int .i64 0), .d (.bool false), .d (.int .i64 0)] 1 15 [(0, 15, (.t 27))], none⟩ ::
    ⟨(some 29), .call (.c (.fn 114 [])) [(.t 14), (.c (.d (.int .u8 4))), (.t 28)], none⟩ ::
    []) ([])))))))))))) }
/-- (*garland/job.work).ask -/
def cf114 : CFun := { np := 3, nt := 20, res := [], body :=
  (.reg (⟨(some 6), .mv (.t 0), none⟩ ::
    ⟨(some 7), .mv (.t 0), none⟩ ::
    ⟨(some 8), .mv (.t 1), none⟩ ::
    ⟨(some 9), .mv (.t 0), none⟩ ::
    ⟨(some 10), .nilc (.t 9), none⟩ ::
    ⟨(some 11), .off 35 (.t 10), none⟩ ::
    ⟨(some 12), .ld (.t 11), none⟩ ::
    ⟨(some 13), .mv (.t 2), none⟩ ::
    ⟨(some 14), .app 15 (.t 12) (.t 13), none⟩ ::
    ⟨(some 15), .nilc (.t 6), none⟩ ::
    ⟨(some 16), .off 20 (.t 15), none⟩ ::
    ⟨(some 17), .off 1 (.t 16), none⟩ ::
    ⟨none, .st 1 (.t 17) (.t 8), none⟩ ::
    ⟨(some 18), .nilc (.t 7), none⟩ ::
    ⟨(some 19), .off 35 (.t 18), none⟩ ::
    ⟨none, .st 1 (.t 19) (.t 14), none⟩ ::
    [])) }
/-- garland/arc.Place -/
def cf115 : CFun := { np := 1, nt := 5, res := [.tmp 2], body :=
  (.seq (.reg (⟨(some 2), .mv (.c (.d (.int .i64 0))), none⟩ ::
    []))
  (.seq (.reg (⟨(some 3), .mv (.t 0), none⟩ ::
    ⟨(some 4), .bin .and (.t 3) (.c (.d (.int .i64 65535))), none⟩ ::
    ⟨(some 2), .mv (.t 4), none⟩ ::
    []))
  .ret)) }
/-- garland/look.on -/
def cf116 : CFun := { np := 4, nt := 26, res := [.cells 8 6], body :=
  (.seq (.reg (⟨(some 4), .box (.t 0), none⟩ ::
    ⟨(some 5), .box (.t 1), none⟩ ::
    ⟨(some 6), .box (.t 2), none⟩ ::
    ⟨(some 7), .box (.t 3), none⟩ ::
    ⟨(some 8), .new [.d (.int .i64 0), .d (.int .i64 0), .d (.int .i64 0), .d (.bool false), .d (.bool false), .d (.int .i64 0)], none⟩ ::
    []))
  (.seq (.reg (⟨(some 10), .mkf 133 [(.t 4), (.t 5), (.t 6), (.t 7)], none⟩ ::
    ⟨(some 9), .mv (.t 10), none⟩ ::
    []))
  (.seq (.seq (.reg (⟨(some 11), .ld (.t 6), none⟩ ::
    ⟨(some 12), .off 0 (.t 4), none⟩ ::
    ⟨(some 13), .ld (.t 12), none⟩ ::
    ⟨(some 14), .bin .eql (.t 11) (.t 13), none⟩ ::
    ⟨(some 15), .mv (.t 14), none⟩ ::
    ⟨(some 16), .ld (.t 7), (some (15, true))⟩ ::
    ⟨(some 17), .not (.t 16), (some (15, true))⟩ ::
    ⟨(some 18), .pick (.t 15) (.t 17) (.c (.d (.bool false))), none⟩ ::
    []))
  (.cond (.t 18) (.reg (⟨(some 19), .mv (.t 9), none⟩ ::
    ⟨(some 20), .call (.t 19) [], none⟩ ::
    [])) .skip))
  (.seq (.sreg [5] true (⟨(some 21), .ld (.t 6), none⟩ ::
    ⟨(some 22), .ld (.t 7), none⟩ ::
    ⟨(some 23), .off 1 (.t 5), none⟩ ::
    ⟨none, .st 1 (.t 23) (.t 21), none⟩ ::
    []) (⟨(some 24), .off 4 (.t 5), none⟩ ::
    ⟨none, .st 1 (.t 24) (.t 22), none⟩ ::
    []))
  (.seq (.reg (⟨(some 25), .ldn 6 (.t 5), none⟩ ::
    ⟨none, .st 6 (.t 8) (.t 25), none⟩ ::
    []))
  .ret))))) }
/-- garland/arc.Owner -/
def cf117 : CFun := { np := 2, nt := 32, res := [.tmp 4, .tmp 5], body :=
  (.seq (.reg (⟨(some 4), .mv (.c (.d (.int .i64 0))), none⟩ ::
    ⟨(some 5), .mv (.c (.d (.bool false))), none⟩ ::
    []))
  (.scope [0, 1, 4] (.seq (.seq (.reg (⟨(some 6), .mv (.t 0), none⟩ ::
    ⟨(some 7), .len false (.t 6), none⟩ ::
    ⟨(some 8), .bin .eql (.t 7) (.c (.d (.int .i64 0))), none⟩ ::
    []))
  (.cond (.t 8) (.seq (.reg (⟨(some 4), .mv (.c (.d (.int .i64 0))), none⟩ ::
    ⟨(some 5), .mv (.c (.d (.bool false))), none⟩ ::
    []))
  .ret) .skip))
  (.seq (.reg (⟨(some 9), .mv (.t 0), none⟩ ::
    ⟨(some 10), .ixs 1 (.t 9) (.c (.d (.int .i64 0))), none⟩ ::
    ⟨(some 11), .ld (.t 10), none⟩ ::
    ⟨(some 12), .call (.c (.fn 115 [])) [(.t 11)], none⟩ ::
    ⟨(some 4), .mv (.t 12), none⟩ ::
    []))
  (.seq (.label 0)
  (.seq (.seq (.reg (⟨(some 13), .mv (.t 0), none⟩ ::
    ⟨(some 14), .sls 1 (.t 13) (some (.c (.d (.int .i64 1)))) none, none⟩ ::
    ⟨(some 0), .mv (.t 14), none⟩ ::
    []))
  (.seq (.reg (⟨(some 15), .mv (.t 0), none⟩ ::
    ⟨(some 16), .len false (.t 15), none⟩ ::
    ⟨(some 17), .bin .gtr (.t 16) (.c (.d (.int .i64 0))), none⟩ ::
    []))
  (.cond (.t 17) (.seq (.seq (.reg (⟨(some 18), .mv (.t 1), none⟩ ::
    ⟨(some 19), .mv (.t 0), none⟩ ::
    ⟨(some 20), .ixs 1 (.t 19) (.c (.d (.int .i64 0))), none⟩ ::
    ⟨(some 21), .ld (.t 20), none⟩ ::
    ⟨(some 22), .call (.c (.fn 92 [])) [(.t 18), (.t 21)], none⟩ ::
    ⟨(some 23), .mv (.t 1), none⟩ ::
    ⟨(some 24), .mv (.t 4), none⟩ ::
    ⟨(some 25), .call (.c (.fn 92 [])) [(.t 23), (.t 24)], none⟩ ::
    ⟨(some 26), .bin .lss (.t 22) (.t 25), none⟩ ::
    []))
  (.cond (.t 26) (.reg (⟨(some 27), .mv (.t 0), none⟩ ::
    ⟨(some 28), .ixs 1 (.t 27) (.c (.d (.int .i64 0))), none⟩ ::
    ⟨(some 29), .ld (.t 28), none⟩ ::
    ⟨(some 30), .call (.c (.fn 115 [])) [(.t 29)], none⟩ ::
    ⟨(some 4), .mv (.t 30), none⟩ ::
    [])) .skip))
  (.goto 0)) .skip)))
  (.seq (.reg (⟨(some 31), .mv (.t 4), none⟩ ::
    ⟨(some 4), .mv (.t 31), none⟩ ::
    ⟨(some 5), .mv (.c (.d (.bool true))), none⟩ ::
    []))
  .ret))))))) }
/-- garland/garlandref03.Owner -/
def cf118 : CFun := { np := 2, nt := 37, res := [.tmp 4, .tmp 5], body :=
  (.seq (.reg (⟨(some 4), .mv (.c (.d (.int .i64 0))), none⟩ ::
    ⟨(some 5), .mv (.c (.d (.bool false))), none⟩ ::
    []))
  (.seq (.seq (.reg (⟨(some 8), .mv (.t 0), none⟩ ::
    ⟨(some 9), .len false (.t 8), none⟩ ::
    ⟨(some 10), .bin .eql (.t 9) (.c (.d (.int .i64 0))), none⟩ ::
    []))
  (.cond (.t 10) (.seq (.reg (⟨(some 4), .mv (.c (.d (.int .i64 0))), none⟩ ::
    ⟨(some 5), .mv (.c (.d (.bool false))), none⟩ ::
    []))
  .ret) .skip))
  (.seq (.reg (⟨(some 11), .mv (.t 0), none⟩ ::
    ⟨(some 12), .ixs 1 (.t 11) (.c (.d (.int .i64 0))), none⟩ ::
    ⟨(some 13), .ld (.t 12), none⟩ ::
    ⟨(some 14), .call (.c (.fn 57 [])) [(.t 13)], none⟩ ::
    ⟨(some 6), .mv (.t 14), none⟩ ::
    []))
  (.seq (.seq (.reg (⟨(some 7), .mv (.c (.d (.int .i64 0))), none⟩ ::
    []))
  (.block 0 (.loop [0, 1, 6, 7] (.seq (.seq (.reg (⟨(some 15), .mv (.t 7), none⟩ ::
    ⟨(some 16), .mv (.t 0), none⟩ ::
    ⟨(some 17), .len false (.t 16), none⟩ ::
    ⟨(some 18), .bin .lss (.t 15) (.t 17), none⟩ ::
    []))
  (.cond (.t 18) .skip (.exit 0)))
  (.seq (.block 1 (.seq (.reg (⟨(some 21), .mv (.t 1), none⟩ ::
    ⟨(some 22), .mv (.t 0), none⟩ ::
    ⟨(some 23), .mv (.t 7), none⟩ ::
    ⟨(some 24), .ixs 1 (.t 22) (.t 23), none⟩ ::
    ⟨(some 25), .ld (.t 24), none⟩ ::
    ⟨(some 26), .call (.c (.fn 59 [])) [(.t 21), (.t 25)], none⟩ ::
    ⟨(some 27), .mv (.t 1), none⟩ ::
    ⟨(some 28), .mv (.t 6), none⟩ ::
    ⟨(some 29), .call (.c (.fn 59 [])) [(.t 27), (.t 28)], none⟩ ::
    ⟨(some 30), .bin .lss (.t 26) (.t 29), none⟩ ::
    []))
  (.cond (.t 30) (.reg (⟨(some 31), .mv (.t 0), none⟩ ::
    ⟨(some 32), .mv (.t 7), none⟩ ::
    ⟨(some 33), .ixs 1 (.t 31) (.t 32), none⟩ ::
    ⟨(some 34), .ld (.t 33), none⟩ ::
    ⟨(some 35), .call (.c (.fn 57 [])) [(.t 34)], none⟩ ::
    ⟨(some 6), .mv (.t 35), none⟩ ::
    [])) .skip)))
  (.reg (⟨(some 19), .mv (.t 7), none⟩ ::
    ⟨(some 20), .bin .add (.t 19) (.c (.d (.int .i64 1))), none⟩ ::
    ⟨(some 7), .mv (.t 20), none⟩ ::
    [])))))))
  (.seq (.reg (⟨(some 36), .mv (.t 6), none⟩ ::
    ⟨(some 4), .mv (.t 36), none⟩ ::
    ⟨(some 5), .mv (.c (.d (.bool true))), none⟩ ::
    []))
  .ret))))) }
/-- garland/msg.Asks -/
def cf119 : CFun := { np := 1, nt := 11, res := [.tmp 2], body :=
  (.seq (.reg (⟨(some 1), .box (.t 0), none⟩ ::
    ⟨(some 2), .mv (.c (.d (.bool false))), none⟩ ::
    []))
  (.seq (.reg (⟨(some 3), .off 0 (.t 1), none⟩ ::
    ⟨(some 4), .ld (.t 3), none⟩ ::
    ⟨(some 5), .bin .gtr (.t 4) (.c (.d (.int .u8 0))), none⟩ ::
    ⟨(some 6), .mv (.t 5), none⟩ ::
    ⟨(some 7), .off 0 (.t 1), (some (6, true))⟩ ::
    ⟨(some 8), .ld (.t 7), (some (6, true))⟩ ::
    ⟨(some 9), .bin .leq (.t 8) (.c (.d (.int .u8 6))), (some (6, true))⟩ ::
    ⟨(some 10), .pick (.t 6) (.t 9) (.c (.d (.bool false))), none⟩ ::
    ⟨(some 2), .mv (.t 10), none⟩ ::
    []))
  .ret)) }
/-- garland/msg.list -/
def cf120 : CFun := { np := 2, nt := 22, res := [.cell 4], body :=
  (.seq (.reg (⟨(some 4), .new [.d (.bool false)], none⟩ ::
    []))
  (.seq (.seq (.reg (⟨(some 7), .mv (.t 0), none⟩ ::
    ⟨(some 8), .mv (.t 1), none⟩ ::
    ⟨(some 9), .call (.c (.fn 135 [])) [(.t 7), (.t 8)], none⟩ ::
    []))
  (.block 0 (.range (.t 9) [10, 11] (.seq (.reg (⟨(some 5), .mv (.t 10), none⟩ ::
    []))
  (.reg (⟨(some 6), .mv (.t 11), none⟩ ::
    []))) (.block 1 (.seq (.reg (⟨(some 12), .mv (.t 6), none⟩ ::
    ⟨(some 13), .not (.t 12), none⟩ ::
    ⟨(some 14), .mv (.t 13), none⟩ ::
    ⟨(some 15), .mv (.t 5), (some (14, false))⟩ ::
    ⟨(some 16), .call (.c (.fn 84 [])) [(.t 15)], (some (14, false))⟩ ::
    ⟨(some 17), .not (.t 16), (some (14, false))⟩ ::
    ⟨(some 18), .pick (.t 14) (.c (.d (.bool true))) (.t 17), none⟩ ::
    []))
  (.cond (.t 18) (.seq (.reg (⟨none, .st 1 (.t 4) (.c (.d (.bool false))), none⟩ ::
    []))
  .ret) .skip))))))
  (.seq (.reg (⟨(some 19), .mv (.t 0), none⟩ ::
    ⟨(some 20), .len false (.t 19), none⟩ ::
    ⟨(some 21), .bin .leq (.t 20) (.c (.d (.int .i64 3))), none⟩ ::
    ⟨none, .st 1 (.t 4) (.t 21), none⟩ ::
    []))
  .ret))) }
/-- garland/list.sides$1 -/
def cf121 : CFun := { np := 3, nt := 19, res := [], body :=
  (.seq (.reg (⟨(some 6), .ld (.t 1), none⟩ ::
    ⟨(some 7), .len false (.t 6), none⟩ ::
    ⟨(some 8), .mv (.c (.d (.int .i64 0))), none⟩ ::
    []))
  (.block 0 (.loop [0, 2, 6, 7, 8] (.seq (.reg (⟨(some 9), .bin .lss (.t 8) (.t 7), none⟩ ::
    []))
  (.seq (.cond (.t 9) .skip (.exit 0))
  (.seq (.block 1 (.seq (.reg (⟨(some 10), .ixs 1 (.t 6) (.t 8), none⟩ ::
    ⟨(some 11), .ld (.t 10), none⟩ ::
    ⟨(some 5), .mv (.t 11), none⟩ ::
    []))
  (.seq (.seq (.reg (⟨(some 12), .mv (.t 0), none⟩ ::
    ⟨(some 13), .ld (.t 2), none⟩ ::
    ⟨(some 14), .mv (.t 5), none⟩ ::
    ⟨(some 15), .call (.t 12) [(.t 13), (.t 14)], none⟩ ::
    ⟨(some 16), .not (.t 15), none⟩ ::
    []))
  (.cond (.t 16) .ret .skip))
  (.reg (⟨(some 17), .mv (.t 5), none⟩ ::
    ⟨none, .st 1 (.t 2) (.t 17), none⟩ ::
    [])))))
  (.reg (⟨(some 18), .bin .add (.t 8) (.c (.d (.int .i64 1))), none⟩ ::
    ⟨(some 8), .mv (.t 18), none⟩ ::
    [])))))))) }
/-- slices.Grow[[]int,int] -/
def cf122 : CFun := { np := 2, nt := 27, res := [.tmp 4], body :=
  (.seq (.reg (⟨(some 4), .mv (.c (.nils)), none⟩ ::
    []))
  (.seq (.seq (.reg (⟨(some 5), .mv (.t 1), none⟩ ::
    ⟨(some 6), .bin .lss (.t 5) (.c (.d (.int .i64 0))), none⟩ ::
    []))
  (.cond (.t 6) .bad .skip))
  (.seq (.seq (.reg (⟨(some 8), .mv (.t 1), none⟩ ::
    ⟨(some 9), .mv (.t 0), none⟩ ::
    ⟨(some 10), .nw (.capn (.t 9)), none⟩ ::
    ⟨(some 11), .mv (.t 0), none⟩ ::
    ⟨(some 12), .len false (.t 11), none⟩ ::
    ⟨(some 13), .bin .sub (.t 10) (.t 12), none⟩ ::
    ⟨(some 14), .bin .sub (.t 8) (.t 13), none⟩ ::
    ⟨(some 1), .mv (.t 14), none⟩ ::
    []))
  (.seq (.reg (⟨(some 15), .mv (.t 1), none⟩ ::
    ⟨(some 16), .bin .gtr (.t 15) (.c (.d (.int .i64 0))), none⟩ ::
    []))
  (.cond (.t 16) (.reg (⟨(some 17), .mv (.t 0), none⟩ ::
    ⟨(some 18), .mv (.t 0), none⟩ ::
    ⟨(some 19), .nw (.capn (.t 18)), none⟩ ::
    ⟨(some 20), .sls 1 (.t 17) none (some (.t 19)), none⟩ ::
    ⟨(some 21), .mv (.t 1), none⟩ ::
    ⟨(some 22), .nw (.appz 1 [.int .i64 0] (.t 20) (.t 21)), none⟩ ::
    ⟨(some 23), .mv (.t 0), none⟩ ::
    ⟨(some 24), .len false (.t 23), none⟩ ::
    ⟨(some 25), .nw (.slw 1 (.t 22) (.t 24)), none⟩ ::
    ⟨(some 0), .mv (.t 25), none⟩ ::
    [])) .skip)))
  (.seq (.reg (⟨(some 26), .mv (.t 0), none⟩ ::
    ⟨(some 4), .mv (.t 26), none⟩ ::
    []))
  .ret)))) }
/-- garland/list.place -/
def cf123 : CFun := { np := 1, nt := 9, res := [.tmp 2], body :=
  (.seq (.reg (⟨(some 2), .mv (.c (.d (.bool false))), none⟩ ::
    []))
  (.seq (.reg (⟨(some 3), .mv (.t 0), none⟩ ::
    ⟨(some 4), .bin .geq (.t 3) (.c (.d (.int .i64 0))), none⟩ ::
    ⟨(some 5), .mv (.t 4), none⟩ ::
    ⟨(some 6), .mv (.t 0), (some (5, true))⟩ ::
    ⟨(some 7), .bin .lss (.t 6) (.c (.d (.int .i64 65536))), (some (5, true))⟩ ::
    ⟨(some 8), .pick (.t 5) (.t 7) (.c (.d (.bool false))), none⟩ ::
    ⟨(some 2), .mv (.t 8), none⟩ ::
    []))
  .ret)) }
/-- slices.Index[[]int,int] -/
def cf124 : CFun := { np := 2, nt := 19, res := [.tmp 4], body :=
  (.seq (.reg (⟨(some 4), .mv (.c (.d (.int .i64 0))), none⟩ ::
    []))
  (.seq (.seq (.reg (⟨(some 6), .mv (.t 0), none⟩ ::
    ⟨(some 7), .len false (.t 6), none⟩ ::
    ⟨(some 8), .mv (.c (.d (.int .i64 0))), none⟩ ::
    []))
  (.block 0 (.loop [0, 1, 7, 8] (.seq (.reg (⟨(some 9), .bin .lss (.t 8) (.t 7), none⟩ ::
    []))
  (.seq (.cond (.t 9) .skip (.exit 0))
  (.seq (.block 1 (.seq (.reg (⟨(some 10), .mv (.t 8), none⟩ ::
    ⟨(some 5), .mv (.t 10), none⟩ ::
    []))
  (.seq (.reg (⟨(some 11), .mv (.t 1), none⟩ ::
    ⟨(some 12), .mv (.t 0), none⟩ ::
    ⟨(some 13), .mv (.t 5), none⟩ ::
    ⟨(some 14), .ixs 1 (.t 12) (.t 13), none⟩ ::
    ⟨(some 15), .ld (.t 14), none⟩ ::
    ⟨(some 16), .bin .eql (.t 11) (.t 15), none⟩ ::
    []))
  (.cond (.t 16) (.seq (.reg (⟨(some 17), .mv (.t 5), none⟩ ::
    ⟨(some 4), .mv (.t 17), none⟩ ::
    []))
  .ret) .skip))))
  (.reg (⟨(some 18), .bin .add (.t 8) (.c (.d (.int .i64 1))), none⟩ ::
    ⟨(some 8), .mv (.t 18), none⟩ ::
    []))))))))
  (.seq (.reg (⟨(some 4), .mv (.c (.d (.int .i64 (-1)))), none⟩ ::
    []))
  .ret))) }
/-- slices.DeleteFunc[[]int,int] -/
def cf125 : CFun := { np := 2, nt := 42, res := [.tmp 4], body :=
  (.seq (.reg (⟨(some 4), .mv (.c (.nils)), none⟩ ::
    []))
  (.seq (.reg (⟨(some 8), .mv (.t 0), none⟩ ::
    ⟨(some 9), .mv (.t 1), none⟩ ::
    ⟨(some 10), .call (.c (.fn 136 [])) [(.t 8), (.t 9)], none⟩ ::
    ⟨(some 5), .mv (.t 10), none⟩ ::
    []))
  (.seq (.seq (.reg (⟨(some 11), .mv (.t 5), none⟩ ::
    ⟨(some 12), .bin .eql (.t 11) (.c (.d (.int .i64 (-1)))), none⟩ ::
    []))
  (.cond (.t 12) (.seq (.reg (⟨(some 13), .mv (.t 0), none⟩ ::
    ⟨(some 4), .mv (.t 13), none⟩ ::
    []))
  .ret) .skip))
  (.seq (.seq (.reg (⟨(some 14), .mv (.t 5), none⟩ ::
    ⟨(some 15), .bin .add (.t 14) (.c (.d (.int .i64 1))), none⟩ ::
    ⟨(some 6), .mv (.t 15), none⟩ ::
    []))
  (.block 0 (.loop [0, 1, 5, 6] (.seq (.seq (.reg (⟨(some 16), .mv (.t 6), none⟩ ::
    ⟨(some 17), .mv (.t 0), none⟩ ::
    ⟨(some 18), .len false (.t 17), none⟩ ::
    ⟨(some 19), .bin .lss (.t 16) (.t 18), none⟩ ::
    []))
  (.cond (.t 19) .skip (.exit 0)))
  (.seq (.block 1 (.seq (.reg (⟨(some 22), .mv (.t 0), none⟩ ::
    ⟨(some 23), .mv (.t 6), none⟩ ::
    ⟨(some 24), .ixs 1 (.t 22) (.t 23), none⟩ ::
    ⟨(some 25), .ld (.t 24), none⟩ ::
    ⟨(some 7), .mv (.t 25), none⟩ ::
    []))
  (.seq (.reg (⟨(some 26), .mv (.t 1), none⟩ ::
    ⟨(some 27), .mv (.t 7), none⟩ ::
    ⟨(some 28), .call (.t 26) [(.t 27)], none⟩ ::
    ⟨(some 29), .not (.t 28), none⟩ ::
    []))
  (.cond (.t 29) (.seq (.reg (⟨(some 30), .mv (.t 0), none⟩ ::
    ⟨(some 31), .mv (.t 5), none⟩ ::
    ⟨(some 32), .mv (.t 7), none⟩ ::
    ⟨(some 33), .ixs 1 (.t 30) (.t 31), none⟩ ::
    ⟨none, .st 1 (.t 33) (.t 32), none⟩ ::
    []))
  (.reg (⟨(some 34), .mv (.t 5), none⟩ ::
    ⟨(some 35), .bin .add (.t 34) (.c (.d (.int .i64 1))), none⟩ ::
    ⟨(some 5), .mv (.t 35), none⟩ ::
    []))) .skip))))
  (.reg (⟨(some 20), .mv (.t 6), none⟩ ::
    ⟨(some 21), .bin .add (.t 20) (.c (.d (.int .i64 1))), none⟩ ::
    ⟨(some 6), .mv (.t 21), none⟩ ::
    [])))))))
  (.seq (.reg (⟨(some 36), .mv (.t 0), none⟩ ::
    ⟨(some 37), .mv (.t 5), none⟩ ::
    ⟨(some 38), .sls 1 (.t 36) (some (.t 37)) none, none⟩ ::
    ⟨none, .nw (.clr 1 [.int .i64 0] (.t 38)), none⟩ ::
    []))
  (.seq (.reg (⟨(some 39), .mv (.t 0), none⟩ ::
    ⟨(some 40), .mv (.t 5), none⟩ ::
    ⟨(some 41), .sls 1 (.t 39) none (some (.t 40)), none⟩ ::
    ⟨(some 4), .mv (.t 41), none⟩ ::
    []))
  .ret)))))) }
/-- garland/list.Drop$1 -/
def cf126 : CFun := { np := 2, nt := 7, res := [.tmp 3], body :=
  (.seq (.reg (⟨(some 3), .mv (.c (.d (.bool false))), none⟩ ::
    []))
  (.seq (.reg (⟨(some 4), .mv (.t 0), none⟩ ::
    ⟨(some 5), .ld (.t 1), none⟩ ::
    ⟨(some 6), .bin .eql (.t 4) (.t 5), none⟩ ::
    ⟨(some 3), .mv (.t 6), none⟩ ::
    []))
  .ret)) }
/-- garland/look.Over -/
def cf127 : CFun := { np := 1, nt := 10, res := [.tmp 2], body :=
  (.seq (.reg (⟨(some 1), .box (.t 0), none⟩ ::
    ⟨(some 2), .mv (.c (.d (.bool false))), none⟩ ::
    []))
  (.seq (.reg (⟨(some 3), .off 4 (.t 1), none⟩ ::
    ⟨(some 4), .ld (.t 3), none⟩ ::
    ⟨(some 5), .mv (.t 4), none⟩ ::
    ⟨(some 6), .off 5 (.t 1), (some (5, false))⟩ ::
    ⟨(some 7), .ld (.t 6), (some (5, false))⟩ ::
    ⟨(some 8), .bin .neq (.t 7) (.c (.d (.int .i64 0))), (some (5, false))⟩ ::
    ⟨(some 9), .pick (.t 5) (.c (.d (.bool true))) (.t 8), none⟩ ::
    ⟨(some 2), .mv (.t 9), none⟩ ::
    []))
  .ret)) }
/-- garland/look.Right -/
def cf128 : CFun := { np := 1, nt := 9, res := [.tmp 2], body :=
  (.seq (.reg (⟨(some 1), .box (.t 0), none⟩ ::
    ⟨(some 2), .mv (.c (.d (.bool false))), none⟩ ::
    []))
  (.scope [] (.seq (.seq (.reg (⟨(some 4), .ldn 6 (.t 1), none⟩ ::
    ⟨(some 5), .call (.c (.fn 137 [])) [(.t 4)], none⟩ ::
    []))
  (.block 0 (.range (.t 5) [6] (.reg (⟨(some 3), .mv (.t 6), none⟩ ::
    [])) (.block 1 (.seq (.reg (⟨(some 7), .mv (.t 3), none⟩ ::
    ⟨(some 8), .not (.t 7), none⟩ ::
    []))
  (.cond (.t 8) (.goto 0) .skip))))))
  (.seq (.seq (.reg (⟨(some 2), .mv (.c (.d (.bool true))), none⟩ ::
    []))
  .ret)
  (.seq (.label 0)
  (.seq (.reg (⟨(some 2), .mv (.c (.d (.bool false))), none⟩ ::
    []))
  .ret)))))) }
/-- garland/job.others -/
def cf129 : CFun := { np := 2, nt := 6, res := [.tmp 4], body :=
  (.seq (.reg (⟨(some 2), .box (.t 0), none⟩ ::
    ⟨(some 3), .box (.t 1), none⟩ ::
    ⟨(some 4), .mv (.c (.nilf)), none⟩ ::
    []))
  (.seq (.reg (⟨(some 5), .mkf 138 [(.t 3), (.t 2)], none⟩ ::
    ⟨(some 4), .mv (.t 5), none⟩ ::
    []))
  .ret)) }
/-- (*garland/job.work).without$1 -/
def cf130 : CFun := { np := 2, nt := 7, res := [.tmp 3], body :=
  (.seq (.reg (⟨(some 3), .mv (.c (.d (.bool false))), none⟩ ::
    []))
  (.seq (.reg (⟨(some 4), .mv (.t 0), none⟩ ::
    ⟨(some 5), .ld (.t 1), none⟩ ::
    ⟨(some 6), .bin .eql (.t 4) (.t 5), none⟩ ::
    ⟨(some 3), .mv (.t 6), none⟩ ::
    []))
  .ret)) }
/-- garland/mix.all -/
def cf131 : CFun := { np := 1, nt := 4, res := [.tmp 2], body :=
  (.seq (.reg (⟨(some 1), .box (.t 0), none⟩ ::
    ⟨(some 2), .mv (.c (.nilf)), none⟩ ::
    []))
  (.seq (.reg (⟨(some 3), .mkf 139 [(.t 1)], none⟩ ::
    ⟨(some 2), .mv (.t 3), none⟩ ::
    []))
  .ret)) }
/-- garland/mix.Next -/
def cf132 : CFun := { np := 2, nt := 13, res := [.tmp 4], body :=
  (.seq (.reg (⟨(some 4), .mv (.c (.d (.int .i64 0))), none⟩ ::
    []))
  (.seq (.reg (⟨(some 5), .mv (.t 0), none⟩ ::
    ⟨(some 6), .conv .u16 (.t 5), none⟩ ::
    ⟨(some 7), .bin .mul (.t 6) (.c (.d (.int .u16 40503))), none⟩ ::
    ⟨(some 8), .mv (.t 1), none⟩ ::
    ⟨(some 9), .conv .u16 (.t 8), none⟩ ::
    ⟨(some 10), .bin .add (.t 7) (.t 9), none⟩ ::
    ⟨(some 11), .bin .add (.t 10) (.c (.d (.int .u16 1))), none⟩ ::
    ⟨(some 12), .conv .i64 (.t 11), none⟩ ::
    ⟨(some 4), .mv (.t 12), none⟩ ::
    []))
  .ret)) }
/-- garland/look.on$1 -/
def cf133 : CFun := { np := 4, nt := 13, res := [], body :=
  (.reg (⟨(some 5), .ldn 20 (.t 0), none⟩ ::
    ⟨(some 6), .off 0 (.t 1), none⟩ ::
    ⟨(some 7), .ld (.t 6), none⟩ ::
    ⟨(some 8), .off 3 (.t 1), none⟩ ::
    ⟨(some 9), .ld (.t 8), none⟩ ::
    ⟨(some 10), .call (.c (.fn 134 [])) [(.t 5), (.t 7), (.t 9)], none⟩ ::
    ⟨(some 4), .mv (.t 10), none⟩ ::
    ⟨(some 11), .ext (.t 4) 0, none⟩ ::
    ⟨(some 12), .ext (.t 4) 1, none⟩ ::
    ⟨none, .st 1 (.t 2) (.t 11), none⟩ ::
    ⟨none, .st 1 (.t 3) (.t 12), none⟩ ::
    [])) }
/-- garland/hop.Next -/
def cf134 : CFun := { np := 3, nt := 41, res := [.cell 6, .tmp 7], body :=
  (.seq (.reg (⟨(some 3), .box (.t 0), none⟩ ::
    ⟨(some 6), .new [.d (.int .i64 0)], none⟩ ::
    ⟨(some 7), .mv (.c (.d (.bool false))), none⟩ ::
    []))
  (.seq (.reg (⟨(some 11), .ldn 20 (.t 3), none⟩ ::
    ⟨(some 12), .call (.c (.fn 37 [])) [(.t 11)], none⟩ ::
    ⟨(some 8), .mv (.t 12), none⟩ ::
    []))
  (.seq (.reg (⟨(some 13), .mkf 140 [(.t 3)], none⟩ ::
    ⟨(some 9), .new [.nilf], none⟩ ::
    ⟨none, .st 1 (.t 9) (.t 13), none⟩ ::
    []))
  (.seq (.block 0 (.seq (.reg (⟨(some 15), .mv (.t 8), none⟩ ::
    ⟨(some 16), .bin .lss (.t 15) (.c (.d (.int .i64 0))), none⟩ ::
    ⟨(some 14), .mv (.t 16), none⟩ ::
    []))
  (.cond (.t 14) (.seq (.reg (⟨none, .st 1 (.t 6) (.c (.d (.int .i64 (-1)))), none⟩ ::
    ⟨(some 7), .mv (.c (.d (.bool false))), none⟩ ::
    []))
  .ret) (.seq (.reg (⟨(some 18), .off 0 (.t 3), none⟩ ::
    ⟨(some 19), .ld (.t 18), none⟩ ::
    ⟨(some 20), .mv (.t 1), none⟩ ::
    ⟨(some 21), .mv (.t 8), none⟩ ::
    ⟨(some 22), .call (.c (.fn 141 [])) [(.t 19), (.t 20), (.t 21)], none⟩ ::
    ⟨(some 17), .mv (.t 22), none⟩ ::
    []))
  (.cond (.t 17) (.seq (.reg (⟨(some 23), .mv (.t 8), none⟩ ::
    ⟨none, .st 1 (.t 6) (.t 23), none⟩ ::
    ⟨(some 7), .mv (.c (.d (.bool true))), none⟩ ::
    []))
  .ret) (.seq (.reg (⟨(some 25), .mv (.t 2), none⟩ ::
    ⟨(some 24), .mv (.t 25), none⟩ ::
    []))
  (.cond (.t 24) (.seq (.reg (⟨(some 26), .mv (.t 8), none⟩ ::
    ⟨none, .st 1 (.t 6) (.t 26), none⟩ ::
    ⟨(some 7), .mv (.c (.d (.bool false))), none⟩ ::
    []))
  .ret) .skip)))))))
  (.seq (.reg (⟨(some 27), .mv (.t 8), none⟩ ::
    ⟨none, .st 1 (.t 6) (.t 27), none⟩ ::
    []))
  (.seq (.seq (.reg (⟨(some 28), .ldn 20 (.t 3), none⟩ ::
    ⟨(some 29), .mv (.t 1), none⟩ ::
    ⟨(some 30), .call (.c (.fn 142 [])) [(.t 28), (.t 29)], none⟩ ::
    []))
  (.block 1 (.range (.t 30) [31] (.reg (⟨(some 10), .mv (.t 31), none⟩ ::
    [])) (.block 2 (.seq (.dreg (⟨(some 32), .ld (.t 9), none⟩ ::
    ⟨(some 33), .mv (.t 10), none⟩ ::
    ⟨(some 34), .call (.t 32) [(.t 33)], none⟩ ::
    ⟨(some 35), .ld (.t 9), none⟩ ::
    ⟨(some 36), .ld (.t 6), none⟩ ::
    []) (⟨(some 37), .call (.t 35) [(.t 36)], none⟩ ::
    ⟨(some 38), .bin .gtr (.t 34) (.t 37), none⟩ ::
    []))
  (.cond (.t 38) (.reg (⟨(some 39), .mv (.t 10), none⟩ ::
    ⟨none, .st 1 (.t 6) (.t 39), none⟩ ::
    [])) .skip))))))
  (.seq (.reg (⟨(some 40), .ld (.t 6), none⟩ ::
    ⟨none, .st 1 (.t 6) (.t 40), none⟩ ::
    ⟨(some 7), .mv (.c (.d (.bool false))), none⟩ ::
    []))
  .ret))))))) }
/-- garland/msg.others -/
def cf135 : CFun := { np := 2, nt := 6, res := [.tmp 4], body :=
  (.seq (.reg (⟨(some 2), .box (.t 0), none⟩ ::
    ⟨(some 3), .box (.t 1), none⟩ ::
    ⟨(some 4), .mv (.c (.nilf)), none⟩ ::
    []))
  (.seq (.reg (⟨(some 5), .mkf 143 [(.t 2), (.t 3)], none⟩ ::
    ⟨(some 4), .mv (.t 5), none⟩ ::
    []))
  .ret)) }
/-- slices.IndexFunc[[]int,int] -/
def cf136 : CFun := { np := 2, nt := 19, res := [.tmp 4], body :=
  (.seq (.reg (⟨(some 4), .mv (.c (.d (.int .i64 0))), none⟩ ::
    []))
  (.seq (.seq (.reg (⟨(some 6), .mv (.t 0), none⟩ ::
    ⟨(some 7), .len false (.t 6), none⟩ ::
    ⟨(some 8), .mv (.c (.d (.int .i64 0))), none⟩ ::
    []))
  (.block 0 (.loop [0, 1, 7, 8] (.seq (.reg (⟨(some 9), .bin .lss (.t 8) (.t 7), none⟩ ::
    []))
  (.seq (.cond (.t 9) .skip (.exit 0))
  (.seq (.block 1 (.seq (.reg (⟨(some 10), .mv (.t 8), none⟩ ::
    ⟨(some 5), .mv (.t 10), none⟩ ::
    []))
  (.seq (.reg (⟨(some 11), .mv (.t 1), none⟩ ::
    ⟨(some 12), .mv (.t 0), none⟩ ::
    ⟨(some 13), .mv (.t 5), none⟩ ::
    ⟨(some 14), .ixs 1 (.t 12) (.t 13), none⟩ ::
    ⟨(some 15), .ld (.t 14), none⟩ ::
    ⟨(some 16), .call (.t 11) [(.t 15)], none⟩ ::
    []))
  (.cond (.t 16) (.seq (.reg (⟨(some 17), .mv (.t 5), none⟩ ::
    ⟨(some 4), .mv (.t 17), none⟩ ::
    []))
  .ret) .skip))))
  (.reg (⟨(some 18), .bin .add (.t 8) (.c (.d (.int .i64 1))), none⟩ ::
    ⟨(some 8), .mv (.t 18), none⟩ ::
    []))))))))
  (.seq (.reg (⟨(some 4), .mv (.c (.d (.int .i64 (-1)))), none⟩ ::
    []))
  .ret))) }
/-- garland/look.musts -/
def cf137 : CFun := { np := 1, nt := 4, res := [.tmp 2], body :=
  (.seq (.reg (⟨(some 1), .box (.t 0), none⟩ ::
    ⟨(some 2), .mv (.c (.nilf)), none⟩ ::
    []))
  (.seq (.reg (⟨(some 3), .mkf 144 [(.t 1)], none⟩ ::
    ⟨(some 2), .mv (.t 3), none⟩ ::
    []))
  .ret)) }
/-- garland/job.others$1 -/
def cf138 : CFun := { np := 3, nt := 31, res := [], body :=
  (.seq (.reg (⟨(some 6), .ld (.t 1), none⟩ ::
    ⟨(some 7), .len false (.t 6), none⟩ ::
    ⟨(some 8), .mv (.c (.d (.int .i64 0))), none⟩ ::
    []))
  (.block 0 (.loop [0, 1, 2, 6, 7, 8] (.seq (.reg (⟨(some 9), .bin .lss (.t 8) (.t 7), none⟩ ::
    []))
  (.seq (.cond (.t 9) .skip (.exit 0))
  (.seq (.block 1 (.seq (.reg (⟨(some 10), .mv (.t 8), none⟩ ::
    ⟨(some 11), .ixs 1 (.t 6) (.t 8), none⟩ ::
    ⟨(some 12), .ld (.t 11), none⟩ ::
    ⟨(some 4), .mv (.t 10), none⟩ ::
    ⟨(some 5), .mv (.t 12), none⟩ ::
    []))
  (.seq (.reg (⟨(some 13), .mv (.t 5), none⟩ ::
    ⟨(some 14), .ld (.t 2), none⟩ ::
    ⟨(some 15), .bin .neq (.t 13) (.t 14), none⟩ ::
    ⟨(some 16), .mv (.t 15), none⟩ ::
    ⟨(some 17), .ld (.t 1), (some (16, true))⟩ ::
    ⟨(some 18), .mv (.t 4), (some (16, true))⟩ ::
    ⟨(some 19), .sls 1 (.t 17) none (some (.t 18)), (some (16, true))⟩ ::
    ⟨(some 20), .mv (.t 5), (some (16, true))⟩ ::
    ⟨(some 21), .call (.c (.fn 93 [])) [(.t 19), (.t 20)], (some (16, true))⟩ ::
    ⟨(some 22), .not (.t 21), (some (16, true))⟩ ::
    ⟨(some 23), .pick (.t 16) (.t 22) (.c (.d (.bool false))), none⟩ ::
    ⟨(some 24), .mv (.t 23), none⟩ ::
    ⟨(some 25), .mv (.t 0), (some (24, true))⟩ ::
    ⟨(some 26), .mv (.t 5), (some (24, true))⟩ ::
    ⟨(some 27), .call (.t 25) [(.t 26)], (some (24, true))⟩ ::
    ⟨(some 28), .not (.t 27), (some (24, true))⟩ ::
    ⟨(some 29), .pick (.t 24) (.t 28) (.c (.d (.bool false))), none⟩ ::
    []))
  (.cond (.t 29) .ret .skip))))
  (.reg (⟨(some 30), .bin .add (.t 8) (.c (.d (.int .i64 1))), none⟩ ::
    ⟨(some 8), .mv (.t 30), none⟩ ::
    [])))))))) }
/-- garland/mix.all$1 -/
def cf139 : CFun := { np := 2, nt := 17, res := [], body :=
  (.seq (.reg (⟨(some 3), .mv (.c (.d (.int .i64 0))), none⟩ ::
    []))
  (.block 0 (.loop [0, 1, 3] (.seq (.seq (.reg (⟨(some 4), .mv (.t 3), none⟩ ::
    ⟨(some 5), .ld (.t 1), none⟩ ::
    ⟨(some 6), .len true (.t 5), none⟩ ::
    ⟨(some 7), .bin .lss (.t 4) (.t 6), none⟩ ::
    ⟨(some 8), .mv (.t 7), none⟩ ::
    ⟨(some 9), .mv (.t 0), (some (8, true))⟩ ::
    ⟨(some 10), .ld (.t 1), (some (8, true))⟩ ::
    ⟨(some 11), .mv (.t 3), (some (8, true))⟩ ::
    ⟨(some 12), .ixb (.t 10) (.t 11), (some (8, true))⟩ ::
    ⟨(some 13), .call (.t 9) [(.t 12)], (some (8, true))⟩ ::
    ⟨(some 14), .pick (.t 8) (.t 13) (.c (.d (.bool false))), none⟩ ::
    []))
  (.cond (.t 14) .skip (.exit 0)))
  (.seq (.block 1 .skip)
  (.reg (⟨(some 15), .mv (.t 3), none⟩ ::
    ⟨(some 16), .bin .add (.t 15) (.c (.d (.int .i64 1))), none⟩ ::
    ⟨(some 3), .mv (.t 16), none⟩ ::
    []))))))) }
/-- garland/hop.Next$1 -/
def cf140 : CFun := { np := 2, nt := 8, res := [.tmp 3], body :=
  (.seq (.reg (⟨(some 3), .mv (.c (.d (.int .i64 0))), none⟩ ::
    []))
  (.seq (.reg (⟨(some 4), .off 0 (.t 1), none⟩ ::
    ⟨(some 5), .ld (.t 4), none⟩ ::
    ⟨(some 6), .mv (.t 0), none⟩ ::
    ⟨(some 7), .call (.c (.fn 92 [])) [(.t 5), (.t 6)], none⟩ ::
    ⟨(some 3), .mv (.t 7), none⟩ ::
    []))
  .ret)) }
/-- garland/arc.UpTo -/
def cf141 : CFun := { np := 3, nt := 17, res := [.tmp 6], body :=
  (.seq (.reg (⟨(some 6), .mv (.c (.d (.bool false))), none⟩ ::
    []))
  (.seq (.reg (⟨(some 7), .mv (.t 1), none⟩ ::
    ⟨(some 8), .mv (.t 2), none⟩ ::
    ⟨(some 9), .call (.c (.fn 92 [])) [(.t 7), (.t 8)], none⟩ ::
    ⟨(some 10), .bin .eql (.t 9) (.c (.d (.int .i64 0))), none⟩ ::
    ⟨(some 11), .mv (.t 10), none⟩ ::
    ⟨(some 12), .mv (.t 0), (some (11, false))⟩ ::
    ⟨(some 13), .mv (.t 1), (some (11, false))⟩ ::
    ⟨(some 14), .mv (.t 2), (some (11, false))⟩ ::
    ⟨(some 15), .call (.c (.fn 46 [])) [(.t 12), (.t 13), (.t 14)], (some (11, false))⟩ ::
    ⟨(some 16), .pick (.t 11) (.c (.d (.bool true))) (.t 15), none⟩ ::
    ⟨(some 6), .mv (.t 16), none⟩ ::
    []))
  .ret)) }
/-- garland/hop.ways -/
def cf142 : CFun := { np := 2, nt := 6, res := [.tmp 4], body :=
  (.seq (.reg (⟨(some 2), .box (.t 0), none⟩ ::
    ⟨(some 3), .box (.t 1), none⟩ ::
    ⟨(some 4), .mv (.c (.nilf)), none⟩ ::
    []))
  (.seq (.reg (⟨(some 5), .mkf 146 [(.t 2), (.t 3)], none⟩ ::
    ⟨(some 4), .mv (.t 5), none⟩ ::
    []))
  .ret)) }
/-- garland/msg.others$1 -/
def cf143 : CFun := { np := 3, nt := 29, res := [], body :=
  (.seq (.reg (⟨(some 6), .ld (.t 1), none⟩ ::
    ⟨(some 7), .len false (.t 6), none⟩ ::
    ⟨(some 8), .mv (.c (.d (.int .i64 0))), none⟩ ::
    []))
  (.block 0 (.loop [0, 1, 2, 6, 7, 8] (.seq (.reg (⟨(some 9), .bin .lss (.t 8) (.t 7), none⟩ ::
    []))
  (.seq (.cond (.t 9) .skip (.exit 0))
  (.seq (.block 1 (.seq (.reg (⟨(some 10), .mv (.t 8), none⟩ ::
    ⟨(some 11), .ixs 1 (.t 6) (.t 8), none⟩ ::
    ⟨(some 12), .ld (.t 11), none⟩ ::
    ⟨(some 4), .mv (.t 10), none⟩ ::
    ⟨(some 5), .mv (.t 12), none⟩ ::
    []))
  (.seq (.reg (⟨(some 13), .mv (.t 0), none⟩ ::
    ⟨(some 14), .mv (.t 5), none⟩ ::
    ⟨(some 15), .mv (.t 5), none⟩ ::
    ⟨(some 16), .ld (.t 2), none⟩ ::
    ⟨(some 17), .bin .neq (.t 15) (.t 16), none⟩ ::
    ⟨(some 18), .mv (.t 17), none⟩ ::
    ⟨(some 19), .ld (.t 1), (some (18, true))⟩ ::
    ⟨(some 20), .mv (.t 4), (some (18, true))⟩ ::
    ⟨(some 21), .sls 1 (.t 19) none (some (.t 20)), (some (18, true))⟩ ::
    ⟨(some 22), .mv (.t 5), (some (18, true))⟩ ::
    ⟨(some 23), .call (.c (.fn 93 [])) [(.t 21), (.t 22)], (some (18, true))⟩ ::
    ⟨(some 24), .not (.t 23), (some (18, true))⟩ ::
    ⟨(some 25), .pick (.t 18) (.t 24) (.c (.d (.bool false))), none⟩ ::
    ⟨(some 26), .call (.t 13) [(.t 14), (.t 25)], none⟩ ::
    ⟨(some 27), .not (.t 26), none⟩ ::
    []))
  (.cond (.t 27) .ret .skip))))
  (.reg (⟨(some 28), .bin .add (.t 8) (.c (.d (.int .i64 1))), none⟩ ::
    ⟨(some 8), .mv (.t 28), none⟩ ::
    [])))))))) }
/-- garland/look.musts$1 -/
def cf144 : CFun := { np := 2, nt := 64, res := [], body :=
  (.seq (.reg (⟨(some 4), .off 2 (.t 1), none⟩ ::
    ⟨(some 5), .ld (.t 4), none⟩ ::
    ⟨(some 6), .bin .eql (.t 5) (.c (.d (.int .i64 41))), none⟩ ::
    ⟨(some 3), .mv (.t 6), none⟩ ::
    []))
  (.reg (⟨(some 7), .mv (.t 0), none⟩ ::
    ⟨(some 8), .off 0 (.t 1), none⟩ ::
    ⟨(some 9), .ld (.t 8), none⟩ ::
    ⟨(some 10), .call (.c (.fn 145 [])) [(.t 9)], none⟩ ::
    ⟨(some 11), .mv (.t 10), none⟩ ::
    ⟨(some 12), .off 1 (.t 1), (some (11, true))⟩ ::
    ⟨(some 13), .ld (.t 12), (some (11, true))⟩ ::
    ⟨(some 14), .call (.c (.fn 145 [])) [(.t 13)], (some (11, true))⟩ ::
    ⟨(some 15), .pick (.t 11) (.t 14) (.c (.d (.bool false))), none⟩ ::
    ⟨(some 16), .call (.t 7) [(.t 15)], none⟩ ::
    ⟨(some 17), .mv (.t 16), none⟩ ::
    ⟨(some 18), .mv (.t 0), (some (17, true))⟩ ::
    ⟨(some 19), .mv (.t 3), (some (17, true))⟩ ::
    ⟨(some 20), .mv (.t 19), (some (17, true))⟩ ::
    ⟨(some 21), .off 2 (.t 1), (some (20, false))⟩ ::
    ⟨(some 22), .ld (.t 21), (some (20, false))⟩ ::
    ⟨(some 23), .bin .geq (.t 22) (.c (.d (.int .i64 0))), (some (20, false))⟩ ::
    ⟨(some 24), .mv (.t 23), (some (20, false))⟩ ::
    ⟨(some 25), .off 2 (.t 1), (some (24, true))⟩ ::
    ⟨(some 26), .ld (.t 25), (some (24, true))⟩ ::
    ⟨(some 27), .bin .leq (.t 26) (.c (.d (.int .i64 40))), (some (24, true))⟩ ::
    ⟨(some 28), .pick (.t 24) (.t 27) (.c (.d (.bool false))), (some (20, false))⟩ ::
    ⟨(some 29), .pick (.t 20) (.c (.d (.bool true))) (.t 28), (some (17, true))⟩ ::
    ⟨(some 30), .call (.t 18) [(.t 29)], (some (17, true))⟩ ::
    ⟨(some 31), .pick (.t 17) (.t 30) (.c (.d (.bool false))), none⟩ ::
    ⟨(some 32), .mv (.t 31), none⟩ ::
    ⟨(some 33), .mv (.t 0), (some (32, true))⟩ ::
    ⟨(some 34), .off 5 (.t 1), (some (32, true))⟩ ::
    ⟨(some 35), .ld (.t 34), (some (32, true))⟩ ::
    ⟨(some 36), .bin .eql (.t 35) (.c (.d (.int .i64 0))), (some (32, true))⟩ ::
    ⟨(some 37), .mv (.t 36), (some (32, true))⟩ ::
    ⟨(some 38), .off 5 (.t 1), (some (37, false))⟩ ::
    ⟨(some 39), .ld (.t 38), (some (37, false))⟩ ::
    ⟨(some 40), .bin .eql (.t 39) (.c (.d (.int .i64 211))), (some (37, false))⟩ ::
    ⟨(some 41), .pick (.t 37) (.c (.d (.bool true))) (.t 40), (some (32, true))⟩ ::
    ⟨(some 42), .call (.t 33) [(.t 41)], (some (32, true))⟩ ::
    ⟨(some 43), .pick (.t 32) (.t 42) (.c (.d (.bool false))), none⟩ ::
    ⟨(some 44), .mv (.t 43), none⟩ ::
    ⟨(some 45), .mv (.t 0), (some (44, true))⟩ ::
    ⟨(some 46), .off 5 (.t 1), (some (44, true))⟩ ::
    ⟨(some 47), .ld (.t 46), (some (44, true))⟩ ::
    ⟨(some 48), .bin .eql (.t 47) (.c (.d (.int .i64 211))), (some (44, true))⟩ ::
    ⟨(some 49), .mv (.t 3), (some (44, true))⟩ ::
    ⟨(some 50), .eqb false (.t 48) (.t 49), (some (44, true))⟩ ::
    ⟨(some 51), .call (.t 45) [(.t 50)], (some (44, true))⟩ ::
    ⟨(some 52), .pick (.t 44) (.t 51) (.c (.d (.bool false))), none⟩ ::
    ⟨(some 53), .mv (.t 52), none⟩ ::
    ⟨(some 54), .mv (.t 0), (some (53, true))⟩ ::
    ⟨(some 55), .mv (.t 3), (some (53, true))⟩ ::
    ⟨(some 56), .not (.t 55), (some (53, true))⟩ ::
    ⟨(some 57), .mv (.t 56), (some (53, true))⟩ ::
    ⟨(some 58), .off 4 (.t 1), (some (57, false))⟩ ::
    ⟨(some 59), .ld (.t 58), (some (57, false))⟩ ::
    ⟨(some 60), .not (.t 59), (some (57, false))⟩ ::
    ⟨(some 61), .pick (.t 57) (.c (.d (.bool true))) (.t 60), (some (53, true))⟩ ::
    ⟨(some 62), .call (.t 54) [(.t 61)], (some (53, true))⟩ ::
    ⟨(some 63), .pick (.t 53) (.t 62) (.c (.d (.bool false))), none⟩ ::
    []))) }
/-- garland/look.place -/
def cf145 : CFun := { np := 1, nt := 9, res := [.tmp 2], body :=
  (.seq (.reg (⟨(some 2), .mv (.c (.d (.bool false))), none⟩ ::
    []))
  (.seq (.reg (⟨(some 3), .mv (.t 0), none⟩ ::
    ⟨(some 4), .bin .geq (.t 3) (.c (.d (.int .i64 0))), none⟩ ::
    ⟨(some 5), .mv (.t 4), none⟩ ::
    ⟨(some 6), .mv (.t 0), (some (5, true))⟩ ::
    ⟨(some 7), .bin .lss (.t 6) (.c (.d (.int .i64 65536))), (some (5, true))⟩ ::
    ⟨(some 8), .pick (.t 5) (.t 7) (.c (.d (.bool false))), none⟩ ::
    ⟨(some 2), .mv (.t 8), none⟩ ::
    []))
  .ret)) }
/-- garland/hop.ways$1 -/
def cf146 : CFun := { np := 3, nt := 39, res := [], body :=
  (.seq (.dreg (⟨(some 8), .off 2 (.t 1), none⟩ ::
    ⟨(some 9), .ld (.t 8), none⟩ ::
    ⟨(some 10), .off 4 (.t 1), none⟩ ::
    ⟨(some 11), .sla 16 1 (.t 10) none none, none⟩ ::
    ⟨(some 12), .bld [.nils, .nils] [(0, 1, (.t 9)), (1, 1, (.t 11))], none⟩ ::
    ⟨(some 13), .mv (.c (.d (.int .i64 0))), none⟩ ::
    []) ([]))
  (.block 0 (.loop [0, 1, 2, 12, 13] (.seq (.reg (⟨(some 14), .bin .lss (.t 13) (.c (.d (.int .i64 2))), none⟩ ::
    []))
  (.seq (.cond (.t 14) .skip (.exit 0))
  (.seq (.block 1 (.seq (.reg (⟨(some 15), .ixv 2 (.t 12) (.t 13), none⟩ ::
    ⟨(some 5), .mv (.t 15), none⟩ ::
    []))
  (.seq (.reg (⟨(some 16), .mv (.t 5), none⟩ ::
    ⟨(some 17), .len false (.t 16), none⟩ ::
    ⟨(some 18), .mv (.c (.d (.int .i64 0))), none⟩ ::
    []))
  (.block 2 (.loop [0, 1, 2, 12, 13, 16, 17, 18] (.seq (.reg (⟨(some 19), .bin .lss (.t 18) (.t 17), none⟩ ::
    []))
  (.seq (.cond (.t 19) .skip (.exit 2))
  (.seq (.block 3 (.seq (.reg (⟨(some 20), .ixs 1 (.t 16) (.t 18), none⟩ ::
    ⟨(some 21), .ld (.t 20), none⟩ ::
    ⟨(some 7), .mv (.t 21), none⟩ ::
    []))
  (.seq (.reg (⟨(some 22), .mv (.t 7), none⟩ ::
    ⟨(some 23), .bin .geq (.t 22) (.c (.d (.int .i64 0))), none⟩ ::
    ⟨(some 24), .mv (.t 23), none⟩ ::
    ⟨(some 25), .off 0 (.t 1), (some (24, true))⟩ ::
    ⟨(some 26), .ld (.t 25), (some (24, true))⟩ ::
    ⟨(some 27), .mv (.t 7), (some (24, true))⟩ ::
    ⟨(some 28), .ld (.t 2), (some (24, true))⟩ ::
    ⟨(some 29), .call (.c (.fn 46 [])) [(.t 26), (.t 27), (.t 28)], (some (24, true))⟩ ::
    ⟨(some 30), .pick (.t 24) (.t 29) (.c (.d (.bool false))), none⟩ ::
    ⟨(some 31), .mv (.t 30), none⟩ ::
    ⟨(some 32), .mv (.t 0), (some (31, true))⟩ ::
    ⟨(some 33), .mv (.t 7), (some (31, true))⟩ ::
    ⟨(some 34), .call (.t 32) [(.t 33)], (some (31, true))⟩ ::
    ⟨(some 35), .not (.t 34), (some (31, true))⟩ ::
    ⟨(some 36), .pick (.t 31) (.t 35) (.c (.d (.bool false))), none⟩ ::
    []))
  (.cond (.t 36) .ret .skip))))
  (.reg (⟨(some 37), .bin .add (.t 18) (.c (.d (.int .i64 1))), none⟩ ::
    ⟨(some 18), .mv (.t 37), none⟩ ::
    []))))))))))
  (.reg (⟨(some 38), .bin .add (.t 13) (.c (.d (.int .i64 1))), none⟩ ::
    ⟨(some 13), .mv (.t 38), none⟩ ::
    [])))))))) }
def codeL : List (Option CFun) := [none, none, some cf2, some cf3, some cf4, some cf5, some cf6, some cf7, some cf8, some cf9, some cf10, some cf11, some cf12, some cf13, some cf14, some cf15, some cf16, some cf17, some cf18, some cf19, some cf20, some cf21, some cf22, some cf23, some cf24, some cf25, some cf26, some cf27, some cf28, some cf29, some cf30, some cf31, none, some cf33, some cf34, some cf35, some cf36, some cf37, some cf38, some cf39, some cf40, some cf41, some cf42, some cf43, some cf44, some cf45, some cf46, some cf47, some cf48, some cf49, some cf50, some cf51, some cf52, some cf53, some cf54, some cf55, some cf56, some cf57, some cf58, some cf59, some cf60, some cf61, none, some cf63, some cf64, some cf65, some cf66, some cf67, some cf68, some cf69, some cf70, some cf71, some cf72, some cf73, none, some cf75, some cf76, some cf77, some cf78, some cf79, some cf80, some cf81, some cf82, some cf83, some cf84, some cf85, some cf86, some cf87, some cf88, some cf89, some cf90, some cf91, some cf92, some cf93, some cf94, some cf95, some cf96, some cf97, some cf98, some cf99, some cf100, some cf101, some cf102, some cf103, some cf104, some cf105, some cf106, some cf107, some cf108, some cf109, some cf110, some cf111, some cf112, some cf113, some cf114, some cf115, some cf116, some cf117, some cf118, some cf119, some cf120, some cf121, some cf122, some cf123, some cf124, some cf125, some cf126, some cf127, some cf128, some cf129, some cf130, some cf131, some cf132, some cf133, some cf134, some cf135, some cf136, some cf137, some cf138, some cf139, some cf140, some cf141, some cf142, some cf143, some cf144, some cf145, some cf146]
def code (f : Nat) : Option CFun := (codeL[f]?).join
end Go.Proofs.YtfifgiopdbdeoaaDoor.Lite
end
namespace Go.Proofs.YtfifgiopdbdeoaaDoor.Lite
open Go Go.RowKit

def exRel : Ex → Exit
  | .nm => .normal
  | .ex id => .exit id
  | .gt l => .goto l
  | .rt => .ret

def CPost (P : Program) (nt B : Nat) (c : Cx) (st : St) (lp : List (Option LRec)) (wp : Nat) (ex : Ex) (env' : Env) (st' : St) : Exit → Act → World → Prop := fun e a' w' =>
  e = exRel ex ∧ ∃ c', c'.w = w' ∧ c'.N = st'.h.length ∧ StRel P c' st' lp ∧ Ext c c' st st' lp wp ∧ EnvRel c' env' a'.tmps ∧ a'.tmps.size = nt ∧ DefsOK B w' a'.defers

structure Pre (P : Program) (nt B : Nat) (rd : Rd) (c : Cx) (st : St) (env : Env) (a : Act) (ro : Option Nat) : Prop where
  s : StRel P c st rd.lp
  N : c.N = st.h.length
  wp : rd.wp ≤ st.h.length
  he : EnvRel c env a.tmps
  hz : a.tmps.size = nt
  hd : DefsOK B c.w a.defers
  hB : B ≤ c.w.heap.size
  ro : ∀ l₀, ro = some l₀ → ∃ i, i < c.M ∧ c.lm i = l₀

theorem Pre.next {P : Program} {nt B : Nat} {rd : Rd} {c c' : Cx} {st st' : St} {env env' : Env} {a a' : Act} {ro : Option Nat} (p : Pre P nt B rd c st env a ro) (N : c'.N = st'.h.length) (s : StRel P c' st' rd.lp) (x : Ext c c' st st' rd.lp rd.wp)
    (he : EnvRel c' env' a'.tmps) (hz : a'.tmps.size = nt) (hd : DefsOK B c'.w a'.defers) : Pre P nt B rd c' st' env' a' ro :=
  ⟨s, N, Nat.le_trans p.wp x.len, he, hz, hd, Nat.le_trans p.hB x.size, fun l₀ h => by
    obtain ⟨i, h1, h2⟩ := p.ro l₀ h
    exact ⟨i, by rw [x.m]; exact h1, by rw [x.lm i h1]; exact h2⟩⟩

theorem CPost.trans {P : Program} {nt B : Nat} {c c1 : Cx} {st st1 st' : St} {lp : List (Option LRec)} {wp : Nat} {ex : Ex} {env' : Env} (x : Ext c c1 st st1 lp wp) {e : Exit} {a : Act} {w : World} (h : CPost P nt B c1 st1 lp wp ex env' st' e a w) : CPost P nt B c st lp wp ex env' st' e a w := by
  obtain ⟨h1, c', h2, h3, h4, h5, h6⟩ := h
  exact ⟨h1, c', h2, h3, h4, x.trans h5, h6⟩

def CodeOK (P : Program) (T : Tbl) (n : Nat) : Prop := ∀ (rd : Rd) (cc : CCode) (env : Env) (st : St) (ex : Ex) (env' : Env) (st' : St), evCode T n rd cc env st = some (ex, env', st') →
  ∀ (nt : Nat) (code : Code), chkCode P nt code cc = true → ∀ (B : Nat) (c : Cx) (a : Act) (ro : Option Nat), Pre P nt B rd c st env a ro → code.wpIn (FW ro) 0 P (CPost P nt B c st rd.lp rd.wp ex env' st') a c.w

def LoopOK (P : Program) (T : Tbl) (n : Nat) : Prop := ∀ (rd : Rd) (keep : List Nat) (b : CCode) (env : Env) (st : St) (ex : Ex) (env' : Env) (st' : St), evCode T n rd (.loop keep b) env st = some (ex, env', st') →
  ∀ (nt : Nat) (code : Code), chkCode P nt code b = true → ∀ (B : Nat) (c : Cx) (a : Act) (ro : Option Nat), Pre P nt B rd c st env a ro → Code.roundsIn (FW ro) 0 P code (CPost P nt B c st rd.lp rd.wp ex env' st') n a c.w

def ScopeOK (P : Program) (T : Tbl) (n : Nat) : Prop := ∀ (rd : Rd) (keep : List Nat) (whole cc : CCode) (env : Env) (st : St) (ex : Ex) (env' : Env) (st' : St), evScope T n rd keep whole cc env st = some (ex, env', st') →
  ∀ (nt : Nat) (wcode code : Code), chkCode P nt wcode whole = true → chkCode P nt code cc = true → ∀ (B : Nat) (c : Cx) (a : Act) (ro : Option Nat), Pre P nt B rd c st env a ro → jumpsIn (FW ro) 0 P wcode (CPost P nt B c st rd.lp rd.wp ex env' st') n code a c.w

theorem look_mem : ∀ {env : Env} {t : Nat} {x : AV}, look env t = some x → x ∈ env.map (·.2)
  | (k, v) :: r, t, x, h => by
    simp only [look] at h
    split at h
    · cases h; simp
    · exact List.mem_cons_of_mem _ (look_mem h)

/-- Behind a round or a jump: what is kept of the temporaries; what was made since is let go. -/
theorem Pre.gc {P : Program} {nt B : Nat} {rd : Rd} {c c1 : Cx} {st st1 : St} {env env1 : Env} {a a1 : Act} {ro : Option Nat} (p : Pre P nt B rd c st env a ro) (N : c1.N = st1.h.length) (s : StRel P c1 st1 rd.lp) (x : Ext c c1 st st1 rd.lp rd.wp)
    (he : EnvRel c1 env1 a1.tmps) (hz : a1.tmps.size = nt) (hd : DefsOK B c1.w a1.defers) (keep : List Nat) :
    ∃ c2, c2.w = c1.w ∧ Pre P nt B rd c2 { st1 with h := Lite.gc st.h.length rd.lp.length ((restrict keep env1).map (·.2)) st1.h } (restrict keep env1) a1 ro ∧ Ext c c2 st { st1 with h := Lite.gc st.h.length rd.lp.length ((restrict keep env1).map (·.2)) st1.h } rd.lp rd.wp := by
  obtain ⟨c2, g1, g2, g3, g4, g5⟩ := gc_sound p.s p.N x s N ((restrict keep env1).map (·.2))
  refine ⟨c2, g1, p.next g2 g3 g4 ⟨fun t y hy => ?_, g3.h.gi⟩ hz (by rw [g1]; exact hd), g4⟩
  have hm := look_mem hy
  rw [look_restrict] at hy
  split at hy
  · obtain ⟨h1, h2⟩ := he t y hy
    exact ⟨h1, g5 y hm _ h2⟩
  · cases hy

/-! ### The record is laid -/
theorem enter_ok {P : Program} {nt B : Nat} {rd : Rd} {c : Cx} {st : St} {env : Env} {a : Act} {ro : Option Nat} (p : Pre P nt B rd c st env a ro) (fn : FuncId) (ps : Array Tmp) (asg body : Code) :
    ∃ l mk w1 dfs, (Instr.enterLoop fn a.tmps ps asg body ro).run P c.w = .ok (l, mk) w1 ∧ Side c.w w1 ∧ c.w.heap.size ≤ l ∧
      w1.heap[l]? = some (.loop { state := .ready, pending := none, fn, tmps := a.tmps, params := ps, assign := asg, body, defers := dfs }) ∧ (∀ b, b < c.w.heap.size → w1.heap[b]? = c.w.heap[b]?) ∧ DefsOK B w1 (mk ++ a.defers) := by
  obtain ⟨bs, h1, h2, h3⟩ := p.hd
  cases ro with
  | some l₀ =>
    obtain ⟨i, hi, rfl⟩ := p.ro l₀ rfl
    obtain ⟨L, hL⟩ := p.s.all i hi
    have pu := Pushed.alloc c.w (.loop { state := .ready, pending := none, fn, tmps := a.tmps, params := ps, assign := asg, body, defers := L.defers })
    refine ⟨_, _, _, L.defers, run_enterLoop_inner hL fn a.tmps ps asg body, Side.alloc _ _, Nat.le_refl _, pu.new, fun b hb => pu.old hb, bs, h1, h2, fun b hb => ⟨(h3 b hb).1, ?_⟩⟩
    rw [pu.old (Array.getElem?_eq_some_iff.1 (h3 b hb).2).1]; exact (h3 b hb).2
  | none =>
    have pu := Pushed.alloc c.w (.deferred (some []))
    have pv := Pushed.alloc (c.w.alloc (.deferred (some []))) (.loop { state := .ready, pending := none, fn, tmps := a.tmps, params := ps, assign := asg, body, defers := c.w.heap.size })
    refine ⟨_, _, _, c.w.heap.size, run_enterLoop_outer fn a.tmps ps asg body, (Side.alloc _ _).trans (Side.alloc _ _), Nat.le_succ _, ?_, fun b hb => ?_, c.w.heap.size :: bs, by rw [h1]; rfl, ?_, fun b hb => ?_⟩
    · have := pv.new; rw [pu.size] at this; exact this
    · rw [pv.old (by rw [pu.size]; omega), pu.old hb]
    · rw [List.nodup_cons]
      exact ⟨fun hm => by have := (Array.getElem?_eq_some_iff.1 (h3 _ hm).2).1; omega, h2⟩
    · rcases List.mem_cons.1 hb with rfl | hb
      · exact ⟨p.hB, by rw [pv.old (by rw [pu.size]; omega)]; exact pu.new⟩
      · have hlt := (Array.getElem?_eq_some_iff.1 (h3 b hb).2).1
        exact ⟨(h3 b hb).1, by rw [pv.old (by rw [pu.size]; omega), pu.old hlt]; exact (h3 b hb).2⟩

def Cx.loop (c : Cx) (l : Nat) (L : Loop) (w : World) : Cx :=
  { c with M := c.M + 1, lm := fun i => if i = c.M then l else c.lm i, lc := fun i => if i = c.M then L else c.lc i, w := w }

theorem loop_le {c : Cx} {h : Heap} (hr : HRel c h) {l : Nat} {L : Loop} {w : World} (s : Side c.w w) : c.le (c.loop l L w) :=
  ⟨Nat.le_refl _, Nat.le_succ _, (Side.le hr s).keeps, fun _ _ => Gh.le_refl _, fun i hi => by simp only [Cx.loop]; rw [if_neg (Nat.ne_of_lt hi)], fun i hi => by simp only [Cx.loop]; rw [if_neg (Nat.ne_of_lt hi)]⟩

theorem Ext.at2 {c c' : Cx} {st st' : St} {lp : List (Option LRec)} {wp : Nat} (x : Ext c c' st st' lp wp) (hr : HRel c' st'.h) {w : World} (s : Side c'.w w) (hb : ∀ b, b < c.w.heap.size → ¬ Own c st.h lp b → w.heap[b]? = c'.w.heap[b]?) : Ext c (c'.at w) st st' lp wp where
  keeps := x.keeps.trans (Side.le hr s).keeps
  gh := x.gh
  n := x.n
  m := x.m
  lm := x.lm
  lc := x.lc
  blk := fun b h1 h2 => (hb b h1 h2).trans (x.blk b h1 h2)
  size := Nat.le_trans x.size s.size
  own := x.own
  os := s.os.trans x.os
  tape := s.tape.trans x.tape
  output := s.output.trans x.output
  pre := x.pre
  len := x.len
  dead := x.dead
  sx := x.sx
  pdx := x.pdx

theorem StRel.at {P : Program} {c : Cx} {st : St} {lp : List (Option LRec)} (s : StRel P c st lp) {w : World} (sd : Side c.w w) (hl : ∀ i, i < c.M → w.heap[c.lm i]? = c.w.heap[c.lm i]?) : StRel P (c.at w) st lp where
  h := s.h.at sd
  m := s.m
  pd := s.pd
  rcd := fun i r hi => by
    obtain ⟨p, h1, h2, h3⟩ := s.rcd i r hi
    have hm : i < c.M := by rw [← s.m]; exact (List.getElem?_eq_some_iff.1 hi).1
    exact ⟨p, h1, by show w.heap[c.lm i]? = _; rw [hl i hm]; exact h2, h3.mono (Side.le s.h sd)⟩
  all := fun i hi => by
    obtain ⟨L, h1⟩ := s.all i hi
    exact ⟨L, by show w.heap[c.lm i]? = _; rw [hl i hi]; exact h1⟩
  inj := s.inj

theorem HRel.upM {c c1 : Cx} {h : Heap} (hr : HRel c h) (hle : c.le c1) (hρ : c1.ρ = c.ρ) (hS : c1.S = c.S) (hb : ∀ b, OwnH c h b → c1.w.heap[b]? = c.w.heap[b]?) : HRel c1 h :=
  hr.mono_same hle hρ (fun b o hs => .inl (by rw [hS] at hs; exact hs)) hb

theorem loop_st {P : Program} {nt B : Nat} {rd : Rd} {c : Cx} {st : St} {env : Env} {a : Act} {ro : Option Nat} (p : Pre P nt B rd c st env a ro) {fn : FuncId} {ps : Array Tmp} {asg body : Code} {asg' b' : CCode} {l : Nat} {w1 : World} {dfs : Nat} (sd : Side c.w w1) (hl : c.w.heap.size ≤ l)
    (hw : w1.heap[l]? = some (.loop { state := .ready, pending := none, fn, tmps := a.tmps, params := ps, assign := asg, body, defers := dfs })) (hb : ∀ b, b < c.w.heap.size → w1.heap[b]? = c.w.heap[b]?)
    (hps : ∀ t ∈ ps.toList, t < nt) (hka : chkCode P nt asg asg' = true) (hkb : chkCode P nt body b' = true) :
    StRel P (c.loop l { state := .ready, pending := none, fn, tmps := a.tmps, params := ps, assign := asg, body, defers := dfs } w1) { st with pd := st.pd ++ [none] } (rd.lp ++ [some { ps := ps.toList, asg := asg', body := b', env }]) := by
  have hle := loop_le p.s.h (l := l) (L := { state := .ready, pending := none, fn, tmps := a.tmps, params := ps, assign := asg, body, defers := dfs }) sd
  have hlt : ∀ i, i < c.M → c.lm i < c.w.heap.size := fun i hi => by obtain ⟨L, hL⟩ := p.s.all i hi; exact (Array.getElem?_eq_some_iff.1 hL).1
  have hol : ∀ i, i < c.M → (c.loop l { state := .ready, pending := none, fn, tmps := a.tmps, params := ps, assign := asg, body, defers := dfs } w1).lm i = c.lm i := fun i hi => by simp only [Cx.loop]; rw [if_neg (Nat.ne_of_lt hi)]
  have hoc : ∀ i, i < c.M → (c.loop l { state := .ready, pending := none, fn, tmps := a.tmps, params := ps, assign := asg, body, defers := dfs } w1).lc i = c.lc i := fun i hi => by simp only [Cx.loop]; rw [if_neg (Nat.ne_of_lt hi)]
  have hnl : (c.loop l { state := .ready, pending := none, fn, tmps := a.tmps, params := ps, assign := asg, body, defers := dfs } w1).lm c.M = l := by simp [Cx.loop]
  have hnc : (c.loop l { state := .ready, pending := none, fn, tmps := a.tmps, params := ps, assign := asg, body, defers := dfs } w1).lc c.M = { state := .ready, pending := none, fn, tmps := a.tmps, params := ps, assign := asg, body, defers := dfs } := by simp [Cx.loop]
  refine ⟨p.s.h.upM hle rfl rfl fun b ho => ?_, ?_, ?_, fun i r hi => ?_, fun i hi => ?_, fun i j hi hj h => ?_⟩
  · obtain ⟨arr, T, fr, h1⟩ := ownH_cells p.s.h ho
    exact hb b (Array.getElem?_eq_some_iff.1 h1).1
  · simp [Cx.loop, p.s.m]
  · simp [Cx.loop, p.s.pd]
  · rcases Nat.lt_or_ge i rd.lp.length with h1 | h1
    · rw [List.getElem?_append_left h1] at hi
      obtain ⟨q, g1, g2, g3⟩ := p.s.rcd i r hi
      have hm : i < c.M := by rw [← p.s.m]; exact h1
      refine ⟨q, by rw [List.getElem?_append_left (by rw [p.s.pd]; exact hm)]; exact g1, ?_, ?_⟩
      · rw [hol i hm, hoc i hm]
        show w1.heap[c.lm i]? = _
        rw [hb _ (hlt i hm)]; exact g2
      · rw [hoc i hm]; exact g3.mono hle
    · have e : i = c.M := by
        have := (List.getElem?_eq_some_iff.1 hi).1
        simp at this
        rw [← p.s.m]; omega
      subst e
      have hr : r = { ps := ps.toList, asg := asg', body := b', env } := by
        rw [← p.s.m] at hi
        simp at hi
        exact hi.symm
      subst hr
      refine ⟨none, by rw [← p.s.pd]; simp, by rw [hnl, hnc]; exact hw, ?_⟩
      rw [hnc]
      exact ⟨rfl, fun t ht => by rw [p.hz]; exact hps t ht, by rw [p.hz]; exact hka, by rw [p.hz]; exact hkb, p.he.mono hle⟩
  · rcases Nat.lt_or_ge i c.M with h1 | h1
    · obtain ⟨L, hL⟩ := p.s.all i h1
      exact ⟨L, by rw [hol i h1]; show w1.heap[c.lm i]? = _; rw [hb _ (hlt i h1)]; exact hL⟩
    · have e : i = c.M := by have : i < c.M + 1 := hi; omega
      subst e
      exact ⟨_, by rw [hnl]; exact hw⟩
  · have hi' : i < c.M + 1 := hi
    have hj' : j < c.M + 1 := hj
    rcases Nat.lt_or_ge i c.M with h1 | h1 <;> rcases Nat.lt_or_ge j c.M with h2 | h2
    · rw [hol i h1, hol j h2] at h; exact p.s.inj i j h1 h2 h
    · have e : j = c.M := by omega
      subst e
      rw [hol i h1, hnl] at h
      have := hlt i h1; omega
    · have e : i = c.M := by omega
      subst e
      rw [hol j h2, hnl] at h
      have := hlt j h2; omega
    · omega
end Go.Proofs.YtfifgiopdbdeoaaDoor.Lite
namespace Go.Proofs.YtfifgiopdbdeoaaDoor.Lite
open Go Go.RowKit

theorem exCode_wp {P : Program} {ro : Option Nat} {Q : Exit → Act → World → Prop} {a : Act} {w : World} (ex : Ex) (h : Q (exRel ex) a w) : (exCode ex).wpIn (FW ro) 0 P Q a w := by
  cases ex with
  | nm => exact wpIn_skip h
  | ex id => exact wpIn_exit h
  | gt l => exact wpIn_goto h
  | rt => exact wpIn_ret h

theorem range_sound {P : Program} {T : Tbl} {n : Nat} (hcall : CallOK P T n) {nt B : Nat} {rd : Rd} {c : Cx} {st : St} {env : Env} {a : Act} {ro : Option Nat} (p : Pre P nt B rd c st env a ro) {f : Operand} {ps : Array Tmp} {asg body : Code} {x : X} {asg' b' : CCode}
    (hf : chkX f x = true) (hps : ∀ t ∈ ps.toList, t < nt) (hka : chkCode P nt asg asg' = true) (hkb : chkCode P nt body b' = true) {g : Nat} {caps : List AV} (hx : evX env x = some (.fn g caps)) {v : AV} {st1 : St}
    (hev : evCall T n { rd with lp := rd.lp ++ [some { ps := ps.toList, asg := asg', body := b', env }] } (.fn g caps) [.yld rd.lp.length] { st with pd := st.pd ++ [none] } = some (v, st1)) (hlow : st1.h.all (lowObj st1.h.length rd.lp.length) = true)
    {q : Option Ex} (hq : st1.pd[rd.lp.length]? = some q) :
    (Code.rangeFunc f ps asg body).wpIn (FW ro) 0 P (CPost P nt B c st rd.lp rd.wp (q.getD .nm) env { st1 with pd := st1.pd.take rd.lp.length }) a c.w := by
  refine wpIn_rangeFunc fun fn _ => ?_
  obtain ⟨l, mk, w1, dfs, hrun, sd, hl, hw, hb, hdef⟩ := enter_ok p fn ps asg body
  have s1 := loop_st p (asg' := asg') (b' := b') sd hl hw hb hps hka hkb
  have hle := loop_le p.s.h (l := l) (L := { state := .ready, pending := none, fn, tmps := a.tmps, params := ps, assign := asg, body, defers := dfs }) sd
  generalize hL : ({ state := .ready, pending := none, fn, tmps := a.tmps, params := ps, assign := asg, body, defers := dfs } : Loop) = L0 at s1 hle hw
  have hL1 : L0.state = .ready ∧ L0.pending = none := by subst hL; exact ⟨rfl, rfl⟩
  have hvf : VRel (c.loop l L0 w1) (.fn g caps) (a.eval f) := (chkX_sound hf p.he hx).mono hle
  have hnl : (c.loop l L0 w1).lm c.M = l := by simp [Cx.loop]
  have hnc : (c.loop l L0 w1).lc c.M = L0 := by simp [Cx.loop]
  have hol : ∀ i, i < c.M → (c.loop l L0 w1).lm i = c.lm i := fun i hi => by simp only [Cx.loop]; rw [if_neg (Nat.ne_of_lt hi)]
  have hoc : ∀ i, i < c.M → (c.loop l L0 w1).lc i = c.lc i := fun i hi => by simp only [Cx.loop]; rw [if_neg (Nat.ne_of_lt hi)]
  have hyl : VRel (c.loop l L0 w1) (.yld rd.lp.length) (.func (.yield l) #[] #[]) := by
    have : VRel (c.loop l L0 w1) (.yld c.M) (.func (.yield ((c.loop l L0 w1).lm c.M)) #[] #[]) := .yld (Nat.lt_succ_self _)
    rw [hnl] at this
    rw [p.s.m]; exact this
  have hgo := hcall _ _ _ _ _ _ hev (c.loop l L0 w1) (a.eval f) #[.func (.yield l) #[] #[]] s1 p.N p.wp hvf rfl (fun j y u hy hu => by
    cases j with
    | zero => simp at hy hu; subst hy; subst hu; exact hyl
    | succ j => simp at hy)
  obtain ⟨arr, hfe, _⟩ := hvf.inv_fn
  rcases hgo with ⟨g', arr', h1, h2, h3⟩ | ⟨l', fn', tmps', asg'', body', h1, _, _⟩
  · refine ⟨l, mk, w1, _, w1, g', #[] ++ Array.map a.eval #[Operand.const (.func (.yield l) #[] #[])] ++ arr', w1, hrun, by rw [resolve_value _ _ _ _ _ h1]; exact rfl, fun _ _ => trivial, ?_, FW_depth ro, ?_⟩
    · simp only [invoke]
      exact h2 _ _
    · have h4 : CallsIn (FW ro) (0 - 1) P g' (#[.func (.yield l) #[] #[]] ++ arr') w1 _ := h3
      have eargs : #[] ++ Array.map a.eval #[Operand.const (.func (.yield l) #[] #[])] ++ arr' = #[.func (.yield l) #[] #[]] ++ arr' := by simp [Act.eval]
      rw [eargs]
      refine h4.mono ?_
      rintro e w3 ⟨u, rfl, c2, rfl, n2, s2, x2, _⟩
      have hM2 : c2.M = c.M + 1 := x2.m
      have hlt2 : c.M < (c.loop l L0 w1).M := Nat.lt_succ_self _
      -- the record
      obtain ⟨q', k1, k2, k3⟩ := s2.rcd c.M { ps := ps.toList, asg := asg', body := b', env } (by rw [← p.s.m]; simp)
      rw [← p.s.m] at k1
      rw [hq] at k1; cases k1
      have hlm2 : c2.lm c.M = l := by rw [x2.lm c.M hlt2, hnl]
      have hlc2 : c2.lc c.M = L0 := by rw [x2.lc c.M hlt2, hnc]
      rw [hlm2, hlc2] at k2
      have hend := run_endLoop (P := P) k2 (by unfold loopAt; cases q <;> simp)
      refine ⟨_, _, hend, ?_⟩
      have hpend : (loopAt L0 q).pending = q.map exCode := rfl
      rw [hpend]
      -- behind it
      have sd2 : Side c2.w (c2.w.putObj l (.loop { loopAt L0 q with state := .exhausted })) := Side.put (fun arr T fr e => by rw [k2] at e; cases e) _ k2
      generalize hw4 : c2.w.putObj l (.loop { loopAt L0 q with state := .exhausted }) = w4 at sd2
      have hother : ∀ b, b ≠ l → w4.heap[b]? = c2.w.heap[b]? := fun b hb' => by rw [← hw4]; exact World.putObj_heap_other hb'
      have hpos : ∀ b, b < c.w.heap.size → b ≠ l := fun b hb' => by omega
      have hr3 : HRel { c2 with N := st1.h.length, M := rd.lp.length } st1.h := by
        have := s2.h.shrink (N := st1.h.length) (M := rd.lp.length) (by rw [n2]; exact Nat.le_refl _) (by rw [List.take_length]; exact hlow)
        rw [List.take_length] at this; exact this
      have hown2 : ∀ b, Own c st.h rd.lp b ↔ (Own (c.loop l L0 w1) st.h (rd.lp ++ [some { ps := ps.toList, asg := asg', body := b', env }]) b ∧ b ≠ l) := by
        intro b
        constructor
        · rintro (h | ⟨i, r, h, h'⟩)
          · obtain ⟨ar, T', fr, hc⟩ := ownH_cells p.s.h h
            exact ⟨.inl h, hpos b (Array.getElem?_eq_some_iff.1 hc).1⟩
          · have hi : i < c.M := by rw [← p.s.m]; exact (List.getElem?_eq_some_iff.1 h).1
            refine ⟨.inr ⟨i, r, by rw [List.getElem?_append_left (List.getElem?_eq_some_iff.1 h).1]; exact h, by rw [hol i hi]; exact h'⟩, ?_⟩
            obtain ⟨LL, hLL⟩ := p.s.all i hi
            rw [← h']; exact hpos _ (Array.getElem?_eq_some_iff.1 hLL).1
        · rintro ⟨h | ⟨i, r, h, h'⟩, hne⟩
          · exact .inl h
          · rcases Nat.lt_or_ge i rd.lp.length with h5 | h5
            · rw [List.getElem?_append_left h5] at h
              rw [hol i (by rw [← p.s.m]; exact h5)] at h'
              exact .inr ⟨i, r, h, h'⟩
            · have : i = c.M := by
                have := (List.getElem?_eq_some_iff.1 h).1
                simp at this; rw [← p.s.m]; omega
              subst this
              rw [hnl] at h'; exact absurd h'.symm hne
      have x3 : Ext c { c2 with N := st1.h.length, M := rd.lp.length } st { st1 with pd := st1.pd.take rd.lp.length } rd.lp rd.wp := by
        refine ⟨(Side.le p.s.h sd).keeps.trans x2.keeps, x2.gh, by show c.N ≤ _; rw [← n2]; exact x2.n, p.s.m, fun i hi => (x2.lm i (Nat.lt_succ_of_lt hi)).trans (hol i hi), fun i hi => (x2.lc i (Nat.lt_succ_of_lt hi)).trans (hoc i hi), fun b hb1 hb2 => ?_, Nat.le_trans sd.size x2.size,
          fun b hb1 => ?_, x2.os.trans sd.os, x2.tape.trans sd.tape, x2.output.trans sd.output, x2.pre, x2.len, x2.dead, fun b z hz => ?_, fun i hi => ?_⟩
        · refine (x2.blk b (Nat.lt_of_lt_of_le hb1 sd.size) fun h => hb2 ((hown2 b).2 ⟨h, hpos b hb1⟩)).trans (hb b hb1)
        · have : Own c2 st1.h (rd.lp ++ [some { ps := ps.toList, asg := asg', body := b', env }]) b := by
            rcases hb1 with h | ⟨i, r, h, h'⟩
            · exact .inl h
            · exact .inr ⟨i, r, by rw [List.getElem?_append_left (List.getElem?_eq_some_iff.1 h).1]; exact h, h'⟩
          rcases x2.own b this with h | h
          · by_cases hbl : b = l
            · exact .inr (by omega)
            · exact .inl ((hown2 b).2 ⟨h, hbl⟩)
          · exact .inr (Nat.le_trans sd.size h)
        · rcases x2.sx b z hz with h | h | h
          · exact .inl h
          · by_cases hbl : b = l
            · exact .inr (.inr (by omega))
            · exact .inr (.inl ((hown2 b).2 ⟨h, hbl⟩))
          · exact .inr (.inr (Nat.le_trans sd.size h))
        · have hil := (List.getElem?_eq_some_iff.1 hi).1
          have := x2.pdx i (by rw [List.getElem?_append_left hil]; exact hi)
          show (st1.pd.take rd.lp.length)[i]? = _
          rw [List.getElem?_take, if_pos hil, this]
          exact List.getElem?_append_left (by rw [p.s.pd, ← p.s.m]; exact hil)
      have s3 : StRel P ({ c2 with N := st1.h.length, M := rd.lp.length } : Cx) { st1 with pd := st1.pd.take rd.lp.length } rd.lp := by
        refine ⟨hr3, rfl, ?_, fun i r hi => ?_, fun i hi => ?_, fun i j hi hj h => ?_⟩
        · have : st1.pd.length = c2.M := s2.pd
          show (st1.pd.take rd.lp.length).length = rd.lp.length
          simp; rw [this, hM2, p.s.m]; omega
        · have hil := (List.getElem?_eq_some_iff.1 hi).1
          obtain ⟨q2, g1, g2, _⟩ := s2.rcd i r (by rw [List.getElem?_append_left hil]; exact hi)
          obtain ⟨_, _, _, g4⟩ := p.s.rcd i r hi
          refine ⟨q2, ?_, g2, ?_⟩
          · show (st1.pd.take rd.lp.length)[i]? = _
            rw [List.getElem?_take, if_pos hil]; exact g1
          · have : c2.lc i = c.lc i := x3.lc i (by rw [← p.s.m]; exact hil)
            show LoopIs P _ r (c2.lc i)
            rw [this]; exact g4.mono x3.cx
        · have hi' : i < rd.lp.length := hi
          exact s2.all i (by rw [hM2, ← p.s.m]; omega)
        · have hi' : i < rd.lp.length := hi
          have hj' : j < rd.lp.length := hj
          exact s2.inj i j (by rw [hM2, ← p.s.m]; omega) (by rw [hM2, ← p.s.m]; omega) h
      have hlne : ∀ i, i < rd.lp.length → c2.lm i ≠ l := fun i hi h => by
        have := s2.inj i c.M (by rw [hM2, ← p.s.m]; omega) (by rw [hM2]; omega) (by rw [h, hlm2])
        rw [← p.s.m] at this; omega
      have s4 := s3.at (w := w4) sd2 (fun i hi => hother _ (hlne i hi))
      have x4 := x3.at2 hr3 (w := w4) sd2 (fun b hb1 _ => hother b (hpos b hb1))
      have d4 : DefsOK B w4 (mk ++ a.defers) := by
        have hd2 : DefsOK B c2.w (mk ++ a.defers) := DefsOK.ext (c := c.loop l L0 w1) hdef x2 s1
        obtain ⟨bs, e1, e2, e3⟩ := hd2
        refine ⟨bs, e1, e2, fun b hb' => ⟨(e3 b hb').1, ?_⟩⟩
        rw [hother b (by rintro rfl; have := (e3 _ hb').2; rw [k2] at this; cases this)]
        exact (e3 b hb').2
      have post : CPost P nt B c st rd.lp rd.wp (q.getD .nm) env { st1 with pd := st1.pd.take rd.lp.length } (exRel (q.getD .nm)) { a with defers := mk ++ a.defers } w4 :=
        ⟨rfl, _, rfl, rfl, s4, x4, p.he.mono x4.cx, p.hz, d4⟩
      subst hw4
      cases q with
      | none => simp only [Option.map_none]; exact post
      | some e => simp only [Option.map_some]; exact exCode_wp e post
  · rw [h1] at hfe; cases hfe
end Go.Proofs.YtfifgiopdbdeoaaDoor.Lite
namespace Go.Proofs.YtfifgiopdbdeoaaDoor.Lite
open Go Go.RowKit

theorem setn_get {lp : List (Option LRec)} {i j : Nat} {r : LRec} (h : (lp.set i none)[j]? = some (some r)) : j ≠ i ∧ lp[j]? = some (some r) := by
  rw [List.getElem?_set] at h
  split at h
  · split at h <;> simp at h
  · rename_i hne; exact ⟨fun e => hne e.symm, h⟩

theorem StRel.setn {P : Program} {c : Cx} {st : St} {lp : List (Option LRec)} (s : StRel P c st lp) (i : Nat) : StRel P c st (lp.set i none) where
  h := s.h
  m := by rw [List.length_set]; exact s.m
  pd := s.pd
  rcd := fun j r hj => s.rcd j r (setn_get hj).2
  all := s.all
  inj := s.inj

theorem Own.setn {c : Cx} {h : Heap} {lp : List (Option LRec)} {i b : Nat} (ho : Own c h (lp.set i none) b) : Own c h lp b := by
  rcases ho with h1 | ⟨j, r, h1, h2⟩
  · exact .inl h1
  · exact .inr ⟨j, r, (setn_get h1).2, h2⟩

theorem Own.split {c : Cx} {h : Heap} {lp : List (Option LRec)} {i b : Nat} (ho : Own c h lp b) : Own c h (lp.set i none) b ∨ c.lm i = b := by
  rcases ho with h1 | ⟨j, r, h1, h2⟩
  · exact .inl (.inl h1)
  · by_cases e : j = i
    · subst e; exact .inr h2
    · exact .inl (.inr ⟨j, r, by rw [List.getElem?_set_ne (Ne.symm e)]; exact h1, h2⟩)

theorem Ext.full {c c' : Cx} {st st' : St} {lp : List (Option LRec)} {wp i : Nat} {r : LRec} (hi : lp[i]? = some (some r)) (hM : i < c.M) (x : Ext c c' st st' (lp.set i none) wp) : Ext c c' st st' lp wp :=
  { x with
    blk := fun b h1 h2 => x.blk b h1 fun h => h2 h.setn
    own := fun b hb => by
      rcases hb.split (i := i) with h | h
      · exact (x.own b h).imp Own.setn id
      · exact .inl (.inr ⟨i, r, hi, by rw [← x.lm i hM]; exact h⟩)
    sx := fun b z hz => by
      rcases x.sx b z hz with h | h | h
      · exact .inl h
      · exact .inr (.inl h.setn)
      · exact .inr (.inr h)
    pdx := fun j hj => x.pdx j (by
      have : j ≠ i := by rintro rfl; rw [hi] at hj; cases hj
      rw [List.getElem?_set_ne this.symm]; exact hj) }

theorem bind_rel {c : Cx} : ∀ (ps : List Nat) (vs : List AV) (us : List Value) (env : Env) (tm : Array Value), EnvRel c env tm → (∀ t ∈ ps, t < tm.size) → vs.length = ps.length → us.length = ps.length → (∀ (j : Nat) y u, vs[j]? = some y → us[j]? = some u → VRel c y u) →
    EnvRel c (bindPs ps vs env) ((ps.zip us).foldl (fun tm (p : Nat × Value) => tm.setIfInBounds p.1 p.2) tm) ∧ ((ps.zip us).foldl (fun tm (p : Nat × Value) => tm.setIfInBounds p.1 p.2) tm).size = tm.size
  | [], vs, us, env, tm, he, _, h1, h2, _ => by
    have : vs = [] := by simpa using h1
    subst this
    exact ⟨by simpa [bindPs] using he, by simp⟩
  | t :: ps, v :: vs, u :: us, env, tm, he, hb, h1, h2, hv => by
    simp only [bindPs, List.zip_cons_cons, List.foldl_cons]
    have hlt : t < tm.size := hb t (by simp)
    have he' : EnvRel c ((t, v) :: env) (tm.setIfInBounds t u) := by
      have := EnvRel.put (a := { tmps := tm, defers := [] }) (env := env) he (hv 0 v u rfl rfl) (some t) (fun t' e => by cases e; exact hlt)
      exact this
    obtain ⟨g1, g2⟩ := bind_rel ps vs us ((t, v) :: env) (tm.setIfInBounds t u) he' (fun t' ht' => by simpa using hb t' (by simp [ht'])) (by simpa using h1) (by simpa using h2) (fun j y w hy hw => hv (j + 1) y w (by simpa using hy) (by simpa using hw))
    exact ⟨g1, by rw [g2]; simp⟩
  | _ :: _, [], _, _, _, _, _, h1, _, _ => by simp at h1
  | _ :: _, _ :: _, [], _, _, _, _, _, h2, _ => by simp at h2

def jumpOf : Ex → Option Ex
  | .nm => none
  | e => some e

theorem roundPost_ex {P : Program} {l : Nat} {R : Ending → World → Prop} {a : Act} {w : World} (e : Ex) {v : Value} {w' : World} (h1 : (Instr.endRound l ((jumpOf e).map exCode)).run P w = .ok v w') (h2 : R (.returned v) w') : roundPost P l R (exRel e) a w := by
  cases e <;> exact ⟨v, w', h1, h2⟩

theorem yld_sound {P : Program} {T : Tbl} {n : Nat} (hcode : CodeOK P T n) {rd : Rd} {c : Cx} {st : St} (s : StRel P c st rd.lp) (hN : c.N = st.h.length) (hwp : rd.wp ≤ st.h.length) {i : Nat} {r : LRec} (hi : rd.lp[i]? = some (some r)) (hpd : st.pd[i]? = some none)
    {args : List AV} (hal : args.length = r.ps.length) {env1 env2 : Env} {st1 st2 : St} (hev1 : evCode T n { rd with lp := rd.lp.set i none } r.asg (bindPs r.ps args r.env) st = some (.nm, env1, st1)) {e : Ex} (hev2 : evCode T n { rd with lp := rd.lp.set i none } r.body env1 st1 = some (e, env2, st2))
    {vs : Array Value} (hz : vs.size = args.length) (ha : ∀ (j : Nat) y v, args[j]? = some y → vs[j]? = some v → VRel c y v) {pd' : List (Option Ex)} (hp1 : pd'.length = st2.pd.length) (hp2 : st2.pd[i]? = some none → pd'[i]? = some (jumpOf e)) (hp3 : ∀ j : Nat, j ≠ i → pd'[j]? = st2.pd[j]?) :
    Goes P c.w (.func (.yield (c.lm i)) #[] #[]) vs (fun v w' => Res P c st { h := gc st.h.length rd.lp.length [] st2.h, pd := pd' } rd.lp rd.wp (.d (.bool (jumpOf e).isNone)) v w') := by
  have hM : i < c.M := by rw [← s.m]; exact (List.getElem?_eq_some_iff.1 hi).1
  obtain ⟨q, k1, k2, k3⟩ := s.rcd i r hi
  rw [hpd] at k1; cases k1
  have hpz : (c.lc i).params.size = r.ps.length := by have := congrArg List.length k3.ps; simpa using this
  have hrun := run_yield (P := P) (args := vs) k2 (by rw [hz, hal]; exact hpz.symm)
  refine .inr ⟨_, _, _, _, _, rfl, hrun, ?_⟩
  refine roundIn_of_wpIn trivial ?_
  have hseti : (rd.lp.set i none)[i]? = some none := by rw [List.getElem?_set_self (List.getElem?_eq_some_iff.1 hi).1]
  obtain ⟨b1, b2⟩ := bind_rel (c := c) r.ps args vs.toList r.env (c.lc i).tmps k3.env k3.psb hal (by simpa [hz] using hal) (fun j y u hy hu => ha j y u hy (by simpa using hu))
  have hfold : ((loopAt (c.lc i) none).params.zip vs).foldl (fun tmps (p : Tmp × Value) => tmps.setIfInBounds p.1 p.2) (loopAt (c.lc i) none).tmps = (r.ps.zip vs.toList).foldl (fun tm (p : Nat × Value) => tm.setIfInBounds p.1 p.2) (c.lc i).tmps := by
    rw [← Array.foldl_toList, Array.toList_zip]
    show List.foldl _ _ (((c.lc i).params.toList).zip vs.toList) = _
    rw [k3.ps]; rfl
  have notOwn : ∀ {cc : Cx} {h : Heap} {ss : St}, StRel P cc ss (rd.lp.set i none) → h = ss.h → i < cc.M → (∃ L, cc.w.heap[cc.lm i]? = some (.loop L)) → ¬ Own cc h (rd.lp.set i none) (cc.lm i) := by
    rintro cc h ss s' rfl hm ⟨L, hL⟩ (h1 | ⟨j, r', h1, h2⟩)
    · exact loop_notOwn s'.h hL h1
    · obtain ⟨hne, _⟩ := setn_get h1
      have hj : j < cc.M := by rw [← s'.m]; exact (List.getElem?_eq_some_iff.1 h1).1
      exact hne (s'.inj j i hj hm h2)
  have pre1 : Pre P (c.lc i).tmps.size c.w.heap.size { rd with lp := rd.lp.set i none } c st (bindPs r.ps args r.env) { tmps := ((loopAt (c.lc i) none).params.zip vs).foldl (fun tmps (p : Tmp × Value) => tmps.setIfInBounds p.1 p.2) (loopAt (c.lc i) none).tmps, defers := [] } (some (c.lm i)) :=
    ⟨s.setn i, hN, hwp, by rw [hfold]; exact b1, by rw [hfold]; exact b2, DefsOK.nil _ _, Nat.le_refl _, fun l₀ h => by cases h; exact ⟨i, hM, rfl⟩⟩
  have w1 := hcode _ _ _ _ _ _ _ hev1 _ _ k3.asg _ _ _ _ pre1
  refine wpIn_mono w1 ?_
  rintro e1 a1 wd1 ⟨rfl, c1, rfl, n1, s1, x1, he1, hz1, hd1⟩
  have hM1 : i < c1.M := by rw [x1.m]; exact hM
  have hlm1 : c1.lm i = c.lm i := x1.lm i hM
  have hlc1 : c1.lc i = c.lc i := x1.lc i hM
  have k4 : c1.w.heap[c.lm i]? = some (.loop (loopAt (c.lc i) none)) := by
    rw [x1.blk _ (Array.getElem?_eq_some_iff.1 k2).1 (notOwn (s.setn i) rfl hM ⟨_, k2⟩)]; exact k2
  have hbr := run_beginRound (P := P) k4 rfl
  refine ⟨_, hbr, ?_⟩
  have sdb : Side c1.w (c1.w.putObj (c.lm i) (.loop { loopAt (c.lc i) none with state := .busy })) := Side.put (fun arr T fr e => by rw [k4] at e; cases e) _ k4
  have hbsame : (c1.w.putObj (c.lm i) (.loop { loopAt (c.lc i) none with state := .busy })).heap[c.lm i]? = some (.loop { loopAt (c.lc i) none with state := .busy }) := World.putObj_heap_same (Array.getElem?_eq_some_iff.1 k4).1
  have hboth : ∀ b, b ≠ c.lm i → (c1.w.putObj (c.lm i) (.loop { loopAt (c.lc i) none with state := .busy })).heap[b]? = c1.w.heap[b]? := fun b hb => World.putObj_heap_other hb
  generalize c1.w.putObj (c.lm i) (.loop { loopAt (c.lc i) none with state := .busy }) = wb at sdb hbsame hboth
  have hnb : ∀ j, j < c1.M → j ≠ i → c1.lm j ≠ c.lm i := fun j hj hne h => hne (s1.inj j i hj hM1 (by rw [hlm1]; exact h))
  have sb : StRel P (c1.at wb) st1 (rd.lp.set i none) := by
    refine ⟨s1.h.at sdb, s1.m, s1.pd, fun j r' hj => ?_, fun j hj => ?_, s1.inj⟩
    · obtain ⟨p, g1, g2, g3⟩ := s1.rcd j r' hj
      have hjm : j < c1.M := by rw [← s1.m]; exact (List.getElem?_eq_some_iff.1 hj).1
      exact ⟨p, g1, by show wb.heap[c1.lm j]? = _; rw [hboth _ (hnb j hjm (setn_get hj).1)]; exact g2, g3.mono (Side.le s1.h sdb)⟩
    · by_cases hji : j = i
      · subst hji; exact ⟨_, by show wb.heap[c1.lm j]? = _; rw [hlm1]; exact hbsame⟩
      · obtain ⟨L, hL⟩ := s1.all j hj
        exact ⟨L, by show wb.heap[c1.lm j]? = _; rw [hboth _ (hnb j hj hji)]; exact hL⟩
  have pre2 : Pre P (c.lc i).tmps.size c.w.heap.size { rd with lp := rd.lp.set i none } (c1.at wb) st1 env1 a1 (some (c.lm i)) :=
    ⟨sb, n1, Nat.le_trans hwp x1.len, he1.mono (Side.le s1.h sdb), hz1, by
      obtain ⟨bs, e1, e2, e3⟩ := hd1
      refine ⟨bs, e1, e2, fun b hb => ⟨(e3 b hb).1, ?_⟩⟩
      show wb.heap[b]? = _
      rw [hboth b (by rintro rfl; have := (e3 _ hb).2; rw [k4] at this; cases this)]; exact (e3 b hb).2, Nat.le_trans x1.size sdb.size, fun l₀ h => by cases h; exact ⟨i, hM1, hlm1⟩⟩
  have w2 := hcode _ _ _ _ _ _ _ hev2 _ _ k3.body _ _ _ _ pre2
  refine wpIn_mono w2 ?_
  rintro e2 a2 wd2 ⟨rfl, c2, rfl, n2, s2, x2, he2, hz2, hd2⟩
  have hM2 : i < c2.M := by rw [x2.m]; exact hM1
  have hlm2 : c2.lm i = c.lm i := (x2.lm i hM1).trans hlm1
  have hlc2 : c2.lc i = c.lc i := (x2.lc i hM1).trans hlc1
  have k5 : c2.w.heap[c.lm i]? = some (.loop { loopAt (c.lc i) none with state := .busy }) := by
    have hno := notOwn sb rfl hM1 ⟨_, by show wb.heap[c1.lm i]? = _; rw [hlm1]; exact hbsame⟩
    have e0 : (c1.at wb).lm i = c.lm i := hlm1
    rw [e0] at hno
    rw [x2.blk _ (Array.getElem?_eq_some_iff.1 hbsame).1 hno]; exact hbsame
  have hend := run_endRound (P := P) ((jumpOf e).map exCode) k5
  refine roundPost_ex e hend ?_
  have sd3 : Side c2.w (c2.w.putObj (c.lm i) (.loop (loopAt (c.lc i) (jumpOf e)))) := Side.put (fun arr T fr e => by rw [k5] at e; cases e) _ k5
  have hsame : (c2.w.putObj (c.lm i) (.loop (loopAt (c.lc i) (jumpOf e)))).heap[c.lm i]? = some (.loop (loopAt (c.lc i) (jumpOf e))) := World.putObj_heap_same (Array.getElem?_eq_some_iff.1 k5).1
  have hoth : ∀ b, b ≠ c.lm i → (c2.w.putObj (c.lm i) (.loop (loopAt (c.lc i) (jumpOf e)))).heap[b]? = c2.w.heap[b]? := fun b hb => World.putObj_heap_other hb
  have hweq : c2.w.putObj (c.lm i) (.loop { { loopAt (c.lc i) none with state := .busy } with state := if ((jumpOf e).map exCode).isNone then .ready else .done, pending := (jumpOf e).map exCode }) = c2.w.putObj (c.lm i) (.loop (loopAt (c.lc i) (jumpOf e))) := by
    cases e <;> rfl
  rw [hweq]
  have hbool : ((jumpOf e).map exCode).isNone = (jumpOf e).isNone := by cases e <;> rfl
  rw [hbool]
  generalize c2.w.putObj (c.lm i) (.loop (loopAt (c.lc i) (jumpOf e))) = w3 at sd3 hsame hoth
  have xa : Ext c c1 st st1 rd.lp rd.wp := x1.full hi hM
  have ownI : ∀ (cc : Cx) (h : Heap), cc.lm i = c.lm i → Own cc h rd.lp (c.lm i) := fun cc h he => .inr ⟨i, r, hi, he⟩
  have xb : Ext c (c1.at wb) st st1 rd.lp rd.wp := xa.at2 s1.h sdb fun b _ hno => hboth b (by rintro rfl; exact hno (ownI c _ rfl))
  have xc : Ext c c2 st st2 rd.lp rd.wp := xb.trans (x2.full hi hM1)
  have xd : Ext c (c2.at w3) st { h := st2.h, pd := pd' } rd.lp rd.wp := by
    have := xc.at2 s2.h sd3 fun b _ hno => hoth b (by rintro rfl; exact hno (ownI c _ rfl))
    exact { this with pdx := fun j hj => (hp3 j (by rintro rfl; rw [hi] at hj; cases hj)).trans (xc.pdx j hj) }
  have s3 : StRel P (c2.at w3) { h := st2.h, pd := pd' } rd.lp := by
    refine ⟨s2.h.at sd3, by show rd.lp.length = c2.M; rw [← s2.m]; simp, by show pd'.length = _; rw [hp1]; exact s2.pd, fun j r' hj => ?_, fun j hj => ?_, s2.inj⟩
    · by_cases hji : j = i
      · subst hji
        rw [hi] at hj; cases hj
        refine ⟨_, hp2 (((x2.pdx j hseti).trans (x1.pdx j hseti)).trans hpd), ?_, ?_⟩
        · show w3.heap[c2.lm j]? = some (.loop (loopAt (c2.lc j) _))
          rw [hlm2, hlc2]; exact hsame
        · show LoopIs P _ r (c2.lc j)
          rw [hlc2]; exact k3.mono xd.cx
      · obtain ⟨p, g1, g2, g3⟩ := s2.rcd j r' (by rw [List.getElem?_set_ne (Ne.symm hji)]; exact hj)
        have hjm : j < c2.M := by rw [← s2.m, List.length_set]; exact (List.getElem?_eq_some_iff.1 hj).1
        refine ⟨p, (hp3 j hji).trans g1, ?_, g3.mono (Side.le s2.h sd3)⟩
        show w3.heap[c2.lm j]? = _
        rw [hoth _ (fun h => hji (s2.inj j i hjm hM2 (by rw [hlm2]; exact h)))]; exact g2
    · by_cases hji : j = i
      · subst hji; exact ⟨_, by show w3.heap[c2.lm j]? = _; rw [hlm2]; exact hsame⟩
      · obtain ⟨L, hL⟩ := s2.all j hj
        exact ⟨L, by show w3.heap[c2.lm j]? = _; rw [hoth _ (fun h => hji (s2.inj j i hj hM2 (by rw [hlm2]; exact h)))]; exact hL⟩
  obtain ⟨c4, g1, g2, g3, g4, _⟩ := gc_sound s hN xd s3 n2 []
  exact ⟨_, rfl, c4, g1, g2, g3, g4, .d (.bool _)⟩
end Go.Proofs.YtfifgiopdbdeoaaDoor.Lite
namespace Go.Proofs.YtfifgiopdbdeoaaDoor.Lite
open Go Go.RowKit

def chkFun (P : Program) (f : Nat) (cf : CFun) : Bool :=
  match P.funcs[f]? with
  | some fn => match fn.body with
    | some b => fn.name != "runtime.NumGoroutine" && fn.ntmps == cf.nt && decide (cf.np ≤ cf.nt) && chkRes P fn.results.toList cf.res && chkCode P cf.nt b cf.body
    | none => false
  | none => false

structure TblOK (P : Program) (T : Tbl) : Prop where
  orc : ∀ f F, T.orc f = some F → Pure P f F
  code : ∀ f cf, T.orc f = none → T.code f = some cf → chkFun P f cf = true

theorem argEnv_rel {c : Cx} (hgi : GI c.S c.w) : ∀ (vs : List AV) (us : List Value) (i : Nat) (tm : Array Value), (∀ (j : Nat) u, us[j]? = some u → tm[i + j]? = some u) → us.length = vs.length → (∀ (j : Nat) y u, vs[j]? = some y → us[j]? = some u → VRel c y u) → EnvRel c (argEnv i vs) tm
  | [], _, _, _, _, _, _ => ⟨fun t x h => by simp [argEnv, look] at h, hgi⟩
  | v :: vs, u :: us, i, tm, ht, hl, hv => by
    refine ⟨fun t x hx => ?_, hgi⟩
    simp only [argEnv, look] at hx
    split at hx
    · rename_i e; subst e
      cases hx
      have h1 := ht 0 u rfl
      simp only [Nat.add_zero] at h1
      obtain ⟨h2, h3⟩ := Array.getElem?_eq_some_iff.1 h1
      refine ⟨h2, ?_⟩
      have : tm.getD i undef = u := by simp [Array.getD, h2, h3]
      rw [this]; exact hv 0 _ _ rfl rfl
    · exact EnvRel.get (argEnv_rel hgi vs us (i + 1) tm (fun j w hw => by have := ht (j + 1) w (by simpa using hw); rw [← this]; congr 1; omega) (by simpa using hl) (fun j y w hy hw => hv (j + 1) y w (by simpa using hy) (by simpa using hw))) t x hx
  | _ :: _, [], _, _, _, hl, _ => by simp at hl

theorem chkFun_enter {P : Program} {f : Nat} {cf : CFun} (h : chkFun P f cf = true) : ∃ fn b, P.funcs[f]? = some fn ∧ fn.body = some b ∧ fn.ntmps = cf.nt ∧ cf.np ≤ cf.nt ∧ chkRes P fn.results.toList cf.res = true ∧ chkCode P cf.nt b cf.body = true ∧
    ∀ args w, (callFunc f args).run P w = .ok (.enter f args) w := by
  unfold chkFun at h
  split at h
  · rename_i fn hfn
    split at h
    · rename_i b hb
      simp only [Bool.and_eq_true, beq_iff_eq, decide_eq_true_eq, bne_iff_ne, ne_eq] at h
      obtain ⟨⟨⟨⟨h1, h2⟩, h3⟩, h4⟩, h5⟩ := h
      refine ⟨fn, b, hfn, hb, h2, h3, h4, h5, fun args w => ?_⟩
      have e : (program.run P w) = .ok P w := rfl
      simp [callFunc, Sem.run_bind, e, hfn, hb, h1]
    · cases h
  · cases h

theorem fun_sound {P : Program} {T : Tbl} {n : Nat} (hcode : CodeOK P T n) {f : Nat} {cf : CFun} (hck : chkFun P f cf = true) {rd : Rd} {c : Cx} {st : St} (s : StRel P c st rd.lp) (hN : c.N = st.h.length) (hwp : rd.wp ≤ st.h.length) {xs : List AV} (hnp : xs.length = cf.np)
    {e : Ex} {env : Env} {st1 : St} (hev : evCode T n rd cf.body (argEnv 0 xs) st = some (e, env, st1)) (hex : exRel e = .normal ∨ exRel e = .ret) {vs : List AV} (hres : evRes env st1.h cf.res = some vs)
    {args : Array Value} (hz : args.size = xs.length) (ha : ∀ (j : Nat) y v, xs[j]? = some y → args[j]? = some v → VRel c y v) :
    CallsIn Fence.wide 0 P f args c.w (fun e w' => ∃ v, e = .returned v ∧ Res P c st { st1 with h := gc st.h.length rd.lp.length vs st1.h } rd.lp rd.wp (oneOf vs) v w') := by
  obtain ⟨fn, b, h1, h2, h3, h4, h5, h6, _⟩ := chkFun_enter hck
  refine callsIn_of_wp_marks h1 h2 trivial ?_
  have hzt : (args ++ Array.replicate (fn.ntmps - args.size) undef).size = cf.nt := by simp; omega
  have p : Pre P cf.nt c.w.heap.size rd c st (argEnv 0 xs) { tmps := args ++ Array.replicate (fn.ntmps - args.size) undef, defers := [] } none :=
    ⟨s, hN, hwp, argEnv_rel s.h.gi xs args.toList 0 _ (fun j u hu => by
      have hj : j < args.size := by simpa using (List.getElem?_eq_some_iff.1 hu).1
      rw [Nat.zero_add, Array.getElem?_append_left hj]; simpa using hu) (by simpa using hz) (fun j y u hy hu => ha j y u hy (by simpa using hu)), hzt, DefsOK.nil _ _, Nat.le_refl _, fun l₀ h => by cases h⟩
  have hw := hcode _ _ _ _ _ _ _ hev _ _ h6 _ _ _ _ p
  have hw' : b.wpIn Fence.wide 0 P (CPost P cf.nt c.w.heap.size c st rd.lp rd.wp e env st1) { tmps := args ++ Array.replicate (fn.ntmps - args.size) undef, defers := [] } c.w := hw
  refine wpIn_mono hw' ?_
  rintro e' a' w' ⟨rfl, c1, rfl, n1, s1, x1, he1, _, hd1⟩
  have key : LeavesInM Fence.wide 0 P fn a'.tmps (fun e w' => ∃ v, e = .returned v ∧ Res P c st { st1 with h := gc st.h.length rd.lp.length vs st1.h } rd.lp rd.wp (oneOf vs) v w') a'.defers .returning c1.w := by
    obtain ⟨bs, e1, e2, e3⟩ := hd1
    rw [e1]
    refine leaves_marks bs c1.w e2 e3 fun w2 sd hoth => ?_
    have hnl : ∀ i, i < c1.M → w2.heap[c1.lm i]? = c1.w.heap[c1.lm i]? := fun i hi => hoth _ fun hm => by
      obtain ⟨L, hL⟩ := s1.all i hi
      have := (e3 _ hm).2
      rw [hL] at this; cases this
    have s2 := s1.at sd hnl
    have x2 := x1.at2 s1.h sd fun b hb _ => hoth b fun hm => by have := (e3 b hm).1; omega
    obtain ⟨us, g1, g2⟩ := results_sound (fn := fn) (c := c1.at w2) (he1.mono (Side.le s1.h sd)) (h := st1.h) s2.h h5 hres
    obtain ⟨c4, k1, k2, k3, k4, k5⟩ := gc_sound s hN x2 s2 n1 vs
    refine ⟨_, g1, _, rfl, c4, k1, k2, k3, k4, ?_⟩
    exact (g2.mono fun y hy u hu => k5 y hy u hu).one
  rcases hex with h | h <;> rw [h] <;> exact key

theorem rounds_mono {F : Fence} {P : Program} {c : Code} {Q Q' : Exit → Act → World → Prop} (h : ∀ e a w, Q e a w → Q' e a w) : ∀ {m : Nat} {a : Act} {w : World}, Code.roundsIn F 0 P c Q m a w → Code.roundsIn F 0 P c Q' m a w
  | 0, _, _, hr => hr
  | m + 1, a, w, hr => wpIn_mono hr fun e a w he => by
      cases e with
      | normal => exact rounds_mono h he
      | _ => exact h _ _ _ he

theorem jumps_mono {F : Fence} {P : Program} {whole : Code} {Q Q' : Exit → Act → World → Prop} (h : ∀ e a w, Q e a w → Q' e a w) : ∀ {m : Nat} {c : Code} {a : Act} {w : World}, jumpsIn F 0 P whole Q m c a w → jumpsIn F 0 P whole Q' m c a w
  | 0, _, _, _, hr => hr
  | m + 1, c, a, w, hr => wpIn_mono hr fun e a w he => by
      cases e with
      | goto l =>
        simp only [Exit.leaps] at he ⊢
        split
        · rename_i rest hf; rw [hf] at he; exact jumps_mono h he
        · rename_i hf; rw [hf] at he; exact h _ _ _ he
      | _ => exact h _ _ _ he

theorem Goes.mono {P : Program} {w : World} {fv : Value} {vs : Array Value} {R R' : Value → World → Prop} (h : Goes P w fv vs R) (hR : ∀ v w', R v w' → R' v w') : Goes P w fv vs R' := by
  rcases h with ⟨g, arr, h1, h2, h3⟩ | ⟨l, fn, tmps, asg, body, h1, h2, h3⟩
  · exact .inl ⟨g, arr, h1, h2, h3.mono (by rintro e w' ⟨u, rfl, hu⟩; exact ⟨u, rfl, hR u w' hu⟩)⟩
  · exact .inr ⟨l, fn, tmps, asg, body, h1, h2, h3.mono (by rintro e w' ⟨u, rfl, hu⟩; exact ⟨u, rfl, hR u w' hu⟩)⟩

theorem noL {lp : List (Option LRec)} {i : Nat} {r : LRec} (h : (lp.map fun _ => (none : Option LRec))[i]? = some (some r)) : False := by
  rw [List.getElem?_map] at h
  cases hli : lp[i]? with
  | none => rw [hli] at h; simp at h
  | some o => rw [hli] at h; simp at h

theorem StRel.hideL {P : Program} {c : Cx} {st : St} {lp : List (Option LRec)} (s : StRel P c st lp) : StRel P c st (lp.map fun _ => none) :=
  ⟨s.h, by rw [List.length_map]; exact s.m, s.pd, fun i r h => (noL h).elim, s.all, s.inj⟩

/-- What leaves all that there was as it was, and no loop open, may be taken back to where it came from. -/
theorem res_back {P : Program} {c : Cx} {st s1 : St} {lp : List (Option LRec)} {wp : Nat} {x : AV} {v : Value} {w' : World} (s0 : StRel P c st lp) (h : Res P c st s1 (lp.map fun _ => none) st.h.length x v w') (hl : s1.h.length = st.h.length) : Res P c st st lp wp x v w' := by
  obtain ⟨c', hw, n1, r1, x1, hv⟩ := h
  have hg : ∀ l, getO st.h l = getO s1.h l := by
    intro l
    rcases Nat.lt_or_ge l st.h.length with h1 | h1
    · exact (x1.pre l h1 h1).symm
    · unfold getO; rw [List.getElem?_eq_none h1, List.getElem?_eq_none (by omega)]
  have hO : ∀ b, Own c st.h (lp.map fun _ => none) b → OwnH c st.h b := by
    rintro b (h | ⟨i, r, h, _⟩)
    · exact h
    · exact (noL h).elim
  have hL : ∀ i, i < c.M → c'.w.heap[c.lm i]? = c.w.heap[c.lm i]? := by
    intro i hi
    obtain ⟨L, hL⟩ := s0.all i hi
    refine x1.blk _ (Array.getElem?_eq_some_iff.1 hL).1 fun h => ?_
    obtain ⟨l, o, h1, h2⟩ := hO _ h
    cases o with
    | cells cs =>
      obtain ⟨_, b, arr, T, g1, g2, _⟩ := s0.h.box l cs h1
      rw [g1] at h2; simp only [Gh.own, Option.some.injEq] at h2; subst h2
      rw [hL] at g2; cases g2
    | map es => exact absurd h1 (s0.h.nomap l es)
    | tok e k =>
      obtain ⟨_, base, cap, g1, _, g3⟩ := s0.h.tok l e k h1
      rw [g1] at h2; simp only [Gh.own] at h2
      split at h2
      · rename_i hlt
        obtain ⟨b, o, arr, T, g4, g5, _⟩ := g3 hlt
        rw [g4] at h2; simp only [Option.map_some, Option.some.injEq] at h2; subst h2
        rw [hL] at g5; cases g5
      · cases h2
  refine ⟨c', hw, by rw [n1, hl], ⟨r1.h.congr hg, by rw [x1.m]; exact s0.m, by rw [x1.m]; exact s0.pd, fun i r hi => ?_, r1.all, r1.inj⟩, ?_, hv⟩
  · obtain ⟨p, g1, g2, g3⟩ := s0.rcd i r hi
    have hM : i < c.M := by rw [← s0.m]; exact (List.getElem?_eq_some_iff.1 hi).1
    refine ⟨p, g1, ?_, ?_⟩
    · rw [x1.lm i hM, x1.lc i hM, hL i hM]; exact g2
    · rw [x1.lc i hM]; exact ⟨g3.ps, g3.psb, g3.asg, g3.body, g3.env.mono x1.cx⟩
  · refine ⟨x1.keeps, x1.gh, x1.n, x1.m, x1.lm, x1.lc, fun b hb hno => x1.blk b hb fun h => hno (.inl (hO b h)), x1.size, ?_, x1.os, x1.tape, x1.output, fun _ _ _ => rfl, Nat.le_refl _, fun l h1 h2 h3 => ?_, fun b z hz => ?_, fun _ _ => rfl⟩
    · rintro b (⟨l, o, h1, h2⟩ | ⟨i, r, h1, h2⟩)
      · rcases x1.own b (.inl ⟨l, o, by rw [← hg]; exact h1, h2⟩) with h | h
        · exact .inl (.inl (hO b h))
        · exact .inr h
      · have hM : i < c.M := by rw [← s0.m]; exact (List.getElem?_eq_some_iff.1 h1).1
        rw [x1.lm i hM] at h2
        exact .inl (.inr ⟨i, r, h1, h2⟩)
    · obtain ⟨g1, g2⟩ := x1.dead l h1 h2 h3
      exact ⟨g1, h2⟩
    · rcases x1.sx b z hz with h | h | h
      · exact .inl h
      · exact .inr (.inl (.inl (hO b h)))
      · exact .inr (.inr h)

theorem all_sound {P : Program} {T : Tbl} (hT : TblOK P T) : ∀ n, CodeOK P T n ∧ ScopeOK P T n ∧ LoopOK P T n ∧ CallOK P T n := by
  intro n
  induction n with
  | zero =>
    refine ⟨fun rd cc env st ex env' st' h => ?_, fun rd keep whole cc env st ex env' st' h => ?_, fun rd keep b env st ex env' st' h => ?_, fun rd fv args st x st' h => ?_⟩ <;> simp [evCode, evScope, evCall] at h
  | succ n ih =>
    obtain ⟨hcode, hscope, hloop, hcall⟩ := ih
    have hloop1 : LoopOK P T (n + 1) := by
      intro rd keep b env st ex env' st' hev nt code hk B c a ro p
      rw [evCode] at hev
      rw [roundsIn_succ]
      split at hev
      · rename_i env1 st1 h1
        refine wpIn_mono (hcode _ _ _ _ _ _ _ h1 _ _ hk _ _ _ _ p) ?_
        rintro e a1 w1 ⟨rfl, c1, rfl, n1, s1, x1, he1, hz1, hd1⟩
        obtain ⟨c2, g1, g2, g3⟩ := p.gc n1 s1 x1 he1 hz1 hd1 keep
        have := hloop _ _ _ _ _ _ _ _ hev _ _ hk _ _ _ _ g2
        rw [← g1]
        exact rounds_mono (fun e a w h => CPost.trans g3 h) this
      · rename_i hne
        refine wpIn_mono (hcode _ _ _ _ _ _ _ hev _ _ hk _ _ _ _ p) ?_
        intro e a1 w1 h
        have := h.1
        subst this
        cases ex with
        | nm => exact absurd hev (hne env' st')
        | _ => exact h
    refine ⟨?_, ?_, hloop1, ?_⟩
    · -- code
      intro rd cc env st ex env' st' hev nt code hk B c a ro p
      cases cc with
      | skip =>
        rw [evCode] at hev; cases hev
        unfold chkCode at hk; split at hk <;> first | (cases hk; done) | skip
        all_goals first | (rename_i hq; cases hq; done) | skip
        exact wpIn_skip ⟨rfl, c, rfl, p.N, p.s, .refl _ _ _ _, p.he, p.hz, p.hd⟩
      | label l =>
        rw [evCode] at hev; cases hev
        unfold chkCode at hk; split at hk <;> first | (cases hk; done) | skip
        all_goals first | (rename_i hq; cases hq; done) | skip
        exact wpIn_label ⟨rfl, c, rfl, p.N, p.s, .refl _ _ _ _, p.he, p.hz, p.hd⟩
      | exit id =>
        rw [evCode] at hev; cases hev
        unfold chkCode at hk; split at hk <;> first | (cases hk; done) | skip
        all_goals first | (rename_i hq; cases hq; done) | skip
        rename_i hq; cases hq
        simp only [beq_iff_eq] at hk; subst hk
        exact wpIn_exit ⟨rfl, c, rfl, p.N, p.s, .refl _ _ _ _, p.he, p.hz, p.hd⟩
      | goto l =>
        rw [evCode] at hev; cases hev
        unfold chkCode at hk; split at hk <;> first | (cases hk; done) | skip
        all_goals first | (rename_i hq; cases hq; done) | skip
        rename_i hq; cases hq
        simp only [beq_iff_eq] at hk; subst hk
        exact wpIn_goto ⟨rfl, c, rfl, p.N, p.s, .refl _ _ _ _, p.he, p.hz, p.hd⟩
      | ret =>
        rw [evCode] at hev; cases hev
        unfold chkCode at hk; split at hk <;> first | (cases hk; done) | skip
        all_goals first | (rename_i hq; cases hq; done) | skip
        exact wpIn_ret ⟨rfl, c, rfl, p.N, p.s, .refl _ _ _ _, p.he, p.hz, p.hd⟩
      | bad => rw [evCode] at hev; cases hev
      | seq x y =>
        unfold chkCode at hk; split at hk <;> first | (cases hk; done) | skip
        all_goals first | (rename_i hq; cases hq; done) | skip
        rename_i ca cb xa xb hq; cases hq
        simp only [Bool.and_eq_true] at hk
        rw [evCode] at hev
        refine wpIn_seq ?_
        split at hev
        · rename_i env1 st1 h1
          refine wpIn_mono (hcode _ _ _ _ _ _ _ h1 _ _ hk.1 _ _ _ _ p) ?_
          rintro e a1 w1 ⟨rfl, c1, rfl, n1, s1, x1, he1, hz1, hd1⟩
          have := hcode _ _ _ _ _ _ _ hev _ _ hk.2 _ _ _ _ (p.next n1 s1 x1 he1 hz1 hd1)
          exact wpIn_mono this fun e a w h => CPost.trans x1 h
        · rename_i hne
          refine wpIn_mono (hcode _ _ _ _ _ _ _ hev _ _ hk.1 _ _ _ _ p) ?_
          intro e a1 w1 h
          have := h.1
          subst this
          cases ex with
          | nm => exact absurd hev (hne env' st')
          | _ => exact h
      | cond x ca cb =>
        unfold chkCode at hk; split at hk <;> first | (cases hk; done) | skip
        all_goals first | (rename_i hq; cases hq; done) | skip
        rename_i c0 k1 k2 x0 xa xb hq; cases hq
        simp only [Bool.and_eq_true] at hk
        rw [evCode] at hev
        split at hev
        · rename_i t ht
          have hb := (chkX_sound hk.1.1 p.he ht).inv_bool
          refine wpIn_cond hb ?_
          cases t with
          | true => exact hcode _ _ _ _ _ _ _ hev _ _ hk.1.2 _ _ _ _ p
          | false => exact hcode _ _ _ _ _ _ _ hev _ _ hk.2 _ _ _ _ p
        · cases hev
      | block id cb =>
        unfold chkCode at hk; split at hk <;> first | (cases hk; done) | skip
        all_goals first | (rename_i hq; cases hq; done) | skip
        rename_i id' k1 id'' xb hq; cases hq
        simp only [Bool.and_eq_true, beq_iff_eq] at hk
        obtain ⟨rfl, hk⟩ := hk
        rw [evCode] at hev
        refine wpIn_block ?_
        split at hev
        · rename_i id2 env1 st1 h1
          refine wpIn_mono (hcode _ _ _ _ _ _ _ h1 _ _ hk _ _ _ _ p) ?_
          intro e a1 w1 h
          have := h.1
          subst this
          simp only [exRel, Exit.inBlock]
          split at hev
          · rename_i hid; cases hev
            rw [if_pos hid]
            exact ⟨rfl, h.2⟩
          · rename_i hid; cases hev
            rw [if_neg hid]
            exact h
        · rename_i hne
          refine wpIn_mono (hcode _ _ _ _ _ _ _ hev _ _ hk _ _ _ _ p) ?_
          intro e a1 w1 h
          have := h.1
          subst this
          cases ex with
          | ex id => exact absurd hev (hne id env' st')
          | _ => exact h
      | loop keep cb =>
        unfold chkCode at hk; split at hk <;> first | (cases hk; done) | skip
        all_goals first | (rename_i hq; cases hq; done) | skip
        rename_i k1 kp xb hq; cases hq
        exact wpIn_loop_rounds (n + 1) (hloop1 _ _ _ _ _ _ _ _ hev _ _ hk _ _ _ _ p)
      | scope keep cb =>
        unfold chkCode at hk; split at hk <;> first | (cases hk; done) | skip
        all_goals first | (rename_i hq; cases hq; done) | skip
        rename_i k1 kp xb hq; cases hq
        rw [evCode] at hev
        exact wpIn_scope_jumps n (hscope _ _ _ _ _ _ _ _ _ hev _ _ _ hk hk _ _ _ _ p)
      | range x ps ca cb =>
        unfold chkCode at hk; split at hk <;> first | (cases hk; done) | skip
        all_goals first | (rename_i hq; cases hq; done) | skip
        rename_i f0 ps0 as0 b0 x0 ps1 xa xb hq; cases hq
        simp only [Bool.and_eq_true, beq_iff_eq, List.all_eq_true, decide_eq_true_eq] at hk
        obtain ⟨⟨⟨⟨k1, rfl⟩, k3⟩, k4⟩, k5⟩ := hk
        rw [evCode] at hev
        split at hev
        · rename_i g caps hx
          split at hev
          · rename_i v st1 hc
            split at hev
            · rename_i hlow
              split at hev
              · rename_i hq2; cases hev
                exact range_sound hcall p k1 k3 k4 k5 hx hc hlow hq2
              · rename_i e hq2; cases hev
                exact range_sound hcall p k1 k3 k4 k5 hx hc hlow hq2
              · cases hev
            · cases hev
          · cases hev
        · cases hev
      | reg cops =>
        unfold chkCode at hk; split at hk <;> first | (cases hk; done) | skip
        all_goals first | (rename_i hq; cases hq; done) | skip
        rename_i id ops cops' hq; cases hq
        rw [evCode] at hev
        split at hev
        · rename_i env1 st1 h1
          cases hev
          exact reg_sound hcall hk h1 p.s p.N p.wp p.he p.hz ro _ fun c' a' g1 g2 g3 g4 g5 g6 => ⟨rfl, c', rfl, g2, g1, g3, g4, g5, by rw [g6]; exact p.hd.ext g3 p.s⟩
        · cases hev
      | dreg pre suf =>
        unfold chkCode at hk; split at hk <;> first | (cases hk; done) | skip
        all_goals first | (rename_i hq; cases hq; done) | skip
        rename_i id ops pre' suf' hq; cases hq
        simp only [Bool.and_eq_true] at hk
        rw [evCode] at hev
        split at hev
        · rename_i env1 h1 hpre
          split at hev
          · rename_i env2 st2 hsuf
            cases hev
            exact dreg_sound (hP := fun _ => st.h) hcall hk.1.1.1 hk.1.1.2 hk.1.2 hk.2 (fun _ => rfl) (fun _ _ _ h => h) (fun _ _ _ _ _ _ _ _ h => .inl h) hpre hsuf p.s p.N p.wp p.he p.hz ro _ fun c' a' g1 g2 g3 g4 g5 g6 => ⟨rfl, c', rfl, g2, g1, g3, g4, g5, by rw [g6]; exact p.hd.ext g3 p.s⟩
          · cases hev
        · cases hev
      | sreg er f pre suf =>
        unfold chkCode at hk; split at hk <;> first | (cases hk; done) | skip
        all_goals first | (rename_i hq; cases hq; done) | skip
        rename_i id ops er' f' pre' suf' hq; cases hq
        simp only [Bool.and_eq_true] at hk
        rw [evCode] at hev
        split at hev
        · rename_i env1 h1 hpre
          split at hev
          · rename_i env2 st2 hsuf
            cases hev
            exact dreg_sound (hP := hideF f st.h (eraseB env er st.h)) hcall hk.1.1.1.1 hk.1.1.1.2 hk.1.1.2 hk.1.2 (hideF_len (eraseB_length _ _ _)) (hideF_sub (eraseB_sub _ _ _)) (hideF_vis (eraseB_sub _ _ _) hk.2) hpre hsuf p.s p.N p.wp p.he p.hz ro _ fun c' a' g1 g2 g3 g4 g5 g6 => ⟨rfl, c', rfl, g2, g1, g3, g4, g5, by rw [g6]; exact p.hd.ext g3 p.s⟩
          · cases hev
        · cases hev
    · -- scopes
      intro rd keep whole cc env st ex env' st' hev nt wcode code hwk hk B c a ro p
      rw [evScope] at hev
      show code.wpIn _ _ _ _ _ _
      split at hev
      · rename_i l env1 st1 h1
        refine wpIn_mono (hcode _ _ _ _ _ _ _ h1 _ _ hk _ _ _ _ p) ?_
        rintro e a1 w1 ⟨rfl, c1, rfl, n1, s1, x1, he1, hz1, hd1⟩
        have hfl := findL_sound hwk l
        split at hev
        · rename_i rest hr
          rw [hr] at hfl
          obtain ⟨rcode, g1, g2⟩ := hfl
          simp only [exRel, Exit.leaps, g1]
          obtain ⟨c2, k1, k2, k3⟩ := p.gc n1 s1 x1 he1 hz1 hd1 keep
          have := hscope _ _ _ _ _ _ _ _ _ hev _ _ _ hwk g2 _ _ _ _ k2
          rw [← k1]
          exact jumps_mono (fun e a w h => CPost.trans k3 h) this
        · rename_i hr
          rw [hr] at hfl
          simp only [exRel, Exit.leaps, hfl]
          cases hev
          exact ⟨rfl, c1, rfl, n1, s1, x1, he1, hz1, hd1⟩
      · rename_i hne
        refine wpIn_mono (hcode _ _ _ _ _ _ _ hev _ _ hk _ _ _ _ p) ?_
        intro e a1 w1 h
        have := h.1
        subst this
        cases ex with
        | gt l => exact absurd hev (hne l env' st')
        | _ => exact h
    · -- calls
      intro rd fv args st x st' hev c fvv vs s hN hwp hv hz ha
      cases hrq : refine? T fv args with
      | true =>
        obtain ⟨f, x0, rfl, rfl, hE⟩ : ∃ f x0, fv = .fn f [] ∧ args = [x0] ∧ x0.isE = true := by
          unfold refine? at hrq
          split at hrq
          · rename_i f x0
            simp only [Bool.and_eq_true] at hrq
            exact ⟨f, x0, rfl, rfl, hrq.1.1⟩
          · cases hrq
        simp only [evCall, hrq, cond_true] at hev
        split at hev
        · rename_i s1 s2 h1 h2
          split at hev
          · rename_i hss
            cases hev
            have h0 : 0 < vs.size := by rw [hz]; exact Nat.zero_lt_one
            have hv0 := ha 0 x0 vs[0] rfl (Array.getElem?_eq_getElem h0)
            obtain ⟨base, cap, hve⟩ : ∃ base cap, vs[0] = .slice base 0 cap := by
              unfold AV.isE at hE
              split at hE
              · obtain ⟨b, cap, h⟩ := hv0.inv_sl.slice_len; exact ⟨b, cap, h⟩
              · obtain ⟨b, h⟩ := hv0.inv_nils; exact ⟨b, 0, h⟩
              · obtain ⟨b, cap, h⟩ := hv0.inv_ws.1.slice_len; exact ⟨b, cap, h⟩
              · cases hE
            have hrel : ∀ (j : Nat) y v, [AV.emp base.isNone][j]? = some y → vs[j]? = some v → VRel c y v := by
              intro j y v hy hv'
              cases j with
              | zero =>
                simp only [List.getElem?_cons_zero, Option.some.injEq] at hy
                rw [Array.getElem?_eq_getElem h0, Option.some.injEq] at hv'
                subst hy; subst hv'
                rw [hve]; exact .emp
              | succ j => simp at hy
            have s' := s.hideL
            cases hb : base.isNone with
            | true => rw [hb] at hrel; exact (hcall _ _ _ _ _ _ h1 c fvv vs s' hN (Nat.le_refl _) hv hz hrel).mono fun v w' h => res_back s h hss.1
            | false => rw [hb] at hrel; exact (hcall _ _ _ _ _ _ h2 c fvv vs s' hN (Nat.le_refl _) hv hz hrel).mono fun v w' h => res_back s h hss.2
          · cases hev
        · cases hev
      | false =>
        cases fv
        case fn f caps =>
          simp only [evCall, hrq, cond_false] at hev
          obtain ⟨arr, rfl, har, hcr⟩ := hv.inv_fn
          split at hev
          · rename_i F hF
            have hp := hT.orc f F hF
            split at hev
            · rename_i dvs hd
              split at hev
              · rename_i rs hrs
                split at hev
                · rename_i ht
                  cases hev
                  have : arr = #[] := by simpa using har
                  subst this
                  refine .inl ⟨f, #[], rfl, hp.enter, ?_⟩
                  rw [Array.append_empty]
                  exact orc_call hp s hN hd hrs ht hz ha
                · cases hev
              · cases hev
            · cases hev
          · rename_i hno
            split at hev
            · rename_i cf hcf
              have hck := hT.code f cf hno hcf
              obtain ⟨_, _, _, _, _, _, _, _, hent⟩ := chkFun_enter hck
              split at hev
              · rename_i hlen
                split at hev
                · rename_i e env1 st1 h1
                  have hxz : (vs ++ arr).size = (args ++ caps).length := by simp [hz, har]
                  have hxr : ∀ (j : Nat) y v, (args ++ caps)[j]? = some y → (vs ++ arr)[j]? = some v → VRel c y v := by
                    intro j y v hy hv'
                    rcases Nat.lt_or_ge j args.length with h | h
                    · rw [List.getElem?_append_left h] at hy
                      rw [Array.getElem?_append_left (by omega)] at hv'
                      exact ha j y v hy hv'
                    · rw [List.getElem?_append_right h] at hy
                      rw [Array.getElem?_append_right (by omega), hz] at hv'
                      exact hcr _ y v hy hv'
                  split at hev
                  · split at hev
                    · rename_i xs hres
                      cases hev
                      exact .inl ⟨f, arr, rfl, hent, fun_sound hcode hck s hN hwp hlen h1 (.inl rfl) hres hxz hxr⟩
                    · cases hev
                  · split at hev
                    · rename_i xs hres
                      cases hev
                      exact .inl ⟨f, arr, rfl, hent, fun_sound hcode hck s hN hwp hlen h1 (.inr rfl) hres hxz hxr⟩
                    · cases hev
                  · cases hev
                · cases hev
              · cases hev
            · cases hev
        case yld i =>
          simp only [evCall, hrq, cond_false] at hev
          obtain ⟨rfl, hM⟩ := hv.inv_yld
          split at hev
          · rename_i r hi hpd
            split at hev
            · rename_i hal
              split at hev
              · rename_i env1 st1 h1
                split at hev
                · rename_i env2 st2 h2
                  cases hev
                  exact yld_sound hcode s hN hwp hi hpd hal h1 h2 hz ha rfl (fun h => h) (fun _ _ => rfl)
                · rename_i e env2 st2 hne h2
                  cases hev
                  have hj : jumpOf e = some e := by cases e <;> first | rfl | exact absurd rfl hne
                  have := yld_sound hcode s hN hwp hi hpd hal h1 h2 hz ha (pd' := st2.pd.set i (some e)) (by simp) (fun h => by rw [hj]; exact List.getElem?_set_self (List.getElem?_eq_some_iff.1 h).1) (fun j hj => List.getElem?_set_ne (Ne.symm hj))
                  rw [hj] at this
                  exact this
                · cases hev
              · cases hev
            · cases hev
          · cases hev
        all_goals (simp [evCall, hrq] at hev)
end Go.Proofs.YtfifgiopdbdeoaaDoor.Lite
namespace Go.Proofs.YtfifgiopdbdeoaaDoor.Lite
open Go Go.RowKit

def CLe (f g : Caller) : Prop := ∀ fv args st r, f fv args st = some r → g fv args st = some r

theorem evOp_mono {f g : Caller} (h : CLe f g) {wp : Nat} {o : COp} {env : Env} {st : St} {r : Env × St} (he : evOp f wp o env st = some r) : evOp g wp o env st = some r := by
  unfold evOp at he ⊢
  split at he
  · rename_i hw
    try simp only [hw]
    split at he
    · split at he
      · rename_i fv vs h1 h2
        try simp only [h1, h2]
        split at he
        · rename_i v st' h3
          rw [h _ _ _ _ h3]; exact he
        · cases he
      · cases he
    · rename_i k hk
      split at he
      · rename_i v h2 h3
        exact he
      · cases he
  · rename_i hw; (try simp only [hw]); exact he
  · cases he

theorem evOps_mono {f g : Caller} (h : CLe f g) {wp : Nat} : ∀ {os : List COp} {env : Env} {st : St} {r : Env × St}, evOps f wp os env st = some r → evOps g wp os env st = some r
  | [], _, _, _, he => he
  | o :: os, env, st, r, he => by
    simp only [evOps] at he ⊢
    split at he
    · rename_i env' st' h1
      rw [evOp_mono h h1]
      exact evOps_mono h he
    · cases he

theorem preStep_mono {f g : Caller} (h : CLe f g) {h0 : Heap} {wp p : Nat} {o : COp} {env : Env} {hp : Heap} {pd : List (Option Ex)} {r : AV × Heap} (he : preStep f h0 wp p o env hp pd = some r) : preStep g h0 wp p o env hp pd = some r := by
  unfold preStep at he ⊢
  split at he
  · rename_i hw
    try simp only [hw]
    split at he
    · rename_i f' a' hk
      try simp only [hk]
      split at he
      · rename_i fv vs h1 h2
        try simp only [h1, h2]
        split at he
        · rename_i hl
          try rw [if_pos hl]
          split at he
          · rename_i v st' h3
            rw [h _ _ _ _ h3]; exact he
          · cases he
        · cases he
      · cases he
    · rename_i n x y hk
      try simp only [hk]
      exact he
    · cases he
    · rename_i k hk1 hk2 hk3
      exact he
  · rename_i hw; (try simp only [hw]); exact he
  · cases he

theorem evPre_mono {f g : Caller} (h : CLe f g) {h0 : Nat → Heap} {wp : Nat} : ∀ {os : List COp} {p : Nat} {env : Env} {hp : Heap} {pd : List (Option Ex)} {r : Env × Heap}, evPre f h0 wp p os env hp pd = some r → evPre g h0 wp p os env hp pd = some r
  | [], _, _, _, _, _, he => he
  | o :: os, p, env, hp, pd, r, he => by
    simp only [evPre] at he ⊢
    split at he
    · rename_i v h' h1
      rw [preStep_mono h h1]
      exact evPre_mono h he
    · cases he

structure Mono (T : Tbl) (n : Nat) : Prop where
  code : ∀ rd c env st r, evCode T n rd c env st = some r → evCode T (n + 1) rd c env st = some r
  scope : ∀ rd keep whole c env st r, evScope T n rd keep whole c env st = some r → evScope T (n + 1) rd keep whole c env st = some r
  call : ∀ rd, CLe (evCall T n rd) (evCall T (n + 1) rd)

theorem mono (T : Tbl) : ∀ n, Mono T n := by
  intro n
  induction n with
  | zero => exact ⟨fun rd c env st r h => by simp [evCode] at h, fun rd k w c env st r h => by simp [evScope] at h, fun rd fv args st r h => by simp [evCall] at h⟩
  | succ n ih =>
    refine ⟨fun rd c env st r h => ?_, fun rd keep whole c env st r h => ?_, fun rd fv args st r h => ?_⟩
    · cases c with
      | skip => exact h
      | label l => exact h
      | exit l => exact h
      | goto l => exact h
      | ret => exact h
      | bad => rw [evCode] at h; cases h
      | seq a b =>
        rw [evCode] at h ⊢
        split at h
        · rename_i env' st' h1
          rw [ih.code _ _ _ _ _ h1]
          exact ih.code _ _ _ _ _ h
        · rename_i hne
          rw [ih.code _ _ _ _ _ h]
          obtain ⟨e, env', st'⟩ := r
          cases e with
          | nm => exact absurd h (hne env' st')
          | _ => rfl
      | cond x a b =>
        rw [evCode] at h ⊢
        split at h
        · rename_i t ht
          try simp only [ht]
          cases t
          · exact ih.code _ _ _ _ _ h
          · exact ih.code _ _ _ _ _ h
        · cases h
      | block id b =>
        rw [evCode] at h ⊢
        split at h
        · rename_i id' env' st' h1
          rw [ih.code _ _ _ _ _ h1]; exact h
        · rename_i hne
          rw [ih.code _ _ _ _ _ h]
          obtain ⟨e, env', st'⟩ := r
          cases e with
          | ex id' => exact absurd h (hne id' env' st')
          | _ => rfl
      | loop keep b =>
        rw [evCode] at h ⊢
        split at h
        · rename_i env' st' h1
          rw [ih.code _ _ _ _ _ h1]
          exact ih.code _ _ _ _ _ h
        · rename_i hne
          rw [ih.code _ _ _ _ _ h]
          obtain ⟨e, env', st'⟩ := r
          cases e with
          | nm => exact absurd h (hne env' st')
          | _ => rfl
      | scope keep b =>
        rw [evCode] at h ⊢
        exact ih.scope _ _ _ _ _ _ _ h
      | range f ps asg b =>
        rw [evCode] at h ⊢
        split at h
        · rename_i g caps hx
          try simp only [hx]
          split at h
          · rename_i v st' h1
            rw [ih.call _ _ _ _ _ h1]; exact h
          · cases h
        · cases h
      | reg ops =>
        rw [evCode] at h ⊢
        split at h
        · rename_i env' st' h1
          rw [evOps_mono (ih.call rd) h1]; exact h
        · cases h
      | dreg pre suf =>
        rw [evCode] at h ⊢
        split at h
        · rename_i env' h' h1
          rw [evPre_mono (ih.call _) h1]
          simp only
          split at h
          · rename_i env2 st2 h2
            rw [evOps_mono (ih.call rd) h2]; exact h
          · cases h
        · cases h
      | sreg er f' pre suf =>
        rw [evCode] at h ⊢
        split at h
        · rename_i env' h' h1
          rw [evPre_mono (ih.call _) h1]
          simp only
          split at h
          · rename_i env2 st2 h2
            rw [evOps_mono (ih.call rd) h2]; exact h
          · cases h
        · cases h
    · rw [evScope] at h ⊢
      split at h
      · rename_i l env' st' h1
        rw [ih.code _ _ _ _ _ h1]
        simp only
        split at h
        · rename_i rest hr
          try simp only [hr]
          exact ih.scope _ _ _ _ _ _ _ h
        · rename_i hr; (try simp only [hr]); exact h
      · rename_i hne
        rw [ih.code _ _ _ _ _ h]
        obtain ⟨e, env', st'⟩ := r
        cases e with
        | gt l => exact absurd h (hne l env' st')
        | _ => rfl
    · cases hrq : refine? T fv args with
      | true =>
        obtain ⟨f, x0, rfl, rfl⟩ : ∃ f x0, fv = .fn f [] ∧ args = [x0] := by
          unfold refine? at hrq
          split at hrq
          · rename_i f x0; exact ⟨f, x0, rfl, rfl⟩
          · cases hrq
        rw [evCall, hrq, cond_true] at h ⊢
        split at h
        · rename_i s1 s2 h1 h2
          rw [ih.call _ _ _ _ _ h1, ih.call _ _ _ _ _ h2]; exact h
        · cases h
      | false =>
        cases fv
        case fn f caps =>
          simp only [evCall, hrq, cond_false] at h ⊢
          split at h
          · exact h
          · split at h
            · rename_i cf hcf
              split at h
              · rename_i hl
                try rw [if_pos hl]
                split at h
                · rename_i e env st' h1
                  rw [ih.code _ _ _ _ _ h1]; exact h
                · cases h
              · cases h
            · cases h
        case yld i =>
          simp only [evCall, hrq, cond_false] at h ⊢
          split at h
          · rename_i r' hi hpd
            split at h
            · rename_i hl
              try rw [if_pos hl]
              split at h
              · rename_i env st' h1
                rw [ih.code _ _ _ _ _ h1]
                simp only
                split at h
                · rename_i env2 st2 h2
                  rw [ih.code _ _ _ _ _ h2]; exact h
                · rename_i e env2 st2 hne h2
                  rw [ih.code _ _ _ _ _ h2]
                  cases e with
                  | nm => exact absurd rfl hne
                  | _ => exact h
                · cases h
              · cases h
            · cases h
          · cases h
        all_goals (simp [evCall, hrq] at h)

theorem code_mono {T : Tbl} {n m : Nat} (h : n ≤ m) {rd : Rd} {c : CCode} {env : Env} {st : St} {r : Ex × Env × St} (he : evCode T n rd c env st = some r) : evCode T m rd c env st = some r := by
  induction h with
  | refl => exact he
  | step _ ih => exact (mono T _).code _ _ _ _ _ ih
theorem scope_mono {T : Tbl} {n m : Nat} (h : n ≤ m) {rd : Rd} {keep : List Nat} {whole c : CCode} {env : Env} {st : St} {r : Ex × Env × St} (he : evScope T n rd keep whole c env st = some r) : evScope T m rd keep whole c env st = some r := by
  induction h with
  | refl => exact he
  | step _ ih => exact (mono T _).scope _ _ _ _ _ _ _ ih
theorem call_mono {T : Tbl} {n m : Nat} (h : n ≤ m) {rd : Rd} : CLe (evCall T n rd) (evCall T m rd) := by
  induction h with
  | refl => exact fun _ _ _ _ he => he
  | step _ ih => exact fun _ _ _ _ he => (mono T _).call _ _ _ _ _ (ih _ _ _ _ he)
end Go.Proofs.YtfifgiopdbdeoaaDoor.Lite
