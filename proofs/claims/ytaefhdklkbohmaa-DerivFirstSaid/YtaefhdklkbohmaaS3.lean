/- A part of the proof: E3, E4, F1, F2, F3, F4, F5, F6, F7, F8, F9, F10, F11, F12, P1, P2. No condition. -/
import Derived.Test.YtaefhdklkbohmaaS2
import Derived.Test.YtaefhdklkbohmaaProg
import Derived.KernelRfl
set_option linter.unusedSimpArgs false
set_option linter.unusedVariables false
set_option linter.unusedSectionVars false
/- Compact code of the functions, and that it is what the program has. Printed by ac.py. -/
namespace Go.Proofs.Ytaefhdklkbohmaa
open Go Go.RowKit
/-! bosket/bosketlaw05.DerivThrough -/
def c3R0 : AC :=
  .reg false [{ dst := some 4, op := .box (.tmp 1) },
    { dst := some 6, op := .pure (.mv (.const (.bool false))) }]
def c3R1 : AC :=
  .reg false [{ dst := some 11, op := .call false 8 [] },
    { dst := some 12, op := .pure (.not (.tmp 11)) }]
def c3R2 : AC :=
  .reg false [{ dst := some 6, op := .pure (.mv (.const (.bool false))) }]
def c3P1 : AC := .seq c3R2 .ret
def c3P2 : AC := .cond (.tmp 12) c3P1 .skip
def c3P3 : AC := .seq c3R1 c3P2
def c3R3 : AC :=
  .reg true [{ dst := some 13, op := .pure (.aadr 1 2 .i64 (.tmp 4) (.const (.int .i64 0))), unk := [15, 16], tch := some [13] },
    { dst := some 14, op := .pure (.load 1 false (.tmp 13)), unk := [15, 16], tch := some [14] },
    { dst := some 15, op := .pure (.aadr 1 2 .i64 (.tmp 4) (.const (.int .i64 1))), unk := [7, 13, 14], tch := some [15] },
    { dst := some 16, op := .pure (.load 1 false (.tmp 15)), unk := [7, 13, 14], tch := some [16] },
    { dst := some 7, op := .pure (.mv (.tmp 14)), unk := [15, 16], tch := some [7] },
    { dst := some 8, op := .pure (.mv (.tmp 16)), tch := some [8] }]
def c3R4 : AC :=
  .reg false [{ dst := some 17, op := .pure (.mv (.tmp 0)) },
    { dst := some 18, op := .pure (.len 5 (.tmp 17)) },
    { dst := some 19, op := .pure (.bin .gtr .i64 (.tmp 18) (.const (.int .i64 30))) },
    { dst := some 20, op := .pure (.mv (.tmp 19)) },
    { dst := some 21, op := .pure (.mv (.tmp 7)), g := some (20, false) },
    { dst := some 22, op := .pure (.lenS (.tmp 21)), g := some (20, false) },
    { dst := some 23, op := .pure (.bin .gtr .i64 (.tmp 22) (.const (.int .i64 6))), g := some (20, false) },
    { dst := some 24, op := .pure (.pick (.tmp 20) (.const (.bool true)) (.tmp 23)) },
    { dst := some 25, op := .pure (.mv (.tmp 24)) },
    { dst := some 26, op := .pure (.mv (.tmp 8)), g := some (25, false) },
    { dst := some 27, op := .pure (.lenS (.tmp 26)), g := some (25, false) },
    { dst := some 28, op := .pure (.bin .gtr .i64 (.tmp 27) (.const (.int .i64 6))), g := some (25, false) },
    { dst := some 29, op := .pure (.pick (.tmp 25) (.const (.bool true)) (.tmp 28)) }]
def c3R5 : AC :=
  .reg false [{ dst := some 6, op := .pure (.mv (.const (.bool true))) }]
def c3P4 : AC := .seq c3R5 .ret
def c3P5 : AC := .cond (.tmp 29) c3P4 .skip
def c3P6 : AC := .seq c3R4 c3P5
def c3R6 : AC :=
  .reg false [{ dst := some 31, op := .pure (.mv (.tmp 0)) },
    { dst := some 32, op := .pure (.mv (.tmp 7)) },
    { dst := some 33, op := .pure (.mv (.tmp 2)) },
    { dst := some 34, op := .pure (.bin .rem .u16 (.tmp 33) (.const (.int .u16 400))) },
    { dst := some 35, op := .pure (.conv .i64 .u16 (.tmp 34)) },
    { dst := some 36, op := .call false 9 [(.tmp 31), (.tmp 32), (.tmp 35)] },
    { dst := some 30, op := .pure (.mv (.tmp 36)) },
    { dst := some 37, op := .pure (.ext (.tmp 30) 0) },
    { dst := some 38, op := .pure (.ext (.tmp 30) 1) },
    { dst := some 9, op := .alloc [.sh, .sh] (.agg [.bool false, .sl 5 []]) },
    { dst := none, op := .sto 2 (.tmp 9) (.tmp 37) },
    { dst := some 10, op := .pure (.mv (.tmp 38)) }]
def c3R7 : AC :=
  .reg false [{ dst := some 39, op := .pure (.mv (.tmp 0)) },
    { dst := some 40, op := .call false 10 [(.tmp 39)] },
    { dst := some 41, op := .pure (.bin .neq .i64 (.tmp 40) (.const (.int .i64 0))) }]
def c3R8 : AC :=
  .reg false [{ dst := some 42, op := .pure (.fadr 0 (.tmp 9)) },
    { dst := some 43, op := .pure (.load 1 false (.tmp 42)) },
    { dst := some 44, op := .pure (.mv (.tmp 43)) },
    { dst := some 45, op := .pure (.mv (.tmp 10)), g := some (44, true) },
    { dst := some 46, op := .pure (.bin .eql .i64 (.tmp 45) (.const (.int .i64 0))), g := some (44, true) },
    { dst := some 47, op := .pure (.pick (.tmp 44) (.tmp 46) (.const (.bool false))) },
    { dst := some 6, op := .pure (.mv (.tmp 47)) }]
def c3P7 : AC := .seq c3R8 .ret
def c3P8 : AC := .cond (.tmp 41) c3P7 .skip
def c3P9 : AC := .seq c3R7 c3P8
def c3R9 : AC :=
  .reg false [{ dst := some 48, op := .pure (.mv (.tmp 10)) },
    { dst := some 49, op := .pure (.bin .lss .i64 (.tmp 48) (.const (.int .i64 0))) },
    { dst := some 50, op := .pure (.mv (.tmp 49)) },
    { dst := some 51, op := .pure (.mv (.tmp 10)), g := some (50, false) },
    { dst := some 52, op := .pure (.mv (.tmp 7)), g := some (50, false) },
    { dst := some 53, op := .pure (.lenS (.tmp 52)), g := some (50, false) },
    { dst := some 54, op := .pure (.bin .gtr .i64 (.tmp 51) (.tmp 53)), g := some (50, false) },
    { dst := some 55, op := .pure (.pick (.tmp 50) (.const (.bool true)) (.tmp 54)) }]
def c3R10 : AC :=
  .reg false [{ dst := some 6, op := .pure (.mv (.const (.bool false))) }]
def c3P10 : AC := .seq c3R10 .ret
def c3P11 : AC := .cond (.tmp 55) c3P10 .skip
def c3P12 : AC := .seq c3R9 c3P11
def c3R11 : AC :=
  .reg false [{ dst := some 56, op := .pure (.mv (.tmp 10)) },
    { dst := some 57, op := .pure (.mv (.tmp 7)) },
    { dst := some 58, op := .pure (.lenS (.tmp 57)) },
    { dst := some 59, op := .pure (.bin .lss .i64 (.tmp 56) (.tmp 58)) }]
def c3R12 : AC :=
  .reg false [{ dst := some 60, op := .pure (.fadr 0 (.tmp 9)) },
    { dst := some 61, op := .pure (.load 1 false (.tmp 60)) },
    { dst := some 62, op := .pure (.mv (.tmp 61)) },
    { dst := some 63, op := .pure (.mv (.tmp 0)), g := some (62, true) },
    { dst := some 64, op := .pure (.mv (.tmp 7)), g := some (62, true) },
    { dst := some 65, op := .pure (.mv (.tmp 10)), g := some (62, true) },
    { dst := some 66, op := .pure (.bin .add .i64 (.tmp 65) (.const (.int .i64 1))), g := some (62, true) },
    { dst := some 67, op := .pure (.slcS (.tmp 64) none (some (.i64, (.tmp 66)))), g := some (62, true) },
    { dst := some 68, op := .pure (.mv (.tmp 8)), g := some (62, true) },
    { dst := some 69, op := .pure (.sbin .add (.tmp 67) (.tmp 68)), g := some (62, true) },
    { dst := some 70, op := .call false 11 [(.tmp 63), (.tmp 69)], g := some (62, true) },
    { dst := some 71, op := .pure (.not (.tmp 70)), g := some (62, true) },
    { dst := some 72, op := .pure (.pick (.tmp 62) (.tmp 71) (.const (.bool false))) },
    { dst := some 73, op := .pure (.mv (.tmp 72)) },
    { dst := some 74, op := .pure (.fadr 0 (.tmp 9)), g := some (73, false) },
    { dst := some 75, op := .pure (.load 1 false (.tmp 74)), g := some (73, false) },
    { dst := some 76, op := .pure (.not (.tmp 75)), g := some (73, false) },
    { dst := some 77, op := .pure (.mv (.tmp 76)), g := some (73, false) },
    { dst := some 78, op := .pure (.fadr 1 (.tmp 9)), g := some (77, true) },
    { dst := some 79, op := .pure (.load 1 false (.tmp 78)), g := some (77, true) },
    { dst := some 80, op := .pure (.len 5 (.tmp 79)), g := some (77, true) },
    { dst := some 81, op := .pure (.mv (.tmp 2)), g := some (77, true) },
    { dst := some 82, op := .pure (.bin .rem .u16 (.tmp 81) (.const (.int .u16 400))), g := some (77, true) },
    { dst := some 83, op := .pure (.conv .i64 .u16 (.tmp 82)), g := some (77, true) },
    { dst := some 84, op := .pure (.bin .gtr .i64 (.tmp 80) (.tmp 83)), g := some (77, true) },
    { dst := some 85, op := .pure (.pick (.tmp 77) (.tmp 84) (.const (.bool false))), g := some (73, false) },
    { dst := some 86, op := .pure (.pick (.tmp 73) (.const (.bool true)) (.tmp 85)) },
    { dst := some 6, op := .pure (.mv (.tmp 86)) }]
def c3P13 : AC := .seq c3R12 .ret
def c3P14 : AC := .cond (.tmp 59) c3P13 .skip
def c3P15 : AC := .seq c3R11 c3P14
def c3R13 : AC :=
  .reg false [{ dst := some 87, op := .pure (.fadr 0 (.tmp 9)) },
    { dst := some 88, op := .pure (.load 1 false (.tmp 87)) },
    { dst := some 89, op := .pure (.not (.tmp 88)) },
    { dst := some 90, op := .pure (.mv (.tmp 89)) },
    { dst := some 91, op := .pure (.fadr 1 (.tmp 9)), g := some (90, true) },
    { dst := some 92, op := .pure (.load 1 false (.tmp 91)), g := some (90, true) },
    { dst := some 93, op := .call false 12 [(.tmp 92)], g := some (90, true) },
    { dst := some 94, op := .pure (.pick (.tmp 90) (.tmp 93) (.const (.bool false))) },
    { dst := some 95, op := .pure (.mv (.tmp 94)) },
    { dst := some 96, op := .pure (.fadr 1 (.tmp 9)), g := some (95, true) },
    { dst := some 97, op := .pure (.load 1 false (.tmp 96)), g := some (95, true) },
    { dst := some 98, op := .pure (.mv (.tmp 8)), g := some (95, true) },
    { dst := some 99, op := .call false 11 [(.tmp 97), (.tmp 98)], g := some (95, true) },
    { dst := some 100, op := .pure (.mv (.tmp 0)), g := some (95, true) },
    { dst := some 101, op := .pure (.mv (.tmp 7)), g := some (95, true) },
    { dst := some 102, op := .pure (.mv (.tmp 8)), g := some (95, true) },
    { dst := some 103, op := .pure (.sbin .add (.tmp 101) (.tmp 102)), g := some (95, true) },
    { dst := some 104, op := .call false 11 [(.tmp 100), (.tmp 103)], g := some (95, true) },
    { dst := some 105, op := .pure (.beq false (.tmp 99) (.tmp 104)), g := some (95, true) },
    { dst := some 106, op := .pure (.pick (.tmp 95) (.tmp 105) (.const (.bool false))) },
    { dst := some 6, op := .pure (.mv (.tmp 106)) }]
def c3P16 : AC := .seq c3R13 .ret
def c3P17 : AC := .seq c3P15 c3P16
def c3P18 : AC := .seq c3P12 c3P17
def c3P19 : AC := .seq c3P9 c3P18
def c3P20 : AC := .seq c3R6 c3P19
def c3P21 : AC := .seq c3P6 c3P20
def c3P22 : AC := .seq c3R3 c3P21
def c3P23 : AC := .seq c3P3 c3P22
def c3P24 : AC := .seq c3R0 c3P23
def c3 : AC := c3P24
def r3 : List RV := [.tmp 6]
/-! bosket/bosketlaw05.awake -/
def c8R0 : AC :=
  .reg false [{ dst := some 0, op := .pure (.mv (.const (.bool false))) }]
def c8R1 : AC :=
  .reg false [{ dst := some 4, op := .pure (.bld [.int .u64 0, .int .u64 0, .int .u64 0, .int .u64 0] [(0, 1, (.const (.int .u64 0))), (1, 1, (.const (.int .u64 8589934592)))]) },
    { dst := some 5, op := .pure (.bld [.int .i64 0, .int .u64 0, .int .u64 0, .int .u64 0, .int .u64 0] [(0, 1, (.const (.int .i64 1))), (1, 4, (.tmp 4))]) },
    { dst := some 6, op := .pure (.bld [.int .i64 0, .int .u64 0, .int .u64 0, .int .u64 0, .int .u64 0] [(0, 1, (.const (.int .i64 4)))]) },
    { dst := some 7, op := .mks true true 5 2 [(0, 5, (.tmp 5)), (5, 5, (.tmp 6))] },
    { dst := some 1, op := .pure (.mv (.tmp 7)) }]
def c8R2 : AC :=
  .reg false [{ dst := some 8, op := .pure (.mv (.tmp 1)) },
    { dst := some 9, op := .call false 16 [(.tmp 8), (.const (.int .u8 97))] },
    { dst := some 10, op := .pure (.mv (.tmp 1)) },
    { dst := some 11, op := .call false 16 [(.tmp 10), (.const (.int .u8 98))] },
    { dst := some 2, op := .alloc [.sh, .sh] (.agg [.bool false, .sl 5 []]) },
    { dst := some 3, op := .alloc [.sh, .sh] (.agg [.bool false, .sl 5 []]) },
    { dst := none, op := .sto 2 (.tmp 2) (.tmp 9) },
    { dst := none, op := .sto 2 (.tmp 3) (.tmp 11) }]
def c8R3 : AC :=
  .reg false [{ dst := some 12, op := .pure (.fadr 0 (.tmp 2)) },
    { dst := some 13, op := .pure (.load 1 false (.tmp 12)) },
    { dst := some 14, op := .pure (.not (.tmp 13)) },
    { dst := some 15, op := .pure (.mv (.tmp 14)) },
    { dst := some 16, op := .pure (.fadr 1 (.tmp 2)), g := some (15, true) },
    { dst := some 17, op := .pure (.load 1 false (.tmp 16)), g := some (15, true) },
    { dst := some 18, op := .call false 12 [(.tmp 17)], g := some (15, true) },
    { dst := some 19, op := .pure (.pick (.tmp 15) (.tmp 18) (.const (.bool false))) },
    { dst := some 20, op := .pure (.mv (.tmp 19)) },
    { dst := some 21, op := .pure (.fadr 1 (.tmp 2)), g := some (20, true) },
    { dst := some 22, op := .pure (.load 1 false (.tmp 21)), g := some (20, true) },
    { dst := some 23, op := .call false 11 [(.tmp 22), (.const (.str ⟨#[97, 97]⟩))], g := some (20, true) },
    { dst := some 24, op := .pure (.pick (.tmp 20) (.tmp 23) (.const (.bool false))) },
    { dst := some 25, op := .pure (.mv (.tmp 24)) },
    { dst := some 26, op := .pure (.fadr 1 (.tmp 2)), g := some (25, true) },
    { dst := some 27, op := .pure (.load 1 false (.tmp 26)), g := some (25, true) },
    { dst := some 28, op := .call false 11 [(.tmp 27), (.const (.str ⟨#[98]⟩))], g := some (25, true) },
    { dst := some 29, op := .pure (.not (.tmp 28)), g := some (25, true) },
    { dst := some 30, op := .pure (.pick (.tmp 25) (.tmp 29) (.const (.bool false))) },
    { dst := some 31, op := .pure (.mv (.tmp 30)) },
    { dst := some 32, op := .pure (.fadr 0 (.tmp 3)), g := some (31, true) },
    { dst := some 33, op := .pure (.load 1 false (.tmp 32)), g := some (31, true) },
    { dst := some 34, op := .pure (.pick (.tmp 31) (.tmp 33) (.const (.bool false))) },
    { dst := some 35, op := .pure (.mv (.tmp 34)) },
    { dst := some 36, op := .pure (.mv (.tmp 1)), g := some (35, true) },
    { dst := some 37, op := .call false 14 [(.tmp 36)], g := some (35, true) },
    { dst := some 38, op := .pure (.pick (.tmp 35) (.tmp 37) (.const (.bool false))) },
    { dst := some 0, op := .pure (.mv (.tmp 38)) }]
def c8P1 : AC := .seq c8R3 .ret
def c8P2 : AC := .seq c8R2 c8P1
def c8P3 : AC := .seq c8R1 c8P2
def c8P4 : AC := .seq c8R0 c8P3
def c8 : AC := c8P4
def r8 : List RV := [.tmp 0]
/-! bosket/deriv.Through -/
def c9R0 : AC :=
  .reg false [{ dst := some 6, op := .alloc [.sh, .sh] (.agg [.bool false, .sl 5 []]) },
    { dst := some 7, op := .pure (.mv (.const (.int .i64 0))) }]
def c9R1 : AC :=
  .reg false [{ dst := some 11, op := .pure (.mv (.tmp 0)) },
    { dst := some 12, op := .call false 37 [(.tmp 11)] },
    { dst := some 13, op := .pure (.bld [.bool false, .sl 5 []] [(1, 1, (.tmp 12))]) },
    { dst := some 8, op := .alloc [.sh, .sh] (.agg [.bool false, .sl 5 []]) },
    { dst := none, op := .sto 2 (.tmp 8) (.tmp 13) }]
def c9R2 : AC :=
  .reg false [{ dst := some 14, op := .pure (.mv (.tmp 0)) },
    { dst := some 15, op := .call false 38 [(.tmp 14)] },
    { dst := some 16, op := .pure (.bin .neq .i64 (.tmp 15) (.const (.int .i64 0))) }]
def c9R3 : AC :=
  .reg false [{ dst := some 17, op := .pure (.bld [.bool false, .sl 5 []] [(0, 1, (.const (.bool true)))]) },
    { dst := none, op := .sto 2 (.tmp 6) (.tmp 17) },
    { dst := some 7, op := .pure (.mv (.const (.int .i64 0))) }]
def c9P1 : AC := .seq c9R3 .ret
def c9P2 : AC := .cond (.tmp 16) c9P1 .skip
def c9P3 : AC := .seq c9R2 c9P2
def c9R4 : AC :=
  .reg false [{ dst := some 18, op := .pure (.mv (.tmp 1)) },
    { dst := some 19, op := .pure (.lenS (.tmp 18)) },
    { dst := some 20, op := .pure (.mv (.const (.int .i64 0))) }]
def c9R5 : AC :=
  .reg false [{ dst := some 21, op := .pure (.bin .lss .i64 (.tmp 20) (.tmp 19)) }]
def c9P4 : AC := .cond (.tmp 21) .skip (.exit 0)
def c9R6 : AC :=
  .reg false [{ dst := some 22, op := .pure (.mv (.tmp 20)) },
    { dst := some 9, op := .pure (.mv (.tmp 22)) }]
def c9R7 : AC :=
  .reg true [{ dst := some 23, op := .pure (.fadr 1 (.tmp 8)), unk := [10, 25, 26, 27], tch := some [23] },
    { dst := some 24, op := .pure (.load 1 false (.tmp 23)), unk := [10, 25, 26, 27], tch := some [24] },
    { dst := some 25, op := .pure (.mv (.tmp 1)), unk := [10, 23, 24, 26], tch := some [25] },
    { dst := some 26, op := .pure (.mv (.tmp 9)), unk := [10, 23, 24, 25], tch := some [26] },
    { dst := some 27, op := .pure (.idxS .i64 (.tmp 25) (.tmp 26)), unk := [10, 23, 24], tch := some [27] },
    { dst := some 28, op := .call false 39 [(.tmp 24), (.tmp 27)], unk := [10], tch := some [28] },
    { dst := some 10, op := .alloc [.sh, .sh] (.agg [.bool false, .sl 5 []]), unk := [23, 24, 25, 26, 27, 28], tch := some [10] },
    { dst := none, op := .sto 2 (.tmp 10) (.tmp 28), tch := some [10] }]
def c9R8 : AC :=
  .reg false [{ dst := some 29, op := .pure (.fadr 0 (.tmp 10)) },
    { dst := some 30, op := .pure (.load 1 false (.tmp 29)) },
    { dst := some 31, op := .pure (.mv (.tmp 30)) },
    { dst := some 32, op := .pure (.fadr 1 (.tmp 10)), g := some (31, false) },
    { dst := some 33, op := .pure (.load 1 false (.tmp 32)), g := some (31, false) },
    { dst := some 34, op := .pure (.len 5 (.tmp 33)), g := some (31, false) },
    { dst := some 35, op := .pure (.mv (.tmp 2)), g := some (31, false) },
    { dst := some 36, op := .pure (.bin .gtr .i64 (.tmp 34) (.tmp 35)), g := some (31, false) },
    { dst := some 37, op := .pure (.pick (.tmp 31) (.const (.bool true)) (.tmp 36)) }]
def c9R9 : AC :=
  .reg false [{ dst := some 38, op := .pure (.load 2 true (.tmp 10)) },
    { dst := some 39, op := .pure (.mv (.tmp 9)) },
    { dst := none, op := .sto 2 (.tmp 6) (.tmp 38) },
    { dst := some 7, op := .pure (.mv (.tmp 39)) }]
def c9P5 : AC := .seq c9R9 .ret
def c9P6 : AC := .cond (.tmp 37) c9P5 .skip
def c9P7 : AC := .seq c9R8 c9P6
def c9R10 : AC :=
  .reg false [{ dst := some 40, op := .pure (.load 2 true (.tmp 10)) },
    { dst := none, op := .sto 2 (.tmp 8) (.tmp 40) }]
def c9P8 : AC := .seq c9P7 c9R10
def c9P9 : AC := .seq c9R7 c9P8
def c9P10 : AC := .seq c9R6 c9P9
def c9P11 : AC := .block 1 c9P10
def c9R11 : AC :=
  .reg false [{ dst := some 41, op := .pure (.bin .add .i64 (.tmp 20) (.const (.int .i64 1))) },
    { dst := some 20, op := .pure (.mv (.tmp 41)) }]
def c9P12 : AC := .seq c9P11 c9R11
def c9P13 : AC := .seq c9P4 c9P12
def c9P14 : AC := .seq c9R5 c9P13
def c9P15 : AC := .loop c9P14
def c9P16 : AC := .block 0 c9P15
def c9P17 : AC := .seq c9R4 c9P16
def c9R12 : AC :=
  .reg false [{ dst := some 42, op := .pure (.load 2 true (.tmp 8)) },
    { dst := some 43, op := .pure (.mv (.tmp 1)) },
    { dst := some 44, op := .pure (.lenS (.tmp 43)) },
    { dst := none, op := .sto 2 (.tmp 6) (.tmp 42) },
    { dst := some 7, op := .pure (.mv (.tmp 44)) }]
def c9P18 : AC := .seq c9R12 .ret
def c9P19 : AC := .seq c9P17 c9P18
def c9P20 : AC := .seq c9P3 c9P19
def c9P21 : AC := .seq c9R1 c9P20
def c9P22 : AC := .seq c9R0 c9P21
def c9 : AC := c9P22
def r9 : List RV := [.cell 6 2 true, .tmp 7]
/-! bosket/bosketref04.Check -/
def c10R0 : AC :=
  .reg false [{ dst := some 2, op := .pure (.mv (.const (.int .i64 0))) }]
def c10R1 : AC :=
  .reg false [{ dst := some 6, op := .pure (.mv (.tmp 0)) },
    { dst := some 7, op := .pure (.len 5 (.tmp 6)) },
    { dst := some 8, op := .pure (.bin .gtr .i64 (.tmp 7) (.const (.int .i64 400))) }]
def c10R2 : AC :=
  .reg false [{ dst := some 2, op := .pure (.mv (.const (.int .i64 6))) }]
def c10P1 : AC := .seq c10R2 .ret
def c10P2 : AC := .cond (.tmp 8) c10P1 .skip
def c10P3 : AC := .seq c10R1 c10P2
def c10R3 : AC :=
  .reg false [{ dst := some 3, op := .pure (.mv (.const (.int .i64 0))) }]
def c10R4 : AC :=
  .reg false [{ dst := some 4, op := .pure (.mv (.const (.int .i64 0))) }]
def c10R5 : AC :=
  .reg false [{ dst := some 9, op := .pure (.mv (.tmp 4)) },
    { dst := some 10, op := .pure (.mv (.tmp 0)) },
    { dst := some 11, op := .pure (.len 5 (.tmp 10)) },
    { dst := some 12, op := .pure (.bin .lss .i64 (.tmp 9) (.tmp 11)) }]
def c10P4 : AC := .cond (.tmp 12) .skip (.exit 0)
def c10P5 : AC := .seq c10R5 c10P4
def c10R7 : AC :=
  .reg false [{ dst := some 15, op := .pure (.mv (.tmp 0)) },
    { dst := some 16, op := .pure (.mv (.tmp 4)) },
    { dst := some 17, op := .pure (.iadr 5 .i64 (.tmp 15) (.tmp 16)) },
    { dst := some 18, op := .pure (.fadr 0 (.tmp 17)) },
    { dst := some 19, op := .pure (.load 1 false (.tmp 18)) },
    { dst := some 20, op := .call false 40 [(.tmp 19)] },
    { dst := some 5, op := .pure (.mv (.tmp 20)) }]
def c10R8 : AC :=
  .reg true [{ dst := some 21, op := .pure (.mv (.tmp 5)), tch := some [21] },
    { dst := some 22, op := .pure (.bin .lss .i64 (.tmp 21) (.const (.int .i64 0))), tch := some [22] },
    { dst := some 23, op := .pure (.mv (.tmp 22)), tch := some [23] },
    { dst := some 24, op := .pure (.mv (.tmp 3)), g := some (23, false), unk := [25], tch := some [24] },
    { dst := some 25, op := .pure (.mv (.tmp 5)), g := some (23, false), unk := [24], tch := some [25] },
    { dst := some 26, op := .pure (.bin .lss .i64 (.tmp 24) (.tmp 25)), g := some (23, false), tch := some [26] },
    { dst := some 27, op := .pure (.pick (.tmp 23) (.const (.bool true)) (.tmp 26)), tch := some [27] },
    { dst := some 28, op := .pure (.mv (.tmp 27)), tch := some [28] },
    { dst := some 29, op := .pure (.mv (.tmp 0)), g := some (28, false), unk := [30, 35, 36, 37, 38, 39, 40, 41], tch := some [29] },
    { dst := some 30, op := .pure (.mv (.tmp 4)), g := some (28, false), unk := [29, 35, 36, 37, 38, 39, 40, 41], tch := some [30] },
    { dst := some 31, op := .pure (.iadr 5 .i64 (.tmp 29) (.tmp 30)), g := some (28, false), unk := [35, 36, 37, 38, 39, 40, 41], tch := some [31] },
    { dst := some 32, op := .pure (.fadr 0 (.tmp 31)), g := some (28, false), unk := [35, 36, 37, 38, 39, 40, 41], tch := some [32] },
    { dst := some 33, op := .pure (.load 1 false (.tmp 32)), g := some (28, false), unk := [35, 36, 37, 38, 39, 40, 41], tch := some [33] },
    { dst := some 34, op := .pure (.bin .eql .i64 (.tmp 33) (.const (.int .i64 1))), g := some (28, false), unk := [35, 36, 37, 38, 39, 40, 41], tch := some [34] },
    { dst := some 35, op := .pure (.mv (.tmp 0)), g := some (28, false), unk := [29, 30, 31, 32, 33, 34, 36, 40], tch := some [35] },
    { dst := some 36, op := .pure (.mv (.tmp 4)), g := some (28, false), unk := [29, 30, 31, 32, 33, 34, 35, 40], tch := some [36] },
    { dst := some 37, op := .pure (.iadr 5 .i64 (.tmp 35) (.tmp 36)), g := some (28, false), unk := [29, 30, 31, 32, 33, 34, 40], tch := some [37] },
    { dst := some 38, op := .pure (.fadr 1 (.tmp 37)), g := some (28, false), unk := [29, 30, 31, 32, 33, 34, 40], tch := some [38] },
    { dst := some 39, op := .pure (.load 4 true (.tmp 38)), g := some (28, false), unk := [29, 30, 31, 32, 33, 34, 40], tch := some [39] },
    { dst := some 40, op := .pure (.bld [.int .u64 0, .int .u64 0, .int .u64 0, .int .u64 0] []), g := some (28, false), unk := [29, 30, 31, 32, 33, 34, 35, 36, 37, 38, 39], tch := some [40] },
    { dst := some 41, op := .pure (.aeq false [.int .u64, .int .u64, .int .u64, .int .u64] (.tmp 39) (.tmp 40)), g := some (28, false), unk := [29, 30, 31, 32, 33, 34], tch := some [41] },
    { dst := some 42, op := .pure (.beq false (.tmp 34) (.tmp 41)), g := some (28, false), tch := some [42] },
    { dst := some 43, op := .pure (.pick (.tmp 28) (.const (.bool true)) (.tmp 42)), tch := some [43] }]
def c10R9 : AC :=
  .reg false [{ dst := some 2, op := .pure (.mv (.const (.int .i64 5))) }]
def c10P6 : AC := .seq c10R9 .ret
def c10P7 : AC := .cond (.tmp 43) c10P6 .skip
def c10P8 : AC := .seq c10R8 c10P7
def c10R10 : AC :=
  .reg false [{ dst := some 44, op := .pure (.mv (.tmp 3)) },
    { dst := some 45, op := .pure (.mv (.tmp 5)) },
    { dst := some 46, op := .pure (.bin .sub .i64 (.tmp 44) (.tmp 45)) },
    { dst := some 47, op := .pure (.bin .add .i64 (.tmp 46) (.const (.int .i64 1))) },
    { dst := some 3, op := .pure (.mv (.tmp 47)) }]
def c10P9 : AC := .seq c10P8 c10R10
def c10P10 : AC := .seq c10R7 c10P9
def c10P11 : AC := .block 1 c10P10
def c10R6 : AC :=
  .reg false [{ dst := some 13, op := .pure (.mv (.tmp 4)) },
    { dst := some 14, op := .pure (.bin .add .i64 (.tmp 13) (.const (.int .i64 1))) },
    { dst := some 4, op := .pure (.mv (.tmp 14)) }]
def c10P12 : AC := .seq c10P11 c10R6
def c10P13 : AC := .seq c10P5 c10P12
def c10P14 : AC := .loop c10P13
def c10P15 : AC := .block 0 c10P14
def c10P16 : AC := .seq c10R4 c10P15
def c10R11 : AC :=
  .reg false [{ dst := some 48, op := .pure (.mv (.tmp 3)) },
    { dst := some 49, op := .pure (.bin .neq .i64 (.tmp 48) (.const (.int .i64 1))) }]
def c10R12 : AC :=
  .reg false [{ dst := some 2, op := .pure (.mv (.const (.int .i64 5))) }]
def c10P17 : AC := .seq c10R12 .ret
def c10P18 : AC := .cond (.tmp 49) c10P17 .skip
def c10P19 : AC := .seq c10R11 c10P18
def c10R13 : AC :=
  .reg false [{ dst := some 2, op := .pure (.mv (.const (.int .i64 0))) }]
def c10P20 : AC := .seq c10R13 .ret
def c10P21 : AC := .seq c10P19 c10P20
def c10P22 : AC := .seq c10P16 c10P21
def c10P23 : AC := .seq c10R3 c10P22
def c10P24 : AC := .seq c10P3 c10P23
def c10P25 : AC := .seq c10R0 c10P24
def c10 : AC := c10P25
def r10 : List RV := [.tmp 2]
/-! bosket/bosketref04.Has -/
def c11R0 : AC :=
  .reg false [{ dst := some 4, op := .pure (.mv (.const (.bool false))) }]
def c11R1 : AC :=
  .reg false [{ dst := some 5, op := .nilO [.sh] }]
def c11R2 : AC :=
  .reg false [{ dst := some 6, op := .pure (.mv (.const (.int .i64 0))) }]
def c11R3 : AC :=
  .reg false [{ dst := some 9, op := .pure (.mv (.tmp 6)) },
    { dst := some 10, op := .pure (.mv (.tmp 0)) },
    { dst := some 11, op := .pure (.len 5 (.tmp 10)) },
    { dst := some 12, op := .pure (.bin .lss .i64 (.tmp 9) (.tmp 11)) }]
def c11P1 : AC := .cond (.tmp 12) .skip (.exit 0)
def c11P2 : AC := .seq c11R3 c11P1
def c11R5 : AC :=
  .reg false [{ dst := some 15, op := .pure (.mv (.tmp 5)) },
    { dst := some 16, op := .pure (.len 1 (.tmp 15)) },
    { dst := some 17, op := .pure (.mv (.tmp 0)) },
    { dst := some 18, op := .pure (.mv (.tmp 6)) },
    { dst := some 19, op := .pure (.iadr 5 .i64 (.tmp 17) (.tmp 18)) },
    { dst := some 20, op := .pure (.fadr 0 (.tmp 19)) },
    { dst := some 21, op := .pure (.load 1 false (.tmp 20)) },
    { dst := some 22, op := .call false 40 [(.tmp 21)] },
    { dst := some 23, op := .pure (.bin .sub .i64 (.tmp 16) (.tmp 22)) },
    { dst := some 7, op := .pure (.mv (.tmp 23)) }]
def c11R6 : AC :=
  .reg true [{ dst := some 24, op := .pure (.mv (.tmp 0)), unk := [25, 28, 29, 30, 31], tch := some [24] },
    { dst := some 25, op := .pure (.mv (.tmp 6)), unk := [24, 28, 29, 30, 31], tch := some [25] },
    { dst := some 26, op := .pure (.iadr 5 .i64 (.tmp 24) (.tmp 25)), unk := [28, 29, 30, 31], tch := some [26] },
    { dst := some 27, op := .pure (.load 5 true (.tmp 26)), unk := [28, 29, 30, 31], tch := some [27] },
    { dst := some 28, op := .pure (.mv (.tmp 5)), unk := [24, 25, 26, 27, 29, 31], tch := some [28] },
    { dst := some 29, op := .pure (.mv (.tmp 7)), unk := [24, 25, 26, 27, 28, 31], tch := some [29] },
    { dst := some 30, op := .pure (.slc 1 (.tmp 28) (some (.i64, (.tmp 29))) none), unk := [24, 25, 26, 27, 31], tch := some [30] },
    { dst := some 31, op := .pure (.mv (.tmp 1)), unk := [24, 25, 26, 27, 28, 29, 30], tch := some [31] },
    { dst := some 32, op := .callS false 41 [(.tmp 27), (.tmp 30), (.tmp 31)], tch := some [32] },
    { dst := some 8, op := .pure (.mv (.tmp 32)), tch := some [8] }]
def c11R7 : AC :=
  .reg false [{ dst := some 33, op := .pure (.mv (.tmp 5)) },
    { dst := some 34, op := .pure (.mv (.tmp 7)) },
    { dst := some 35, op := .pure (.slc 1 (.tmp 33) none (some (.i64, (.tmp 34)))) },
    { dst := some 36, op := .pure (.mv (.tmp 8)) },
    { dst := some 37, op := .mks true false 1 1 [(0, 1, (.tmp 36))] },
    { dst := some 38, op := .app false false [.sh] (.tmp 35) (.tmp 37) },
    { dst := some 5, op := .take 38 }]
def c11P3 : AC := .seq c11R6 c11R7
def c11P4 : AC := .seq c11R5 c11P3
def c11P5 : AC := .block 1 c11P4
def c11R4 : AC :=
  .reg false [{ dst := some 13, op := .pure (.mv (.tmp 6)) },
    { dst := some 14, op := .pure (.bin .add .i64 (.tmp 13) (.const (.int .i64 1))) },
    { dst := some 6, op := .pure (.mv (.tmp 14)) }]
def c11P6 : AC := .seq c11P5 c11R4
def c11P7 : AC := .seq c11P2 c11P6
def c11P8 : AC := .loop c11P7
def c11P9 : AC := .block 0 c11P8
def c11P10 : AC := .seq c11R2 c11P9
def c11R8 : AC :=
  .reg false [{ dst := some 39, op := .pure (.mv (.tmp 5)) },
    { dst := some 40, op := .pure (.iadr 1 .i64 (.tmp 39) (.const (.int .i64 0))) },
    { dst := some 41, op := .pure (.load 1 false (.tmp 40)) },
    { dst := some 42, op := .pure (.iadr 1 .i64 (.tmp 41) (.const (.int .i64 0))) },
    { dst := some 43, op := .pure (.load 1 false (.tmp 42)) },
    { dst := some 44, op := .pure (.mv (.tmp 1)) },
    { dst := some 45, op := .pure (.lenS (.tmp 44)) },
    { dst := some 46, op := .pure (.iadr 1 .i64 (.tmp 43) (.tmp 45)) },
    { dst := some 47, op := .pure (.load 1 false (.tmp 46)) },
    { dst := some 4, op := .pure (.mv (.tmp 47)) }]
def c11P11 : AC := .seq c11R8 .ret
def c11P12 : AC := .seq c11P10 c11P11
def c11P13 : AC := .seq c11R1 c11P12
def c11P14 : AC := .seq c11R0 c11P13
def c11 : AC := c11P14
def r11 : List RV := [.tmp 4]
/-! bosket/bosketref05.Fits -/
def c12R0 : AC :=
  .reg false [{ dst := some 2, op := .pure (.mv (.const (.bool false))) }]
def c12R1 : AC :=
  .reg false [{ dst := some 3, op := .pure (.mv (.const (.int .i64 0))) }]
def c12R2 : AC :=
  .reg false [{ dst := some 4, op := .pure (.mv (.const (.int .i64 0))) }]
def c12R3 : AC :=
  .reg false [{ dst := some 6, op := .pure (.mv (.tmp 4)) },
    { dst := some 7, op := .pure (.mv (.tmp 0)) },
    { dst := some 8, op := .pure (.len 5 (.tmp 7)) },
    { dst := some 9, op := .pure (.bin .lss .i64 (.tmp 6) (.tmp 8)) }]
def c12P1 : AC := .cond (.tmp 9) .skip (.exit 0)
def c12P2 : AC := .seq c12R3 c12P1
def c12R5 : AC :=
  .reg false [{ dst := some 12, op := .pure (.mv (.tmp 0)) },
    { dst := some 13, op := .pure (.mv (.tmp 4)) },
    { dst := some 14, op := .pure (.iadr 5 .i64 (.tmp 12) (.tmp 13)) },
    { dst := some 15, op := .pure (.fadr 0 (.tmp 14)) },
    { dst := some 16, op := .pure (.load 1 false (.tmp 15)) },
    { dst := some 17, op := .call false 40 [(.tmp 16)] },
    { dst := some 5, op := .pure (.mv (.tmp 17)) }]
def c12R6 : AC :=
  .reg false [{ dst := some 18, op := .pure (.mv (.tmp 5)) },
    { dst := some 19, op := .pure (.bin .lss .i64 (.tmp 18) (.const (.int .i64 0))) },
    { dst := some 20, op := .pure (.mv (.tmp 19)) },
    { dst := some 21, op := .pure (.mv (.tmp 3)), g := some (20, false) },
    { dst := some 22, op := .pure (.mv (.tmp 5)), g := some (20, false) },
    { dst := some 23, op := .pure (.bin .lss .i64 (.tmp 21) (.tmp 22)), g := some (20, false) },
    { dst := some 24, op := .pure (.pick (.tmp 20) (.const (.bool true)) (.tmp 23)) }]
def c12R7 : AC :=
  .reg false [{ dst := some 2, op := .pure (.mv (.const (.bool false))) }]
def c12P3 : AC := .seq c12R7 .ret
def c12P4 : AC := .cond (.tmp 24) c12P3 .skip
def c12P5 : AC := .seq c12R6 c12P4
def c12R8 : AC :=
  .reg false [{ dst := some 25, op := .pure (.mv (.tmp 3)) },
    { dst := some 26, op := .pure (.mv (.tmp 5)) },
    { dst := some 27, op := .pure (.bin .sub .i64 (.tmp 25) (.tmp 26)) },
    { dst := some 28, op := .pure (.bin .add .i64 (.tmp 27) (.const (.int .i64 1))) },
    { dst := some 3, op := .pure (.mv (.tmp 28)) }]
def c12P6 : AC := .seq c12P5 c12R8
def c12P7 : AC := .seq c12R5 c12P6
def c12P8 : AC := .block 1 c12P7
def c12R4 : AC :=
  .reg false [{ dst := some 10, op := .pure (.mv (.tmp 4)) },
    { dst := some 11, op := .pure (.bin .add .i64 (.tmp 10) (.const (.int .i64 1))) },
    { dst := some 4, op := .pure (.mv (.tmp 11)) }]
def c12P9 : AC := .seq c12P8 c12R4
def c12P10 : AC := .seq c12P2 c12P9
def c12P11 : AC := .loop c12P10
def c12P12 : AC := .block 0 c12P11
def c12P13 : AC := .seq c12R2 c12P12
def c12R9 : AC :=
  .reg false [{ dst := some 29, op := .pure (.mv (.tmp 3)) },
    { dst := some 30, op := .pure (.bin .eql .i64 (.tmp 29) (.const (.int .i64 1))) },
    { dst := some 2, op := .pure (.mv (.tmp 30)) }]
def c12P14 : AC := .seq c12R9 .ret
def c12P15 : AC := .seq c12P13 c12P14
def c12P16 : AC := .seq c12R1 c12P15
def c12P17 : AC := .seq c12R0 c12P16
def c12 : AC := c12P17
def r12 : List RV := [.tmp 2]
/-! bosket/deriv.Empty -/
def c14R0 : AC :=
  .reg false [{ dst := some 2, op := .pure (.mv (.const (.bool false))) }]
def c14R1 : AC :=
  .reg false [{ dst := some 3, op := .nilO [.sh] }]
def c14R2 : AC :=
  .reg false [{ dst := some 7, op := .pure (.mv (.tmp 0)) },
    { dst := some 8, op := .pure (.len 5 (.tmp 7)) },
    { dst := some 9, op := .pure (.mv (.const (.int .i64 0))) }]
def c14R3 : AC :=
  .reg false [{ dst := some 10, op := .pure (.bin .lss .i64 (.tmp 9) (.tmp 8)) }]
def c14P1 : AC := .cond (.tmp 10) .skip (.exit 0)
def c14R4 : AC :=
  .reg false [{ dst := some 11, op := .pure (.iadr 5 .i64 (.tmp 7) (.tmp 9)) },
    { dst := some 12, op := .pure (.load 5 true (.tmp 11)) },
    { dst := some 5, op := .alloc [.sh, .sh, .sh, .sh, .sh] (.agg [.int .i64 0, .int .u64 0, .int .u64 0, .int .u64 0, .int .u64 0]) },
    { dst := none, op := .sto 5 (.tmp 5) (.tmp 12) }]
def c14R5 : AC :=
  .reg false [{ dst := some 13, op := .pure (.mv (.tmp 3)) },
    { dst := some 14, op := .pure (.len 1 (.tmp 13)) },
    { dst := some 6, op := .pure (.mv (.tmp 14)) }]
def c14R6 : AC :=
  .reg false [{ dst := some 15, op := .pure (.fadr 0 (.tmp 5)) },
    { dst := some 16, op := .pure (.load 1 false (.tmp 15)) }]
def c14R7 : AC :=
  .reg false [{ dst := some 18, op := .pure (.bin .eql .i64 (.tmp 16) (.const (.int .i64 0))) },
    { dst := some 17, op := .pure (.mv (.tmp 18)) }]
def c14R8 : AC :=
  .reg false [{ dst := some 19, op := .pure (.mv (.tmp 3)) },
    { dst := some 20, op := .mks true false 1 1 [(0, 1, (.const (.bool true)))] },
    { dst := some 21, op := .app false false [.sh] (.tmp 19) (.tmp 20) },
    { dst := some 3, op := .take 21 }]
def c14R9 : AC :=
  .reg false [{ dst := some 23, op := .pure (.bin .eql .i64 (.tmp 16) (.const (.int .i64 1))) },
    { dst := some 22, op := .pure (.mv (.tmp 23)) }]
def c14R10 : AC :=
  .reg false [{ dst := some 24, op := .pure (.mv (.tmp 3)) },
    { dst := some 25, op := .mks true false 1 1 [(0, 1, (.const (.bool false)))] },
    { dst := some 26, op := .app false false [.sh] (.tmp 24) (.tmp 25) },
    { dst := some 3, op := .take 26 }]
def c14R11 : AC :=
  .reg false [{ dst := some 28, op := .pure (.bin .eql .i64 (.tmp 16) (.const (.int .i64 2))) },
    { dst := some 27, op := .pure (.mv (.tmp 28)) }]
def c14R12 : AC :=
  .reg true [{ dst := some 29, op := .pure (.mv (.tmp 3)), unk := [30, 31, 33, 34, 35, 36, 37, 38, 39, 40, 41, 42, 43, 44, 45], tch := some [29] },
    { dst := some 30, op := .pure (.mv (.tmp 6)), unk := [29, 33, 34, 35, 36, 37, 38, 39, 40, 41, 42, 43, 44, 45], tch := some [30] },
    { dst := some 31, op := .pure (.bin .sub .i64 (.tmp 30) (.const (.int .i64 2))), unk := [29, 33, 34, 35, 36, 37, 38, 39, 40, 41, 42, 43, 44, 45], tch := some [31] },
    { dst := some 32, op := .pure (.slc 1 (.tmp 29) none (some (.i64, (.tmp 31)))), unk := [33, 34, 35, 36, 37, 38, 39, 40, 41, 42, 43, 44, 45], tch := some [32] },
    { dst := some 33, op := .pure (.mv (.tmp 3)), unk := [29, 30, 31, 32, 34, 35], tch := some [33] },
    { dst := some 34, op := .pure (.mv (.tmp 6)), unk := [29, 30, 31, 32, 33], tch := some [34] },
    { dst := some 35, op := .pure (.bin .sub .i64 (.tmp 34) (.const (.int .i64 2))), unk := [29, 30, 31, 32, 33], tch := some [35] },
    { dst := some 36, op := .pure (.iadr 1 .i64 (.tmp 33) (.tmp 35)), unk := [29, 30, 31, 32], tch := some [36] },
    { dst := some 37, op := .pure (.load 1 false (.tmp 36)), unk := [29, 30, 31, 32], tch := some [37] },
    { dst := some 38, op := .pure (.mv (.tmp 37)), unk := [29, 30, 31, 32], tch := some [38] },
    { dst := some 39, op := .pure (.mv (.tmp 3)), g := some (38, true), unk := [29, 30, 31, 32, 40, 41], tch := some [39] },
    { dst := some 40, op := .pure (.mv (.tmp 6)), g := some (38, true), unk := [29, 30, 31, 32, 39], tch := some [40] },
    { dst := some 41, op := .pure (.bin .sub .i64 (.tmp 40) (.const (.int .i64 1))), g := some (38, true), unk := [29, 30, 31, 32, 39], tch := some [41] },
    { dst := some 42, op := .pure (.iadr 1 .i64 (.tmp 39) (.tmp 41)), g := some (38, true), unk := [29, 30, 31, 32], tch := some [42] },
    { dst := some 43, op := .pure (.load 1 false (.tmp 42)), g := some (38, true), unk := [29, 30, 31, 32], tch := some [43] },
    { dst := some 44, op := .pure (.pick (.tmp 38) (.tmp 43) (.const (.bool false))), unk := [29, 30, 31, 32], tch := some [44] },
    { dst := some 45, op := .mks true false 1 1 [(0, 1, (.tmp 44))], unk := [29, 30, 31, 32], tch := some [45] },
    { dst := some 46, op := .app false false [.sh] (.tmp 32) (.tmp 45) },
    { dst := some 3, op := .take 46, tch := some [46, 3, 29, 30, 31, 32, 33, 34, 35, 36, 37, 38, 39, 40, 41, 42, 43, 44, 45], kil := [29, 30, 31, 32, 33, 34, 35, 36, 37, 38, 39, 40, 41, 42, 43, 44, 45] }]
def c14R13 : AC :=
  .reg false [{ dst := some 48, op := .pure (.bin .eql .i64 (.tmp 16) (.const (.int .i64 3))) },
    { dst := some 47, op := .pure (.mv (.tmp 48)) }]
def c14R14 : AC :=
  .reg true [{ dst := some 49, op := .pure (.mv (.tmp 3)), unk := [50, 51, 53, 54, 55, 56, 57, 58, 59, 60, 61, 62, 63, 64, 65], tch := some [49] },
    { dst := some 50, op := .pure (.mv (.tmp 6)), unk := [49, 53, 54, 55, 56, 57, 58, 59, 60, 61, 62, 63, 64, 65], tch := some [50] },
    { dst := some 51, op := .pure (.bin .sub .i64 (.tmp 50) (.const (.int .i64 2))), unk := [49, 53, 54, 55, 56, 57, 58, 59, 60, 61, 62, 63, 64, 65], tch := some [51] },
    { dst := some 52, op := .pure (.slc 1 (.tmp 49) none (some (.i64, (.tmp 51)))), unk := [53, 54, 55, 56, 57, 58, 59, 60, 61, 62, 63, 64, 65], tch := some [52] },
    { dst := some 53, op := .pure (.mv (.tmp 3)), unk := [49, 50, 51, 52, 54, 55], tch := some [53] },
    { dst := some 54, op := .pure (.mv (.tmp 6)), unk := [49, 50, 51, 52, 53], tch := some [54] },
    { dst := some 55, op := .pure (.bin .sub .i64 (.tmp 54) (.const (.int .i64 2))), unk := [49, 50, 51, 52, 53], tch := some [55] },
    { dst := some 56, op := .pure (.iadr 1 .i64 (.tmp 53) (.tmp 55)), unk := [49, 50, 51, 52], tch := some [56] },
    { dst := some 57, op := .pure (.load 1 false (.tmp 56)), unk := [49, 50, 51, 52], tch := some [57] },
    { dst := some 58, op := .pure (.mv (.tmp 57)), unk := [49, 50, 51, 52], tch := some [58] },
    { dst := some 59, op := .pure (.mv (.tmp 3)), g := some (58, false), unk := [49, 50, 51, 52, 60, 61], tch := some [59] },
    { dst := some 60, op := .pure (.mv (.tmp 6)), g := some (58, false), unk := [49, 50, 51, 52, 59], tch := some [60] },
    { dst := some 61, op := .pure (.bin .sub .i64 (.tmp 60) (.const (.int .i64 1))), g := some (58, false), unk := [49, 50, 51, 52, 59], tch := some [61] },
    { dst := some 62, op := .pure (.iadr 1 .i64 (.tmp 59) (.tmp 61)), g := some (58, false), unk := [49, 50, 51, 52], tch := some [62] },
    { dst := some 63, op := .pure (.load 1 false (.tmp 62)), g := some (58, false), unk := [49, 50, 51, 52], tch := some [63] },
    { dst := some 64, op := .pure (.pick (.tmp 58) (.const (.bool true)) (.tmp 63)), unk := [49, 50, 51, 52], tch := some [64] },
    { dst := some 65, op := .mks true false 1 1 [(0, 1, (.tmp 64))], unk := [49, 50, 51, 52], tch := some [65] },
    { dst := some 66, op := .app false false [.sh] (.tmp 52) (.tmp 65) },
    { dst := some 3, op := .take 66, tch := some [66, 3, 49, 50, 51, 52, 53, 54, 55, 56, 57, 58, 59, 60, 61, 62, 63, 64, 65], kil := [49, 50, 51, 52, 53, 54, 55, 56, 57, 58, 59, 60, 61, 62, 63, 64, 65] }]
def c14R15 : AC :=
  .reg false [{ dst := some 68, op := .pure (.bin .eql .i64 (.tmp 16) (.const (.int .i64 4))) },
    { dst := some 67, op := .pure (.mv (.tmp 68)) }]
def c14R16 : AC :=
  .reg false [{ dst := some 69, op := .pure (.bin .eql .i64 (.tmp 16) (.const (.int .i64 6))) },
    { dst := some 67, op := .pure (.mv (.tmp 69)) }]
def c14P2 : AC := .cond (.tmp 67) .skip c14R16
def c14P3 : AC := .seq c14R15 c14P2
def c14R17 : AC :=
  .reg false [{ dst := some 70, op := .pure (.mv (.tmp 3)) },
    { dst := some 71, op := .pure (.mv (.tmp 6)) },
    { dst := some 72, op := .pure (.bin .sub .i64 (.tmp 71) (.const (.int .i64 1))) },
    { dst := some 73, op := .pure (.iadr 1 .i64 (.tmp 70) (.tmp 72)) },
    { dst := none, op := .sto 1 (.tmp 73) (.const (.bool true)) }]
def c14P4 : AC := .cond (.tmp 67) c14R17 .skip
def c14P5 : AC := .seq c14P3 c14P4
def c14P6 : AC := .cond (.tmp 47) c14R14 c14P5
def c14P7 : AC := .seq c14R13 c14P6
def c14P8 : AC := .cond (.tmp 27) c14R12 c14P7
def c14P9 : AC := .seq c14R11 c14P8
def c14P10 : AC := .cond (.tmp 22) c14R10 c14P9
def c14P11 : AC := .seq c14R9 c14P10
def c14P12 : AC := .cond (.tmp 17) c14R8 c14P11
def c14P13 : AC := .seq c14R7 c14P12
def c14P14 : AC := .block 2 c14P13
def c14P15 : AC := .seq c14R6 c14P14
def c14P16 : AC := .seq c14R5 c14P15
def c14P17 : AC := .seq c14R4 c14P16
def c14P18 : AC := .block 1 c14P17
def c14R18 : AC :=
  .reg false [{ dst := some 74, op := .pure (.bin .add .i64 (.tmp 9) (.const (.int .i64 1))) },
    { dst := some 9, op := .pure (.mv (.tmp 74)) }]
def c14P19 : AC := .seq c14P18 c14R18
def c14P20 : AC := .seq c14P1 c14P19
def c14P21 : AC := .seq c14R3 c14P20
def c14P22 : AC := .loop c14P21
def c14P23 : AC := .block 0 c14P22
def c14P24 : AC := .seq c14R2 c14P23
def c14R19 : AC :=
  .reg false [{ dst := some 75, op := .pure (.mv (.tmp 3)) },
    { dst := some 76, op := .pure (.len 1 (.tmp 75)) },
    { dst := some 77, op := .pure (.bin .eql .i64 (.tmp 76) (.const (.int .i64 1))) },
    { dst := some 78, op := .pure (.mv (.tmp 77)) },
    { dst := some 79, op := .pure (.mv (.tmp 3)), g := some (78, true) },
    { dst := some 80, op := .pure (.iadr 1 .i64 (.tmp 79) (.const (.int .i64 0))), g := some (78, true) },
    { dst := some 81, op := .pure (.load 1 false (.tmp 80)), g := some (78, true) },
    { dst := some 82, op := .pure (.pick (.tmp 78) (.tmp 81) (.const (.bool false))) },
    { dst := some 2, op := .pure (.mv (.tmp 82)) }]
def c14P25 : AC := .seq c14R19 .ret
def c14P26 : AC := .seq c14P24 c14P25
def c14P27 : AC := .seq c14R1 c14P26
def c14P28 : AC := .seq c14R0 c14P27
def c14 : AC := c14P28
def r14 : List RV := [.tmp 2]
/-! bosket/deriv.By -/
def c16R0 : AC :=
  .reg false [{ dst := some 4, op := .alloc [.sh, .sh] (.agg [.bool false, .sl 5 []]) }]
def c16R1 : AC :=
  .reg false [{ dst := some 5, op := .pure (.mv (.tmp 0)) },
    { dst := some 6, op := .call false 38 [(.tmp 5)] },
    { dst := some 7, op := .pure (.bin .neq .i64 (.tmp 6) (.const (.int .i64 0))) }]
def c16R2 : AC :=
  .reg false [{ dst := some 8, op := .pure (.bld [.bool false, .sl 5 []] [(0, 1, (.const (.bool true)))]) },
    { dst := none, op := .sto 2 (.tmp 4) (.tmp 8) }]
def c16P1 : AC := .seq c16R2 .ret
def c16P2 : AC := .cond (.tmp 7) c16P1 .skip
def c16P3 : AC := .seq c16R1 c16P2
def c16R3 : AC :=
  .reg false [{ dst := some 9, op := .pure (.mv (.tmp 0)) },
    { dst := some 10, op := .pure (.mv (.tmp 1)) },
    { dst := some 11, op := .call false 39 [(.tmp 9), (.tmp 10)] },
    { dst := none, op := .sto 2 (.tmp 4) (.tmp 11) }]
def c16P4 : AC := .seq c16R3 .ret
def c16P5 : AC := .seq c16P3 c16P4
def c16P6 : AC := .seq c16R0 c16P5
def c16 : AC := c16P6
def r16 : List RV := [.cell 4 2 true]
/-! bosket/bosketref02.Has -/
def c17R0 : AC :=
  .reg false [{ dst := some 2, op := .box (.tmp 0) },
    { dst := some 4, op := .pure (.mv (.const (.bool false))) }]
def c17R1 : AC :=
  .reg false [{ dst := some 7, op := .pure (.mv (.tmp 1)) },
    { dst := some 8, op := .pure (.bin .quo .i64 (.tmp 7) (.const (.int .i64 64))) },
    { dst := some 9, op := .pure (.aadr 1 4 .i64 (.tmp 2) (.tmp 8)) },
    { dst := some 10, op := .pure (.load 1 false (.tmp 9)) },
    { dst := some 5, op := .pure (.mv (.tmp 10)) }]
def c17R2 : AC :=
  .reg false [{ dst := some 6, op := .pure (.mv (.const (.int .i64 0))) }]
def c17R3 : AC :=
  .reg false [{ dst := some 11, op := .pure (.mv (.tmp 6)) },
    { dst := some 12, op := .pure (.mv (.tmp 1)) },
    { dst := some 13, op := .pure (.bin .rem .i64 (.tmp 12) (.const (.int .i64 64))) },
    { dst := some 14, op := .pure (.bin .lss .i64 (.tmp 11) (.tmp 13)) }]
def c17P1 : AC := .cond (.tmp 14) .skip (.exit 0)
def c17P2 : AC := .seq c17R3 c17P1
def c17R5 : AC :=
  .reg false [{ dst := some 17, op := .pure (.mv (.tmp 5)) },
    { dst := some 18, op := .pure (.bin .quo .u64 (.tmp 17) (.const (.int .u64 2))) },
    { dst := some 5, op := .pure (.mv (.tmp 18)) }]
def c17P3 : AC := .block 1 c17R5
def c17R4 : AC :=
  .reg false [{ dst := some 15, op := .pure (.mv (.tmp 6)) },
    { dst := some 16, op := .pure (.bin .add .i64 (.tmp 15) (.const (.int .i64 1))) },
    { dst := some 6, op := .pure (.mv (.tmp 16)) }]
def c17P4 : AC := .seq c17P3 c17R4
def c17P5 : AC := .seq c17P2 c17P4
def c17P6 : AC := .loop c17P5
def c17P7 : AC := .block 0 c17P6
def c17P8 : AC := .seq c17R2 c17P7
def c17R6 : AC :=
  .reg false [{ dst := some 19, op := .pure (.mv (.tmp 5)) },
    { dst := some 20, op := .pure (.bin .rem .u64 (.tmp 19) (.const (.int .u64 2))) },
    { dst := some 21, op := .pure (.bin .eql .u64 (.tmp 20) (.const (.int .u64 1))) },
    { dst := some 4, op := .pure (.mv (.tmp 21)) }]
def c17P9 : AC := .seq c17R6 .ret
def c17P10 : AC := .seq c17P8 c17P9
def c17P11 : AC := .seq c17R1 c17P10
def c17P12 : AC := .seq c17R0 c17P11
def c17 : AC := c17P12
def r17 : List RV := [.tmp 4]
/-! slices.Clone[bosket/api.Regex,bosket/api.Piece] -/
def c37R0 : AC :=
  .reg false [{ dst := some 2, op := .pure (.mv (.const (.sl 5 []))) }]
def c37R1 : AC :=
  .reg false [{ dst := some 3, op := .pure (.mv (.tmp 0)) },
    { dst := some 4, op := .isnil false (.tmp 3) }]
def c37R2 : AC :=
  .reg false [{ dst := some 2, op := .pure (.mv (.const (.sl 5 []))) }]
def c37P1 : AC := .seq c37R2 .ret
def c37P2 : AC := .cond (.tmp 4) c37P1 .skip
def c37P3 : AC := .seq c37R1 c37P2
def c37R3 : AC :=
  .reg false [{ dst := some 5, op := .mks false true 5 0 [] },
    { dst := some 6, op := .pure (.mv (.tmp 0)) },
    { dst := some 7, op := .app true false [.sh, .sh, .sh, .sh, .sh] (.tmp 5) (.tmp 6) },
    { dst := some 2, op := .pure (.mv (.tmp 7)) }]
def c37P4 : AC := .seq c37R3 .ret
def c37P5 : AC := .seq c37P3 c37P4
def c37P6 : AC := .seq c37R0 c37P5
def c37 : AC := c37P6
def r37 : List RV := [.tmp 2]
/-! bosket/rex.Check -/
def c38R0 : AC :=
  .reg false [{ dst := some 2, op := .pure (.mv (.const (.int .i64 0))) }]
def c38R1 : AC :=
  .reg false [{ dst := some 7, op := .pure (.mv (.tmp 0)) },
    { dst := some 8, op := .pure (.len 5 (.tmp 7)) },
    { dst := some 9, op := .pure (.bin .gtr .i64 (.tmp 8) (.const (.int .i64 400))) }]
def c38R2 : AC :=
  .reg false [{ dst := some 2, op := .pure (.mv (.const (.int .i64 6))) }]
def c38P1 : AC := .seq c38R2 .ret
def c38P2 : AC := .cond (.tmp 9) c38P1 .skip
def c38P3 : AC := .seq c38R1 c38P2
def c38R3 : AC :=
  .reg false [{ dst := some 3, op := .pure (.mv (.const (.int .i64 0))) }]
def c38R4 : AC :=
  .reg false [{ dst := some 10, op := .pure (.mv (.tmp 0)) },
    { dst := some 11, op := .pure (.len 5 (.tmp 10)) },
    { dst := some 12, op := .pure (.mv (.const (.int .i64 0))) }]
def c38R5 : AC :=
  .reg false [{ dst := some 13, op := .pure (.bin .lss .i64 (.tmp 12) (.tmp 11)) }]
def c38P4 : AC := .cond (.tmp 13) .skip (.exit 0)
def c38R6 : AC :=
  .reg false [{ dst := some 14, op := .pure (.iadr 5 .i64 (.tmp 10) (.tmp 12)) },
    { dst := some 15, op := .pure (.load 5 true (.tmp 14)) },
    { dst := some 5, op := .alloc [.sh, .sh, .sh, .sh, .sh] (.agg [.int .i64 0, .int .u64 0, .int .u64 0, .int .u64 0, .int .u64 0]) },
    { dst := none, op := .sto 5 (.tmp 5) (.tmp 15) }]
def c38R7 : AC :=
  .reg false [{ dst := some 16, op := .pure (.fadr 0 (.tmp 5)) },
    { dst := some 17, op := .pure (.load 1 false (.tmp 16)) },
    { dst := some 18, op := .call false 72 [(.tmp 17)] },
    { dst := some 6, op := .pure (.mv (.tmp 18)) }]
def c38R8 : AC :=
  .reg true [{ dst := some 19, op := .pure (.mv (.tmp 6)), tch := some [19] },
    { dst := some 20, op := .pure (.bin .lss .i64 (.tmp 19) (.const (.int .i64 0))), tch := some [20] },
    { dst := some 21, op := .pure (.mv (.tmp 20)), tch := some [21] },
    { dst := some 22, op := .pure (.mv (.tmp 6)), g := some (21, false), unk := [23], tch := some [22] },
    { dst := some 23, op := .pure (.mv (.tmp 3)), g := some (21, false), unk := [22], tch := some [23] },
    { dst := some 24, op := .pure (.bin .gtr .i64 (.tmp 22) (.tmp 23)), g := some (21, false), tch := some [24] },
    { dst := some 25, op := .pure (.pick (.tmp 21) (.const (.bool true)) (.tmp 24)), tch := some [25] },
    { dst := some 26, op := .pure (.mv (.tmp 25)), tch := some [26] },
    { dst := some 27, op := .pure (.fadr 0 (.tmp 5)), g := some (26, false), unk := [30, 31, 32], tch := some [27] },
    { dst := some 28, op := .pure (.load 1 false (.tmp 27)), g := some (26, false), unk := [30, 31, 32], tch := some [28] },
    { dst := some 29, op := .pure (.bin .eql .i64 (.tmp 28) (.const (.int .i64 1))), g := some (26, false), unk := [30, 31, 32], tch := some [29] },
    { dst := some 30, op := .pure (.fadr 1 (.tmp 5)), g := some (26, false), unk := [27, 28, 29], tch := some [30] },
    { dst := some 31, op := .pure (.load 4 true (.tmp 30)), g := some (26, false), unk := [27, 28, 29], tch := some [31] },
    { dst := some 32, op := .call false 73 [(.tmp 31)], g := some (26, false), unk := [27, 28, 29], tch := some [32] },
    { dst := some 33, op := .pure (.beq false (.tmp 29) (.tmp 32)), g := some (26, false), tch := some [33] },
    { dst := some 34, op := .pure (.pick (.tmp 26) (.const (.bool true)) (.tmp 33)), tch := some [34] }]
def c38R9 : AC :=
  .reg false [{ dst := some 2, op := .pure (.mv (.const (.int .i64 5))) }]
def c38P5 : AC := .seq c38R9 .ret
def c38P6 : AC := .cond (.tmp 34) c38P5 .skip
def c38P7 : AC := .seq c38R8 c38P6
def c38R10 : AC :=
  .reg false [{ dst := some 35, op := .pure (.mv (.tmp 3)) },
    { dst := some 36, op := .pure (.mv (.tmp 6)) },
    { dst := some 37, op := .pure (.bin .sub .i64 (.const (.int .i64 1)) (.tmp 36)) },
    { dst := some 38, op := .pure (.bin .add .i64 (.tmp 35) (.tmp 37)) },
    { dst := some 3, op := .pure (.mv (.tmp 38)) }]
def c38P8 : AC := .seq c38P7 c38R10
def c38P9 : AC := .seq c38R7 c38P8
def c38P10 : AC := .seq c38R6 c38P9
def c38P11 : AC := .block 1 c38P10
def c38R11 : AC :=
  .reg false [{ dst := some 39, op := .pure (.bin .add .i64 (.tmp 12) (.const (.int .i64 1))) },
    { dst := some 12, op := .pure (.mv (.tmp 39)) }]
def c38P12 : AC := .seq c38P11 c38R11
def c38P13 : AC := .seq c38P4 c38P12
def c38P14 : AC := .seq c38R5 c38P13
def c38P15 : AC := .loop c38P14
def c38P16 : AC := .block 0 c38P15
def c38P17 : AC := .seq c38R4 c38P16
def c38R12 : AC :=
  .reg false [{ dst := some 40, op := .pure (.mv (.tmp 3)) },
    { dst := some 41, op := .pure (.bin .neq .i64 (.tmp 40) (.const (.int .i64 1))) }]
def c38R13 : AC :=
  .reg false [{ dst := some 2, op := .pure (.mv (.const (.int .i64 5))) }]
def c38P18 : AC := .seq c38R13 .ret
def c38P19 : AC := .cond (.tmp 41) c38P18 .skip
def c38P20 : AC := .seq c38R12 c38P19
def c38R14 : AC :=
  .reg false [{ dst := some 2, op := .pure (.mv (.const (.int .i64 0))) }]
def c38P21 : AC := .seq c38R14 .ret
def c38P22 : AC := .seq c38P20 c38P21
def c38P23 : AC := .seq c38P17 c38P22
def c38P24 : AC := .seq c38R3 c38P23
def c38P25 : AC := .seq c38P3 c38P24
def c38P26 : AC := .seq c38R0 c38P25
def c38 : AC := c38P26
def r38 : List RV := [.tmp 2]
/-! bosket/deriv.derive -/
def c39R0 : AC :=
  .reg false [{ dst := some 4, op := .alloc [.sh, .sh] (.agg [.bool false, .sl 5 []]) }]
def c39R1 : AC :=
  .reg false [{ dst := some 8, op := .pure (.mv (.tmp 0)) },
    { dst := some 9, op := .pure (.mv (.tmp 0)) },
    { dst := some 10, op := .pure (.len 5 (.tmp 9)) },
    { dst := some 11, op := .pure (.bin .sub .i64 (.tmp 10) (.const (.int .i64 1))) },
    { dst := some 12, op := .pure (.iadr 5 .i64 (.tmp 8) (.tmp 11)) },
    { dst := some 13, op := .pure (.load 5 true (.tmp 12)) },
    { dst := some 5, op := .alloc [.sh, .sh, .sh, .sh, .sh] (.agg [.int .i64 0, .int .u64 0, .int .u64 0, .int .u64 0, .int .u64 0]) },
    { dst := none, op := .sto 5 (.tmp 5) (.tmp 13) }]
def c39R2 : AC :=
  .reg false [{ dst := some 14, op := .pure (.mv (.tmp 0)) },
    { dst := some 15, op := .call false 74 [(.tmp 14)] },
    { dst := some 6, op := .pure (.mv (.tmp 15)) }]
def c39R3 : AC :=
  .reg false [{ dst := some 16, op := .pure (.fadr 0 (.tmp 5)) },
    { dst := some 17, op := .pure (.load 1 false (.tmp 16)) }]
def c39R4 : AC :=
  .reg false [{ dst := some 19, op := .pure (.bin .eql .i64 (.tmp 17) (.const (.int .i64 1))) },
    { dst := some 18, op := .pure (.mv (.tmp 19)) }]
def c39R5 : AC :=
  .reg false [{ dst := some 20, op := .pure (.fadr 1 (.tmp 5)) },
    { dst := some 21, op := .pure (.load 4 true (.tmp 20)) },
    { dst := some 22, op := .pure (.mv (.tmp 1)) },
    { dst := some 23, op := .call false 75 [(.tmp 21), (.tmp 22)] }]
def c39R6 : AC :=
  .reg false [{ dst := some 24, op := .pure (.bld [.int .i64 0, .int .u64 0, .int .u64 0, .int .u64 0, .int .u64 0] [(0, 1, (.const (.int .i64 0)))]) },
    { dst := some 25, op := .mks true true 5 1 [(0, 5, (.tmp 24))] },
    { dst := some 26, op := .pure (.bld [.bool false, .sl 5 []] [(1, 1, (.tmp 25))]) },
    { dst := none, op := .sto 2 (.tmp 4) (.tmp 26) }]
def c39P1 : AC := .seq c39R6 .ret
def c39P2 : AC := .cond (.tmp 23) c39P1 .skip
def c39P3 : AC := .seq c39R5 c39P2
def c39R7 : AC :=
  .reg false [{ dst := some 28, op := .pure (.bin .eql .i64 (.tmp 17) (.const (.int .i64 2))) },
    { dst := some 27, op := .pure (.mv (.tmp 28)) }]
def c39R8 : AC :=
  .reg true [{ dst := some 29, op := .pure (.mv (.tmp 6)), unk := [7, 32, 34, 35, 36, 37], tch := some [29] },
    { dst := some 30, op := .pure (.iadr 1 .i64 (.tmp 29) (.const (.int .i64 0))), unk := [7, 32, 34, 35, 36, 37], tch := some [30] },
    { dst := some 31, op := .pure (.load 1 false (.tmp 30)), unk := [7, 32, 34, 35, 36, 37], tch := some [31] },
    { dst := some 32, op := .pure (.mv (.tmp 1)), unk := [7, 29, 30, 31, 34, 35, 36, 37], tch := some [32] },
    { dst := some 33, op := .call false 39 [(.tmp 31), (.tmp 32)], unk := [7, 34, 35, 36, 37], tch := some [33] },
    { dst := some 34, op := .pure (.mv (.tmp 6)), unk := [7, 29, 30, 31, 32, 33], tch := some [34] },
    { dst := some 35, op := .pure (.iadr 1 .i64 (.tmp 34) (.const (.int .i64 1))), unk := [7, 29, 30, 31, 32, 33], tch := some [35] },
    { dst := some 36, op := .pure (.load 1 false (.tmp 35)), unk := [7, 29, 30, 31, 32, 33], tch := some [36] },
    { dst := some 37, op := .pure (.bld [.bool false, .sl 5 []] [(1, 1, (.tmp 36))]), unk := [7, 29, 30, 31, 32, 33], tch := some [37] },
    { dst := some 38, op := .call false 76 [(.tmp 33), (.tmp 37)], unk := [7], tch := some [38] },
    { dst := some 7, op := .alloc [.sh, .sh] (.agg [.bool false, .sl 5 []]), unk := [29, 30, 31, 32, 33, 34, 35, 36, 37, 38], tch := some [7] },
    { dst := none, op := .sto 2 (.tmp 7) (.tmp 38), tch := some [7] }]
def c39R9 : AC :=
  .reg false [{ dst := some 39, op := .pure (.mv (.tmp 6)) },
    { dst := some 40, op := .pure (.iadr 1 .i64 (.tmp 39) (.const (.int .i64 0))) },
    { dst := some 41, op := .pure (.load 1 false (.tmp 40)) },
    { dst := some 42, op := .call false 14 [(.tmp 41)] }]
def c39R10 : AC :=
  .reg true [{ dst := some 43, op := .pure (.load 2 true (.tmp 7)), unk := [44, 45, 46, 47, 48], tch := some [43] },
    { dst := some 44, op := .pure (.mv (.tmp 6)), unk := [43, 47], tch := some [44] },
    { dst := some 45, op := .pure (.iadr 1 .i64 (.tmp 44) (.const (.int .i64 1))), unk := [43, 47], tch := some [45] },
    { dst := some 46, op := .pure (.load 1 false (.tmp 45)), unk := [43, 47], tch := some [46] },
    { dst := some 47, op := .pure (.mv (.tmp 1)), unk := [43, 44, 45, 46], tch := some [47] },
    { dst := some 48, op := .call false 39 [(.tmp 46), (.tmp 47)], unk := [43], tch := some [48] },
    { dst := some 49, op := .call false 77 [(.tmp 43), (.tmp 48)], tch := some [49] },
    { dst := none, op := .sto 2 (.tmp 4) (.tmp 49), tch := some [4] }]
def c39P4 : AC := .seq c39R10 .ret
def c39P5 : AC := .cond (.tmp 42) c39P4 .skip
def c39P6 : AC := .seq c39R9 c39P5
def c39R11 : AC :=
  .reg false [{ dst := some 50, op := .pure (.load 2 true (.tmp 7)) },
    { dst := none, op := .sto 2 (.tmp 4) (.tmp 50) }]
def c39P7 : AC := .seq c39R11 .ret
def c39P8 : AC := .seq c39P6 c39P7
def c39P9 : AC := .seq c39R8 c39P8
def c39R12 : AC :=
  .reg false [{ dst := some 52, op := .pure (.bin .eql .i64 (.tmp 17) (.const (.int .i64 3))) },
    { dst := some 51, op := .pure (.mv (.tmp 52)) }]
def c39R13 : AC :=
  .reg true [{ dst := some 53, op := .pure (.mv (.tmp 6)), unk := [56, 58, 59, 60, 61], tch := some [53] },
    { dst := some 54, op := .pure (.iadr 1 .i64 (.tmp 53) (.const (.int .i64 0))), unk := [56, 58, 59, 60, 61], tch := some [54] },
    { dst := some 55, op := .pure (.load 1 false (.tmp 54)), unk := [56, 58, 59, 60, 61], tch := some [55] },
    { dst := some 56, op := .pure (.mv (.tmp 1)), unk := [53, 54, 55, 58, 59, 60, 61], tch := some [56] },
    { dst := some 57, op := .call false 39 [(.tmp 55), (.tmp 56)], unk := [58, 59, 60, 61], tch := some [57] },
    { dst := some 58, op := .pure (.mv (.tmp 6)), unk := [53, 54, 55, 56, 57, 61], tch := some [58] },
    { dst := some 59, op := .pure (.iadr 1 .i64 (.tmp 58) (.const (.int .i64 1))), unk := [53, 54, 55, 56, 57, 61], tch := some [59] },
    { dst := some 60, op := .pure (.load 1 false (.tmp 59)), unk := [53, 54, 55, 56, 57, 61], tch := some [60] },
    { dst := some 61, op := .pure (.mv (.tmp 1)), unk := [53, 54, 55, 56, 57, 58, 59, 60], tch := some [61] },
    { dst := some 62, op := .call false 39 [(.tmp 60), (.tmp 61)], tch := some [62] },
    { dst := some 63, op := .call false 77 [(.tmp 57), (.tmp 62)], tch := some [63] },
    { dst := none, op := .sto 2 (.tmp 4) (.tmp 63), tch := some [4] }]
def c39P10 : AC := .seq c39R13 .ret
def c39R14 : AC :=
  .reg false [{ dst := some 65, op := .pure (.bin .eql .i64 (.tmp 17) (.const (.int .i64 6))) },
    { dst := some 64, op := .pure (.mv (.tmp 65)) }]
def c39R15 : AC :=
  .reg false [{ dst := some 66, op := .pure (.mv (.tmp 6)) },
    { dst := some 67, op := .pure (.iadr 1 .i64 (.tmp 66) (.const (.int .i64 0))) },
    { dst := some 68, op := .pure (.load 1 false (.tmp 67)) },
    { dst := some 69, op := .pure (.mv (.tmp 1)) },
    { dst := some 70, op := .call false 39 [(.tmp 68), (.tmp 69)] },
    { dst := none, op := .sto 2 (.tmp 4) (.tmp 70) }]
def c39P11 : AC := .seq c39R15 .ret
def c39R16 : AC :=
  .reg false [{ dst := some 72, op := .pure (.bin .eql .i64 (.tmp 17) (.const (.int .i64 4))) },
    { dst := some 71, op := .pure (.mv (.tmp 72)) }]
def c39R17 : AC :=
  .reg false [{ dst := some 73, op := .pure (.bin .eql .i64 (.tmp 17) (.const (.int .i64 5))) },
    { dst := some 71, op := .pure (.mv (.tmp 73)) }]
def c39P12 : AC := .cond (.tmp 71) .skip c39R17
def c39P13 : AC := .seq c39R16 c39P12
def c39R18 : AC :=
  .reg true [{ dst := some 74, op := .pure (.mv (.tmp 6)), unk := [77, 79, 80, 81, 82], tch := some [74] },
    { dst := some 75, op := .pure (.iadr 1 .i64 (.tmp 74) (.const (.int .i64 0))), unk := [77, 79, 80, 81, 82], tch := some [75] },
    { dst := some 76, op := .pure (.load 1 false (.tmp 75)), unk := [77, 79, 80, 81, 82], tch := some [76] },
    { dst := some 77, op := .pure (.mv (.tmp 1)), unk := [74, 75, 76, 79, 80, 81, 82], tch := some [77] },
    { dst := some 78, op := .call false 39 [(.tmp 76), (.tmp 77)], unk := [79, 80, 81, 82], tch := some [78] },
    { dst := some 79, op := .pure (.mv (.tmp 6)), unk := [74, 75, 76, 77, 78], tch := some [79] },
    { dst := some 80, op := .pure (.iadr 1 .i64 (.tmp 79) (.const (.int .i64 0))), unk := [74, 75, 76, 77, 78], tch := some [80] },
    { dst := some 81, op := .pure (.load 1 false (.tmp 80)), unk := [74, 75, 76, 77, 78], tch := some [81] },
    { dst := some 82, op := .mks true false 1 1 [(0, 1, (.tmp 81))], unk := [74, 75, 76, 77, 78], tch := some [82] },
    { dst := some 83, op := .call false 78 [(.const (.int .i64 4)), (.tmp 82)], tch := some [83] },
    { dst := some 84, op := .pure (.bld [.bool false, .sl 5 []] [(1, 1, (.tmp 83))]), tch := some [84] },
    { dst := some 85, op := .call false 76 [(.tmp 78), (.tmp 84)], tch := some [85] },
    { dst := none, op := .sto 2 (.tmp 4) (.tmp 85), tch := some [4] }]
def c39P14 : AC := .seq c39R18 .ret
def c39P15 : AC := .cond (.tmp 71) c39P14 .skip
def c39P16 : AC := .seq c39P13 c39P15
def c39P17 : AC := .cond (.tmp 64) c39P11 c39P16
def c39P18 : AC := .seq c39R14 c39P17
def c39P19 : AC := .cond (.tmp 51) c39P10 c39P18
def c39P20 : AC := .seq c39R12 c39P19
def c39P21 : AC := .cond (.tmp 27) c39P9 c39P20
def c39P22 : AC := .seq c39R7 c39P21
def c39P23 : AC := .cond (.tmp 18) c39P3 c39P22
def c39P24 : AC := .seq c39R4 c39P23
def c39P25 : AC := .block 0 c39P24
def c39P26 : AC := .seq c39R3 c39P25
def c39R19 : AC :=
  .reg false [{ dst := some 86, op := .pure (.bld [.bool false, .sl 5 []] [(0, 1, (.const (.bool true)))]) },
    { dst := none, op := .sto 2 (.tmp 4) (.tmp 86) }]
def c39P27 : AC := .seq c39R19 .ret
def c39P28 : AC := .seq c39P26 c39P27
def c39P29 : AC := .seq c39R2 c39P28
def c39P30 : AC := .seq c39R1 c39P29
def c39P31 : AC := .seq c39R0 c39P30
def c39 : AC := c39P31
def r39 : List RV := [.cell 4 2 true]
/-! bosket/bosketref04.Takes -/
def c40R0 : AC :=
  .reg false [{ dst := some 2, op := .pure (.mv (.const (.int .i64 0))) }]
def c40R1 : AC :=
  .reg false [{ dst := some 4, op := .mks true false 1 7 [(0, 1, (.const (.int .i64 0))), (1, 1, (.const (.int .i64 0))), (2, 1, (.const (.int .i64 2))), (3, 1, (.const (.int .i64 2))), (4, 1, (.const (.int .i64 1))), (5, 1, (.const (.int .i64 1))), (6, 1, (.const (.int .i64 1)))] },
    { dst := some 3, op := .pure (.mv (.tmp 4)) }]
def c40R2 : AC :=
  .reg false [{ dst := some 5, op := .pure (.mv (.tmp 0)) },
    { dst := some 6, op := .pure (.bin .lss .i64 (.tmp 5) (.const (.int .i64 0))) },
    { dst := some 7, op := .pure (.mv (.tmp 6)) },
    { dst := some 8, op := .pure (.mv (.tmp 0)), g := some (7, false) },
    { dst := some 9, op := .pure (.bin .gtr .i64 (.tmp 8) (.const (.int .i64 6))), g := some (7, false) },
    { dst := some 10, op := .pure (.pick (.tmp 7) (.const (.bool true)) (.tmp 9)) }]
def c40R3 : AC :=
  .reg false [{ dst := some 2, op := .pure (.mv (.const (.int .i64 (-1)))) }]
def c40P1 : AC := .seq c40R3 .ret
def c40P2 : AC := .cond (.tmp 10) c40P1 .skip
def c40P3 : AC := .seq c40R2 c40P2
def c40R4 : AC :=
  .reg false [{ dst := some 11, op := .pure (.mv (.tmp 3)) },
    { dst := some 12, op := .pure (.mv (.tmp 0)) },
    { dst := some 13, op := .pure (.iadr 1 .i64 (.tmp 11) (.tmp 12)) },
    { dst := some 14, op := .pure (.load 1 false (.tmp 13)) },
    { dst := some 2, op := .pure (.mv (.tmp 14)) }]
def c40P4 : AC := .seq c40R4 .ret
def c40P5 : AC := .seq c40P3 c40P4
def c40P6 : AC := .seq c40R1 c40P5
def c40P7 : AC := .seq c40R0 c40P6
def c40 : AC := c40P7
def r40 : List RV := [.tmp 2]
/-! bosket/bosketref04.spans -/
def c41R0 : AC :=
  .reg false [{ dst := some 3, op := .box (.tmp 0) },
    { dst := some 6, op := .nilO [.sl [.sh]] }]
def c41R1 : AC :=
  .reg false [{ dst := some 9, op := .pure (.fadr 0 (.tmp 3)) },
    { dst := some 10, op := .pure (.load 1 false (.tmp 9)) }]
def c41R2 : AC :=
  .reg false [{ dst := some 12, op := .pure (.bin .eql .i64 (.tmp 10) (.const (.int .i64 1))) },
    { dst := some 11, op := .pure (.mv (.tmp 12)) }]
def c41R3 : AC :=
  .reg false [{ dst := some 13, op := .pure (.mv (.tmp 2)) },
    { dst := some 14, op := .pure (.lenS (.tmp 13)) },
    { dst := some 15, op := .call true 79 [(.tmp 14)] },
    { dst := some 7, op := .take 15 }]
def c41R4 : AC :=
  .reg false [{ dst := some 8, op := .pure (.mv (.const (.int .i64 0))) }]
def c41R5 : AC :=
  .reg false [{ dst := some 16, op := .pure (.mv (.tmp 8)) },
    { dst := some 17, op := .pure (.mv (.tmp 2)) },
    { dst := some 18, op := .pure (.lenS (.tmp 17)) },
    { dst := some 19, op := .pure (.bin .lss .i64 (.tmp 16) (.tmp 18)) }]
def c41P1 : AC := .cond (.tmp 19) .skip (.exit 1)
def c41P2 : AC := .seq c41R5 c41P1
def c41R7 : AC :=
  .reg true [{ dst := some 22, op := .pure (.mv (.tmp 7)), unk := [23, 26, 27, 28, 29, 30, 31, 32, 33, 34], tch := some [22] },
    { dst := some 23, op := .pure (.mv (.tmp 8)), unk := [22, 26, 27, 28, 29, 30, 31, 32, 33, 34], tch := some [23] },
    { dst := some 24, op := .pure (.iadr 1 .i64 (.tmp 22) (.tmp 23)), unk := [26, 27, 28, 29, 30, 31, 32, 33, 34], tch := some [24] },
    { dst := some 25, op := .pure (.load 1 false (.tmp 24)), unk := [26, 27, 28, 29, 30, 31, 32, 33, 34], tch := some [25] },
    { dst := some 26, op := .pure (.mv (.tmp 8)), unk := [22, 23, 24, 25, 28, 29, 30, 31, 32, 33, 34], tch := some [26] },
    { dst := some 27, op := .pure (.bin .add .i64 (.tmp 26) (.const (.int .i64 1))), unk := [22, 23, 24, 25, 28, 29, 30, 31, 32, 33, 34], tch := some [27] },
    { dst := some 28, op := .pure (.fadr 1 (.tmp 3)), unk := [22, 23, 24, 25, 26, 27, 30, 31, 32, 33], tch := some [28] },
    { dst := some 29, op := .pure (.load 4 true (.tmp 28)), unk := [22, 23, 24, 25, 26, 27, 30, 31, 32, 33], tch := some [29] },
    { dst := some 30, op := .pure (.mv (.tmp 2)), unk := [22, 23, 24, 25, 26, 27, 28, 29, 31], tch := some [30] },
    { dst := some 31, op := .pure (.mv (.tmp 8)), unk := [22, 23, 24, 25, 26, 27, 28, 29, 30], tch := some [31] },
    { dst := some 32, op := .pure (.idxS .i64 (.tmp 30) (.tmp 31)), unk := [22, 23, 24, 25, 26, 27, 28, 29], tch := some [32] },
    { dst := some 33, op := .pure (.conv .i64 .u8 (.tmp 32)), unk := [22, 23, 24, 25, 26, 27, 28, 29], tch := some [33] },
    { dst := some 34, op := .call false 17 [(.tmp 29), (.tmp 33)], unk := [22, 23, 24, 25, 26, 27], tch := some [34] },
    { dst := some 35, op := .pure (.iadr 1 .i64 (.tmp 25) (.tmp 27)), tch := some [35] },
    { dst := none, op := .sto 1 (.tmp 35) (.tmp 34) }]
def c41P3 : AC := .block 2 c41R7
def c41R6 : AC :=
  .reg false [{ dst := some 20, op := .pure (.mv (.tmp 8)) },
    { dst := some 21, op := .pure (.bin .add .i64 (.tmp 20) (.const (.int .i64 1))) },
    { dst := some 8, op := .pure (.mv (.tmp 21)) }]
def c41P4 : AC := .seq c41P3 c41R6
def c41P5 : AC := .seq c41P2 c41P4
def c41P6 : AC := .loop c41P5
def c41P7 : AC := .block 1 c41P6
def c41P8 : AC := .seq c41R4 c41P7
def c41R8 : AC :=
  .reg false [{ dst := some 36, op := .take 7 },
    { dst := some 6, op := .take 36 }]
def c41P9 : AC := .seq c41R8 .ret
def c41P10 : AC := .seq c41P8 c41P9
def c41P11 : AC := .seq c41R3 c41P10
def c41R9 : AC :=
  .reg false [{ dst := some 38, op := .pure (.bin .eql .i64 (.tmp 10) (.const (.int .i64 2))) },
    { dst := some 37, op := .pure (.mv (.tmp 38)) }]
def c41R10 : AC :=
  .reg true [{ dst := some 39, op := .pure (.mv (.tmp 1)), unk := [42, 43, 44], tch := some [39] },
    { dst := some 40, op := .pure (.iadr 1 .i64 (.tmp 39) (.const (.int .i64 0))), unk := [42, 43, 44], tch := some [40] },
    { dst := some 41, op := .pure (.load 1 false (.tmp 40)), unk := [42, 43, 44], tch := some [41] },
    { dst := some 42, op := .pure (.mv (.tmp 1)), unk := [39, 40, 41], tch := some [42] },
    { dst := some 43, op := .pure (.iadr 1 .i64 (.tmp 42) (.const (.int .i64 1))), unk := [39, 40, 41], tch := some [43] },
    { dst := some 44, op := .pure (.load 1 false (.tmp 43)), unk := [39, 40, 41], tch := some [44] },
    { dst := some 45, op := .call true 80 [(.tmp 41), (.tmp 44)], tch := some [45] },
    { dst := some 6, op := .take 45, tch := some [45, 6, 39, 40, 41, 42, 43, 44], kil := [39, 40, 41, 42, 43, 44] }]
def c41P12 : AC := .seq c41R10 .ret
def c41R11 : AC :=
  .reg false [{ dst := some 47, op := .pure (.bin .eql .i64 (.tmp 10) (.const (.int .i64 3))) },
    { dst := some 46, op := .pure (.mv (.tmp 47)) }]
def c41R12 : AC :=
  .reg true [{ dst := some 48, op := .pure (.mv (.tmp 1)), unk := [51, 52, 53], tch := some [48] },
    { dst := some 49, op := .pure (.iadr 1 .i64 (.tmp 48) (.const (.int .i64 0))), unk := [51, 52, 53], tch := some [49] },
    { dst := some 50, op := .pure (.load 1 false (.tmp 49)), unk := [51, 52, 53], tch := some [50] },
    { dst := some 51, op := .pure (.mv (.tmp 1)), unk := [48, 49, 50], tch := some [51] },
    { dst := some 52, op := .pure (.iadr 1 .i64 (.tmp 51) (.const (.int .i64 1))), unk := [48, 49, 50], tch := some [52] },
    { dst := some 53, op := .pure (.load 1 false (.tmp 52)), unk := [48, 49, 50], tch := some [53] },
    { dst := some 54, op := .call true 81 [(.tmp 50), (.tmp 53)], tch := some [54] },
    { dst := some 6, op := .take 54, tch := some [54, 6, 48, 49, 50, 51, 52, 53], kil := [48, 49, 50, 51, 52, 53] }]
def c41P13 : AC := .seq c41R12 .ret
def c41R13 : AC :=
  .reg false [{ dst := some 56, op := .pure (.bin .eql .i64 (.tmp 10) (.const (.int .i64 4))) },
    { dst := some 55, op := .pure (.mv (.tmp 56)) }]
def c41R14 : AC :=
  .reg false [{ dst := some 57, op := .pure (.mv (.tmp 1)) },
    { dst := some 58, op := .pure (.iadr 1 .i64 (.tmp 57) (.const (.int .i64 0))) },
    { dst := some 59, op := .pure (.load 1 false (.tmp 58)) },
    { dst := some 60, op := .call true 82 [(.tmp 59)] },
    { dst := some 6, op := .take 60 }]
def c41P14 : AC := .seq c41R14 .ret
def c41R15 : AC :=
  .reg false [{ dst := some 62, op := .pure (.bin .eql .i64 (.tmp 10) (.const (.int .i64 5))) },
    { dst := some 61, op := .pure (.mv (.tmp 62)) }]
def c41R16 : AC :=
  .reg true [{ dst := some 63, op := .pure (.mv (.tmp 1)), unk := [66, 67, 68, 69], tch := some [63] },
    { dst := some 64, op := .pure (.iadr 1 .i64 (.tmp 63) (.const (.int .i64 0))), unk := [66, 67, 68, 69], tch := some [64] },
    { dst := some 65, op := .pure (.load 1 false (.tmp 64)), unk := [66, 67, 68, 69], tch := some [65] },
    { dst := some 66, op := .pure (.mv (.tmp 1)), unk := [63, 64, 65], tch := some [66] },
    { dst := some 67, op := .pure (.iadr 1 .i64 (.tmp 66) (.const (.int .i64 0))), unk := [63, 64, 65], tch := some [67] },
    { dst := some 68, op := .pure (.load 1 false (.tmp 67)), unk := [63, 64, 65], tch := some [68] },
    { dst := some 69, op := .call false 82 [(.tmp 68)], unk := [63, 64, 65], tch := some [69] },
    { dst := some 70, op := .call true 80 [(.tmp 65), (.tmp 69)], tch := some [70] },
    { dst := some 6, op := .take 70, tch := some [70, 6, 63, 64, 65, 66, 67, 68, 69], kil := [63, 64, 65, 66, 67, 68, 69] }]
def c41P15 : AC := .seq c41R16 .ret
def c41R17 : AC :=
  .reg false [{ dst := some 72, op := .pure (.bin .eql .i64 (.tmp 10) (.const (.int .i64 6))) },
    { dst := some 71, op := .pure (.mv (.tmp 72)) }]
def c41R18 : AC :=
  .reg true [{ dst := some 73, op := .pure (.mv (.tmp 2)), unk := [76, 77, 78], tch := some [73] },
    { dst := some 74, op := .pure (.lenS (.tmp 73)), unk := [76, 77, 78], tch := some [74] },
    { dst := some 75, op := .call false 83 [(.tmp 74)], unk := [76, 77, 78], tch := some [75] },
    { dst := some 76, op := .pure (.mv (.tmp 1)), unk := [73, 74, 75], tch := some [76] },
    { dst := some 77, op := .pure (.iadr 1 .i64 (.tmp 76) (.const (.int .i64 0))), unk := [73, 74, 75], tch := some [77] },
    { dst := some 78, op := .pure (.load 1 false (.tmp 77)), unk := [73, 74, 75], tch := some [78] },
    { dst := some 79, op := .call true 81 [(.tmp 75), (.tmp 78)], tch := some [79] },
    { dst := some 6, op := .take 79, tch := some [79, 6, 73, 74, 75, 76, 77, 78], kil := [73, 74, 75, 76, 77, 78] }]
def c41P16 : AC := .seq c41R18 .ret
def c41P17 : AC := .cond (.tmp 71) c41P16 .skip
def c41P18 : AC := .seq c41R17 c41P17
def c41P19 : AC := .cond (.tmp 61) c41P15 c41P18
def c41P20 : AC := .seq c41R15 c41P19
def c41P21 : AC := .cond (.tmp 55) c41P14 c41P20
def c41P22 : AC := .seq c41R13 c41P21
def c41P23 : AC := .cond (.tmp 46) c41P13 c41P22
def c41P24 : AC := .seq c41R11 c41P23
def c41P25 : AC := .cond (.tmp 37) c41P12 c41P24
def c41P26 : AC := .seq c41R9 c41P25
def c41P27 : AC := .cond (.tmp 11) c41P11 c41P26
def c41P28 : AC := .seq c41R2 c41P27
def c41P29 : AC := .block 0 c41P28
def c41P30 : AC := .seq c41R1 c41P29
def c41R19 : AC :=
  .reg false [{ dst := some 80, op := .pure (.mv (.tmp 2)) },
    { dst := some 81, op := .pure (.lenS (.tmp 80)) },
    { dst := some 82, op := .call true 83 [(.tmp 81)] },
    { dst := some 6, op := .take 82 }]
def c41P31 : AC := .seq c41R19 .ret
def c41P32 : AC := .seq c41P30 c41P31
def c41P33 : AC := .seq c41R0 c41P32
def c41 : AC := c41P33
def r41 : List RV := [.tmp 6]
/-! bosket/byteset.Or -/
def c44R0 : AC :=
  .reg false [{ dst := some 2, op := .box (.tmp 0) },
    { dst := some 3, op := .box (.tmp 1) },
    { dst := some 4, op := .alloc [.sh, .sh, .sh, .sh] (.agg [.int .u64 0, .int .u64 0, .int .u64 0, .int .u64 0]) }]
def c44R1 : AC :=
  .reg false [{ dst := some 6, op := .pure (.mv (.const (.int .i64 0))) }]
def c44R2 : AC :=
  .reg false [{ dst := some 7, op := .pure (.bin .lss .i64 (.tmp 6) (.const (.int .i64 4))) }]
def c44P1 : AC := .cond (.tmp 7) .skip (.exit 0)
def c44R3 : AC :=
  .reg false [{ dst := some 8, op := .pure (.mv (.tmp 6)) },
    { dst := some 5, op := .pure (.mv (.tmp 8)) }]
def c44R4 : AC :=
  .reg true [{ dst := some 9, op := .pure (.mv (.tmp 5)), unk := [12, 13, 14], tch := some [9] },
    { dst := some 10, op := .pure (.aadr 1 4 .i64 (.tmp 2) (.tmp 9)), unk := [12, 13, 14], tch := some [10] },
    { dst := some 11, op := .pure (.load 1 false (.tmp 10)), unk := [12, 13, 14], tch := some [11] },
    { dst := some 12, op := .pure (.mv (.tmp 5)), unk := [9, 10, 11], tch := some [12] },
    { dst := some 13, op := .pure (.aadr 1 4 .i64 (.tmp 3) (.tmp 12)), unk := [9, 10, 11], tch := some [13] },
    { dst := some 14, op := .pure (.load 1 false (.tmp 13)), unk := [9, 10, 11], tch := some [14] },
    { dst := some 15, op := .pure (.bin .or .u64 (.tmp 11) (.tmp 14)), tch := some [15] },
    { dst := some 16, op := .pure (.aadr 1 4 .i64 (.tmp 2) (.tmp 9)), tch := some [16] },
    { dst := none, op := .sto 1 (.tmp 16) (.tmp 15) }]
def c44P2 : AC := .seq c44R3 c44R4
def c44P3 : AC := .block 1 c44P2
def c44R5 : AC :=
  .reg false [{ dst := some 17, op := .pure (.bin .add .i64 (.tmp 6) (.const (.int .i64 1))) },
    { dst := some 6, op := .pure (.mv (.tmp 17)) }]
def c44P4 : AC := .seq c44P3 c44R5
def c44P5 : AC := .seq c44P1 c44P4
def c44P6 : AC := .seq c44R2 c44P5
def c44P7 : AC := .loop c44P6
def c44P8 : AC := .block 0 c44P7
def c44P9 : AC := .seq c44R1 c44P8
def c44R6 : AC :=
  .reg false [{ dst := some 18, op := .pure (.load 4 true (.tmp 2)) },
    { dst := none, op := .sto 4 (.tmp 4) (.tmp 18) }]
def c44P10 : AC := .seq c44R6 .ret
def c44P11 : AC := .seq c44P9 c44P10
def c44P12 : AC := .seq c44R0 c44P11
def c44 : AC := c44P12
def r44 : List RV := [.cell 4 4 true]
/-! bosket/rex.Takes -/
def c72R0 : AC :=
  .reg false [{ dst := some 2, op := .pure (.mv (.const (.int .i64 0))) }]
def c72R1 : AC :=
  .reg false [{ dst := some 3, op := .pure (.mv (.tmp 0)) }]
def c72R2 : AC :=
  .reg false [{ dst := some 5, op := .pure (.bin .eql .i64 (.tmp 3) (.const (.int .i64 0))) },
    { dst := some 4, op := .pure (.mv (.tmp 5)) }]
def c72R3 : AC :=
  .reg false [{ dst := some 6, op := .pure (.bin .eql .i64 (.tmp 3) (.const (.int .i64 1))) },
    { dst := some 4, op := .pure (.mv (.tmp 6)) }]
def c72P1 : AC := .cond (.tmp 4) .skip c72R3
def c72P2 : AC := .seq c72R2 c72P1
def c72R4 : AC :=
  .reg false [{ dst := some 2, op := .pure (.mv (.const (.int .i64 0))) }]
def c72P3 : AC := .seq c72R4 .ret
def c72R5 : AC :=
  .reg false [{ dst := some 8, op := .pure (.bin .eql .i64 (.tmp 3) (.const (.int .i64 4))) },
    { dst := some 7, op := .pure (.mv (.tmp 8)) }]
def c72R6 : AC :=
  .reg false [{ dst := some 9, op := .pure (.bin .eql .i64 (.tmp 3) (.const (.int .i64 5))) },
    { dst := some 7, op := .pure (.mv (.tmp 9)) }]
def c72R7 : AC :=
  .reg false [{ dst := some 10, op := .pure (.bin .eql .i64 (.tmp 3) (.const (.int .i64 6))) },
    { dst := some 7, op := .pure (.mv (.tmp 10)) }]
def c72P4 : AC := .cond (.tmp 7) .skip c72R7
def c72P5 : AC := .seq c72R6 c72P4
def c72P6 : AC := .cond (.tmp 7) .skip c72P5
def c72P7 : AC := .seq c72R5 c72P6
def c72R8 : AC :=
  .reg false [{ dst := some 2, op := .pure (.mv (.const (.int .i64 1))) }]
def c72P8 : AC := .seq c72R8 .ret
def c72R9 : AC :=
  .reg false [{ dst := some 12, op := .pure (.bin .eql .i64 (.tmp 3) (.const (.int .i64 2))) },
    { dst := some 11, op := .pure (.mv (.tmp 12)) }]
def c72R10 : AC :=
  .reg false [{ dst := some 13, op := .pure (.bin .eql .i64 (.tmp 3) (.const (.int .i64 3))) },
    { dst := some 11, op := .pure (.mv (.tmp 13)) }]
def c72P9 : AC := .cond (.tmp 11) .skip c72R10
def c72P10 : AC := .seq c72R9 c72P9
def c72R11 : AC :=
  .reg false [{ dst := some 2, op := .pure (.mv (.const (.int .i64 2))) }]
def c72P11 : AC := .seq c72R11 .ret
def c72P12 : AC := .cond (.tmp 11) c72P11 .skip
def c72P13 : AC := .seq c72P10 c72P12
def c72P14 : AC := .cond (.tmp 7) c72P8 c72P13
def c72P15 : AC := .seq c72P7 c72P14
def c72P16 : AC := .cond (.tmp 4) c72P3 c72P15
def c72P17 : AC := .seq c72P2 c72P16
def c72P18 : AC := .block 0 c72P17
def c72P19 : AC := .seq c72R1 c72P18
def c72R12 : AC :=
  .reg false [{ dst := some 2, op := .pure (.mv (.const (.int .i64 (-1)))) }]
def c72P20 : AC := .seq c72R12 .ret
def c72P21 : AC := .seq c72P19 c72P20
def c72P22 : AC := .seq c72R0 c72P21
def c72 : AC := c72P22
def r72 : List RV := [.tmp 2]
/-! bosket/byteset.Empty -/
def c73R0 : AC :=
  .reg false [{ dst := some 1, op := .box (.tmp 0) },
    { dst := some 2, op := .pure (.mv (.const (.bool false))) }]
def c73R1 : AC :=
  .reg false [{ dst := some 3, op := .pure (.load 4 true (.tmp 1)) },
    { dst := some 4, op := .pure (.bld [.int .u64 0, .int .u64 0, .int .u64 0, .int .u64 0] []) },
    { dst := some 5, op := .pure (.aeq false [.int .u64, .int .u64, .int .u64, .int .u64] (.tmp 3) (.tmp 4)) },
    { dst := some 2, op := .pure (.mv (.tmp 5)) }]
def c73P1 : AC := .seq c73R1 .ret
def c73P2 : AC := .seq c73R0 c73P1
def c73 : AC := c73P2
def r73 : List RV := [.tmp 2]
/-! bosket/rex.Parts -/
def c74R0 : AC :=
  .reg false [{ dst := some 2, op := .pure (.mv (.const (.sl 1 []))) }]
def c74R1 : AC :=
  .reg false [{ dst := some 4, op := .pure (.mv (.tmp 0)) },
    { dst := some 5, op := .pure (.len 5 (.tmp 4)) },
    { dst := some 6, op := .pure (.bin .eql .i64 (.tmp 5) (.const (.int .i64 0))) }]
def c74R2 : AC :=
  .reg false [{ dst := some 2, op := .pure (.mv (.const (.sl 1 []))) }]
def c74P1 : AC := .seq c74R2 .ret
def c74P2 : AC := .cond (.tmp 6) c74P1 .skip
def c74P3 : AC := .seq c74R1 c74P2
def c74R3 : AC :=
  .reg false [{ dst := some 7, op := .pure (.mv (.tmp 0)) },
    { dst := some 8, op := .pure (.mv (.tmp 0)) },
    { dst := some 9, op := .pure (.len 5 (.tmp 8)) },
    { dst := some 10, op := .pure (.bin .sub .i64 (.tmp 9) (.const (.int .i64 1))) },
    { dst := some 11, op := .pure (.iadr 5 .i64 (.tmp 7) (.tmp 10)) },
    { dst := some 12, op := .pure (.fadr 0 (.tmp 11)) },
    { dst := some 13, op := .pure (.load 1 false (.tmp 12)) },
    { dst := some 14, op := .call false 72 [(.tmp 13)] }]
def c74R4 : AC :=
  .reg false [{ dst := some 16, op := .pure (.bin .eql .i64 (.tmp 14) (.const (.int .i64 1))) },
    { dst := some 15, op := .pure (.mv (.tmp 16)) }]
def c74R5 : AC :=
  .reg false [{ dst := some 17, op := .pure (.mv (.tmp 0)) },
    { dst := some 18, op := .pure (.mv (.tmp 0)) },
    { dst := some 19, op := .pure (.len 5 (.tmp 18)) },
    { dst := some 20, op := .pure (.bin .sub .i64 (.tmp 19) (.const (.int .i64 1))) },
    { dst := some 21, op := .pure (.slc 5 (.tmp 17) none (some (.i64, (.tmp 20)))) },
    { dst := some 22, op := .call false 37 [(.tmp 21)] },
    { dst := some 23, op := .mks true false 1 1 [(0, 1, (.tmp 22))] },
    { dst := some 2, op := .pure (.mv (.tmp 23)) }]
def c74P4 : AC := .seq c74R5 .ret
def c74R6 : AC :=
  .reg false [{ dst := some 25, op := .pure (.bin .eql .i64 (.tmp 14) (.const (.int .i64 2))) },
    { dst := some 24, op := .pure (.mv (.tmp 25)) }]
def c74R7 : AC :=
  .reg false [{ dst := some 26, op := .pure (.mv (.tmp 0)) },
    { dst := some 27, op := .pure (.mv (.tmp 0)) },
    { dst := some 28, op := .pure (.len 5 (.tmp 27)) },
    { dst := some 29, op := .pure (.bin .sub .i64 (.tmp 28) (.const (.int .i64 2))) },
    { dst := some 30, op := .call false 109 [(.tmp 26), (.tmp 29)] },
    { dst := some 3, op := .pure (.mv (.tmp 30)) }]
def c74R8 : AC :=
  .reg true [{ dst := some 31, op := .pure (.mv (.tmp 0)), unk := [32, 35, 36, 37, 38, 39, 40], tch := some [31] },
    { dst := some 32, op := .pure (.mv (.tmp 3)), unk := [31, 35, 36, 37, 38, 39, 40], tch := some [32] },
    { dst := some 33, op := .pure (.slc 5 (.tmp 31) none (some (.i64, (.tmp 32)))), unk := [35, 36, 37, 38, 39, 40], tch := some [33] },
    { dst := some 34, op := .call false 37 [(.tmp 33)], unk := [35, 36, 37, 38, 39, 40], tch := some [34] },
    { dst := some 35, op := .pure (.mv (.tmp 0)), unk := [31, 32, 33, 34, 36, 37, 38, 39], tch := some [35] },
    { dst := some 36, op := .pure (.mv (.tmp 3)), unk := [31, 32, 33, 34, 35, 37, 38, 39], tch := some [36] },
    { dst := some 37, op := .pure (.mv (.tmp 0)), unk := [31, 32, 33, 34, 35, 36], tch := some [37] },
    { dst := some 38, op := .pure (.len 5 (.tmp 37)), unk := [31, 32, 33, 34, 35, 36], tch := some [38] },
    { dst := some 39, op := .pure (.bin .sub .i64 (.tmp 38) (.const (.int .i64 1))), unk := [31, 32, 33, 34, 35, 36], tch := some [39] },
    { dst := some 40, op := .pure (.slc 5 (.tmp 35) (some (.i64, (.tmp 36))) (some (.i64, (.tmp 39)))), unk := [31, 32, 33, 34], tch := some [40] },
    { dst := some 41, op := .call false 37 [(.tmp 40)], tch := some [41] },
    { dst := some 42, op := .mks true false 1 2 [(0, 1, (.tmp 34)), (1, 1, (.tmp 41))], tch := some [42] },
    { dst := some 2, op := .pure (.mv (.tmp 42)), tch := some [2] }]
def c74P5 : AC := .seq c74R8 .ret
def c74P6 : AC := .seq c74R7 c74P5
def c74P7 : AC := .cond (.tmp 24) c74P6 .skip
def c74P8 : AC := .seq c74R6 c74P7
def c74P9 : AC := .cond (.tmp 15) c74P4 c74P8
def c74P10 : AC := .seq c74R4 c74P9
def c74P11 : AC := .block 0 c74P10
def c74P12 : AC := .seq c74R3 c74P11
def c74R9 : AC :=
  .reg false [{ dst := some 2, op := .pure (.mv (.const (.sl 1 []))) }]
def c74P13 : AC := .seq c74R9 .ret
def c74P14 : AC := .seq c74P12 c74P13
def c74P15 : AC := .seq c74P3 c74P14
def c74P16 : AC := .seq c74R0 c74P15
def c74 : AC := c74P16
def r74 : List RV := [.tmp 2]
/-! bosket/byteset.Has -/
def c75R0 : AC :=
  .reg false [{ dst := some 2, op := .box (.tmp 0) },
    { dst := some 4, op := .pure (.mv (.const (.bool false))) }]
def c75R1 : AC :=
  .reg false [{ dst := some 5, op := .pure (.mv (.tmp 1)) },
    { dst := some 6, op := .pure (.bin .quo .u8 (.tmp 5) (.const (.int .u8 64))) },
    { dst := some 7, op := .pure (.aadr 1 4 .u8 (.tmp 2) (.tmp 6)) },
    { dst := some 8, op := .pure (.load 1 false (.tmp 7)) },
    { dst := some 9, op := .pure (.mv (.tmp 1)) },
    { dst := some 10, op := .pure (.bin .rem .u8 (.tmp 9) (.const (.int .u8 64))) },
    { dst := some 11, op := .pure (.shf .shr .u64 .u8 (.tmp 8) (.tmp 10)) },
    { dst := some 12, op := .pure (.bin .and .u64 (.tmp 11) (.const (.int .u64 1))) },
    { dst := some 13, op := .pure (.bin .eql .u64 (.tmp 12) (.const (.int .u64 1))) },
    { dst := some 4, op := .pure (.mv (.tmp 13)) }]
def c75P1 : AC := .seq c75R1 .ret
def c75P2 : AC := .seq c75R0 c75P1
def c75 : AC := c75P2
def r75 : List RV := [.tmp 4]
/-! bosket/deriv.cat -/
def c76R0 : AC :=
  .reg false [{ dst := some 2, op := .box (.tmp 0) },
    { dst := some 3, op := .box (.tmp 1) },
    { dst := some 4, op := .alloc [.sh, .sh] (.agg [.bool false, .sl 5 []]) }]
def c76R1 : AC :=
  .reg false [{ dst := some 6, op := .pure (.fadr 0 (.tmp 2)) },
    { dst := some 7, op := .pure (.load 1 false (.tmp 6)) },
    { dst := some 8, op := .pure (.mv (.tmp 7)) },
    { dst := some 9, op := .pure (.fadr 0 (.tmp 3)), g := some (8, false) },
    { dst := some 10, op := .pure (.load 1 false (.tmp 9)), g := some (8, false) },
    { dst := some 11, op := .pure (.pick (.tmp 8) (.const (.bool true)) (.tmp 10)) },
    { dst := some 5, op := .pure (.mv (.tmp 11)) }]
def c76R2 : AC :=
  .reg false [{ dst := some 12, op := .pure (.bld [.bool false, .sl 5 []] [(0, 1, (.const (.bool true)))]) },
    { dst := none, op := .sto 2 (.tmp 4) (.tmp 12) }]
def c76P1 : AC := .seq c76R2 .ret
def c76R3 : AC :=
  .reg false [{ dst := some 14, op := .pure (.fadr 1 (.tmp 2)) },
    { dst := some 15, op := .pure (.load 1 false (.tmp 14)) },
    { dst := some 16, op := .pure (.len 5 (.tmp 15)) },
    { dst := some 17, op := .pure (.bin .eql .i64 (.tmp 16) (.const (.int .i64 1))) },
    { dst := some 18, op := .pure (.mv (.tmp 17)) },
    { dst := some 19, op := .pure (.fadr 1 (.tmp 2)), g := some (18, true) },
    { dst := some 20, op := .pure (.load 1 false (.tmp 19)), g := some (18, true) },
    { dst := some 21, op := .pure (.iadr 5 .i64 (.tmp 20) (.const (.int .i64 0))), g := some (18, true) },
    { dst := some 22, op := .pure (.fadr 0 (.tmp 21)), g := some (18, true) },
    { dst := some 23, op := .pure (.load 1 false (.tmp 22)), g := some (18, true) },
    { dst := some 24, op := .pure (.bin .eql .i64 (.tmp 23) (.const (.int .i64 0))), g := some (18, true) },
    { dst := some 25, op := .pure (.pick (.tmp 18) (.tmp 24) (.const (.bool false))) },
    { dst := some 13, op := .pure (.mv (.tmp 25)) }]
def c76R4 : AC :=
  .reg false [{ dst := some 26, op := .pure (.load 2 true (.tmp 3)) },
    { dst := none, op := .sto 2 (.tmp 4) (.tmp 26) }]
def c76P2 : AC := .seq c76R4 .ret
def c76R5 : AC :=
  .reg false [{ dst := some 28, op := .pure (.fadr 1 (.tmp 3)) },
    { dst := some 29, op := .pure (.load 1 false (.tmp 28)) },
    { dst := some 30, op := .pure (.len 5 (.tmp 29)) },
    { dst := some 31, op := .pure (.bin .eql .i64 (.tmp 30) (.const (.int .i64 1))) },
    { dst := some 32, op := .pure (.mv (.tmp 31)) },
    { dst := some 33, op := .pure (.fadr 1 (.tmp 3)), g := some (32, true) },
    { dst := some 34, op := .pure (.load 1 false (.tmp 33)), g := some (32, true) },
    { dst := some 35, op := .pure (.iadr 5 .i64 (.tmp 34) (.const (.int .i64 0))), g := some (32, true) },
    { dst := some 36, op := .pure (.fadr 0 (.tmp 35)), g := some (32, true) },
    { dst := some 37, op := .pure (.load 1 false (.tmp 36)), g := some (32, true) },
    { dst := some 38, op := .pure (.bin .eql .i64 (.tmp 37) (.const (.int .i64 0))), g := some (32, true) },
    { dst := some 39, op := .pure (.pick (.tmp 32) (.tmp 38) (.const (.bool false))) },
    { dst := some 27, op := .pure (.mv (.tmp 39)) }]
def c76R6 : AC :=
  .reg false [{ dst := some 40, op := .pure (.load 2 true (.tmp 2)) },
    { dst := none, op := .sto 2 (.tmp 4) (.tmp 40) }]
def c76P3 : AC := .seq c76R6 .ret
def c76P4 : AC := .cond (.tmp 27) c76P3 .skip
def c76P5 : AC := .seq c76R5 c76P4
def c76P6 : AC := .cond (.tmp 13) c76P2 c76P5
def c76P7 : AC := .seq c76R3 c76P6
def c76P8 : AC := .cond (.tmp 5) c76P1 c76P7
def c76P9 : AC := .seq c76R1 c76P8
def c76P10 : AC := .block 0 c76P9
def c76R7 : AC :=
  .reg false [{ dst := some 41, op := .pure (.fadr 1 (.tmp 2)) },
    { dst := some 42, op := .pure (.load 1 false (.tmp 41)) },
    { dst := some 43, op := .pure (.fadr 1 (.tmp 3)) },
    { dst := some 44, op := .pure (.load 1 false (.tmp 43)) },
    { dst := some 45, op := .mks true false 1 2 [(0, 1, (.tmp 42)), (1, 1, (.tmp 44))] },
    { dst := some 46, op := .call false 78 [(.const (.int .i64 2)), (.tmp 45)] },
    { dst := some 47, op := .pure (.bld [.bool false, .sl 5 []] [(1, 1, (.tmp 46))]) },
    { dst := none, op := .sto 2 (.tmp 4) (.tmp 47) }]
def c76P11 : AC := .seq c76R7 .ret
def c76P12 : AC := .seq c76P10 c76P11
def c76P13 : AC := .seq c76R0 c76P12
def c76 : AC := c76P13
def r76 : List RV := [.cell 4 2 true]
/-! bosket/deriv.alt -/
def c77R0 : AC :=
  .reg false [{ dst := some 2, op := .box (.tmp 0) },
    { dst := some 3, op := .box (.tmp 1) },
    { dst := some 4, op := .alloc [.sh, .sh] (.agg [.bool false, .sl 5 []]) }]
def c77R1 : AC :=
  .reg false [{ dst := some 6, op := .pure (.fadr 0 (.tmp 2)) },
    { dst := some 7, op := .pure (.load 1 false (.tmp 6)) },
    { dst := some 5, op := .pure (.mv (.tmp 7)) }]
def c77R2 : AC :=
  .reg false [{ dst := some 8, op := .pure (.load 2 true (.tmp 3)) },
    { dst := none, op := .sto 2 (.tmp 4) (.tmp 8) }]
def c77P1 : AC := .seq c77R2 .ret
def c77R3 : AC :=
  .reg false [{ dst := some 10, op := .pure (.fadr 0 (.tmp 3)) },
    { dst := some 11, op := .pure (.load 1 false (.tmp 10)) },
    { dst := some 12, op := .pure (.mv (.tmp 11)) },
    { dst := some 13, op := .pure (.fadr 1 (.tmp 2)), g := some (12, false) },
    { dst := some 14, op := .pure (.load 1 false (.tmp 13)), g := some (12, false) },
    { dst := some 15, op := .pure (.fadr 1 (.tmp 3)), g := some (12, false) },
    { dst := some 16, op := .pure (.load 1 false (.tmp 15)), g := some (12, false) },
    { dst := some 17, op := .call false 110 [(.tmp 14), (.tmp 16)], g := some (12, false) },
    { dst := some 18, op := .pure (.pick (.tmp 12) (.const (.bool true)) (.tmp 17)) },
    { dst := some 9, op := .pure (.mv (.tmp 18)) }]
def c77R4 : AC :=
  .reg false [{ dst := some 19, op := .pure (.load 2 true (.tmp 2)) },
    { dst := none, op := .sto 2 (.tmp 4) (.tmp 19) }]
def c77P2 : AC := .seq c77R4 .ret
def c77P3 : AC := .cond (.tmp 9) c77P2 .skip
def c77P4 : AC := .seq c77R3 c77P3
def c77P5 : AC := .cond (.tmp 5) c77P1 c77P4
def c77P6 : AC := .seq c77R1 c77P5
def c77P7 : AC := .block 0 c77P6
def c77R5 : AC :=
  .reg false [{ dst := some 20, op := .pure (.fadr 1 (.tmp 2)) },
    { dst := some 21, op := .pure (.load 1 false (.tmp 20)) },
    { dst := some 22, op := .pure (.fadr 1 (.tmp 3)) },
    { dst := some 23, op := .pure (.load 1 false (.tmp 22)) },
    { dst := some 24, op := .mks true false 1 2 [(0, 1, (.tmp 21)), (1, 1, (.tmp 23))] },
    { dst := some 25, op := .call false 78 [(.const (.int .i64 3)), (.tmp 24)] },
    { dst := some 26, op := .pure (.bld [.bool false, .sl 5 []] [(1, 1, (.tmp 25))]) },
    { dst := none, op := .sto 2 (.tmp 4) (.tmp 26) }]
def c77P8 : AC := .seq c77R5 .ret
def c77P9 : AC := .seq c77P7 c77P8
def c77P10 : AC := .seq c77R0 c77P9
def c77 : AC := c77P10
def r77 : List RV := [.cell 4 2 true]
/-! bosket/rex.Join -/
def c78R0 : AC :=
  .reg false [{ dst := some 4, op := .pure (.mv (.const (.sl 5 []))) }]
def c78R1 : AC :=
  .reg false [{ dst := some 8, op := .pure (.mv (.tmp 0)) },
    { dst := some 9, op := .call false 72 [(.tmp 8)] },
    { dst := some 10, op := .pure (.mv (.tmp 1)) },
    { dst := some 11, op := .pure (.len 1 (.tmp 10)) },
    { dst := some 12, op := .pure (.bin .neq .i64 (.tmp 9) (.tmp 11)) },
    { dst := some 13, op := .pure (.mv (.tmp 12)) },
    { dst := some 14, op := .pure (.mv (.tmp 1)), g := some (13, false) },
    { dst := some 15, op := .pure (.len 1 (.tmp 14)), g := some (13, false) },
    { dst := some 16, op := .pure (.bin .eql .i64 (.tmp 15) (.const (.int .i64 0))), g := some (13, false) },
    { dst := some 17, op := .pure (.pick (.tmp 13) (.const (.bool true)) (.tmp 16)) }]
def c78R2 : AC :=
  .reg false [{ dst := some 4, op := .pure (.mv (.const (.sl 5 []))) }]
def c78P1 : AC := .seq c78R2 .ret
def c78P2 : AC := .cond (.tmp 17) c78P1 .skip
def c78P3 : AC := .seq c78R1 c78P2
def c78R3 : AC :=
  .reg false [{ dst := some 5, op := .nilO [.sh, .sh, .sh, .sh, .sh] }]
def c78R4 : AC :=
  .reg false [{ dst := some 18, op := .pure (.mv (.tmp 1)) },
    { dst := some 19, op := .pure (.len 1 (.tmp 18)) },
    { dst := some 20, op := .pure (.mv (.const (.int .i64 0))) }]
def c78R5 : AC :=
  .reg false [{ dst := some 21, op := .pure (.bin .lss .i64 (.tmp 20) (.tmp 19)) }]
def c78P4 : AC := .cond (.tmp 21) .skip (.exit 0)
def c78R6 : AC :=
  .reg false [{ dst := some 22, op := .pure (.iadr 1 .i64 (.tmp 18) (.tmp 20)) },
    { dst := some 23, op := .pure (.load 1 false (.tmp 22)) },
    { dst := some 7, op := .pure (.mv (.tmp 23)) }]
def c78R7 : AC :=
  .reg false [{ dst := some 24, op := .pure (.mv (.tmp 5)) },
    { dst := some 25, op := .pure (.mv (.tmp 7)) },
    { dst := some 26, op := .app false false [.sh, .sh, .sh, .sh, .sh] (.tmp 24) (.tmp 25) },
    { dst := some 5, op := .take 26 }]
def c78P5 : AC := .seq c78R6 c78R7
def c78P6 : AC := .block 1 c78P5
def c78R8 : AC :=
  .reg false [{ dst := some 27, op := .pure (.bin .add .i64 (.tmp 20) (.const (.int .i64 1))) },
    { dst := some 20, op := .pure (.mv (.tmp 27)) }]
def c78P7 : AC := .seq c78P6 c78R8
def c78P8 : AC := .seq c78P4 c78P7
def c78P9 : AC := .seq c78R5 c78P8
def c78P10 : AC := .loop c78P9
def c78P11 : AC := .block 0 c78P10
def c78P12 : AC := .seq c78R4 c78P11
def c78R9 : AC :=
  .reg false [{ dst := some 28, op := .pure (.mv (.tmp 5)) },
    { dst := some 29, op := .pure (.mv (.tmp 0)) },
    { dst := some 30, op := .pure (.bld [.int .i64 0, .int .u64 0, .int .u64 0, .int .u64 0, .int .u64 0] [(0, 1, (.tmp 29))]) },
    { dst := some 31, op := .mks true true 5 1 [(0, 5, (.tmp 30))] },
    { dst := some 32, op := .app true false [.sh, .sh, .sh, .sh, .sh] (.tmp 28) (.tmp 31) },
    { dst := some 4, op := .pure (.mv (.tmp 32)) }]
def c78P13 : AC := .seq c78R9 .ret
def c78P14 : AC := .seq c78P12 c78P13
def c78P15 : AC := .seq c78R3 c78P14
def c78P16 : AC := .seq c78P3 c78P15
def c78P17 : AC := .seq c78R0 c78P16
def c78 : AC := c78P17
def r78 : List RV := [.tmp 4]
/-! bosket/bosketref04.none -/
def c79R0 : AC :=
  .reg false [{ dst := some 2, op := .nilO [.sl [.sh]] }]
def c79R1 : AC :=
  .reg false [{ dst := some 3, op := .nilO [.sl [.sh]] }]
def c79R2 : AC :=
  .reg false [{ dst := some 4, op := .pure (.mv (.const (.int .i64 0))) }]
def c79R3 : AC :=
  .reg false [{ dst := some 5, op := .pure (.mv (.tmp 4)) },
    { dst := some 6, op := .pure (.mv (.tmp 0)) },
    { dst := some 7, op := .pure (.bin .leq .i64 (.tmp 5) (.tmp 6)) }]
def c79P1 : AC := .cond (.tmp 7) .skip (.exit 0)
def c79P2 : AC := .seq c79R3 c79P1
def c79R5 : AC :=
  .reg false [{ dst := some 10, op := .pure (.mv (.tmp 3)) },
    { dst := some 11, op := .pure (.mv (.tmp 0)) },
    { dst := some 12, op := .pure (.bin .add .i64 (.tmp 11) (.const (.int .i64 1))) },
    { dst := some 13, op := .mk false 1 (.bool false) (.tmp 12) (.tmp 12) .i64 .i64 },
    { dst := some 14, op := .mksO [.sh] 13 },
    { dst := some 15, op := .app false true [.sl [.sh]] (.tmp 10) (.tmp 14) },
    { dst := some 3, op := .take 15 }]
def c79P3 : AC := .block 1 c79R5
def c79R4 : AC :=
  .reg false [{ dst := some 8, op := .pure (.mv (.tmp 4)) },
    { dst := some 9, op := .pure (.bin .add .i64 (.tmp 8) (.const (.int .i64 1))) },
    { dst := some 4, op := .pure (.mv (.tmp 9)) }]
def c79P4 : AC := .seq c79P3 c79R4
def c79P5 : AC := .seq c79P2 c79P4
def c79P6 : AC := .loop c79P5
def c79P7 : AC := .block 0 c79P6
def c79P8 : AC := .seq c79R2 c79P7
def c79R6 : AC :=
  .reg false [{ dst := some 16, op := .take 3 },
    { dst := some 2, op := .take 16 }]
def c79P9 : AC := .seq c79R6 .ret
def c79P10 : AC := .seq c79P8 c79P9
def c79P11 : AC := .seq c79R1 c79P10
def c79P12 : AC := .seq c79R0 c79P11
def c79 : AC := c79P12
def r79 : List RV := [.tmp 2]
/-! bosket/bosketref04.then -/
def c80R0 : AC :=
  .reg false [{ dst := some 4, op := .nilO [.sl [.sh]] }]
def c80R1 : AC :=
  .reg false [{ dst := some 9, op := .pure (.mv (.tmp 0)) },
    { dst := some 10, op := .pure (.len 1 (.tmp 9)) },
    { dst := some 11, op := .pure (.bin .sub .i64 (.tmp 10) (.const (.int .i64 1))) },
    { dst := some 12, op := .call true 79 [(.tmp 11)] },
    { dst := some 5, op := .take 12 }]
def c80R2 : AC :=
  .reg false [{ dst := some 6, op := .pure (.mv (.const (.int .i64 0))) }]
def c80R3 : AC :=
  .reg false [{ dst := some 13, op := .pure (.mv (.tmp 6)) },
    { dst := some 14, op := .pure (.mv (.tmp 0)) },
    { dst := some 15, op := .pure (.len 1 (.tmp 14)) },
    { dst := some 16, op := .pure (.bin .lss .i64 (.tmp 13) (.tmp 15)) }]
def c80P1 : AC := .cond (.tmp 16) .skip (.exit 0)
def c80P2 : AC := .seq c80R3 c80P1
def c80R5 : AC :=
  .reg false [{ dst := some 19, op := .pure (.mv (.tmp 6)) },
    { dst := some 7, op := .pure (.mv (.tmp 19)) }]
def c80R6 : AC :=
  .reg false [{ dst := some 20, op := .pure (.mv (.tmp 7)) },
    { dst := some 21, op := .pure (.mv (.tmp 0)) },
    { dst := some 22, op := .pure (.len 1 (.tmp 21)) },
    { dst := some 23, op := .pure (.bin .lss .i64 (.tmp 20) (.tmp 22)) }]
def c80P3 : AC := .cond (.tmp 23) .skip (.exit 2)
def c80P4 : AC := .seq c80R6 c80P3
def c80R8 : AC :=
  .reg false [{ dst := some 26, op := .pure (.mv (.tmp 7)) },
    { dst := some 8, op := .pure (.mv (.tmp 26)) }]
def c80R9 : AC :=
  .reg false [{ dst := some 27, op := .pure (.mv (.tmp 8)) },
    { dst := some 28, op := .pure (.mv (.tmp 0)) },
    { dst := some 29, op := .pure (.len 1 (.tmp 28)) },
    { dst := some 30, op := .pure (.bin .lss .i64 (.tmp 27) (.tmp 29)) },
    { dst := some 31, op := .pure (.mv (.tmp 30)) },
    { dst := some 32, op := .pure (.mv (.tmp 0)), g := some (31, true) },
    { dst := some 33, op := .pure (.mv (.tmp 6)), g := some (31, true) },
    { dst := some 34, op := .pure (.iadr 1 .i64 (.tmp 32) (.tmp 33)), g := some (31, true) },
    { dst := some 35, op := .pure (.load 1 false (.tmp 34)), g := some (31, true) },
    { dst := some 36, op := .pure (.mv (.tmp 7)), g := some (31, true) },
    { dst := some 37, op := .pure (.iadr 1 .i64 (.tmp 35) (.tmp 36)), g := some (31, true) },
    { dst := some 38, op := .pure (.load 1 false (.tmp 37)), g := some (31, true) },
    { dst := some 39, op := .pure (.pick (.tmp 31) (.tmp 38) (.const (.bool false))) }]
def c80P5 : AC := .cond (.tmp 39) .skip (.exit 4)
def c80P6 : AC := .seq c80R9 c80P5
def c80R11 : AC :=
  .reg true [{ dst := some 42, op := .pure (.mv (.tmp 5)), unk := [43, 46, 47, 48, 49, 50, 51, 52, 53, 54, 55, 56, 57, 58, 59, 60, 61, 62], tch := some [42] },
    { dst := some 43, op := .pure (.mv (.tmp 6)), unk := [42, 46, 47, 48, 49, 50, 51, 52, 53, 54, 55, 56, 57, 58, 59, 60, 61, 62], tch := some [43] },
    { dst := some 44, op := .pure (.iadr 1 .i64 (.tmp 42) (.tmp 43)), unk := [46, 47, 48, 49, 50, 51, 52, 53, 54, 55, 56, 57, 58, 59, 60, 61, 62], tch := some [44] },
    { dst := some 45, op := .pure (.load 1 false (.tmp 44)), unk := [46, 47, 48, 49, 50, 51, 52, 53, 54, 55, 56, 57, 58, 59, 60, 61, 62], tch := some [45] },
    { dst := some 46, op := .pure (.mv (.tmp 8)), unk := [42, 43, 44, 45, 47, 48, 49, 50, 51, 52, 53, 54, 55, 56, 57, 58, 59, 60, 61, 62], tch := some [46] },
    { dst := some 47, op := .pure (.mv (.tmp 5)), unk := [42, 43, 44, 45, 46, 48, 51], tch := some [47] },
    { dst := some 48, op := .pure (.mv (.tmp 6)), unk := [42, 43, 44, 45, 46, 47, 51], tch := some [48] },
    { dst := some 49, op := .pure (.iadr 1 .i64 (.tmp 47) (.tmp 48)), unk := [42, 43, 44, 45, 46, 51], tch := some [49] },
    { dst := some 50, op := .pure (.load 1 false (.tmp 49)), unk := [42, 43, 44, 45, 46, 51], tch := some [50] },
    { dst := some 51, op := .pure (.mv (.tmp 8)), unk := [42, 43, 44, 45, 46, 47, 48, 49, 50], tch := some [51] },
    { dst := some 52, op := .pure (.iadr 1 .i64 (.tmp 50) (.tmp 51)), unk := [42, 43, 44, 45, 46], tch := some [52] },
    { dst := some 53, op := .pure (.load 1 false (.tmp 52)), unk := [42, 43, 44, 45, 46], tch := some [53] },
    { dst := some 54, op := .pure (.mv (.tmp 53)), unk := [42, 43, 44, 45, 46], tch := some [54] },
    { dst := some 55, op := .pure (.mv (.tmp 1)), g := some (54, false), unk := [42, 43, 44, 45, 46, 56, 59], tch := some [55] },
    { dst := some 56, op := .pure (.mv (.tmp 7)), g := some (54, false), unk := [42, 43, 44, 45, 46, 55, 59], tch := some [56] },
    { dst := some 57, op := .pure (.iadr 1 .i64 (.tmp 55) (.tmp 56)), g := some (54, false), unk := [42, 43, 44, 45, 46, 59], tch := some [57] },
    { dst := some 58, op := .pure (.load 1 false (.tmp 57)), g := some (54, false), unk := [42, 43, 44, 45, 46, 59], tch := some [58] },
    { dst := some 59, op := .pure (.mv (.tmp 8)), g := some (54, false), unk := [42, 43, 44, 45, 46, 55, 56, 57, 58], tch := some [59] },
    { dst := some 60, op := .pure (.iadr 1 .i64 (.tmp 58) (.tmp 59)), g := some (54, false), unk := [42, 43, 44, 45, 46], tch := some [60] },
    { dst := some 61, op := .pure (.load 1 false (.tmp 60)), g := some (54, false), unk := [42, 43, 44, 45, 46], tch := some [61] },
    { dst := some 62, op := .pure (.pick (.tmp 54) (.const (.bool true)) (.tmp 61)), unk := [42, 43, 44, 45, 46], tch := some [62] },
    { dst := some 63, op := .pure (.iadr 1 .i64 (.tmp 45) (.tmp 46)), tch := some [63] },
    { dst := none, op := .sto 1 (.tmp 63) (.tmp 62) }]
def c80P7 : AC := .block 5 c80R11
def c80R10 : AC :=
  .reg false [{ dst := some 40, op := .pure (.mv (.tmp 8)) },
    { dst := some 41, op := .pure (.bin .add .i64 (.tmp 40) (.const (.int .i64 1))) },
    { dst := some 8, op := .pure (.mv (.tmp 41)) }]
def c80P8 : AC := .seq c80P7 c80R10
def c80P9 : AC := .seq c80P6 c80P8
def c80P10 : AC := .loop c80P9
def c80P11 : AC := .block 4 c80P10
def c80P12 : AC := .seq c80R8 c80P11
def c80P13 : AC := .block 3 c80P12
def c80R7 : AC :=
  .reg false [{ dst := some 24, op := .pure (.mv (.tmp 7)) },
    { dst := some 25, op := .pure (.bin .add .i64 (.tmp 24) (.const (.int .i64 1))) },
    { dst := some 7, op := .pure (.mv (.tmp 25)) }]
def c80P14 : AC := .seq c80P13 c80R7
def c80P15 : AC := .seq c80P4 c80P14
def c80P16 : AC := .loop c80P15
def c80P17 : AC := .block 2 c80P16
def c80P18 : AC := .seq c80R5 c80P17
def c80P19 : AC := .block 1 c80P18
def c80R4 : AC :=
  .reg false [{ dst := some 17, op := .pure (.mv (.tmp 6)) },
    { dst := some 18, op := .pure (.bin .add .i64 (.tmp 17) (.const (.int .i64 1))) },
    { dst := some 6, op := .pure (.mv (.tmp 18)) }]
def c80P20 : AC := .seq c80P19 c80R4
def c80P21 : AC := .seq c80P2 c80P20
def c80P22 : AC := .loop c80P21
def c80P23 : AC := .block 0 c80P22
def c80P24 : AC := .seq c80R2 c80P23
def c80R12 : AC :=
  .reg false [{ dst := some 64, op := .take 5 },
    { dst := some 4, op := .take 64 }]
def c80P25 : AC := .seq c80R12 .ret
def c80P26 : AC := .seq c80P24 c80P25
def c80P27 : AC := .seq c80R1 c80P26
def c80P28 : AC := .seq c80R0 c80P27
def c80 : AC := c80P28
def r80 : List RV := [.tmp 4]
/-! bosket/bosketref04.or -/
def c81R0 : AC :=
  .reg false [{ dst := some 4, op := .nilO [.sl [.sh]] }]
def c81R1 : AC :=
  .reg false [{ dst := some 8, op := .pure (.mv (.tmp 0)) },
    { dst := some 9, op := .pure (.len 1 (.tmp 8)) },
    { dst := some 10, op := .pure (.bin .sub .i64 (.tmp 9) (.const (.int .i64 1))) },
    { dst := some 11, op := .call true 79 [(.tmp 10)] },
    { dst := some 5, op := .take 11 }]
def c81R2 : AC :=
  .reg false [{ dst := some 6, op := .pure (.mv (.const (.int .i64 0))) }]
def c81R3 : AC :=
  .reg false [{ dst := some 12, op := .pure (.mv (.tmp 6)) },
    { dst := some 13, op := .pure (.mv (.tmp 0)) },
    { dst := some 14, op := .pure (.len 1 (.tmp 13)) },
    { dst := some 15, op := .pure (.bin .lss .i64 (.tmp 12) (.tmp 14)) }]
def c81P1 : AC := .cond (.tmp 15) .skip (.exit 0)
def c81P2 : AC := .seq c81R3 c81P1
def c81R5 : AC :=
  .reg false [{ dst := some 18, op := .pure (.mv (.tmp 6)) },
    { dst := some 7, op := .pure (.mv (.tmp 18)) }]
def c81R6 : AC :=
  .reg false [{ dst := some 19, op := .pure (.mv (.tmp 7)) },
    { dst := some 20, op := .pure (.mv (.tmp 0)) },
    { dst := some 21, op := .pure (.len 1 (.tmp 20)) },
    { dst := some 22, op := .pure (.bin .lss .i64 (.tmp 19) (.tmp 21)) }]
def c81P3 : AC := .cond (.tmp 22) .skip (.exit 2)
def c81P4 : AC := .seq c81R6 c81P3
def c81R8 : AC :=
  .reg true [{ dst := some 25, op := .pure (.mv (.tmp 5)), unk := [26, 29, 30, 31, 32, 33, 34, 35, 36, 37, 38, 39, 40, 41, 42, 43, 44, 45], tch := some [25] },
    { dst := some 26, op := .pure (.mv (.tmp 6)), unk := [25, 29, 30, 31, 32, 33, 34, 35, 36, 37, 38, 39, 40, 41, 42, 43, 44, 45], tch := some [26] },
    { dst := some 27, op := .pure (.iadr 1 .i64 (.tmp 25) (.tmp 26)), unk := [29, 30, 31, 32, 33, 34, 35, 36, 37, 38, 39, 40, 41, 42, 43, 44, 45], tch := some [27] },
    { dst := some 28, op := .pure (.load 1 false (.tmp 27)), unk := [29, 30, 31, 32, 33, 34, 35, 36, 37, 38, 39, 40, 41, 42, 43, 44, 45], tch := some [28] },
    { dst := some 29, op := .pure (.mv (.tmp 7)), unk := [25, 26, 27, 28, 30, 31, 32, 33, 34, 35, 36, 37, 38, 39, 40, 41, 42, 43, 44, 45], tch := some [29] },
    { dst := some 30, op := .pure (.mv (.tmp 0)), unk := [25, 26, 27, 28, 29, 31, 34], tch := some [30] },
    { dst := some 31, op := .pure (.mv (.tmp 6)), unk := [25, 26, 27, 28, 29, 30, 34], tch := some [31] },
    { dst := some 32, op := .pure (.iadr 1 .i64 (.tmp 30) (.tmp 31)), unk := [25, 26, 27, 28, 29, 34], tch := some [32] },
    { dst := some 33, op := .pure (.load 1 false (.tmp 32)), unk := [25, 26, 27, 28, 29, 34], tch := some [33] },
    { dst := some 34, op := .pure (.mv (.tmp 7)), unk := [25, 26, 27, 28, 29, 30, 31, 32, 33], tch := some [34] },
    { dst := some 35, op := .pure (.iadr 1 .i64 (.tmp 33) (.tmp 34)), unk := [25, 26, 27, 28, 29], tch := some [35] },
    { dst := some 36, op := .pure (.load 1 false (.tmp 35)), unk := [25, 26, 27, 28, 29], tch := some [36] },
    { dst := some 37, op := .pure (.mv (.tmp 36)), unk := [25, 26, 27, 28, 29], tch := some [37] },
    { dst := some 38, op := .pure (.mv (.tmp 1)), g := some (37, false), unk := [25, 26, 27, 28, 29, 39, 42], tch := some [38] },
    { dst := some 39, op := .pure (.mv (.tmp 6)), g := some (37, false), unk := [25, 26, 27, 28, 29, 38, 42], tch := some [39] },
    { dst := some 40, op := .pure (.iadr 1 .i64 (.tmp 38) (.tmp 39)), g := some (37, false), unk := [25, 26, 27, 28, 29, 42], tch := some [40] },
    { dst := some 41, op := .pure (.load 1 false (.tmp 40)), g := some (37, false), unk := [25, 26, 27, 28, 29, 42], tch := some [41] },
    { dst := some 42, op := .pure (.mv (.tmp 7)), g := some (37, false), unk := [25, 26, 27, 28, 29, 38, 39, 40, 41], tch := some [42] },
    { dst := some 43, op := .pure (.iadr 1 .i64 (.tmp 41) (.tmp 42)), g := some (37, false), unk := [25, 26, 27, 28, 29], tch := some [43] },
    { dst := some 44, op := .pure (.load 1 false (.tmp 43)), g := some (37, false), unk := [25, 26, 27, 28, 29], tch := some [44] },
    { dst := some 45, op := .pure (.pick (.tmp 37) (.const (.bool true)) (.tmp 44)), unk := [25, 26, 27, 28, 29], tch := some [45] },
    { dst := some 46, op := .pure (.iadr 1 .i64 (.tmp 28) (.tmp 29)), tch := some [46] },
    { dst := none, op := .sto 1 (.tmp 46) (.tmp 45) }]
def c81P5 : AC := .block 3 c81R8
def c81R7 : AC :=
  .reg false [{ dst := some 23, op := .pure (.mv (.tmp 7)) },
    { dst := some 24, op := .pure (.bin .add .i64 (.tmp 23) (.const (.int .i64 1))) },
    { dst := some 7, op := .pure (.mv (.tmp 24)) }]
def c81P6 : AC := .seq c81P5 c81R7
def c81P7 : AC := .seq c81P4 c81P6
def c81P8 : AC := .loop c81P7
def c81P9 : AC := .block 2 c81P8
def c81P10 : AC := .seq c81R5 c81P9
def c81P11 : AC := .block 1 c81P10
def c81R4 : AC :=
  .reg false [{ dst := some 16, op := .pure (.mv (.tmp 6)) },
    { dst := some 17, op := .pure (.bin .add .i64 (.tmp 16) (.const (.int .i64 1))) },
    { dst := some 6, op := .pure (.mv (.tmp 17)) }]
def c81P12 : AC := .seq c81P11 c81R4
def c81P13 : AC := .seq c81P2 c81P12
def c81P14 : AC := .loop c81P13
def c81P15 : AC := .block 0 c81P14
def c81P16 : AC := .seq c81R2 c81P15
def c81R9 : AC :=
  .reg false [{ dst := some 47, op := .take 5 },
    { dst := some 4, op := .take 47 }]
def c81P17 : AC := .seq c81R9 .ret
def c81P18 : AC := .seq c81P16 c81P17
def c81P19 : AC := .seq c81R1 c81P18
def c81P20 : AC := .seq c81R0 c81P19
def c81 : AC := c81P20
def r81 : List RV := [.tmp 4]
/-! bosket/bosketref04.again -/
def c82R0 : AC :=
  .reg false [{ dst := some 2, op := .nilO [.sl [.sh]] }]
def c82R1 : AC :=
  .reg false [{ dst := some 7, op := .pure (.mv (.tmp 0)) },
    { dst := some 8, op := .pure (.len 1 (.tmp 7)) },
    { dst := some 9, op := .pure (.bin .sub .i64 (.tmp 8) (.const (.int .i64 1))) },
    { dst := some 10, op := .call true 83 [(.tmp 9)] },
    { dst := some 3, op := .take 10 }]
def c82R2 : AC :=
  .reg false [{ dst := some 11, op := .pure (.mv (.tmp 0)) },
    { dst := some 12, op := .pure (.len 1 (.tmp 11)) },
    { dst := some 13, op := .pure (.bin .sub .i64 (.tmp 12) (.const (.int .i64 1))) },
    { dst := some 4, op := .pure (.mv (.tmp 13)) }]
def c82R3 : AC :=
  .reg false [{ dst := some 14, op := .pure (.mv (.tmp 4)) },
    { dst := some 15, op := .pure (.bin .geq .i64 (.tmp 14) (.const (.int .i64 0))) }]
def c82P1 : AC := .cond (.tmp 15) .skip (.exit 0)
def c82P2 : AC := .seq c82R3 c82P1
def c82R5 : AC :=
  .reg false [{ dst := some 18, op := .pure (.mv (.tmp 4)) },
    { dst := some 19, op := .pure (.bin .add .i64 (.tmp 18) (.const (.int .i64 1))) },
    { dst := some 5, op := .pure (.mv (.tmp 19)) }]
def c82R6 : AC :=
  .reg false [{ dst := some 20, op := .pure (.mv (.tmp 5)) },
    { dst := some 21, op := .pure (.mv (.tmp 0)) },
    { dst := some 22, op := .pure (.len 1 (.tmp 21)) },
    { dst := some 23, op := .pure (.bin .lss .i64 (.tmp 20) (.tmp 22)) }]
def c82P3 : AC := .cond (.tmp 23) .skip (.exit 2)
def c82P4 : AC := .seq c82R6 c82P3
def c82R8 : AC :=
  .reg false [{ dst := some 26, op := .pure (.mv (.tmp 5)) },
    { dst := some 6, op := .pure (.mv (.tmp 26)) }]
def c82R9 : AC :=
  .reg false [{ dst := some 27, op := .pure (.mv (.tmp 6)) },
    { dst := some 28, op := .pure (.mv (.tmp 0)) },
    { dst := some 29, op := .pure (.len 1 (.tmp 28)) },
    { dst := some 30, op := .pure (.bin .lss .i64 (.tmp 27) (.tmp 29)) },
    { dst := some 31, op := .pure (.mv (.tmp 30)) },
    { dst := some 32, op := .pure (.mv (.tmp 0)), g := some (31, true) },
    { dst := some 33, op := .pure (.mv (.tmp 4)), g := some (31, true) },
    { dst := some 34, op := .pure (.iadr 1 .i64 (.tmp 32) (.tmp 33)), g := some (31, true) },
    { dst := some 35, op := .pure (.load 1 false (.tmp 34)), g := some (31, true) },
    { dst := some 36, op := .pure (.mv (.tmp 5)), g := some (31, true) },
    { dst := some 37, op := .pure (.iadr 1 .i64 (.tmp 35) (.tmp 36)), g := some (31, true) },
    { dst := some 38, op := .pure (.load 1 false (.tmp 37)), g := some (31, true) },
    { dst := some 39, op := .pure (.pick (.tmp 31) (.tmp 38) (.const (.bool false))) }]
def c82P5 : AC := .cond (.tmp 39) .skip (.exit 4)
def c82P6 : AC := .seq c82R9 c82P5
def c82R11 : AC :=
  .reg true [{ dst := some 42, op := .pure (.mv (.tmp 3)), unk := [43, 46, 47, 48, 49, 50, 51, 52, 53, 54, 55, 56, 57, 58, 59, 60, 61, 62], tch := some [42] },
    { dst := some 43, op := .pure (.mv (.tmp 4)), unk := [42, 46, 47, 48, 49, 50, 51, 52, 53, 54, 55, 56, 57, 58, 59, 60, 61, 62], tch := some [43] },
    { dst := some 44, op := .pure (.iadr 1 .i64 (.tmp 42) (.tmp 43)), unk := [46, 47, 48, 49, 50, 51, 52, 53, 54, 55, 56, 57, 58, 59, 60, 61, 62], tch := some [44] },
    { dst := some 45, op := .pure (.load 1 false (.tmp 44)), unk := [46, 47, 48, 49, 50, 51, 52, 53, 54, 55, 56, 57, 58, 59, 60, 61, 62], tch := some [45] },
    { dst := some 46, op := .pure (.mv (.tmp 6)), unk := [42, 43, 44, 45, 47, 48, 49, 50, 51, 52, 53, 54, 55, 56, 57, 58, 59, 60, 61, 62], tch := some [46] },
    { dst := some 47, op := .pure (.mv (.tmp 3)), unk := [42, 43, 44, 45, 46, 48, 51], tch := some [47] },
    { dst := some 48, op := .pure (.mv (.tmp 4)), unk := [42, 43, 44, 45, 46, 47, 51], tch := some [48] },
    { dst := some 49, op := .pure (.iadr 1 .i64 (.tmp 47) (.tmp 48)), unk := [42, 43, 44, 45, 46, 51], tch := some [49] },
    { dst := some 50, op := .pure (.load 1 false (.tmp 49)), unk := [42, 43, 44, 45, 46, 51], tch := some [50] },
    { dst := some 51, op := .pure (.mv (.tmp 6)), unk := [42, 43, 44, 45, 46, 47, 48, 49, 50], tch := some [51] },
    { dst := some 52, op := .pure (.iadr 1 .i64 (.tmp 50) (.tmp 51)), unk := [42, 43, 44, 45, 46], tch := some [52] },
    { dst := some 53, op := .pure (.load 1 false (.tmp 52)), unk := [42, 43, 44, 45, 46], tch := some [53] },
    { dst := some 54, op := .pure (.mv (.tmp 53)), unk := [42, 43, 44, 45, 46], tch := some [54] },
    { dst := some 55, op := .pure (.mv (.tmp 3)), g := some (54, false), unk := [42, 43, 44, 45, 46, 56, 59], tch := some [55] },
    { dst := some 56, op := .pure (.mv (.tmp 5)), g := some (54, false), unk := [42, 43, 44, 45, 46, 55, 59], tch := some [56] },
    { dst := some 57, op := .pure (.iadr 1 .i64 (.tmp 55) (.tmp 56)), g := some (54, false), unk := [42, 43, 44, 45, 46, 59], tch := some [57] },
    { dst := some 58, op := .pure (.load 1 false (.tmp 57)), g := some (54, false), unk := [42, 43, 44, 45, 46, 59], tch := some [58] },
    { dst := some 59, op := .pure (.mv (.tmp 6)), g := some (54, false), unk := [42, 43, 44, 45, 46, 55, 56, 57, 58], tch := some [59] },
    { dst := some 60, op := .pure (.iadr 1 .i64 (.tmp 58) (.tmp 59)), g := some (54, false), unk := [42, 43, 44, 45, 46], tch := some [60] },
    { dst := some 61, op := .pure (.load 1 false (.tmp 60)), g := some (54, false), unk := [42, 43, 44, 45, 46], tch := some [61] },
    { dst := some 62, op := .pure (.pick (.tmp 54) (.const (.bool true)) (.tmp 61)), unk := [42, 43, 44, 45, 46], tch := some [62] },
    { dst := some 63, op := .pure (.iadr 1 .i64 (.tmp 45) (.tmp 46)), tch := some [63] },
    { dst := none, op := .sto 1 (.tmp 63) (.tmp 62) }]
def c82P7 : AC := .block 5 c82R11
def c82R10 : AC :=
  .reg false [{ dst := some 40, op := .pure (.mv (.tmp 6)) },
    { dst := some 41, op := .pure (.bin .add .i64 (.tmp 40) (.const (.int .i64 1))) },
    { dst := some 6, op := .pure (.mv (.tmp 41)) }]
def c82P8 : AC := .seq c82P7 c82R10
def c82P9 : AC := .seq c82P6 c82P8
def c82P10 : AC := .loop c82P9
def c82P11 : AC := .block 4 c82P10
def c82P12 : AC := .seq c82R8 c82P11
def c82P13 : AC := .block 3 c82P12
def c82R7 : AC :=
  .reg false [{ dst := some 24, op := .pure (.mv (.tmp 5)) },
    { dst := some 25, op := .pure (.bin .add .i64 (.tmp 24) (.const (.int .i64 1))) },
    { dst := some 5, op := .pure (.mv (.tmp 25)) }]
def c82P14 : AC := .seq c82P13 c82R7
def c82P15 : AC := .seq c82P4 c82P14
def c82P16 : AC := .loop c82P15
def c82P17 : AC := .block 2 c82P16
def c82P18 : AC := .seq c82R5 c82P17
def c82P19 : AC := .block 1 c82P18
def c82R4 : AC :=
  .reg false [{ dst := some 16, op := .pure (.mv (.tmp 4)) },
    { dst := some 17, op := .pure (.bin .sub .i64 (.tmp 16) (.const (.int .i64 1))) },
    { dst := some 4, op := .pure (.mv (.tmp 17)) }]
def c82P20 : AC := .seq c82P19 c82R4
def c82P21 : AC := .seq c82P2 c82P20
def c82P22 : AC := .loop c82P21
def c82P23 : AC := .block 0 c82P22
def c82P24 : AC := .seq c82R2 c82P23
def c82R12 : AC :=
  .reg false [{ dst := some 64, op := .take 3 },
    { dst := some 2, op := .take 64 }]
def c82P25 : AC := .seq c82R12 .ret
def c82P26 : AC := .seq c82P24 c82P25
def c82P27 : AC := .seq c82R1 c82P26
def c82P28 : AC := .seq c82R0 c82P27
def c82 : AC := c82P28
def r82 : List RV := [.tmp 2]
/-! bosket/bosketref04.empty -/
def c83R0 : AC :=
  .reg false [{ dst := some 2, op := .nilO [.sl [.sh]] }]
def c83R1 : AC :=
  .reg false [{ dst := some 5, op := .pure (.mv (.tmp 0)) },
    { dst := some 6, op := .call true 79 [(.tmp 5)] },
    { dst := some 3, op := .take 6 }]
def c83R2 : AC :=
  .reg false [{ dst := some 4, op := .pure (.mv (.const (.int .i64 0))) }]
def c83R3 : AC :=
  .reg false [{ dst := some 7, op := .pure (.mv (.tmp 4)) },
    { dst := some 8, op := .pure (.mv (.tmp 0)) },
    { dst := some 9, op := .pure (.bin .leq .i64 (.tmp 7) (.tmp 8)) }]
def c83P1 : AC := .cond (.tmp 9) .skip (.exit 0)
def c83P2 : AC := .seq c83R3 c83P1
def c83R5 : AC :=
  .reg false [{ dst := some 12, op := .pure (.mv (.tmp 3)) },
    { dst := some 13, op := .pure (.mv (.tmp 4)) },
    { dst := some 14, op := .pure (.iadr 1 .i64 (.tmp 12) (.tmp 13)) },
    { dst := some 15, op := .pure (.load 1 false (.tmp 14)) },
    { dst := some 16, op := .pure (.mv (.tmp 4)) },
    { dst := some 17, op := .pure (.iadr 1 .i64 (.tmp 15) (.tmp 16)) },
    { dst := none, op := .sto 1 (.tmp 17) (.const (.bool true)) }]
def c83P3 : AC := .block 1 c83R5
def c83R4 : AC :=
  .reg false [{ dst := some 10, op := .pure (.mv (.tmp 4)) },
    { dst := some 11, op := .pure (.bin .add .i64 (.tmp 10) (.const (.int .i64 1))) },
    { dst := some 4, op := .pure (.mv (.tmp 11)) }]
def c83P4 : AC := .seq c83P3 c83R4
def c83P5 : AC := .seq c83P2 c83P4
def c83P6 : AC := .loop c83P5
def c83P7 : AC := .block 0 c83P6
def c83P8 : AC := .seq c83R2 c83P7
def c83R6 : AC :=
  .reg false [{ dst := some 18, op := .take 3 },
    { dst := some 2, op := .take 18 }]
def c83P9 : AC := .seq c83R6 .ret
def c83P10 : AC := .seq c83P8 c83P9
def c83P11 : AC := .seq c83R1 c83P10
def c83P12 : AC := .seq c83R0 c83P11
def c83 : AC := c83P12
def r83 : List RV := [.tmp 2]
/-! bosket/bosketref04.Start -/
def c84R0 : AC :=
  .reg false [{ dst := some 4, op := .pure (.mv (.const (.int .i64 0))) }]
def c84R1 : AC :=
  .reg false [{ dst := some 5, op := .pure (.mv (.const (.int .i64 1))) }]
def c84R2 : AC :=
  .reg false [{ dst := some 7, op := .pure (.mv (.tmp 1)) },
    { dst := some 6, op := .pure (.mv (.tmp 7)) }]
def c84R3 : AC :=
  .reg false [{ dst := some 8, op := .pure (.mv (.tmp 6)) },
    { dst := some 9, op := .pure (.bin .geq .i64 (.tmp 8) (.const (.int .i64 0))) }]
def c84P1 : AC := .cond (.tmp 9) .skip (.exit 0)
def c84P2 : AC := .seq c84R3 c84P1
def c84R5 : AC :=
  .reg false [{ dst := some 12, op := .pure (.mv (.tmp 5)) },
    { dst := some 13, op := .pure (.bin .sub .i64 (.tmp 12) (.const (.int .i64 1))) },
    { dst := some 14, op := .pure (.mv (.tmp 0)) },
    { dst := some 15, op := .pure (.mv (.tmp 6)) },
    { dst := some 16, op := .pure (.iadr 5 .i64 (.tmp 14) (.tmp 15)) },
    { dst := some 17, op := .pure (.fadr 0 (.tmp 16)) },
    { dst := some 18, op := .pure (.load 1 false (.tmp 17)) },
    { dst := some 19, op := .call false 40 [(.tmp 18)] },
    { dst := some 20, op := .pure (.bin .add .i64 (.tmp 13) (.tmp 19)) },
    { dst := some 5, op := .pure (.mv (.tmp 20)) }]
def c84R6 : AC :=
  .reg false [{ dst := some 21, op := .pure (.mv (.tmp 5)) },
    { dst := some 22, op := .pure (.bin .eql .i64 (.tmp 21) (.const (.int .i64 0))) }]
def c84R7 : AC :=
  .reg false [{ dst := some 23, op := .pure (.mv (.tmp 6)) },
    { dst := some 4, op := .pure (.mv (.tmp 23)) }]
def c84P3 : AC := .seq c84R7 .ret
def c84P4 : AC := .cond (.tmp 22) c84P3 .skip
def c84P5 : AC := .seq c84R6 c84P4
def c84P6 : AC := .seq c84R5 c84P5
def c84P7 : AC := .block 1 c84P6
def c84R4 : AC :=
  .reg false [{ dst := some 10, op := .pure (.mv (.tmp 6)) },
    { dst := some 11, op := .pure (.bin .sub .i64 (.tmp 10) (.const (.int .i64 1))) },
    { dst := some 6, op := .pure (.mv (.tmp 11)) }]
def c84P8 : AC := .seq c84P7 c84R4
def c84P9 : AC := .seq c84P2 c84P8
def c84P10 : AC := .loop c84P9
def c84P11 : AC := .block 0 c84P10
def c84P12 : AC := .seq c84R2 c84P11
def c84R8 : AC :=
  .reg false [{ dst := some 4, op := .pure (.mv (.const (.int .i64 0))) }]
def c84P13 : AC := .seq c84R8 .ret
def c84P14 : AC := .seq c84P12 c84P13
def c84P15 : AC := .seq c84R1 c84P14
def c84P16 : AC := .seq c84R0 c84P15
def c84 : AC := c84P16
def r84 : List RV := [.tmp 4]
/-! bosket/rex.Start -/
def c109R0 : AC :=
  .reg false [{ dst := some 4, op := .pure (.mv (.const (.int .i64 0))) }]
def c109R1 : AC :=
  .reg false [{ dst := some 5, op := .pure (.mv (.const (.int .i64 1))) }]
def c109R2 : AC :=
  .reg false [{ dst := some 7, op := .pure (.mv (.tmp 1)) },
    { dst := some 6, op := .pure (.mv (.tmp 7)) }]
def c109R3 : AC :=
  .reg false [{ dst := some 8, op := .pure (.mv (.tmp 6)) },
    { dst := some 9, op := .pure (.bin .geq .i64 (.tmp 8) (.const (.int .i64 0))) }]
def c109P1 : AC := .cond (.tmp 9) .skip (.exit 0)
def c109P2 : AC := .seq c109R3 c109P1
def c109R5 : AC :=
  .reg false [{ dst := some 12, op := .pure (.mv (.tmp 5)) },
    { dst := some 13, op := .pure (.mv (.tmp 0)) },
    { dst := some 14, op := .pure (.mv (.tmp 6)) },
    { dst := some 15, op := .pure (.iadr 5 .i64 (.tmp 13) (.tmp 14)) },
    { dst := some 16, op := .pure (.fadr 0 (.tmp 15)) },
    { dst := some 17, op := .pure (.load 1 false (.tmp 16)) },
    { dst := some 18, op := .call false 72 [(.tmp 17)] },
    { dst := some 19, op := .pure (.bin .sub .i64 (.tmp 18) (.const (.int .i64 1))) },
    { dst := some 20, op := .pure (.bin .add .i64 (.tmp 12) (.tmp 19)) },
    { dst := some 5, op := .pure (.mv (.tmp 20)) }]
def c109R6 : AC :=
  .reg false [{ dst := some 21, op := .pure (.mv (.tmp 5)) },
    { dst := some 22, op := .pure (.bin .eql .i64 (.tmp 21) (.const (.int .i64 0))) }]
def c109R7 : AC :=
  .reg false [{ dst := some 23, op := .pure (.mv (.tmp 6)) },
    { dst := some 4, op := .pure (.mv (.tmp 23)) }]
def c109P3 : AC := .seq c109R7 .ret
def c109P4 : AC := .cond (.tmp 22) c109P3 .skip
def c109P5 : AC := .seq c109R6 c109P4
def c109P6 : AC := .seq c109R5 c109P5
def c109P7 : AC := .block 1 c109P6
def c109R4 : AC :=
  .reg false [{ dst := some 10, op := .pure (.mv (.tmp 6)) },
    { dst := some 11, op := .pure (.bin .sub .i64 (.tmp 10) (.const (.int .i64 1))) },
    { dst := some 6, op := .pure (.mv (.tmp 11)) }]
def c109P8 : AC := .seq c109P7 c109R4
def c109P9 : AC := .seq c109P2 c109P8
def c109P10 : AC := .loop c109P9
def c109P11 : AC := .block 0 c109P10
def c109P12 : AC := .seq c109R2 c109P11
def c109R8 : AC :=
  .reg false [{ dst := some 4, op := .pure (.mv (.const (.int .i64 0))) }]
def c109P13 : AC := .seq c109R8 .ret
def c109P14 : AC := .seq c109P12 c109P13
def c109P15 : AC := .seq c109R1 c109P14
def c109P16 : AC := .seq c109R0 c109P15
def c109 : AC := c109P16
def r109 : List RV := [.tmp 4]
/-! bosket/rex.Same -/
def c110R0 : AC :=
  .reg false [{ dst := some 4, op := .pure (.mv (.const (.bool false))) }]
def c110R1 : AC :=
  .reg false [{ dst := some 5, op := .pure (.mv (.tmp 0)) },
    { dst := some 6, op := .pure (.mv (.tmp 1)) },
    { dst := some 7, op := .call false 136 [(.tmp 5), (.tmp 6)] },
    { dst := some 4, op := .pure (.mv (.tmp 7)) }]
def c110P1 : AC := .seq c110R1 .ret
def c110P2 : AC := .seq c110R0 c110P1
def c110 : AC := c110P2
def r110 : List RV := [.tmp 4]
/-! slices.Equal[bosket/api.Regex,bosket/api.Piece] -/
def c136R0 : AC :=
  .reg false [{ dst := some 4, op := .pure (.mv (.const (.bool false))) }]
def c136R1 : AC :=
  .reg false [{ dst := some 6, op := .pure (.mv (.tmp 0)) },
    { dst := some 7, op := .pure (.len 5 (.tmp 6)) },
    { dst := some 8, op := .pure (.mv (.tmp 1)) },
    { dst := some 9, op := .pure (.len 5 (.tmp 8)) },
    { dst := some 10, op := .pure (.bin .neq .i64 (.tmp 7) (.tmp 9)) }]
def c136R2 : AC :=
  .reg false [{ dst := some 4, op := .pure (.mv (.const (.bool false))) }]
def c136P1 : AC := .seq c136R2 .ret
def c136P2 : AC := .cond (.tmp 10) c136P1 .skip
def c136P3 : AC := .seq c136R1 c136P2
def c136R3 : AC :=
  .reg false [{ dst := some 11, op := .pure (.mv (.tmp 0)) },
    { dst := some 12, op := .pure (.len 5 (.tmp 11)) },
    { dst := some 13, op := .pure (.mv (.const (.int .i64 0))) }]
def c136R4 : AC :=
  .reg false [{ dst := some 14, op := .pure (.bin .lss .i64 (.tmp 13) (.tmp 12)) }]
def c136P4 : AC := .cond (.tmp 14) .skip (.exit 0)
def c136R5 : AC :=
  .reg false [{ dst := some 15, op := .pure (.mv (.tmp 13)) },
    { dst := some 5, op := .pure (.mv (.tmp 15)) }]
def c136R6 : AC :=
  .reg true [{ dst := some 16, op := .pure (.mv (.tmp 0)), unk := [17, 20, 21, 22, 23], tch := some [16] },
    { dst := some 17, op := .pure (.mv (.tmp 5)), unk := [16, 20, 21, 22, 23], tch := some [17] },
    { dst := some 18, op := .pure (.iadr 5 .i64 (.tmp 16) (.tmp 17)), unk := [20, 21, 22, 23], tch := some [18] },
    { dst := some 19, op := .pure (.load 5 true (.tmp 18)), unk := [20, 21, 22, 23], tch := some [19] },
    { dst := some 20, op := .pure (.mv (.tmp 1)), unk := [16, 17, 18, 19, 21], tch := some [20] },
    { dst := some 21, op := .pure (.mv (.tmp 5)), unk := [16, 17, 18, 19, 20], tch := some [21] },
    { dst := some 22, op := .pure (.iadr 5 .i64 (.tmp 20) (.tmp 21)), unk := [16, 17, 18, 19], tch := some [22] },
    { dst := some 23, op := .pure (.load 5 true (.tmp 22)), unk := [16, 17, 18, 19], tch := some [23] },
    { dst := some 24, op := .pure (.aeq true [.int .i64, .int .u64, .int .u64, .int .u64, .int .u64] (.tmp 19) (.tmp 23)), tch := some [24] }]
def c136R7 : AC :=
  .reg false [{ dst := some 4, op := .pure (.mv (.const (.bool false))) }]
def c136P5 : AC := .seq c136R7 .ret
def c136P6 : AC := .cond (.tmp 24) c136P5 .skip
def c136P7 : AC := .seq c136R6 c136P6
def c136P8 : AC := .seq c136R5 c136P7
def c136P9 : AC := .block 1 c136P8
def c136R8 : AC :=
  .reg false [{ dst := some 25, op := .pure (.bin .add .i64 (.tmp 13) (.const (.int .i64 1))) },
    { dst := some 13, op := .pure (.mv (.tmp 25)) }]
def c136P10 : AC := .seq c136P9 c136R8
def c136P11 : AC := .seq c136P4 c136P10
def c136P12 : AC := .seq c136R4 c136P11
def c136P13 : AC := .loop c136P12
def c136P14 : AC := .block 0 c136P13
def c136P15 : AC := .seq c136R3 c136P14
def c136R9 : AC :=
  .reg false [{ dst := some 4, op := .pure (.mv (.const (.bool true))) }]
def c136P16 : AC := .seq c136R9 .ret
def c136P17 : AC := .seq c136P15 c136P16
def c136P18 : AC := .seq c136P3 c136P17
def c136P19 : AC := .seq c136R0 c136P18
def c136 : AC := c136P19
def r136 : List RV := [.tmp 4]
theorem m3 (c : Code) (h : Try.f3.body = some c) : matC Try.prog Try.f3.ntmps c c3 = true := by
  cases h
  kernel_rfl
theorem n3 : Try.prog.funcs[3]? = some Try.f3 := by kernel_rfl
theorem q3 : matRVs Try.prog Try.f3.results.toList r3 = true := by kernel_rfl
theorem m8 (c : Code) (h : Try.f8.body = some c) : matC Try.prog Try.f8.ntmps c c8 = true := by
  cases h
  kernel_rfl
theorem n8 : Try.prog.funcs[8]? = some Try.f8 := by kernel_rfl
theorem q8 : matRVs Try.prog Try.f8.results.toList r8 = true := by kernel_rfl
theorem m9 (c : Code) (h : Try.f9.body = some c) : matC Try.prog Try.f9.ntmps c c9 = true := by
  cases h
  kernel_rfl
theorem n9 : Try.prog.funcs[9]? = some Try.f9 := by kernel_rfl
theorem q9 : matRVs Try.prog Try.f9.results.toList r9 = true := by kernel_rfl
theorem m10 (c : Code) (h : Try.f10.body = some c) : matC Try.prog Try.f10.ntmps c c10 = true := by
  cases h
  kernel_rfl
theorem n10 : Try.prog.funcs[10]? = some Try.f10 := by kernel_rfl
theorem q10 : matRVs Try.prog Try.f10.results.toList r10 = true := by kernel_rfl
theorem m11 (c : Code) (h : Try.f11.body = some c) : matC Try.prog Try.f11.ntmps c c11 = true := by
  cases h
  kernel_rfl
theorem n11 : Try.prog.funcs[11]? = some Try.f11 := by kernel_rfl
theorem q11 : matRVs Try.prog Try.f11.results.toList r11 = true := by kernel_rfl
theorem m12 (c : Code) (h : Try.f12.body = some c) : matC Try.prog Try.f12.ntmps c c12 = true := by
  cases h
  kernel_rfl
theorem n12 : Try.prog.funcs[12]? = some Try.f12 := by kernel_rfl
theorem q12 : matRVs Try.prog Try.f12.results.toList r12 = true := by kernel_rfl
theorem m14 (c : Code) (h : Try.f14.body = some c) : matC Try.prog Try.f14.ntmps c c14 = true := by
  cases h
  kernel_rfl
theorem n14 : Try.prog.funcs[14]? = some Try.f14 := by kernel_rfl
theorem q14 : matRVs Try.prog Try.f14.results.toList r14 = true := by kernel_rfl
theorem m16 (c : Code) (h : Try.f16.body = some c) : matC Try.prog Try.f16.ntmps c c16 = true := by
  cases h
  kernel_rfl
theorem n16 : Try.prog.funcs[16]? = some Try.f16 := by kernel_rfl
theorem q16 : matRVs Try.prog Try.f16.results.toList r16 = true := by kernel_rfl
theorem m17 (c : Code) (h : Try.f17.body = some c) : matC Try.prog Try.f17.ntmps c c17 = true := by
  cases h
  kernel_rfl
theorem n17 : Try.prog.funcs[17]? = some Try.f17 := by kernel_rfl
theorem q17 : matRVs Try.prog Try.f17.results.toList r17 = true := by kernel_rfl
theorem m37 (c : Code) (h : Try.f37.body = some c) : matC Try.prog Try.f37.ntmps c c37 = true := by
  cases h
  kernel_rfl
theorem n37 : Try.prog.funcs[37]? = some Try.f37 := by kernel_rfl
theorem q37 : matRVs Try.prog Try.f37.results.toList r37 = true := by kernel_rfl
theorem m38 (c : Code) (h : Try.f38.body = some c) : matC Try.prog Try.f38.ntmps c c38 = true := by
  cases h
  kernel_rfl
theorem n38 : Try.prog.funcs[38]? = some Try.f38 := by kernel_rfl
theorem q38 : matRVs Try.prog Try.f38.results.toList r38 = true := by kernel_rfl
theorem m39 (c : Code) (h : Try.f39.body = some c) : matC Try.prog Try.f39.ntmps c c39 = true := by
  cases h
  kernel_rfl
theorem n39 : Try.prog.funcs[39]? = some Try.f39 := by kernel_rfl
theorem q39 : matRVs Try.prog Try.f39.results.toList r39 = true := by kernel_rfl
theorem m40 (c : Code) (h : Try.f40.body = some c) : matC Try.prog Try.f40.ntmps c c40 = true := by
  cases h
  kernel_rfl
theorem n40 : Try.prog.funcs[40]? = some Try.f40 := by kernel_rfl
theorem q40 : matRVs Try.prog Try.f40.results.toList r40 = true := by kernel_rfl
theorem m41 (c : Code) (h : Try.f41.body = some c) : matC Try.prog Try.f41.ntmps c c41 = true := by
  cases h
  kernel_rfl
theorem n41 : Try.prog.funcs[41]? = some Try.f41 := by kernel_rfl
theorem q41 : matRVs Try.prog Try.f41.results.toList r41 = true := by kernel_rfl
theorem m44 (c : Code) (h : Try.f44.body = some c) : matC Try.prog Try.f44.ntmps c c44 = true := by
  cases h
  kernel_rfl
theorem n44 : Try.prog.funcs[44]? = some Try.f44 := by kernel_rfl
theorem q44 : matRVs Try.prog Try.f44.results.toList r44 = true := by kernel_rfl
theorem m72 (c : Code) (h : Try.f72.body = some c) : matC Try.prog Try.f72.ntmps c c72 = true := by
  cases h
  kernel_rfl
theorem n72 : Try.prog.funcs[72]? = some Try.f72 := by kernel_rfl
theorem q72 : matRVs Try.prog Try.f72.results.toList r72 = true := by kernel_rfl
theorem m73 (c : Code) (h : Try.f73.body = some c) : matC Try.prog Try.f73.ntmps c c73 = true := by
  cases h
  kernel_rfl
theorem n73 : Try.prog.funcs[73]? = some Try.f73 := by kernel_rfl
theorem q73 : matRVs Try.prog Try.f73.results.toList r73 = true := by kernel_rfl
theorem m74 (c : Code) (h : Try.f74.body = some c) : matC Try.prog Try.f74.ntmps c c74 = true := by
  cases h
  kernel_rfl
theorem n74 : Try.prog.funcs[74]? = some Try.f74 := by kernel_rfl
theorem q74 : matRVs Try.prog Try.f74.results.toList r74 = true := by kernel_rfl
theorem m75 (c : Code) (h : Try.f75.body = some c) : matC Try.prog Try.f75.ntmps c c75 = true := by
  cases h
  kernel_rfl
theorem n75 : Try.prog.funcs[75]? = some Try.f75 := by kernel_rfl
theorem q75 : matRVs Try.prog Try.f75.results.toList r75 = true := by kernel_rfl
theorem m76 (c : Code) (h : Try.f76.body = some c) : matC Try.prog Try.f76.ntmps c c76 = true := by
  cases h
  kernel_rfl
theorem n76 : Try.prog.funcs[76]? = some Try.f76 := by kernel_rfl
theorem q76 : matRVs Try.prog Try.f76.results.toList r76 = true := by kernel_rfl
theorem m77 (c : Code) (h : Try.f77.body = some c) : matC Try.prog Try.f77.ntmps c c77 = true := by
  cases h
  kernel_rfl
theorem n77 : Try.prog.funcs[77]? = some Try.f77 := by kernel_rfl
theorem q77 : matRVs Try.prog Try.f77.results.toList r77 = true := by kernel_rfl
theorem m78 (c : Code) (h : Try.f78.body = some c) : matC Try.prog Try.f78.ntmps c c78 = true := by
  cases h
  kernel_rfl
theorem n78 : Try.prog.funcs[78]? = some Try.f78 := by kernel_rfl
theorem q78 : matRVs Try.prog Try.f78.results.toList r78 = true := by kernel_rfl
theorem m79 (c : Code) (h : Try.f79.body = some c) : matC Try.prog Try.f79.ntmps c c79 = true := by
  cases h
  kernel_rfl
theorem n79 : Try.prog.funcs[79]? = some Try.f79 := by kernel_rfl
theorem q79 : matRVs Try.prog Try.f79.results.toList r79 = true := by kernel_rfl
theorem m80 (c : Code) (h : Try.f80.body = some c) : matC Try.prog Try.f80.ntmps c c80 = true := by
  cases h
  kernel_rfl
theorem n80 : Try.prog.funcs[80]? = some Try.f80 := by kernel_rfl
theorem q80 : matRVs Try.prog Try.f80.results.toList r80 = true := by kernel_rfl
theorem m81 (c : Code) (h : Try.f81.body = some c) : matC Try.prog Try.f81.ntmps c c81 = true := by
  cases h
  kernel_rfl
theorem n81 : Try.prog.funcs[81]? = some Try.f81 := by kernel_rfl
theorem q81 : matRVs Try.prog Try.f81.results.toList r81 = true := by kernel_rfl
theorem m82 (c : Code) (h : Try.f82.body = some c) : matC Try.prog Try.f82.ntmps c c82 = true := by
  cases h
  kernel_rfl
theorem n82 : Try.prog.funcs[82]? = some Try.f82 := by kernel_rfl
theorem q82 : matRVs Try.prog Try.f82.results.toList r82 = true := by kernel_rfl
theorem m83 (c : Code) (h : Try.f83.body = some c) : matC Try.prog Try.f83.ntmps c c83 = true := by
  cases h
  kernel_rfl
theorem n83 : Try.prog.funcs[83]? = some Try.f83 := by kernel_rfl
theorem q83 : matRVs Try.prog Try.f83.results.toList r83 = true := by kernel_rfl
theorem m84 (c : Code) (h : Try.f84.body = some c) : matC Try.prog Try.f84.ntmps c c84 = true := by
  cases h
  kernel_rfl
theorem n84 : Try.prog.funcs[84]? = some Try.f84 := by kernel_rfl
theorem q84 : matRVs Try.prog Try.f84.results.toList r84 = true := by kernel_rfl
theorem m109 (c : Code) (h : Try.f109.body = some c) : matC Try.prog Try.f109.ntmps c c109 = true := by
  cases h
  kernel_rfl
theorem n109 : Try.prog.funcs[109]? = some Try.f109 := by kernel_rfl
theorem q109 : matRVs Try.prog Try.f109.results.toList r109 = true := by kernel_rfl
theorem m110 (c : Code) (h : Try.f110.body = some c) : matC Try.prog Try.f110.ntmps c c110 = true := by
  cases h
  kernel_rfl
theorem n110 : Try.prog.funcs[110]? = some Try.f110 := by kernel_rfl
theorem q110 : matRVs Try.prog Try.f110.results.toList r110 = true := by kernel_rfl
theorem m136 (c : Code) (h : Try.f136.body = some c) : matC Try.prog Try.f136.ntmps c c136 = true := by
  cases h
  kernel_rfl
theorem n136 : Try.prog.funcs[136]? = some Try.f136 := by kernel_rfl
theorem q136 : matRVs Try.prog Try.f136.results.toList r136 = true := by kernel_rfl
end Go.Proofs.Ytaefhdklkbohmaa
namespace Go.Proofs.Ytaefhdklkbohmaa
open Go Go.RowKit
set_option linter.unusedSimpArgs false
def takes40 (k : Int) : Int := if k < 0 ∨ 6 < k then -1 else [0,0,2,2,1,1,1].getD k.toNat 0
theorem takes40_spec (k : Int) : ACalls Try.prog 40 [.int .i64 k] .sh (.int .i64 (takes40 k)) := by
  refine ACalls.of n40 rfl (m40 _ rfl) q40 (by simp only [List.length_singleton]; decide) (fun C hC => ?_)
  have hN : C.N = 15 := hC
  refine AV.seq (AV.reg ?_)
  simp only [hN, c40R0, go_sem, Nat.reduceSub, reduceIte, Nat.reduceEqDiff, Nat.reduceLT, Nat.reduceMul, Nat.reduceAdd, Nat.reduceBEq, Nat.reduceLeDiff, Int.reduceLT, Int.reduceLE, Int.reduceNeg, Int.reduceBEq, Int.reduceBNe, Int.reduceToNat]
  refine AV.seq (AV.reg ?_)
  simp only [hN, c40R1, go_sem, Nat.reduceSub, reduceIte, Nat.reduceEqDiff, Nat.reduceLT, Nat.reduceMul, Nat.reduceAdd, Nat.reduceBEq, Nat.reduceLeDiff, Int.reduceLT, Int.reduceLE, Int.reduceNeg, Int.reduceBEq, Int.reduceBNe, Int.reduceToNat]
  refine AV.seq (AV.seq (AV.reg ?_))
  simp only [hN, c40R2, go_sem, Nat.reduceSub, reduceIte, Nat.reduceEqDiff, Nat.reduceLT, Nat.reduceMul, Nat.reduceAdd, Nat.reduceBEq, Nat.reduceLeDiff, Int.reduceLT, Int.reduceLE, Int.reduceNeg, Int.reduceBEq, Int.reduceBNe, Int.reduceToNat]
  refine AV.cond ?_ ?_ ?_ ?_ <;> simp only [go_sem, Nat.reduceSub, reduceIte, Nat.reduceEqDiff, Nat.reduceLT, Nat.reduceMul, Nat.reduceAdd, Nat.reduceBEq, Nat.reduceLeDiff, Int.reduceLT, Int.reduceLE, Int.reduceNeg, Int.reduceBEq, Int.reduceBNe, Int.reduceToNat]
  · intro h
    refine AV.seq (AV.reg ?_)
    simp only [hN, c40R3, go_sem, Nat.reduceSub, reduceIte, Nat.reduceEqDiff, Nat.reduceLT, Nat.reduceMul, Nat.reduceAdd, Nat.reduceBEq, Nat.reduceLeDiff, Int.reduceLT, Int.reduceLE, Int.reduceNeg, Int.reduceBEq, Int.reduceBNe, Int.reduceToNat]
    refine AV.ret ?_
    refine atEnd_t (u := .int .i64 (-1)) (by simp only [go_sem, Nat.reduceSub, reduceIte, Nat.reduceEqDiff, Nat.reduceLT, Nat.reduceMul, Nat.reduceAdd, Nat.reduceBEq, Nat.reduceLeDiff, Int.reduceLT, Int.reduceLE, Int.reduceNeg, Int.reduceBEq, Int.reduceBNe, Int.reduceToNat]) ?_ (by simp)
    simp only [takes40]
    rw [if_pos (by omega)]
  · intro h
    refine AV.skip ?_
    simp only [go_sem, Nat.reduceSub, reduceIte, Nat.reduceEqDiff, Nat.reduceLT, Nat.reduceMul, Nat.reduceAdd, Nat.reduceBEq, Nat.reduceLeDiff, Int.reduceLT, Int.reduceLE, Int.reduceNeg, Int.reduceBEq, Int.reduceBNe, Int.reduceToNat]
    refine AV.seq (AV.reg ?_)
    simp only [hN, c40R4, go_sem, Nat.reduceSub, reduceIte, Nat.reduceEqDiff, Nat.reduceLT, Nat.reduceMul, Nat.reduceAdd, Nat.reduceBEq, Nat.reduceLeDiff, Int.reduceLT, Int.reduceLE, Int.reduceNeg, Int.reduceBEq, Int.reduceBNe, Int.reduceToNat]
    refine ⟨by omega, AV.ret ?_⟩
    refine atEnd_t (by simp only [go_sem, Nat.reduceSub, reduceIte, Nat.reduceEqDiff, Nat.reduceLT, Nat.reduceMul, Nat.reduceAdd, Nat.reduceBEq, Nat.reduceLeDiff, Int.reduceLT, Int.reduceLE, Int.reduceNeg, Int.reduceBEq, Int.reduceBNe, Int.reduceToNat]; rfl) ?_ (by simp)
    simp only [takes40]
    rw [if_neg (by omega)]
    have : k = 0 ∨ k = 1 ∨ k = 2 ∨ k = 3 ∨ k = 4 ∨ k = 5 ∨ k = 6 := by omega
    rcases this with rfl | rfl | rfl | rfl | rfl | rfl | rfl <;> rfl
end Go.Proofs.Ytaefhdklkbohmaa
/- Data, and first functions. -/
namespace Go.Proofs.Ytaefhdklkbohmaa
open Go Go.RowKit
set_option linter.unusedSimpArgs false
structure S4 where
  w0 : BitVec 64
  w1 : BitVec 64
  w2 : BitVec 64
  w3 : BitVec 64
  deriving DecidableEq, Inhabited
structure Pc where
  kind : Int
  s : S4
  deriving DecidableEq, Inhabited
def S4.ts (s : S4) : List T := [.int .u64 (s.w0.toNat : Int), .int .u64 (s.w1.toNat : Int), .int .u64 (s.w2.toNat : Int), .int .u64 (s.w3.toNat : Int)]
def pcT (p : Pc) : T := .agg (.int .i64 p.kind :: p.s.ts)
def rxT (r : List Pc) : T := .sl 5 (r.map pcT)
def fitsGo : List Pc → Int → Bool
  | [], n => n == 1
  | p :: ps, n => if takes40 p.kind < 0 ∨ n < takes40 p.kind then false else fitsGo ps (n - takes40 p.kind + 1)
theorem takes40_le (k : Int) : -1 ≤ takes40 k ∧ takes40 k ≤ 2 := by
  unfold takes40
  split
  · omega
  · have : k = 0 ∨ k = 1 ∨ k = 2 ∨ k = 3 ∨ k = 4 ∨ k = 5 ∨ k = 6 := by omega
    rcases this with rfl | rfl | rfl | rfl | rfl | rfl | rfl <;> decide
theorem fits12_spec (r : List Pc) (hr : r.length ≤ 1073741824) : ACalls Try.prog 12 [rxT r] .sh (.bool (fitsGo r 0)) := by
  refine ACalls.of n12 rfl (m12 _ rfl) q12 (by simp only [List.length_singleton]; decide) (fun C hC => ?_)
  have hN : C.N = 31 := hC
  refine AV.seq (AV.reg ?_)
  simp only [hN, c12R0, go_sem, Nat.reduceSub, reduceIte, Nat.reduceEqDiff, Nat.reduceLT, Nat.reduceMul, Nat.reduceAdd, Nat.reduceBEq, Nat.reduceLeDiff, Int.reduceLT, Int.reduceLE, Int.reduceNeg, Int.reduceBEq, Int.reduceBNe, Int.reduceToNat]
  refine AV.seq (AV.reg ?_)
  simp only [hN, c12R1, go_sem, Nat.reduceSub, reduceIte, Nat.reduceEqDiff, Nat.reduceLT, Nat.reduceMul, Nat.reduceAdd, Nat.reduceBEq, Nat.reduceLeDiff, Int.reduceLT, Int.reduceLE, Int.reduceNeg, Int.reduceBEq, Int.reduceBNe, Int.reduceToNat]
  refine AV.seq (AV.seq (AV.reg ?_))
  simp only [hN, c12R2, go_sem, Nat.reduceSub, reduceIte, Nat.reduceEqDiff, Nat.reduceLT, Nat.reduceMul, Nat.reduceAdd, Nat.reduceBEq, Nat.reduceLeDiff, Int.reduceLT, Int.reduceLE, Int.reduceNeg, Int.reduceBEq, Int.reduceBNe, Int.reduceToNat]
  refine AV.block ?_
  refine AV.loopK [0, 3, 4] (by simp only [hN]; decide) (n := r.length) (fun m σ => ∃ (i : Nat) (n : Int), i + m = r.length ∧ 0 ≤ n ∧ n ≤ i ∧ fitsGo r 0 = fitsGo (r.drop i) n ∧ σ = [(0, .t (rxT r)), (3, .t (.int .i64 n)), (4, .t (.int .i64 (i : Int)))]) ?_ ⟨0, 0, by omega, by omega, by omega, rfl, by simp only [go_sem, Nat.reduceSub, reduceIte, Nat.reduceEqDiff, Nat.reduceLT, Nat.reduceMul, Nat.reduceAdd, Nat.reduceBEq, Nat.reduceLeDiff, Int.reduceLT, Int.reduceLE, Int.reduceNeg, Int.reduceBEq, Int.reduceBNe, Int.reduceToNat]; rfl⟩
  rintro m σ ⟨i, n, h1, h2, h3, h4, rfl⟩
  refine AV.seq (AV.seq (AV.reg ?_))
  simp only [hN, c12R3, rxT, List.length_map, go_sem, Nat.reduceSub, reduceIte, Nat.reduceEqDiff, Nat.reduceLT, Nat.reduceMul, Nat.reduceAdd, Nat.reduceBEq, Nat.reduceLeDiff, Int.reduceLT, Int.reduceLE, Int.reduceNeg, Int.reduceBEq, Int.reduceBNe, Int.reduceToNat]
  refine AV.cond ?_ ?_ ?_ ?_ <;> simp only [go_sem, Nat.reduceSub, reduceIte, Nat.reduceEqDiff, Nat.reduceLT, Nat.reduceMul, Nat.reduceAdd, Nat.reduceBEq, Nat.reduceLeDiff, Int.reduceLT, Int.reduceLE, Int.reduceNeg, Int.reduceBEq, Int.reduceBNe, Int.reduceToNat]
  · intro hi
    have hi' : i < r.length := by omega
    refine AV.skip ?_
    simp only [go_sem, Nat.reduceSub, reduceIte, Nat.reduceEqDiff, Nat.reduceLT, Nat.reduceMul, Nat.reduceAdd, Nat.reduceBEq, Nat.reduceLeDiff, Int.reduceLT, Int.reduceLE, Int.reduceNeg, Int.reduceBEq, Int.reduceBNe, Int.reduceToNat]
    refine AV.seq (AV.block (AV.seq (AV.reg ?_)))
    simp only [hN, c12R5, go_sem, Nat.reduceSub, reduceIte, Nat.reduceEqDiff, Nat.reduceLT, Nat.reduceMul, Nat.reduceAdd, Nat.reduceBEq, Nat.reduceLeDiff, Int.reduceLT, Int.reduceLE, Int.reduceNeg, Int.reduceBEq, Int.reduceBNe, Int.reduceToNat, List.length_map, Int.toNat_natCast, getD_map_lt pcT r i default hi', pcT, S4.ts]
    refine ⟨⟨by omega, hi'⟩, .sh, .int .i64 (takes40 r[i].kind), takes40_spec _, rfl, ?_⟩
    have hk := takes40_le r[i].kind
    have hd : r.drop i = r[i] :: r.drop (i + 1) := List.drop_eq_getElem_cons hi'
    generalize r[i] = p at hk hd ⊢
    generalize hkk : takes40 p.kind = kk at hk ⊢
    refine AV.seq (AV.seq (AV.reg ?_))
    simp only [hN, c12R6, go_sem, Nat.reduceSub, reduceIte, Nat.reduceEqDiff, Nat.reduceLT, Nat.reduceMul, Nat.reduceAdd, Nat.reduceBEq, Nat.reduceLeDiff, Int.reduceLT, Int.reduceLE, Int.reduceNeg, Int.reduceBEq, Int.reduceBNe, Int.reduceToNat]
    refine AV.cond ?_ ?_ ?_ ?_ <;> simp only [go_sem, Nat.reduceSub, reduceIte, Nat.reduceEqDiff, Nat.reduceLT, Nat.reduceMul, Nat.reduceAdd, Nat.reduceBEq, Nat.reduceLeDiff, Int.reduceLT, Int.reduceLE, Int.reduceNeg, Int.reduceBEq, Int.reduceBNe, Int.reduceToNat]
    · intro h
      refine AV.seq (AV.reg ?_)
      simp only [hN, c12R7, go_sem, Nat.reduceSub, reduceIte, Nat.reduceEqDiff, Nat.reduceLT, Nat.reduceMul, Nat.reduceAdd, Nat.reduceBEq, Nat.reduceLeDiff, Int.reduceLT, Int.reduceLE, Int.reduceNeg, Int.reduceBEq, Int.reduceBNe, Int.reduceToNat]
      refine AV.ret ?_
      simp only [go_sem, Nat.reduceSub, reduceIte, Nat.reduceEqDiff, Nat.reduceLT, Nat.reduceMul, Nat.reduceAdd, Nat.reduceBEq, Nat.reduceLeDiff, Int.reduceLT, Int.reduceLE, Int.reduceNeg, Int.reduceBEq, Int.reduceBNe, Int.reduceToNat]
      refine atEnd_t (by simp only [go_sem, Nat.reduceSub, reduceIte, Nat.reduceEqDiff, Nat.reduceLT, Nat.reduceMul, Nat.reduceAdd, Nat.reduceBEq, Nat.reduceLeDiff, Int.reduceLT, Int.reduceLE, Int.reduceNeg, Int.reduceBEq, Int.reduceBNe, Int.reduceToNat]; rfl) ?_ (by simp)
      rw [h4, hd, fitsGo, hkk, if_pos (by omega)]
    · intro h
      refine AV.skip ?_
      simp only [go_sem, Nat.reduceSub, reduceIte, Nat.reduceEqDiff, Nat.reduceLT, Nat.reduceMul, Nat.reduceAdd, Nat.reduceBEq, Nat.reduceLeDiff, Int.reduceLT, Int.reduceLE, Int.reduceNeg, Int.reduceBEq, Int.reduceBNe, Int.reduceToNat]
      refine AV.reg ?_
      simp only [hN, c12R8, go_sem, Nat.reduceSub, reduceIte, Nat.reduceEqDiff, Nat.reduceLT, Nat.reduceMul, Nat.reduceAdd, Nat.reduceBEq, Nat.reduceLeDiff, Int.reduceLT, Int.reduceLE, Int.reduceNeg, Int.reduceBEq, Int.reduceBNe, Int.reduceToNat]
      rw [wrap_small (n - kk) (by omega) (by omega), wrap_small (n - kk + 1) (by omega) (by omega)]
      refine AV.reg ?_
      simp only [hN, c12R4, go_sem, Nat.reduceSub, reduceIte, Nat.reduceEqDiff, Nat.reduceLT, Nat.reduceMul, Nat.reduceAdd, Nat.reduceBEq, Nat.reduceLeDiff, Int.reduceLT, Int.reduceLE, Int.reduceNeg, Int.reduceBEq, Int.reduceBNe, Int.reduceToNat]
      rw [wrap_small ((i : Int) + 1) (by omega) (by omega)]
      exact ⟨m - 1, by omega, i + 1, n - kk + 1, by omega, by omega, by omega, by rw [h4, hd, fitsGo, hkk, if_neg (by omega)], by simp [rxT]⟩
  · intro hi
    refine AV.exit ?_
    simp only [go_sem, Nat.reduceSub, reduceIte, Nat.reduceEqDiff, Nat.reduceLT, Nat.reduceMul, Nat.reduceAdd, Nat.reduceBEq, Nat.reduceLeDiff, Int.reduceLT, Int.reduceLE, Int.reduceNeg, Int.reduceBEq, Int.reduceBNe, Int.reduceToNat]
    refine AV.seq (AV.reg ?_)
    simp only [hN, c12R9, go_sem, Nat.reduceSub, reduceIte, Nat.reduceEqDiff, Nat.reduceLT, Nat.reduceMul, Nat.reduceAdd, Nat.reduceBEq, Nat.reduceLeDiff, Int.reduceLT, Int.reduceLE, Int.reduceNeg, Int.reduceBEq, Int.reduceBNe, Int.reduceToNat]
    refine AV.ret ?_
    refine atEnd_t (by simp only [go_sem, Nat.reduceSub, reduceIte, Nat.reduceEqDiff, Nat.reduceLT, Nat.reduceMul, Nat.reduceAdd, Nat.reduceBEq, Nat.reduceLeDiff, Int.reduceLT, Int.reduceLE, Int.reduceNeg, Int.reduceBEq, Int.reduceBNe, Int.reduceToNat]; rfl) ?_ (by simp)
    have : r.drop i = [] := List.drop_eq_nil_of_le (by omega)
    rw [h4, this]
    rfl
end Go.Proofs.Ytaefhdklkbohmaa
/- rex.Takes. -/
namespace Go.Proofs.Ytaefhdklkbohmaa
open Go Go.RowKit
set_option linter.unusedSimpArgs false
theorem takes72_spec (k : Int) : ACalls Try.prog 72 [.int .i64 k] .sh (.int .i64 (takes40 k)) := by
  refine ACalls.of n72 rfl (m72 _ rfl) q72 (by simp only [List.length_singleton]; decide) (fun C hC => ?_)
  have hN : C.N = 14 := hC
  have hk : takes40 k = if k = 0 ∨ k = 1 then 0 else if k = 4 ∨ k = 5 ∨ k = 6 then 1 else if k = 2 ∨ k = 3 then 2 else -1 := by
    by_cases h : k = 0 ∨ k = 1 ∨ k = 2 ∨ k = 3 ∨ k = 4 ∨ k = 5 ∨ k = 6
    · rcases h with rfl | rfl | rfl | rfl | rfl | rfl | rfl <;> rfl
    · rw [takes40, if_pos (by omega), if_neg (by omega), if_neg (by omega), if_neg (by omega)]
  repeat' first
    | refine AV.seq ?_
    | refine AV.block ?_
    | (refine AV.reg ?_; simp only [hN, argE, c72R0, c72R1, c72R2, c72R3, c72R4, c72R5, c72R6, c72R7, c72R8, c72R9, c72R10, c72R11, c72R12, go_sem, Nat.reduceSub, reduceIte, Nat.reduceEqDiff, Nat.reduceLT, Nat.reduceMul, Nat.reduceAdd, Nat.reduceBEq, Nat.reduceLeDiff, Int.reduceLT, Int.reduceLE, Int.reduceNeg, Int.reduceBEq, Int.reduceBNe, Int.reduceToNat])
    | (refine AV.cond ?_ ?_ (fun hc => ?_) (fun hc => ?_) <;> (try simp only [go_sem, Nat.reduceSub, reduceIte, Nat.reduceEqDiff, Nat.reduceLT, Nat.reduceMul, Nat.reduceAdd, Nat.reduceBEq, Nat.reduceLeDiff, Int.reduceLT, Int.reduceLE, Int.reduceNeg, Int.reduceBEq, Int.reduceBNe, Int.reduceToNat, beq_iff_eq, beq_eq_false_iff_ne] at hc) <;> (try simp only [go_sem, Nat.reduceSub, reduceIte, Nat.reduceEqDiff, Nat.reduceLT, Nat.reduceMul, Nat.reduceAdd, Nat.reduceBEq, Nat.reduceLeDiff, Int.reduceLT, Int.reduceLE, Int.reduceNeg, Int.reduceBEq, Int.reduceBNe, Int.reduceToNat]))
    | (refine AV.skip ?_; simp only [go_sem, Nat.reduceSub, reduceIte, Nat.reduceEqDiff, Nat.reduceLT, Nat.reduceMul, Nat.reduceAdd, Nat.reduceBEq, Nat.reduceLeDiff, Int.reduceLT, Int.reduceLE, Int.reduceNeg, Int.reduceBEq, Int.reduceBNe, Int.reduceToNat])
    | (refine AV.ret ?_; (try simp only [go_sem, Nat.reduceSub, reduceIte, Nat.reduceEqDiff, Nat.reduceLT, Nat.reduceMul, Nat.reduceAdd, Nat.reduceBEq, Nat.reduceLeDiff, Int.reduceLT, Int.reduceLE, Int.reduceNeg, Int.reduceBEq, Int.reduceBNe, Int.reduceToNat]); refine atEnd_t (by simp only [go_sem, Nat.reduceSub, reduceIte, Nat.reduceEqDiff, Nat.reduceLT, Nat.reduceMul, Nat.reduceAdd, Nat.reduceBEq, Nat.reduceLeDiff, Int.reduceLT, Int.reduceLE, Int.reduceNeg, Int.reduceBEq, Int.reduceBNe, Int.reduceToNat]; rfl) ?_ (by simp))
  all_goals rw [hk]
  all_goals congr 1
  all_goals (repeat' split)
  all_goals first | omega | rfl
end Go.Proofs.Ytaefhdklkbohmaa
/- Sets: byteset.Has, byteset.Empty. -/
namespace Go.Proofs.Ytaefhdklkbohmaa
open Go Go.RowKit
set_option linter.unusedSimpArgs false
theorem empty73_spec (s : S4) : ACalls Try.prog 73 [.agg s.ts] .sh (.bool (s == ⟨0, 0, 0, 0⟩)) := by
  refine ACalls.of n73 rfl (m73 _ rfl) q73 (by simp only [List.length_singleton]; decide) (fun C hC => ?_)
  have hN : C.N = 6 := hC
  refine AV.seq (AV.reg ?_)
  simp only [hN, c73R0, go_sem, Nat.reduceSub, reduceIte, Nat.reduceEqDiff, Nat.reduceLT, Nat.reduceMul, Nat.reduceAdd, Nat.reduceBEq, Nat.reduceLeDiff, Int.reduceLT, Int.reduceLE, Int.reduceNeg, Int.reduceBEq, Int.reduceBNe, Int.reduceToNat, S4.ts, shs]
  refine AV.seq (AV.reg ?_)
  simp only [hN, c73R1, go_sem, Nat.reduceSub, reduceIte, Nat.reduceEqDiff, Nat.reduceLT, Nat.reduceMul, Nat.reduceAdd, Nat.reduceBEq, Nat.reduceLeDiff, Int.reduceLT, Int.reduceLE, Int.reduceNeg, Int.reduceBEq, Int.reduceBNe, Int.reduceToNat, LK.fitsAll, LK.fits, LK.sameAll, LK.same, List.all_cons, K.isSh, List.getD_cons_zero]
  refine AV.ret (atEnd_t (by simp only [go_sem, Nat.reduceSub, reduceIte, Nat.reduceEqDiff, Nat.reduceLT, Nat.reduceMul, Nat.reduceAdd, Nat.reduceBEq, Nat.reduceLeDiff, Int.reduceLT, Int.reduceLE, Int.reduceNeg, Int.reduceBEq, Int.reduceBNe, Int.reduceToNat]; rfl) ?_ (by simp))
  congr 1
  obtain ⟨a, b, c, d⟩ := s
  have key : ∀ x : BitVec 64, ((x.toNat : Int) == 0) = (x == 0#64) := by
    intro x
    rw [Bool.eq_iff_iff, beq_iff_eq, beq_iff_eq]
    constructor
    · intro h; exact BitVec.eq_of_toNat_eq (by simp; omega)
    · rintro rfl; rfl
  simp only [key]
  rw [Bool.eq_iff_iff]
  simp
end Go.Proofs.Ytaefhdklkbohmaa
/- Sets: byteset.Has. -/
namespace Go.Proofs.Ytaefhdklkbohmaa
open Go Go.RowKit
set_option linter.unusedSimpArgs false
def S4.word (s : S4) : Nat → BitVec 64
  | 0 => s.w0
  | 1 => s.w1
  | 2 => s.w2
  | _ => s.w3
def S4.has (s : S4) (b : Nat) : Bool := (s.word (b / 64)).getLsbD (b % 64)
theorem wrap_u8 (n : Int) (h : 0 ≤ n) (h' : n < 256) : IntKind.u8.wrap n = n := by
  simp [IntKind.wrap, IntKind.bits, IntKind.signed]; omega
theorem bit_of (x : BitVec 64) (r : Nat) (hr : r < 64) :
    (IntKind.u64.wrap (((BitVec.ofInt IntKind.u64.bits ((x.toNat : Int).fdiv (2 ^ min r IntKind.u64.bits)) &&& BitVec.ofInt IntKind.u64.bits 1).toNat : Int)) == 1) = x.getLsbD r := by
  have hb : IntKind.u64.bits = 64 := rfl
  rw [hb, Nat.min_eq_left (by omega)]
  have h1 : (x.toNat : Int).fdiv (2 ^ r) = ((x >>> r).toNat : Int) := by
    rw [Int.fdiv_eq_ediv_of_nonneg _ (Int.le_of_lt (Int.pow_pos (by decide)))]
    simp [BitVec.toNat_ushiftRight, Nat.shiftRight_eq_div_pow]
  rw [h1, BitVec.ofInt_natCast, BitVec.ofNat_toNat, BitVec.setWidth_eq]
  have h2 : BitVec.ofInt 64 1 = 1#64 := rfl
  rw [h2, BitVec.and_one_eq_setWidth_ofBool_getLsbD]
  simp only [BitVec.getLsbD_ushiftRight, Nat.add_zero]
  cases x.getLsbD r <;> rfl
theorem has75_spec (s : S4) (b : Nat) (hb : b < 256) : ACalls Try.prog 75 [.agg s.ts, .int .u8 (b : Int)] .sh (.bool (s.has b)) := by
  refine ACalls.of n75 rfl (m75 _ rfl) q75 (by simp only [List.length_cons, List.length_nil]; decide) (fun C hC => ?_)
  have hN : C.N = 14 := hC
  have hm : ((b : Int)).tmod 64 = ((b % 64 : Nat) : Int) := by rw [Int.tmod_eq_emod_of_nonneg (by omega)]; omega
  have hr : b % 64 < 64 := Nat.mod_lt _ (by decide)
  have hsplit : b / 64 = 0 ∨ b / 64 = 1 ∨ b / 64 = 2 ∨ b / 64 = 3 := by omega
  have hd : IntKind.u8.wrap ((b : Int).tdiv 64) = ((b / 64 : Nat) : Int) := by
    rw [wrap_u8] <;> rw [Int.tdiv_eq_ediv_of_nonneg (by omega)] <;> omega
  rcases hsplit with h | h | h | h
  all_goals
    rw [h] at hd
    refine AV.seq (AV.reg ?_)
    simp only [hN, c75R0, go_sem, Nat.reduceSub, reduceIte, Nat.reduceEqDiff, Nat.reduceLT, Nat.reduceMul, Nat.reduceAdd, Nat.reduceBEq, Nat.reduceLeDiff, Int.reduceLT, Int.reduceLE, Int.reduceNeg, Int.reduceBEq, Int.reduceBNe, Int.reduceToNat, S4.ts, shs]
    refine AV.seq (AV.reg ?_)
    simp only [hN, c75R1, go_sem, Nat.reduceSub, reduceIte, Nat.reduceEqDiff, Nat.reduceLT, Nat.reduceMul, Nat.reduceAdd, Nat.reduceBEq, Nat.reduceLeDiff, Int.reduceLT, Int.reduceLE, Int.reduceNeg, Int.reduceBEq, Int.reduceBNe, Int.reduceToNat, List.all_cons, K.isSh, List.getD_cons_zero, hd, hm, Int.toNat_natCast, Nat.reduceMul]
    refine ⟨by decide, by omega, by decide, by omega, AV.ret (atEnd_t (by simp only [go_sem, Nat.reduceSub, reduceIte, Nat.reduceEqDiff, Nat.reduceLT, Nat.reduceMul, Nat.reduceAdd, Nat.reduceBEq, Nat.reduceLeDiff, Int.reduceLT, Int.reduceLE, Int.reduceNeg, Int.reduceBEq, Int.reduceBNe, Int.reduceToNat]; rfl) ?_ (by simp))⟩
    congr 1
    refine (bit_of _ _ hr).trans ?_
    rw [S4.has, h]
    rfl
end Go.Proofs.Ytaefhdklkbohmaa
/- Sets: byteset.Or. -/
namespace Go.Proofs.Ytaefhdklkbohmaa
open Go Go.RowKit
set_option linter.unusedSimpArgs false
theorem mixed : Try.prog.follows .mixedOrders = true := by kernel_rfl
def S4.or (a b : S4) : S4 := ⟨a.w0 ||| b.w0, a.w1 ||| b.w1, a.w2 ||| b.w2, a.w3 ||| b.w3⟩
def S4.orTo (a b : S4) : Nat → S4
  | 0 => a
  | 1 => ⟨a.w0 ||| b.w0, a.w1, a.w2, a.w3⟩
  | 2 => ⟨a.w0 ||| b.w0, a.w1 ||| b.w1, a.w2, a.w3⟩
  | 3 => ⟨a.w0 ||| b.w0, a.w1 ||| b.w1, a.w2 ||| b.w2, a.w3⟩
  | _ => a.or b
def or44E (a b : S4) (i : Nat) : Env := [(2, .own (.box [.sh, .sh, .sh, .sh]) (.agg (a.orTo b i).ts)), (3, .own (.box [.sh, .sh, .sh, .sh]) (.agg b.ts)), (4, .own (.box [.sh, .sh, .sh, .sh]) (.agg [.int .u64 0, .int .u64 0, .int .u64 0, .int .u64 0])), (6, .t (.int .i64 (i : Int)))]
def or44I (a b : S4) (m : Nat) (σ : Env) : Prop := ∃ i, i + m = 4 ∧ σ = or44E a b i
theorem or_u64 (a b : BitVec 64) : IntKind.u64.wrap (((BitVec.ofInt IntKind.u64.bits (a.toNat : Int) ||| BitVec.ofInt IntKind.u64.bits (b.toNat : Int)).toNat : Int)) = ((a ||| b).toNat : Int) := by
  have hb : IntKind.u64.bits = 64 := rfl
  rw [hb, BitVec.ofInt_natCast, BitVec.ofInt_natCast, BitVec.ofNat_toNat, BitVec.ofNat_toNat, BitVec.setWidth_eq, BitVec.setWidth_eq]
  have := (a ||| b).isLt
  simp only [IntKind.wrap, IntKind.bits, IntKind.signed]
  simp only [Bool.false_and, Bool.false_eq_true, if_false]
  omega
theorem wrap_bv (x : BitVec 64) : IntKind.u64.wrap (x.toNat : Int) = (x.toNat : Int) := by
  have := x.isLt
  simp only [IntKind.wrap, IntKind.bits, IntKind.signed]
  simp only [Bool.false_and, Bool.false_eq_true, if_false]
  omega
/-- The result is the data of a variable. -/
theorem atEnd_c {σ : Env} {s n : Nat} {ag : Bool} {t u : T} (h : pev true σ.get (.load n ag (.tmp s)) = (True, .t u)) (hu : u = t) (ht : ∀ us, t ≠ .tup us) : atEnd [.cell s n ag] .sh t .ret σ := by
  subst hu
  refine .inr (.inl ⟨rfl, _, rfl, ?_, ?_, ?_⟩) <;> simp only [resT, h]
  exact ht
theorem or44_spec (a b : S4) : ACalls Try.prog 44 [.agg a.ts, .agg b.ts] .sh (.agg (a.or b).ts) := by
  refine ACalls.of n44 rfl (m44 _ rfl) q44 (by simp only [List.length_cons, List.length_nil]; decide) (fun C hC => ?_)
  have hN : C.N = 19 := hC
  refine AV.seq (AV.reg ?_)
  simp only [hN, c44R0, go_sem, Nat.reduceSub, reduceIte, Nat.reduceEqDiff, Nat.reduceLT, Nat.reduceMul, Nat.reduceAdd, Nat.reduceBEq, Nat.reduceLeDiff, Int.reduceLT, Int.reduceLE, Int.reduceNeg, Int.reduceBEq, Int.reduceBNe, Int.reduceToNat, S4.ts, shs]
  refine AV.seq (AV.seq (AV.reg ?_))
  simp only [hN, c44R1, go_sem, Nat.reduceSub, reduceIte, Nat.reduceEqDiff, Nat.reduceLT, Nat.reduceMul, Nat.reduceAdd, Nat.reduceBEq, Nat.reduceLeDiff, Int.reduceLT, Int.reduceLE, Int.reduceNeg, Int.reduceBEq, Int.reduceBNe, Int.reduceToNat]
  refine AV.block ?_
  refine AV.loopK [2, 3, 4, 6] (by simp only [hN]; decide) (n := 4) (or44I a b) ?_ ⟨0, by omega, by simp only [go_sem, Nat.reduceSub, reduceIte, Nat.reduceEqDiff, Nat.reduceLT, Nat.reduceMul, Nat.reduceAdd, Nat.reduceBEq, Nat.reduceLeDiff, Int.reduceLT, Int.reduceLE, Int.reduceNeg, Int.reduceBEq, Int.reduceBNe, Int.reduceToNat]; rfl⟩
  rintro m σ ⟨i, hi, rfl⟩
  have h4 : i = 0 ∨ i = 1 ∨ i = 2 ∨ i = 3 ∨ i = 4 := by omega
  refine AV.seq (AV.reg ?_)
  rcases h4 with rfl | rfl | rfl | rfl | rfl
  all_goals
    simp only [hN, c44R2, or44E, S4.ts, S4.orTo, go_sem, Nat.reduceSub, reduceIte, Nat.reduceEqDiff, Nat.reduceLT, Nat.reduceMul, Nat.reduceAdd, Nat.reduceBEq, Nat.reduceLeDiff, Int.reduceLT, Int.reduceLE, Int.reduceNeg, Int.reduceBEq, Int.reduceBNe, Int.reduceToNat]
    refine AV.seq (AV.cond ?_ ?_ (fun hc => ?_) (fun hc => ?_)) <;> (try simp only [go_sem, Nat.reduceSub, reduceIte, Nat.reduceEqDiff, Nat.reduceLT, Nat.reduceMul, Nat.reduceAdd, Nat.reduceBEq, Nat.reduceLeDiff, Int.reduceLT, Int.reduceLE, Int.reduceNeg, Int.reduceBEq, Int.reduceBNe, Int.reduceToNat] at hc) <;> (try simp only [go_sem, Nat.reduceSub, reduceIte, Nat.reduceEqDiff, Nat.reduceLT, Nat.reduceMul, Nat.reduceAdd, Nat.reduceBEq, Nat.reduceLeDiff, Int.reduceLT, Int.reduceLE, Int.reduceNeg, Int.reduceBEq, Int.reduceBNe, Int.reduceToNat])
  any_goals (exfalso; omega)
  any_goals
    refine AV.skip ?_
    simp only [go_sem, Nat.reduceSub, reduceIte, Nat.reduceEqDiff, Nat.reduceLT, Nat.reduceMul, Nat.reduceAdd, Nat.reduceBEq, Nat.reduceLeDiff, Int.reduceLT, Int.reduceLE, Int.reduceNeg, Int.reduceBEq, Int.reduceBNe, Int.reduceToNat]
    refine AV.seq (AV.block (AV.seq (AV.reg ?_)))
    simp only [hN, c44R3, go_sem, Nat.reduceSub, reduceIte, Nat.reduceEqDiff, Nat.reduceLT, Nat.reduceMul, Nat.reduceAdd, Nat.reduceBEq, Nat.reduceLeDiff, Int.reduceLT, Int.reduceLE, Int.reduceNeg, Int.reduceBEq, Int.reduceBNe, Int.reduceToNat]
    refine AV.regD mixed ?_
    simp only [hN, c44R4, go_sem, Nat.reduceSub, reduceIte, Nat.reduceEqDiff, Nat.reduceLT, Nat.reduceMul, Nat.reduceAdd, Nat.reduceBEq, Nat.reduceLeDiff, Int.reduceLT, Int.reduceLE, Int.reduceNeg, Int.reduceBEq, Int.reduceBNe, Int.reduceToNat]
    refine ⟨by omega, by omega, by omega, AV.reg ?_⟩
    simp only [hN, c44R5, go_sem, Nat.reduceSub, reduceIte, Nat.reduceEqDiff, Nat.reduceLT, Nat.reduceMul, Nat.reduceAdd, Nat.reduceBEq, Nat.reduceLeDiff, Int.reduceLT, Int.reduceLE, Int.reduceNeg, Int.reduceBEq, Int.reduceBNe, Int.reduceToNat, or_u64, wrap_bv]
    first
      | exact ⟨m - 1, by omega, 1, by omega, by simp [or44E, S4.ts, S4.orTo, wrap_small] <;> rfl⟩
      | exact ⟨m - 1, by omega, 2, by omega, by simp [or44E, S4.ts, S4.orTo, wrap_small] <;> rfl⟩
      | exact ⟨m - 1, by omega, 3, by omega, by simp [or44E, S4.ts, S4.orTo, wrap_small] <;> rfl⟩
      | exact ⟨m - 1, by omega, 4, by omega, by simp [or44E, S4.ts, S4.orTo, S4.or, wrap_small] <;> rfl⟩
  refine AV.exit ?_
  simp only [go_sem, Nat.reduceSub, reduceIte, Nat.reduceEqDiff, Nat.reduceLT, Nat.reduceMul, Nat.reduceAdd, Nat.reduceBEq, Nat.reduceLeDiff, Int.reduceLT, Int.reduceLE, Int.reduceNeg, Int.reduceBEq, Int.reduceBNe, Int.reduceToNat]
  refine AV.seq (AV.reg ?_)
  simp only [hN, c44R6, go_sem, Nat.reduceSub, reduceIte, Nat.reduceEqDiff, Nat.reduceLT, Nat.reduceMul, Nat.reduceAdd, Nat.reduceBEq, Nat.reduceLeDiff, Int.reduceLT, Int.reduceLE, Int.reduceNeg, Int.reduceBEq, Int.reduceBNe, Int.reduceToNat, S4.orTo]
  refine AV.ret (atEnd_c (by simp only [go_sem, Nat.reduceSub, reduceIte, Nat.reduceEqDiff, Nat.reduceLT, Nat.reduceMul, Nat.reduceAdd, Nat.reduceBEq, Nat.reduceLeDiff, Int.reduceLT, Int.reduceLE, Int.reduceNeg, Int.reduceBEq, Int.reduceBNe, Int.reduceToNat]) rfl (by simp))
end Go.Proofs.Ytaefhdklkbohmaa
/- Sets: bosketref02.Has. -/
namespace Go.Proofs.Ytaefhdklkbohmaa
open Go Go.RowKit
set_option linter.unusedSimpArgs false
theorem wrap_u64 (n : Nat) (h : n < 18446744073709551616) : IntKind.u64.wrap (n : Int) = n := by
  simp only [IntKind.wrap, IntKind.bits, IntKind.signed]
  simp only [Bool.false_and, Bool.false_eq_true, if_false]
  omega
def has17I (b : Nat) (x : BitVec 64) (m : Nat) (σ : Env) : Prop := ∃ i, i + m = b % 64 ∧ σ = [(1, .t (.int .i64 (b : Int))), (5, .t (.int .u64 ((x.toNat / 2 ^ i : Nat) : Int))), (6, .t (.int .i64 (i : Int)))]
theorem has17_spec (s : S4) (b : Nat) (hb : b < 256) : ACalls Try.prog 17 [.agg s.ts, .int .i64 (b : Int)] .sh (.bool (s.has b)) := by
  refine ACalls.of n17 rfl (m17 _ rfl) q17 (by simp only [List.length_cons, List.length_nil]; decide) (fun C hC => ?_)
  have hN : C.N = 22 := hC
  have hm : ((b : Int)).tmod 64 = ((b % 64 : Nat) : Int) := by rw [Int.tmod_eq_emod_of_nonneg (by omega)]; omega
  have hr : b % 64 < 64 := Nat.mod_lt _ (by decide)
  have hd : IntKind.i64.wrap ((b : Int).tdiv 64) = ((b / 64 : Nat) : Int) := by
    rw [wrap_small] <;> rw [Int.tdiv_eq_ediv_of_nonneg (by omega)] <;> omega
  have loop : ∀ x : BitVec 64, s.word (b / 64) = x → AV Try.prog C c17P10 (atEnd r17 .sh (.bool (s.has b))) [(1, .t (.int .i64 (b : Int))), (5, .t (.int .u64 (x.toNat : Int)))] := by
    intro x hx
    refine AV.seq (AV.seq (AV.reg ?_))
    simp only [hN, c17R2, go_sem, Nat.reduceSub, reduceIte, Nat.reduceEqDiff, Nat.reduceLT, Nat.reduceMul, Nat.reduceAdd, Nat.reduceBEq, Nat.reduceLeDiff, Int.reduceLT, Int.reduceLE, Int.reduceNeg, Int.reduceBEq, Int.reduceBNe, Int.reduceToNat]
    refine AV.block ?_
    refine AV.loopK [1, 5, 6] (by simp only [hN]; decide) (n := b % 64) (has17I b x) ?_ ⟨0, by omega, by simp only [go_sem, Nat.reduceSub, reduceIte, Nat.reduceEqDiff, Nat.reduceLT, Nat.reduceMul, Nat.reduceAdd, Nat.reduceBEq, Nat.reduceLeDiff, Int.reduceLT, Int.reduceLE, Int.reduceNeg, Int.reduceBEq, Int.reduceBNe, Int.reduceToNat]; simp⟩
    rintro m σ ⟨i, hi, rfl⟩
    have hlt : x.toNat / 2 ^ i < 18446744073709551616 := Nat.lt_of_le_of_lt (Nat.div_le_self _ _) x.isLt
    refine AV.seq (AV.seq (AV.reg ?_))
    simp only [hN, c17R3, go_sem, Nat.reduceSub, reduceIte, Nat.reduceEqDiff, Nat.reduceLT, Nat.reduceMul, Nat.reduceAdd, Nat.reduceBEq, Nat.reduceLeDiff, Int.reduceLT, Int.reduceLE, Int.reduceNeg, Int.reduceBEq, Int.reduceBNe, Int.reduceToNat, hm]
    refine ⟨by decide, ?_⟩
    refine AV.cond ?_ ?_ (fun hc => ?_) (fun hc => ?_) <;> (try simp only [go_sem, Nat.reduceSub, reduceIte, Nat.reduceEqDiff, Nat.reduceLT, Nat.reduceMul, Nat.reduceAdd, Nat.reduceBEq, Nat.reduceLeDiff, Int.reduceLT, Int.reduceLE, Int.reduceNeg, Int.reduceBEq, Int.reduceBNe, Int.reduceToNat] at hc) <;> (try simp only [go_sem, Nat.reduceSub, reduceIte, Nat.reduceEqDiff, Nat.reduceLT, Nat.reduceMul, Nat.reduceAdd, Nat.reduceBEq, Nat.reduceLeDiff, Int.reduceLT, Int.reduceLE, Int.reduceNeg, Int.reduceBEq, Int.reduceBNe, Int.reduceToNat])
    · refine AV.skip ?_
      simp only [go_sem, Nat.reduceSub, reduceIte, Nat.reduceEqDiff, Nat.reduceLT, Nat.reduceMul, Nat.reduceAdd, Nat.reduceBEq, Nat.reduceLeDiff, Int.reduceLT, Int.reduceLE, Int.reduceNeg, Int.reduceBEq, Int.reduceBNe, Int.reduceToNat]
      refine AV.seq (AV.block (AV.reg ?_))
      simp only [hN, c17R5, go_sem, Nat.reduceSub, reduceIte, Nat.reduceEqDiff, Nat.reduceLT, Nat.reduceMul, Nat.reduceAdd, Nat.reduceBEq, Nat.reduceLeDiff, Int.reduceLT, Int.reduceLE, Int.reduceNeg, Int.reduceBEq, Int.reduceBNe, Int.reduceToNat]
      refine ⟨by omega, AV.reg ?_⟩
      simp only [hN, c17R4, go_sem, Nat.reduceSub, reduceIte, Nat.reduceEqDiff, Nat.reduceLT, Nat.reduceMul, Nat.reduceAdd, Nat.reduceBEq, Nat.reduceLeDiff, Int.reduceLT, Int.reduceLE, Int.reduceNeg, Int.reduceBEq, Int.reduceBNe, Int.reduceToNat]
      refine ⟨m - 1, by omega, i + 1, by omega, ?_⟩
      have e1 : ((x.toNat / 2 ^ i : Nat) : Int).tdiv 2 = ((x.toNat / 2 ^ (i + 1) : Nat) : Int) := by
        rw [Int.tdiv_eq_ediv_of_nonneg (Int.natCast_nonneg _), Nat.pow_succ, ← Nat.div_div_eq_div_mul]; rfl
      rw [e1, wrap_u64 _ (Nat.lt_of_le_of_lt (Nat.div_le_self _ _) x.isLt), wrap_small _ (by omega) (by omega)]
      rfl
    · refine AV.exit ?_
      simp only [go_sem, Nat.reduceSub, reduceIte, Nat.reduceEqDiff, Nat.reduceLT, Nat.reduceMul, Nat.reduceAdd, Nat.reduceBEq, Nat.reduceLeDiff, Int.reduceLT, Int.reduceLE, Int.reduceNeg, Int.reduceBEq, Int.reduceBNe, Int.reduceToNat]
      refine AV.seq (AV.reg ?_)
      simp only [hN, c17R6, go_sem, Nat.reduceSub, reduceIte, Nat.reduceEqDiff, Nat.reduceLT, Nat.reduceMul, Nat.reduceAdd, Nat.reduceBEq, Nat.reduceLeDiff, Int.reduceLT, Int.reduceLE, Int.reduceNeg, Int.reduceBEq, Int.reduceBNe, Int.reduceToNat]
      refine ⟨by omega, AV.ret (atEnd_t (by simp only [go_sem, Nat.reduceSub, reduceIte, Nat.reduceEqDiff, Nat.reduceLT, Nat.reduceMul, Nat.reduceAdd, Nat.reduceBEq, Nat.reduceLeDiff, Int.reduceLT, Int.reduceLE, Int.reduceNeg, Int.reduceBEq, Int.reduceBNe, Int.reduceToNat]; rfl) ?_ (by simp))⟩
      congr 1
      have : i = b % 64 := by omega
      subst this
      rw [S4.has, hx, BitVec.getLsbD, Nat.testBit_eq_decide_div_mod_eq]
      generalize x.toNat / 2 ^ (b % 64) = q
      rw [Int.tmod_eq_emod_of_nonneg (Int.natCast_nonneg _), Bool.eq_iff_iff, beq_iff_eq, decide_eq_true_eq]
      omega
  refine AV.seq (AV.reg ?_)
  simp only [hN, c17R0, go_sem, Nat.reduceSub, reduceIte, Nat.reduceEqDiff, Nat.reduceLT, Nat.reduceMul, Nat.reduceAdd, Nat.reduceBEq, Nat.reduceLeDiff, Int.reduceLT, Int.reduceLE, Int.reduceNeg, Int.reduceBEq, Int.reduceBNe, Int.reduceToNat, S4.ts, shs]
  have hsplit : b / 64 = 0 ∨ b / 64 = 1 ∨ b / 64 = 2 ∨ b / 64 = 3 := by omega
  rcases hsplit with h | h | h | h
  all_goals
    rw [h] at hd
    refine AV.seq (AV.reg ?_)
    simp only [hN, c17R1, go_sem, Nat.reduceSub, reduceIte, Nat.reduceEqDiff, Nat.reduceLT, Nat.reduceMul, Nat.reduceAdd, Nat.reduceBEq, Nat.reduceLeDiff, Int.reduceLT, Int.reduceLE, Int.reduceNeg, Int.reduceBEq, Int.reduceBNe, Int.reduceToNat, hd]
    refine ⟨by decide, by omega, AV.keep [1, 5] (by simp only [hN]; decide) ?_⟩
    simp only [go_sem, Nat.reduceSub, reduceIte, Nat.reduceEqDiff, Nat.reduceLT, Nat.reduceMul, Nat.reduceAdd, Nat.reduceBEq, Nat.reduceLeDiff, Int.reduceLT, Int.reduceLE, Int.reduceNeg, Int.reduceBEq, Int.reduceBNe, Int.reduceToNat]
    refine loop _ (by rw [h]; rfl)
end Go.Proofs.Ytaefhdklkbohmaa
/- bosketref04.Start, rex.Start. -/
namespace Go.Proofs.Ytaefhdklkbohmaa
open Go Go.RowKit
set_option linter.unusedSimpArgs false
/-- Where the tree ends whose last piece is the one before place k. -/
def startGo (r : List Pc) : Nat → Int → Int
  | 0, _ => 0
  | k + 1, n => if n - 1 + takes40 (r.getD k default).kind = 0 then (k : Int) else startGo r k (n - 1 + takes40 (r.getD k default).kind)
def start84I (r : List Pc) (k m : Nat) (σ : Env) : Prop := ∃ n : Int, m ≤ k ∧ 1 - 2 * ((k : Int) - m) ≤ n ∧ n ≤ 1 + ((k : Int) - m) ∧ startGo r k 1 = startGo r m n ∧ σ = [(0, .t (rxT r)), (5, .t (.int .i64 n)), (6, .t (.int .i64 ((m : Int) - 1)))]
theorem start84_spec (r : List Pc) (k : Nat) (hk : k ≤ r.length) (hr : r.length ≤ 1073741824) : ACalls Try.prog 84 [rxT r, .int .i64 ((k : Int) - 1)] .sh (.int .i64 (startGo r k 1)) := by
  refine ACalls.of n84 rfl (m84 _ rfl) q84 (by simp only [List.length_cons, List.length_nil]; decide) (fun C hC => ?_)
  have hN : C.N = 24 := hC
  refine AV.seq (AV.reg ?_)
  simp only [hN, c84R0, go_sem, Nat.reduceSub, reduceIte, Nat.reduceEqDiff, Nat.reduceLT, Nat.reduceMul, Nat.reduceAdd, Nat.reduceBEq, Nat.reduceLeDiff, Int.reduceLT, Int.reduceLE, Int.reduceNeg, Int.reduceBEq, Int.reduceBNe, Int.reduceToNat]
  refine AV.seq (AV.reg ?_)
  simp only [hN, c84R1, go_sem, Nat.reduceSub, reduceIte, Nat.reduceEqDiff, Nat.reduceLT, Nat.reduceMul, Nat.reduceAdd, Nat.reduceBEq, Nat.reduceLeDiff, Int.reduceLT, Int.reduceLE, Int.reduceNeg, Int.reduceBEq, Int.reduceBNe, Int.reduceToNat]
  refine AV.seq (AV.seq (AV.reg ?_))
  simp only [hN, c84R2, go_sem, Nat.reduceSub, reduceIte, Nat.reduceEqDiff, Nat.reduceLT, Nat.reduceMul, Nat.reduceAdd, Nat.reduceBEq, Nat.reduceLeDiff, Int.reduceLT, Int.reduceLE, Int.reduceNeg, Int.reduceBEq, Int.reduceBNe, Int.reduceToNat]
  refine AV.block ?_
  refine AV.loopK [0, 5, 6] (by simp only [hN]; decide) (n := k) (start84I r k) ?_ ⟨1, by omega, by omega, by omega, rfl, by simp only [go_sem, Nat.reduceSub, reduceIte, Nat.reduceEqDiff, Nat.reduceLT, Nat.reduceMul, Nat.reduceAdd, Nat.reduceBEq, Nat.reduceLeDiff, Int.reduceLT, Int.reduceLE, Int.reduceNeg, Int.reduceBEq, Int.reduceBNe, Int.reduceToNat]⟩
  rintro m σ ⟨n, h1, h2, h3, h4, rfl⟩
  refine AV.seq (AV.seq (AV.reg ?_))
  simp only [hN, c84R3, rxT, go_sem, Nat.reduceSub, reduceIte, Nat.reduceEqDiff, Nat.reduceLT, Nat.reduceMul, Nat.reduceAdd, Nat.reduceBEq, Nat.reduceLeDiff, Int.reduceLT, Int.reduceLE, Int.reduceNeg, Int.reduceBEq, Int.reduceBNe, Int.reduceToNat]
  refine AV.cond ?_ ?_ (fun hc => ?_) (fun hc => ?_) <;> (try simp only [go_sem, Nat.reduceSub, reduceIte, Nat.reduceEqDiff, Nat.reduceLT, Nat.reduceMul, Nat.reduceAdd, Nat.reduceBEq, Nat.reduceLeDiff, Int.reduceLT, Int.reduceLE, Int.reduceNeg, Int.reduceBEq, Int.reduceBNe, Int.reduceToNat] at hc) <;> (try simp only [go_sem, Nat.reduceSub, reduceIte, Nat.reduceEqDiff, Nat.reduceLT, Nat.reduceMul, Nat.reduceAdd, Nat.reduceBEq, Nat.reduceLeDiff, Int.reduceLT, Int.reduceLE, Int.reduceNeg, Int.reduceBEq, Int.reduceBNe, Int.reduceToNat])
  · refine AV.skip ?_
    simp only [go_sem, Nat.reduceSub, reduceIte, Nat.reduceEqDiff, Nat.reduceLT, Nat.reduceMul, Nat.reduceAdd, Nat.reduceBEq, Nat.reduceLeDiff, Int.reduceLT, Int.reduceLE, Int.reduceNeg, Int.reduceBEq, Int.reduceBNe, Int.reduceToNat]
    obtain ⟨m', rfl⟩ : ∃ m', m = m' + 1 := ⟨m - 1, by omega⟩
    have hm : m' < r.length := by omega
    have e1 : ((m' + 1 : Nat) : Int) - 1 = (m' : Int) := by omega
    rw [e1]
    have hg : r.getD m' default = r[m'] := by simp [hm]
    have hk := takes40_le r[m'].kind
    refine AV.seq (AV.block (AV.seq (AV.reg ?_)))
    simp only [hN, c84R5, go_sem, Nat.reduceSub, reduceIte, Nat.reduceEqDiff, Nat.reduceLT, Nat.reduceMul, Nat.reduceAdd, Nat.reduceBEq, Nat.reduceLeDiff, Int.reduceLT, Int.reduceLE, Int.reduceNeg, Int.reduceBEq, Int.reduceBNe, Int.reduceToNat, List.length_map, getD_map_lt pcT r m' default hm, pcT, S4.ts]
    refine ⟨⟨by omega, hm⟩, .sh, .int .i64 (takes40 r[m'].kind), takes40_spec _, rfl, ?_⟩
    simp only [go_sem, Nat.reduceSub, reduceIte, Nat.reduceEqDiff, Nat.reduceLT, Nat.reduceMul, Nat.reduceAdd, Nat.reduceBEq, Nat.reduceLeDiff, Int.reduceLT, Int.reduceLE, Int.reduceNeg, Int.reduceBEq, Int.reduceBNe, Int.reduceToNat]
    rw [wrap_small (n - 1) (by omega) (by omega), wrap_small (n - 1 + takes40 r[m'].kind) (by omega) (by omega)]
    refine AV.seq (AV.reg ?_)
    simp only [hN, c84R6, go_sem, Nat.reduceSub, reduceIte, Nat.reduceEqDiff, Nat.reduceLT, Nat.reduceMul, Nat.reduceAdd, Nat.reduceBEq, Nat.reduceLeDiff, Int.reduceLT, Int.reduceLE, Int.reduceNeg, Int.reduceBEq, Int.reduceBNe, Int.reduceToNat]
    refine AV.cond ?_ ?_ (fun hc => ?_) (fun hc => ?_) <;> (try simp only [go_sem, Nat.reduceSub, reduceIte, Nat.reduceEqDiff, Nat.reduceLT, Nat.reduceMul, Nat.reduceAdd, Nat.reduceBEq, Nat.reduceLeDiff, Int.reduceLT, Int.reduceLE, Int.reduceNeg, Int.reduceBEq, Int.reduceBNe, Int.reduceToNat, beq_iff_eq, beq_eq_false_iff_ne] at hc) <;> (try simp only [go_sem, Nat.reduceSub, reduceIte, Nat.reduceEqDiff, Nat.reduceLT, Nat.reduceMul, Nat.reduceAdd, Nat.reduceBEq, Nat.reduceLeDiff, Int.reduceLT, Int.reduceLE, Int.reduceNeg, Int.reduceBEq, Int.reduceBNe, Int.reduceToNat])
    · refine AV.seq (AV.reg ?_)
      simp only [hN, c84R7, go_sem, Nat.reduceSub, reduceIte, Nat.reduceEqDiff, Nat.reduceLT, Nat.reduceMul, Nat.reduceAdd, Nat.reduceBEq, Nat.reduceLeDiff, Int.reduceLT, Int.reduceLE, Int.reduceNeg, Int.reduceBEq, Int.reduceBNe, Int.reduceToNat]
      refine AV.ret ?_
      simp only [go_sem, Nat.reduceSub, reduceIte, Nat.reduceEqDiff, Nat.reduceLT, Nat.reduceMul, Nat.reduceAdd, Nat.reduceBEq, Nat.reduceLeDiff, Int.reduceLT, Int.reduceLE, Int.reduceNeg, Int.reduceBEq, Int.reduceBNe, Int.reduceToNat]
      refine atEnd_t (by simp only [go_sem, Nat.reduceSub, reduceIte, Nat.reduceEqDiff, Nat.reduceLT, Nat.reduceMul, Nat.reduceAdd, Nat.reduceBEq, Nat.reduceLeDiff, Int.reduceLT, Int.reduceLE, Int.reduceNeg, Int.reduceBEq, Int.reduceBNe, Int.reduceToNat] <;> rfl) ?_ (by simp)
      rw [h4, startGo, hg, if_pos hc]
    · refine AV.skip ?_
      simp only [go_sem, Nat.reduceSub, reduceIte, Nat.reduceEqDiff, Nat.reduceLT, Nat.reduceMul, Nat.reduceAdd, Nat.reduceBEq, Nat.reduceLeDiff, Int.reduceLT, Int.reduceLE, Int.reduceNeg, Int.reduceBEq, Int.reduceBNe, Int.reduceToNat]
      refine AV.reg ?_
      simp only [hN, c84R4, go_sem, Nat.reduceSub, reduceIte, Nat.reduceEqDiff, Nat.reduceLT, Nat.reduceMul, Nat.reduceAdd, Nat.reduceBEq, Nat.reduceLeDiff, Int.reduceLT, Int.reduceLE, Int.reduceNeg, Int.reduceBEq, Int.reduceBNe, Int.reduceToNat]
      rw [wrap_small _ (by omega) (by omega)]
      refine ⟨m', by omega, n - 1 + takes40 r[m'].kind, by omega, by omega, by omega, by rw [h4, startGo, hg, if_neg hc], rfl⟩
  · refine AV.exit ?_
    simp only [go_sem, Nat.reduceSub, reduceIte, Nat.reduceEqDiff, Nat.reduceLT, Nat.reduceMul, Nat.reduceAdd, Nat.reduceBEq, Nat.reduceLeDiff, Int.reduceLT, Int.reduceLE, Int.reduceNeg, Int.reduceBEq, Int.reduceBNe, Int.reduceToNat]
    refine AV.seq (AV.reg ?_)
    simp only [hN, c84R8, go_sem, Nat.reduceSub, reduceIte, Nat.reduceEqDiff, Nat.reduceLT, Nat.reduceMul, Nat.reduceAdd, Nat.reduceBEq, Nat.reduceLeDiff, Int.reduceLT, Int.reduceLE, Int.reduceNeg, Int.reduceBEq, Int.reduceBNe, Int.reduceToNat]
    refine AV.ret (atEnd_t (by simp only [go_sem, Nat.reduceSub, reduceIte, Nat.reduceEqDiff, Nat.reduceLT, Nat.reduceMul, Nat.reduceAdd, Nat.reduceBEq, Nat.reduceLeDiff, Int.reduceLT, Int.reduceLE, Int.reduceNeg, Int.reduceBEq, Int.reduceBNe, Int.reduceToNat] <;> rfl) ?_ (by simp))
    have : m = 0 := by omega
    subst this
    rw [h4]; rfl
end Go.Proofs.Ytaefhdklkbohmaa
/- rex.Start. -/
namespace Go.Proofs.Ytaefhdklkbohmaa
open Go Go.RowKit
set_option linter.unusedSimpArgs false
theorem start109_spec (r : List Pc) (k : Nat) (hk : k ≤ r.length) (hr : r.length ≤ 1073741824) : ACalls Try.prog 109 [rxT r, .int .i64 ((k : Int) - 1)] .sh (.int .i64 (startGo r k 1)) := by
  refine ACalls.of n109 rfl (m109 _ rfl) q109 (by simp only [List.length_cons, List.length_nil]; decide) (fun C hC => ?_)
  have hN : C.N = 24 := hC
  refine AV.seq (AV.reg ?_)
  simp only [hN, c109R0, go_sem, Nat.reduceSub, reduceIte, Nat.reduceEqDiff, Nat.reduceLT, Nat.reduceMul, Nat.reduceAdd, Nat.reduceBEq, Nat.reduceLeDiff, Int.reduceLT, Int.reduceLE, Int.reduceNeg, Int.reduceBEq, Int.reduceBNe, Int.reduceToNat]
  refine AV.seq (AV.reg ?_)
  simp only [hN, c109R1, go_sem, Nat.reduceSub, reduceIte, Nat.reduceEqDiff, Nat.reduceLT, Nat.reduceMul, Nat.reduceAdd, Nat.reduceBEq, Nat.reduceLeDiff, Int.reduceLT, Int.reduceLE, Int.reduceNeg, Int.reduceBEq, Int.reduceBNe, Int.reduceToNat]
  refine AV.seq (AV.seq (AV.reg ?_))
  simp only [hN, c109R2, go_sem, Nat.reduceSub, reduceIte, Nat.reduceEqDiff, Nat.reduceLT, Nat.reduceMul, Nat.reduceAdd, Nat.reduceBEq, Nat.reduceLeDiff, Int.reduceLT, Int.reduceLE, Int.reduceNeg, Int.reduceBEq, Int.reduceBNe, Int.reduceToNat]
  refine AV.block ?_
  refine AV.loopK [0, 5, 6] (by simp only [hN]; decide) (n := k) (start84I r k) ?_ ⟨1, by omega, by omega, by omega, rfl, by simp only [go_sem, Nat.reduceSub, reduceIte, Nat.reduceEqDiff, Nat.reduceLT, Nat.reduceMul, Nat.reduceAdd, Nat.reduceBEq, Nat.reduceLeDiff, Int.reduceLT, Int.reduceLE, Int.reduceNeg, Int.reduceBEq, Int.reduceBNe, Int.reduceToNat]⟩
  rintro m σ ⟨n, h1, h2, h3, h4, rfl⟩
  refine AV.seq (AV.seq (AV.reg ?_))
  simp only [hN, c109R3, rxT, go_sem, Nat.reduceSub, reduceIte, Nat.reduceEqDiff, Nat.reduceLT, Nat.reduceMul, Nat.reduceAdd, Nat.reduceBEq, Nat.reduceLeDiff, Int.reduceLT, Int.reduceLE, Int.reduceNeg, Int.reduceBEq, Int.reduceBNe, Int.reduceToNat]
  refine AV.cond ?_ ?_ (fun hc => ?_) (fun hc => ?_) <;> (try simp only [go_sem, Nat.reduceSub, reduceIte, Nat.reduceEqDiff, Nat.reduceLT, Nat.reduceMul, Nat.reduceAdd, Nat.reduceBEq, Nat.reduceLeDiff, Int.reduceLT, Int.reduceLE, Int.reduceNeg, Int.reduceBEq, Int.reduceBNe, Int.reduceToNat] at hc) <;> (try simp only [go_sem, Nat.reduceSub, reduceIte, Nat.reduceEqDiff, Nat.reduceLT, Nat.reduceMul, Nat.reduceAdd, Nat.reduceBEq, Nat.reduceLeDiff, Int.reduceLT, Int.reduceLE, Int.reduceNeg, Int.reduceBEq, Int.reduceBNe, Int.reduceToNat])
  · refine AV.skip ?_
    simp only [go_sem, Nat.reduceSub, reduceIte, Nat.reduceEqDiff, Nat.reduceLT, Nat.reduceMul, Nat.reduceAdd, Nat.reduceBEq, Nat.reduceLeDiff, Int.reduceLT, Int.reduceLE, Int.reduceNeg, Int.reduceBEq, Int.reduceBNe, Int.reduceToNat]
    obtain ⟨m', rfl⟩ : ∃ m', m = m' + 1 := ⟨m - 1, by omega⟩
    have hm : m' < r.length := by omega
    have e1 : ((m' + 1 : Nat) : Int) - 1 = (m' : Int) := by omega
    rw [e1]
    have hg : r.getD m' default = r[m'] := by simp [hm]
    have hk := takes40_le r[m'].kind
    refine AV.seq (AV.block (AV.seq (AV.reg ?_)))
    simp only [hN, c109R5, go_sem, Nat.reduceSub, reduceIte, Nat.reduceEqDiff, Nat.reduceLT, Nat.reduceMul, Nat.reduceAdd, Nat.reduceBEq, Nat.reduceLeDiff, Int.reduceLT, Int.reduceLE, Int.reduceNeg, Int.reduceBEq, Int.reduceBNe, Int.reduceToNat, List.length_map, getD_map_lt pcT r m' default hm, pcT, S4.ts]
    refine ⟨⟨by omega, hm⟩, .sh, .int .i64 (takes40 r[m'].kind), takes72_spec _, rfl, ?_⟩
    simp only [go_sem, Nat.reduceSub, reduceIte, Nat.reduceEqDiff, Nat.reduceLT, Nat.reduceMul, Nat.reduceAdd, Nat.reduceBEq, Nat.reduceLeDiff, Int.reduceLT, Int.reduceLE, Int.reduceNeg, Int.reduceBEq, Int.reduceBNe, Int.reduceToNat]
    have e2 : n + (takes40 r[m'].kind - 1) = n - 1 + takes40 r[m'].kind := by omega
    rw [wrap_small (takes40 r[m'].kind - 1) (by omega) (by omega), e2, wrap_small (n - 1 + takes40 r[m'].kind) (by omega) (by omega)]
    refine AV.seq (AV.reg ?_)
    simp only [hN, c109R6, go_sem, Nat.reduceSub, reduceIte, Nat.reduceEqDiff, Nat.reduceLT, Nat.reduceMul, Nat.reduceAdd, Nat.reduceBEq, Nat.reduceLeDiff, Int.reduceLT, Int.reduceLE, Int.reduceNeg, Int.reduceBEq, Int.reduceBNe, Int.reduceToNat]
    refine AV.cond ?_ ?_ (fun hc => ?_) (fun hc => ?_) <;> (try simp only [go_sem, Nat.reduceSub, reduceIte, Nat.reduceEqDiff, Nat.reduceLT, Nat.reduceMul, Nat.reduceAdd, Nat.reduceBEq, Nat.reduceLeDiff, Int.reduceLT, Int.reduceLE, Int.reduceNeg, Int.reduceBEq, Int.reduceBNe, Int.reduceToNat, beq_iff_eq, beq_eq_false_iff_ne] at hc) <;> (try simp only [go_sem, Nat.reduceSub, reduceIte, Nat.reduceEqDiff, Nat.reduceLT, Nat.reduceMul, Nat.reduceAdd, Nat.reduceBEq, Nat.reduceLeDiff, Int.reduceLT, Int.reduceLE, Int.reduceNeg, Int.reduceBEq, Int.reduceBNe, Int.reduceToNat])
    · refine AV.seq (AV.reg ?_)
      simp only [hN, c109R7, go_sem, Nat.reduceSub, reduceIte, Nat.reduceEqDiff, Nat.reduceLT, Nat.reduceMul, Nat.reduceAdd, Nat.reduceBEq, Nat.reduceLeDiff, Int.reduceLT, Int.reduceLE, Int.reduceNeg, Int.reduceBEq, Int.reduceBNe, Int.reduceToNat]
      refine AV.ret ?_
      simp only [go_sem, Nat.reduceSub, reduceIte, Nat.reduceEqDiff, Nat.reduceLT, Nat.reduceMul, Nat.reduceAdd, Nat.reduceBEq, Nat.reduceLeDiff, Int.reduceLT, Int.reduceLE, Int.reduceNeg, Int.reduceBEq, Int.reduceBNe, Int.reduceToNat]
      refine atEnd_t (by simp only [go_sem, Nat.reduceSub, reduceIte, Nat.reduceEqDiff, Nat.reduceLT, Nat.reduceMul, Nat.reduceAdd, Nat.reduceBEq, Nat.reduceLeDiff, Int.reduceLT, Int.reduceLE, Int.reduceNeg, Int.reduceBEq, Int.reduceBNe, Int.reduceToNat] <;> rfl) ?_ (by simp)
      rw [h4, startGo, hg, if_pos hc]
    · refine AV.skip ?_
      simp only [go_sem, Nat.reduceSub, reduceIte, Nat.reduceEqDiff, Nat.reduceLT, Nat.reduceMul, Nat.reduceAdd, Nat.reduceBEq, Nat.reduceLeDiff, Int.reduceLT, Int.reduceLE, Int.reduceNeg, Int.reduceBEq, Int.reduceBNe, Int.reduceToNat]
      refine AV.reg ?_
      simp only [hN, c109R4, go_sem, Nat.reduceSub, reduceIte, Nat.reduceEqDiff, Nat.reduceLT, Nat.reduceMul, Nat.reduceAdd, Nat.reduceBEq, Nat.reduceLeDiff, Int.reduceLT, Int.reduceLE, Int.reduceNeg, Int.reduceBEq, Int.reduceBNe, Int.reduceToNat]
      rw [wrap_small _ (by omega) (by omega)]
      refine ⟨m', by omega, n - 1 + takes40 r[m'].kind, by omega, by omega, by omega, by rw [h4, startGo, hg, if_neg hc], rfl⟩
  · refine AV.exit ?_
    simp only [go_sem, Nat.reduceSub, reduceIte, Nat.reduceEqDiff, Nat.reduceLT, Nat.reduceMul, Nat.reduceAdd, Nat.reduceBEq, Nat.reduceLeDiff, Int.reduceLT, Int.reduceLE, Int.reduceNeg, Int.reduceBEq, Int.reduceBNe, Int.reduceToNat]
    refine AV.seq (AV.reg ?_)
    simp only [hN, c109R8, go_sem, Nat.reduceSub, reduceIte, Nat.reduceEqDiff, Nat.reduceLT, Nat.reduceMul, Nat.reduceAdd, Nat.reduceBEq, Nat.reduceLeDiff, Int.reduceLT, Int.reduceLE, Int.reduceNeg, Int.reduceBEq, Int.reduceBNe, Int.reduceToNat]
    refine AV.ret (atEnd_t (by simp only [go_sem, Nat.reduceSub, reduceIte, Nat.reduceEqDiff, Nat.reduceLT, Nat.reduceMul, Nat.reduceAdd, Nat.reduceBEq, Nat.reduceLeDiff, Int.reduceLT, Int.reduceLE, Int.reduceNeg, Int.reduceBEq, Int.reduceBNe, Int.reduceToNat] <;> rfl) ?_ (by simp))
    have : m = 0 := by omega
    subst this
    rw [h4]; rfl
end Go.Proofs.Ytaefhdklkbohmaa
/- slices.Equal, rex.Same. -/
namespace Go.Proofs.Ytaefhdklkbohmaa
open Go Go.RowKit
set_option linter.unusedSimpArgs false
theorem pc_ne (p q : Pc) : (!((p.kind == q.kind) && (((p.s.w0.toNat : Int) == (q.s.w0.toNat : Int)) && (((p.s.w1.toNat : Int) == (q.s.w1.toNat : Int)) && (((p.s.w2.toNat : Int) == (q.s.w2.toNat : Int)) && ((p.s.w3.toNat : Int) == (q.s.w3.toNat : Int))))))) = !(p == q) := by
  obtain ⟨pk, a, b, c, d⟩ := p
  obtain ⟨qk, a', b', c', d'⟩ := q
  have key : ∀ x y : BitVec 64, ((x.toNat : Int) == (y.toNat : Int)) = (x == y) := by
    intro x y
    rw [Bool.eq_iff_iff, beq_iff_eq, beq_iff_eq]
    constructor
    · intro h; exact BitVec.eq_of_toNat_eq (by omega)
    · rintro rfl; rfl
  simp only [key]
  congr 1
  rw [Bool.eq_iff_iff]
  simp
def eq136I (r s : List Pc) (m : Nat) (σ : Env) : Prop := ∃ i, i + m = r.length ∧ (r == s) = (r.drop i == s.drop i) ∧ σ = [(0, .t (rxT r)), (1, .t (rxT s)), (12, .t (.int .i64 (r.length : Int))), (13, .t (.int .i64 (i : Int)))]
theorem eq136_spec (r s : List Pc) (hr : r.length ≤ 1073741824) : ACalls Try.prog 136 [rxT r, rxT s] .sh (.bool (r == s)) := by
  refine ACalls.of n136 rfl (m136 _ rfl) q136 (by simp only [List.length_cons, List.length_nil]; decide) (fun C hC => ?_)
  have hN : C.N = 26 := hC
  refine AV.seq (AV.reg ?_)
  simp only [hN, c136R0, go_sem, Nat.reduceSub, reduceIte, Nat.reduceEqDiff, Nat.reduceLT, Nat.reduceMul, Nat.reduceAdd, Nat.reduceBEq, Nat.reduceLeDiff, Int.reduceLT, Int.reduceLE, Int.reduceNeg, Int.reduceBEq, Int.reduceBNe, Int.reduceToNat]
  refine AV.seq (AV.seq (AV.reg ?_))
  simp only [hN, c136R1, go_sem, Nat.reduceSub, reduceIte, Nat.reduceEqDiff, Nat.reduceLT, Nat.reduceMul, Nat.reduceAdd, Nat.reduceBEq, Nat.reduceLeDiff, Int.reduceLT, Int.reduceLE, Int.reduceNeg, Int.reduceBEq, Int.reduceBNe, Int.reduceToNat, rxT, List.length_map]
  refine AV.cond ?_ ?_ (fun hc => ?_) (fun hc => ?_) <;> (try simp only [go_sem, Nat.reduceSub, reduceIte, Nat.reduceEqDiff, Nat.reduceLT, Nat.reduceMul, Nat.reduceAdd, Nat.reduceBEq, Nat.reduceLeDiff, Int.reduceLT, Int.reduceLE, Int.reduceNeg, Int.reduceBEq, Int.reduceBNe, Int.reduceToNat] at hc) <;> (try simp only [go_sem, Nat.reduceSub, reduceIte, Nat.reduceEqDiff, Nat.reduceLT, Nat.reduceMul, Nat.reduceAdd, Nat.reduceBEq, Nat.reduceLeDiff, Int.reduceLT, Int.reduceLE, Int.reduceNeg, Int.reduceBEq, Int.reduceBNe, Int.reduceToNat])
  · refine AV.seq (AV.reg ?_)
    simp only [hN, c136R2, go_sem, Nat.reduceSub, reduceIte, Nat.reduceEqDiff, Nat.reduceLT, Nat.reduceMul, Nat.reduceAdd, Nat.reduceBEq, Nat.reduceLeDiff, Int.reduceLT, Int.reduceLE, Int.reduceNeg, Int.reduceBEq, Int.reduceBNe, Int.reduceToNat]
    refine AV.ret ?_
    refine atEnd_t (by simp only [go_sem, Nat.reduceSub, reduceIte, Nat.reduceEqDiff, Nat.reduceLT, Nat.reduceMul, Nat.reduceAdd, Nat.reduceBEq, Nat.reduceLeDiff, Int.reduceLT, Int.reduceLE, Int.reduceNeg, Int.reduceBEq, Int.reduceBNe, Int.reduceToNat] <;> rfl) ?_ (by simp)
    congr 1
    symm
    rw [beq_eq_false_iff_ne]
    rintro rfl
    simp at hc
  · have hl : r.length = s.length := by simp at hc; omega
    refine AV.skip ?_
    simp only [go_sem, Nat.reduceSub, reduceIte, Nat.reduceEqDiff, Nat.reduceLT, Nat.reduceMul, Nat.reduceAdd, Nat.reduceBEq, Nat.reduceLeDiff, Int.reduceLT, Int.reduceLE, Int.reduceNeg, Int.reduceBEq, Int.reduceBNe, Int.reduceToNat]
    refine AV.seq (AV.seq (AV.reg ?_))
    simp only [hN, c136R3, go_sem, Nat.reduceSub, reduceIte, Nat.reduceEqDiff, Nat.reduceLT, Nat.reduceMul, Nat.reduceAdd, Nat.reduceBEq, Nat.reduceLeDiff, Int.reduceLT, Int.reduceLE, Int.reduceNeg, Int.reduceBEq, Int.reduceBNe, Int.reduceToNat, List.length_map]
    refine AV.block ?_
    refine AV.loopK [0, 1, 12, 13] (by simp only [hN]; decide) (n := r.length) (eq136I r s) ?_ ⟨0, by omega, rfl, by simp only [go_sem, Nat.reduceSub, reduceIte, Nat.reduceEqDiff, Nat.reduceLT, Nat.reduceMul, Nat.reduceAdd, Nat.reduceBEq, Nat.reduceLeDiff, Int.reduceLT, Int.reduceLE, Int.reduceNeg, Int.reduceBEq, Int.reduceBNe, Int.reduceToNat] <;> rfl⟩
    rintro m σ ⟨i, h1, h2, rfl⟩
    refine AV.seq (AV.reg ?_)
    simp only [hN, c136R4, go_sem, Nat.reduceSub, reduceIte, Nat.reduceEqDiff, Nat.reduceLT, Nat.reduceMul, Nat.reduceAdd, Nat.reduceBEq, Nat.reduceLeDiff, Int.reduceLT, Int.reduceLE, Int.reduceNeg, Int.reduceBEq, Int.reduceBNe, Int.reduceToNat, rxT]
    refine AV.seq (AV.cond ?_ ?_ (fun hc => ?_) (fun hc => ?_)) <;> (try simp only [go_sem, Nat.reduceSub, reduceIte, Nat.reduceEqDiff, Nat.reduceLT, Nat.reduceMul, Nat.reduceAdd, Nat.reduceBEq, Nat.reduceLeDiff, Int.reduceLT, Int.reduceLE, Int.reduceNeg, Int.reduceBEq, Int.reduceBNe, Int.reduceToNat] at hc) <;> (try simp only [go_sem, Nat.reduceSub, reduceIte, Nat.reduceEqDiff, Nat.reduceLT, Nat.reduceMul, Nat.reduceAdd, Nat.reduceBEq, Nat.reduceLeDiff, Int.reduceLT, Int.reduceLE, Int.reduceNeg, Int.reduceBEq, Int.reduceBNe, Int.reduceToNat])
    · have hi : i < r.length := by omega
      have hi' : i < s.length := by omega
      refine AV.skip ?_
      simp only [go_sem, Nat.reduceSub, reduceIte, Nat.reduceEqDiff, Nat.reduceLT, Nat.reduceMul, Nat.reduceAdd, Nat.reduceBEq, Nat.reduceLeDiff, Int.reduceLT, Int.reduceLE, Int.reduceNeg, Int.reduceBEq, Int.reduceBNe, Int.reduceToNat]
      refine AV.seq (AV.block (AV.seq (AV.reg ?_)))
      simp only [hN, c136R5, go_sem, Nat.reduceSub, reduceIte, Nat.reduceEqDiff, Nat.reduceLT, Nat.reduceMul, Nat.reduceAdd, Nat.reduceBEq, Nat.reduceLeDiff, Int.reduceLT, Int.reduceLE, Int.reduceNeg, Int.reduceBEq, Int.reduceBNe, Int.reduceToNat]
      refine AV.seq (AV.regD mixed ?_)
      simp only [hN, c136R6, go_sem, Nat.reduceSub, reduceIte, Nat.reduceEqDiff, Nat.reduceLT, Nat.reduceMul, Nat.reduceAdd, Nat.reduceBEq, Nat.reduceLeDiff, Int.reduceLT, Int.reduceLE, Int.reduceNeg, Int.reduceBEq, Int.reduceBNe, Int.reduceToNat, List.length_map, getD_map_lt pcT r i default hi, getD_map_lt pcT s i default hi', pcT, S4.ts, LK.fitsAll, LK.fits, LK.sameAll, LK.same]
      have hd : r.drop i = r[i] :: r.drop (i + 1) := List.drop_eq_getElem_cons hi
      have hd' : s.drop i = s[i] :: s.drop (i + 1) := List.drop_eq_getElem_cons hi'
      refine ⟨⟨by omega, hi⟩, ⟨by omega, hi'⟩, AV.cond ?_ ?_ (fun hc => ?_) (fun hc => ?_)⟩ <;> (try simp only [go_sem, Nat.reduceSub, reduceIte, Nat.reduceEqDiff, Nat.reduceLT, Nat.reduceMul, Nat.reduceAdd, Nat.reduceBEq, Nat.reduceLeDiff, Int.reduceLT, Int.reduceLE, Int.reduceNeg, Int.reduceBEq, Int.reduceBNe, Int.reduceToNat] at hc) <;> (try simp only [go_sem, Nat.reduceSub, reduceIte, Nat.reduceEqDiff, Nat.reduceLT, Nat.reduceMul, Nat.reduceAdd, Nat.reduceBEq, Nat.reduceLeDiff, Int.reduceLT, Int.reduceLE, Int.reduceNeg, Int.reduceBEq, Int.reduceBNe, Int.reduceToNat])
      · rw [← Bool.not_eq_true', pc_ne] at hc
        refine AV.seq (AV.reg ?_)
        simp only [hN, c136R7, go_sem, Nat.reduceSub, reduceIte, Nat.reduceEqDiff, Nat.reduceLT, Nat.reduceMul, Nat.reduceAdd, Nat.reduceBEq, Nat.reduceLeDiff, Int.reduceLT, Int.reduceLE, Int.reduceNeg, Int.reduceBEq, Int.reduceBNe, Int.reduceToNat]
        refine AV.ret ?_
        simp only [go_sem, Nat.reduceSub, reduceIte, Nat.reduceEqDiff, Nat.reduceLT, Nat.reduceMul, Nat.reduceAdd, Nat.reduceBEq, Nat.reduceLeDiff, Int.reduceLT, Int.reduceLE, Int.reduceNeg, Int.reduceBEq, Int.reduceBNe, Int.reduceToNat]
        refine atEnd_t (by simp only [go_sem, Nat.reduceSub, reduceIte, Nat.reduceEqDiff, Nat.reduceLT, Nat.reduceMul, Nat.reduceAdd, Nat.reduceBEq, Nat.reduceLeDiff, Int.reduceLT, Int.reduceLE, Int.reduceNeg, Int.reduceBEq, Int.reduceBNe, Int.reduceToNat] <;> rfl) ?_ (by simp)
        congr 1
        rw [h2, hd, hd', List.cons_beq_cons]
        simp at hc
        simp [hc]
      · rw [pc_ne] at hc
        refine AV.skip ?_
        simp only [go_sem, Nat.reduceSub, reduceIte, Nat.reduceEqDiff, Nat.reduceLT, Nat.reduceMul, Nat.reduceAdd, Nat.reduceBEq, Nat.reduceLeDiff, Int.reduceLT, Int.reduceLE, Int.reduceNeg, Int.reduceBEq, Int.reduceBNe, Int.reduceToNat]
        refine AV.reg ?_
        simp only [hN, c136R8, go_sem, Nat.reduceSub, reduceIte, Nat.reduceEqDiff, Nat.reduceLT, Nat.reduceMul, Nat.reduceAdd, Nat.reduceBEq, Nat.reduceLeDiff, Int.reduceLT, Int.reduceLE, Int.reduceNeg, Int.reduceBEq, Int.reduceBNe, Int.reduceToNat]
        rw [wrap_small _ (by omega) (by omega)]
        refine ⟨m - 1, by omega, i + 1, by omega, ?_, rfl⟩
        rw [h2, hd, hd', List.cons_beq_cons]
        simp at hc
        simp [hc]
    · refine AV.exit ?_
      simp only [go_sem, Nat.reduceSub, reduceIte, Nat.reduceEqDiff, Nat.reduceLT, Nat.reduceMul, Nat.reduceAdd, Nat.reduceBEq, Nat.reduceLeDiff, Int.reduceLT, Int.reduceLE, Int.reduceNeg, Int.reduceBEq, Int.reduceBNe, Int.reduceToNat]
      refine AV.seq (AV.reg ?_)
      simp only [hN, c136R9, go_sem, Nat.reduceSub, reduceIte, Nat.reduceEqDiff, Nat.reduceLT, Nat.reduceMul, Nat.reduceAdd, Nat.reduceBEq, Nat.reduceLeDiff, Int.reduceLT, Int.reduceLE, Int.reduceNeg, Int.reduceBEq, Int.reduceBNe, Int.reduceToNat]
      refine AV.ret (atEnd_t (by simp only [go_sem, Nat.reduceSub, reduceIte, Nat.reduceEqDiff, Nat.reduceLT, Nat.reduceMul, Nat.reduceAdd, Nat.reduceBEq, Nat.reduceLeDiff, Int.reduceLT, Int.reduceLE, Int.reduceNeg, Int.reduceBEq, Int.reduceBNe, Int.reduceToNat] <;> rfl) ?_ (by simp))
      congr 1
      rw [h2, List.drop_eq_nil_of_le (by omega), List.drop_eq_nil_of_le (by omega)]
      rfl
end Go.Proofs.Ytaefhdklkbohmaa
/- rex.Same. -/
namespace Go.Proofs.Ytaefhdklkbohmaa
open Go Go.RowKit
set_option linter.unusedSimpArgs false
theorem same110_spec (r s : List Pc) (hr : r.length ≤ 1073741824) : ACalls Try.prog 110 [rxT r, rxT s] .sh (.bool (r == s)) := by
  refine ACalls.of n110 rfl (m110 _ rfl) q110 (by simp only [List.length_cons, List.length_nil]; decide) (fun C hC => ?_)
  have hN : C.N = 8 := hC
  refine AV.seq (AV.reg ?_)
  simp only [hN, c110R0, go_sem, Nat.reduceSub, reduceIte, Nat.reduceEqDiff, Nat.reduceLT, Nat.reduceMul, Nat.reduceAdd, Nat.reduceBEq, Nat.reduceLeDiff, Int.reduceLT, Int.reduceLE, Int.reduceNeg, Int.reduceBEq, Int.reduceBNe, Int.reduceToNat]
  refine AV.seq (AV.reg ?_)
  simp only [hN, c110R1, go_sem, Nat.reduceSub, reduceIte, Nat.reduceEqDiff, Nat.reduceLT, Nat.reduceMul, Nat.reduceAdd, Nat.reduceBEq, Nat.reduceLeDiff, Int.reduceLT, Int.reduceLE, Int.reduceNeg, Int.reduceBEq, Int.reduceBNe, Int.reduceToNat, rxT]
  refine ⟨.sh, .bool (r == s), eq136_spec r s hr, rfl, ?_⟩
  try simp only [go_sem, Nat.reduceSub, reduceIte, Nat.reduceEqDiff, Nat.reduceLT, Nat.reduceMul, Nat.reduceAdd, Nat.reduceBEq, Nat.reduceLeDiff, Int.reduceLT, Int.reduceLE, Int.reduceNeg, Int.reduceBEq, Int.reduceBNe, Int.reduceToNat]
  refine AV.ret (atEnd_t (by simp only [go_sem, Nat.reduceSub, reduceIte, Nat.reduceEqDiff, Nat.reduceLT, Nat.reduceMul, Nat.reduceAdd, Nat.reduceBEq, Nat.reduceLeDiff, Int.reduceLT, Int.reduceLE, Int.reduceNeg, Int.reduceBEq, Int.reduceBNe, Int.reduceToNat] <;> rfl) rfl (by simp))
end Go.Proofs.Ytaefhdklkbohmaa
/- rex.Check. -/
namespace Go.Proofs.Ytaefhdklkbohmaa
open Go Go.RowKit
set_option linter.unusedSimpArgs false
/-- A piece that cannot stand where n trees are open. -/
def badPc (p : Pc) (n : Int) : Bool := bif decide (takes40 p.kind < 0) || decide (takes40 p.kind > n) then true else (p.kind == 1) == (p.s == ⟨0, 0, 0, 0⟩)
def checkGo : List Pc → Int → Int
  | [], n => if n = 1 then 0 else 5
  | p :: ps, n => if badPc p n = true then 5 else checkGo ps (n - takes40 p.kind + 1)
def checkS (r : List Pc) : Int := if 400 < r.length then 6 else checkGo r 0
def check38I (r : List Pc) (m : Nat) (σ : Env) : Prop := ∃ (i : Nat) (n : Int), i + m = r.length ∧ 0 ≤ n ∧ n ≤ i ∧ checkGo r 0 = checkGo (r.drop i) n ∧ σ = [(0, .t (rxT r)), (3, .t (.int .i64 n)), (10, .t (rxT r)), (11, .t (.int .i64 (r.length : Int))), (12, .t (.int .i64 (i : Int)))]
theorem check38_spec (r : List Pc) (hr : r.length ≤ 1073741824) : ACalls Try.prog 38 [rxT r] .sh (.int .i64 (checkS r)) := by
  refine ACalls.of n38 rfl (m38 _ rfl) q38 (by simp only [List.length_cons, List.length_nil]; decide) (fun C hC => ?_)
  have hN : C.N = 42 := hC
  refine AV.seq (AV.reg ?_)
  simp only [hN, c38R0, go_sem, Nat.reduceSub, reduceIte, Nat.reduceEqDiff, Nat.reduceLT, Nat.reduceMul, Nat.reduceAdd, Nat.reduceBEq, Nat.reduceLeDiff, Int.reduceLT, Int.reduceLE, Int.reduceNeg, Int.reduceBEq, Int.reduceBNe, Int.reduceToNat]
  refine AV.seq (AV.seq (AV.reg ?_))
  simp only [hN, c38R1, go_sem, Nat.reduceSub, reduceIte, Nat.reduceEqDiff, Nat.reduceLT, Nat.reduceMul, Nat.reduceAdd, Nat.reduceBEq, Nat.reduceLeDiff, Int.reduceLT, Int.reduceLE, Int.reduceNeg, Int.reduceBEq, Int.reduceBNe, Int.reduceToNat, rxT, List.length_map]
  refine AV.cond ?_ ?_ (fun hc => ?_) (fun hc => ?_) <;> (try simp only [go_sem, Nat.reduceSub, reduceIte, Nat.reduceEqDiff, Nat.reduceLT, Nat.reduceMul, Nat.reduceAdd, Nat.reduceBEq, Nat.reduceLeDiff, Int.reduceLT, Int.reduceLE, Int.reduceNeg, Int.reduceBEq, Int.reduceBNe, Int.reduceToNat] at hc) <;> (try simp only [go_sem, Nat.reduceSub, reduceIte, Nat.reduceEqDiff, Nat.reduceLT, Nat.reduceMul, Nat.reduceAdd, Nat.reduceBEq, Nat.reduceLeDiff, Int.reduceLT, Int.reduceLE, Int.reduceNeg, Int.reduceBEq, Int.reduceBNe, Int.reduceToNat])
  · refine AV.seq (AV.reg ?_)
    simp only [hN, c38R2, go_sem, Nat.reduceSub, reduceIte, Nat.reduceEqDiff, Nat.reduceLT, Nat.reduceMul, Nat.reduceAdd, Nat.reduceBEq, Nat.reduceLeDiff, Int.reduceLT, Int.reduceLE, Int.reduceNeg, Int.reduceBEq, Int.reduceBNe, Int.reduceToNat]
    refine AV.ret (atEnd_t (by simp only [go_sem, Nat.reduceSub, reduceIte, Nat.reduceEqDiff, Nat.reduceLT, Nat.reduceMul, Nat.reduceAdd, Nat.reduceBEq, Nat.reduceLeDiff, Int.reduceLT, Int.reduceLE, Int.reduceNeg, Int.reduceBEq, Int.reduceBNe, Int.reduceToNat] <;> rfl) ?_ (by simp))
    rw [checkS, if_pos (by omega)]
  · refine AV.skip ?_
    simp only [go_sem, Nat.reduceSub, reduceIte, Nat.reduceEqDiff, Nat.reduceLT, Nat.reduceMul, Nat.reduceAdd, Nat.reduceBEq, Nat.reduceLeDiff, Int.reduceLT, Int.reduceLE, Int.reduceNeg, Int.reduceBEq, Int.reduceBNe, Int.reduceToNat]
    refine AV.seq (AV.reg ?_)
    simp only [hN, c38R3, go_sem, Nat.reduceSub, reduceIte, Nat.reduceEqDiff, Nat.reduceLT, Nat.reduceMul, Nat.reduceAdd, Nat.reduceBEq, Nat.reduceLeDiff, Int.reduceLT, Int.reduceLE, Int.reduceNeg, Int.reduceBEq, Int.reduceBNe, Int.reduceToNat]
    refine AV.seq (AV.seq (AV.reg ?_))
    simp only [hN, c38R4, go_sem, Nat.reduceSub, reduceIte, Nat.reduceEqDiff, Nat.reduceLT, Nat.reduceMul, Nat.reduceAdd, Nat.reduceBEq, Nat.reduceLeDiff, Int.reduceLT, Int.reduceLE, Int.reduceNeg, Int.reduceBEq, Int.reduceBNe, Int.reduceToNat, List.length_map]
    refine AV.block ?_
    refine AV.loopK [0, 3, 10, 11, 12] (by simp only [hN]; decide) (n := r.length) (check38I r) ?_ ⟨0, 0, by omega, by omega, by omega, rfl, by simp only [go_sem, Nat.reduceSub, reduceIte, Nat.reduceEqDiff, Nat.reduceLT, Nat.reduceMul, Nat.reduceAdd, Nat.reduceBEq, Nat.reduceLeDiff, Int.reduceLT, Int.reduceLE, Int.reduceNeg, Int.reduceBEq, Int.reduceBNe, Int.reduceToNat] <;> rfl⟩
    rintro m σ ⟨i, n, h1, h2, h3, h4, rfl⟩
    refine AV.seq (AV.reg ?_)
    simp only [hN, c38R5, go_sem, Nat.reduceSub, reduceIte, Nat.reduceEqDiff, Nat.reduceLT, Nat.reduceMul, Nat.reduceAdd, Nat.reduceBEq, Nat.reduceLeDiff, Int.reduceLT, Int.reduceLE, Int.reduceNeg, Int.reduceBEq, Int.reduceBNe, Int.reduceToNat, rxT]
    refine AV.seq (AV.cond ?_ ?_ (fun hc => ?_) (fun hc => ?_)) <;> (try simp only [go_sem, Nat.reduceSub, reduceIte, Nat.reduceEqDiff, Nat.reduceLT, Nat.reduceMul, Nat.reduceAdd, Nat.reduceBEq, Nat.reduceLeDiff, Int.reduceLT, Int.reduceLE, Int.reduceNeg, Int.reduceBEq, Int.reduceBNe, Int.reduceToNat] at hc) <;> (try simp only [go_sem, Nat.reduceSub, reduceIte, Nat.reduceEqDiff, Nat.reduceLT, Nat.reduceMul, Nat.reduceAdd, Nat.reduceBEq, Nat.reduceLeDiff, Int.reduceLT, Int.reduceLE, Int.reduceNeg, Int.reduceBEq, Int.reduceBNe, Int.reduceToNat])
    · have hi : i < r.length := by omega
      have hd : r.drop i = r[i] :: r.drop (i + 1) := List.drop_eq_getElem_cons hi
      refine AV.skip ?_
      simp only [go_sem, Nat.reduceSub, reduceIte, Nat.reduceEqDiff, Nat.reduceLT, Nat.reduceMul, Nat.reduceAdd, Nat.reduceBEq, Nat.reduceLeDiff, Int.reduceLT, Int.reduceLE, Int.reduceNeg, Int.reduceBEq, Int.reduceBNe, Int.reduceToNat]
      refine AV.seq (AV.block (AV.seq (AV.reg ?_)))
      simp only [hN, c38R6, go_sem, Nat.reduceSub, reduceIte, Nat.reduceEqDiff, Nat.reduceLT, Nat.reduceMul, Nat.reduceAdd, Nat.reduceBEq, Nat.reduceLeDiff, Int.reduceLT, Int.reduceLE, Int.reduceNeg, Int.reduceBEq, Int.reduceBNe, Int.reduceToNat, List.length_map, getD_map_lt pcT r i default hi, pcT, S4.ts]
      refine ⟨⟨by omega, hi⟩, ?_⟩
      have hk := takes40_le r[i].kind
      generalize r[i] = p at hd hk ⊢
      refine AV.seq (AV.reg ?_)
      simp only [hN, c38R7, go_sem, Nat.reduceSub, reduceIte, Nat.reduceEqDiff, Nat.reduceLT, Nat.reduceMul, Nat.reduceAdd, Nat.reduceBEq, Nat.reduceLeDiff, Int.reduceLT, Int.reduceLE, Int.reduceNeg, Int.reduceBEq, Int.reduceBNe, Int.reduceToNat]
      refine ⟨.sh, .int .i64 (takes40 p.kind), takes72_spec _, rfl, ?_⟩
      try simp only [go_sem, Nat.reduceSub, reduceIte, Nat.reduceEqDiff, Nat.reduceLT, Nat.reduceMul, Nat.reduceAdd, Nat.reduceBEq, Nat.reduceLeDiff, Int.reduceLT, Int.reduceLE, Int.reduceNeg, Int.reduceBEq, Int.reduceBNe, Int.reduceToNat]
      refine AV.seq (AV.seq (AV.regD mixed ?_))
      simp only [hN, c38R8, go_sem, Nat.reduceSub, reduceIte, Nat.reduceEqDiff, Nat.reduceLT, Nat.reduceMul, Nat.reduceAdd, Nat.reduceBEq, Nat.reduceLeDiff, Int.reduceLT, Int.reduceLE, Int.reduceNeg, Int.reduceBEq, Int.reduceBNe, Int.reduceToNat]
      refine ⟨.sh, .bool (p.s == ⟨0, 0, 0, 0⟩), fun _ => empty73_spec p.s, rfl, fun _ => trivial, ?_⟩
      try simp only [go_sem, Nat.reduceSub, reduceIte, Nat.reduceEqDiff, Nat.reduceLT, Nat.reduceMul, Nat.reduceAdd, Nat.reduceBEq, Nat.reduceLeDiff, Int.reduceLT, Int.reduceLE, Int.reduceNeg, Int.reduceBEq, Int.reduceBNe, Int.reduceToNat]
      refine AV.cond ?_ ?_ (fun hc => ?_) (fun hc => ?_) <;> (try simp only [go_sem, Nat.reduceSub, reduceIte, Nat.reduceEqDiff, Nat.reduceLT, Nat.reduceMul, Nat.reduceAdd, Nat.reduceBEq, Nat.reduceLeDiff, Int.reduceLT, Int.reduceLE, Int.reduceNeg, Int.reduceBEq, Int.reduceBNe, Int.reduceToNat] at hc) <;> (try simp only [go_sem, Nat.reduceSub, reduceIte, Nat.reduceEqDiff, Nat.reduceLT, Nat.reduceMul, Nat.reduceAdd, Nat.reduceBEq, Nat.reduceLeDiff, Int.reduceLT, Int.reduceLE, Int.reduceNeg, Int.reduceBEq, Int.reduceBNe, Int.reduceToNat])
      · refine AV.seq (AV.reg ?_)
        simp only [hN, c38R9, go_sem, Nat.reduceSub, reduceIte, Nat.reduceEqDiff, Nat.reduceLT, Nat.reduceMul, Nat.reduceAdd, Nat.reduceBEq, Nat.reduceLeDiff, Int.reduceLT, Int.reduceLE, Int.reduceNeg, Int.reduceBEq, Int.reduceBNe, Int.reduceToNat]
        refine AV.ret ?_
        simp only [go_sem, Nat.reduceSub, reduceIte, Nat.reduceEqDiff, Nat.reduceLT, Nat.reduceMul, Nat.reduceAdd, Nat.reduceBEq, Nat.reduceLeDiff, Int.reduceLT, Int.reduceLE, Int.reduceNeg, Int.reduceBEq, Int.reduceBNe, Int.reduceToNat]
        refine atEnd_t (by simp only [go_sem, Nat.reduceSub, reduceIte, Nat.reduceEqDiff, Nat.reduceLT, Nat.reduceMul, Nat.reduceAdd, Nat.reduceBEq, Nat.reduceLeDiff, Int.reduceLT, Int.reduceLE, Int.reduceNeg, Int.reduceBEq, Int.reduceBNe, Int.reduceToNat] <;> rfl) ?_ (by simp)
        rw [checkS, if_neg (by omega), h4, hd, checkGo, if_pos (show badPc p n = true from hc)]
      · have hnb : ¬ (takes40 p.kind < 0) ∧ ¬ (takes40 p.kind > n) := by
          by_cases h : takes40 p.kind < 0 ∨ takes40 p.kind > n
          · have : (decide (takes40 p.kind < 0) || decide (takes40 p.kind > n)) = true := by simpa using h
            rw [this] at hc; cases hc
          · omega
        refine AV.skip ?_
        simp only [go_sem, Nat.reduceSub, reduceIte, Nat.reduceEqDiff, Nat.reduceLT, Nat.reduceMul, Nat.reduceAdd, Nat.reduceBEq, Nat.reduceLeDiff, Int.reduceLT, Int.reduceLE, Int.reduceNeg, Int.reduceBEq, Int.reduceBNe, Int.reduceToNat]
        refine AV.reg ?_
        simp only [hN, c38R10, go_sem, Nat.reduceSub, reduceIte, Nat.reduceEqDiff, Nat.reduceLT, Nat.reduceMul, Nat.reduceAdd, Nat.reduceBEq, Nat.reduceLeDiff, Int.reduceLT, Int.reduceLE, Int.reduceNeg, Int.reduceBEq, Int.reduceBNe, Int.reduceToNat]
        rw [wrap_small (1 - takes40 p.kind) (by omega) (by omega), wrap_small (n + (1 - takes40 p.kind)) (by omega) (by omega)]
        refine AV.reg ?_
        simp only [hN, c38R11, go_sem, Nat.reduceSub, reduceIte, Nat.reduceEqDiff, Nat.reduceLT, Nat.reduceMul, Nat.reduceAdd, Nat.reduceBEq, Nat.reduceLeDiff, Int.reduceLT, Int.reduceLE, Int.reduceNeg, Int.reduceBEq, Int.reduceBNe, Int.reduceToNat]
        rw [wrap_small ((i : Int) + 1) (by omega) (by omega)]
        refine ⟨m - 1, by omega, i + 1, n - takes40 p.kind + 1, by omega, by omega, by omega, ?_, ?_⟩
        · rw [h4, hd, checkGo, if_neg (fun h => by rw [badPc, hc] at h; cases h)]
        · rw [show n + (1 - takes40 p.kind) = n - takes40 p.kind + 1 by omega]; rfl
    · have hd : r.drop i = [] := List.drop_eq_nil_of_le (by omega)
      refine AV.exit ?_
      simp only [go_sem, Nat.reduceSub, reduceIte, Nat.reduceEqDiff, Nat.reduceLT, Nat.reduceMul, Nat.reduceAdd, Nat.reduceBEq, Nat.reduceLeDiff, Int.reduceLT, Int.reduceLE, Int.reduceNeg, Int.reduceBEq, Int.reduceBNe, Int.reduceToNat]
      refine AV.seq (AV.seq (AV.reg ?_))
      simp only [hN, c38R12, go_sem, Nat.reduceSub, reduceIte, Nat.reduceEqDiff, Nat.reduceLT, Nat.reduceMul, Nat.reduceAdd, Nat.reduceBEq, Nat.reduceLeDiff, Int.reduceLT, Int.reduceLE, Int.reduceNeg, Int.reduceBEq, Int.reduceBNe, Int.reduceToNat]
      refine AV.cond ?_ ?_ (fun hc => ?_) (fun hc => ?_) <;> (try simp only [go_sem, Nat.reduceSub, reduceIte, Nat.reduceEqDiff, Nat.reduceLT, Nat.reduceMul, Nat.reduceAdd, Nat.reduceBEq, Nat.reduceLeDiff, Int.reduceLT, Int.reduceLE, Int.reduceNeg, Int.reduceBEq, Int.reduceBNe, Int.reduceToNat] at hc) <;> (try simp only [go_sem, Nat.reduceSub, reduceIte, Nat.reduceEqDiff, Nat.reduceLT, Nat.reduceMul, Nat.reduceAdd, Nat.reduceBEq, Nat.reduceLeDiff, Int.reduceLT, Int.reduceLE, Int.reduceNeg, Int.reduceBEq, Int.reduceBNe, Int.reduceToNat])
      · refine AV.seq (AV.reg ?_)
        simp only [hN, c38R13, go_sem, Nat.reduceSub, reduceIte, Nat.reduceEqDiff, Nat.reduceLT, Nat.reduceMul, Nat.reduceAdd, Nat.reduceBEq, Nat.reduceLeDiff, Int.reduceLT, Int.reduceLE, Int.reduceNeg, Int.reduceBEq, Int.reduceBNe, Int.reduceToNat]
        refine AV.ret ?_
        try simp only [go_sem, Nat.reduceSub, reduceIte, Nat.reduceEqDiff, Nat.reduceLT, Nat.reduceMul, Nat.reduceAdd, Nat.reduceBEq, Nat.reduceLeDiff, Int.reduceLT, Int.reduceLE, Int.reduceNeg, Int.reduceBEq, Int.reduceBNe, Int.reduceToNat]
        refine atEnd_t (by simp only [go_sem, Nat.reduceSub, reduceIte, Nat.reduceEqDiff, Nat.reduceLT, Nat.reduceMul, Nat.reduceAdd, Nat.reduceBEq, Nat.reduceLeDiff, Int.reduceLT, Int.reduceLE, Int.reduceNeg, Int.reduceBEq, Int.reduceBNe, Int.reduceToNat] <;> rfl) ?_ (by simp)
        rw [checkS, if_neg (by omega), h4, hd, checkGo, if_neg (by simpa using hc)]
      · refine AV.skip ?_
        simp only [go_sem, Nat.reduceSub, reduceIte, Nat.reduceEqDiff, Nat.reduceLT, Nat.reduceMul, Nat.reduceAdd, Nat.reduceBEq, Nat.reduceLeDiff, Int.reduceLT, Int.reduceLE, Int.reduceNeg, Int.reduceBEq, Int.reduceBNe, Int.reduceToNat]
        refine AV.seq (AV.reg ?_)
        simp only [hN, c38R14, go_sem, Nat.reduceSub, reduceIte, Nat.reduceEqDiff, Nat.reduceLT, Nat.reduceMul, Nat.reduceAdd, Nat.reduceBEq, Nat.reduceLeDiff, Int.reduceLT, Int.reduceLE, Int.reduceNeg, Int.reduceBEq, Int.reduceBNe, Int.reduceToNat]
        refine AV.ret (atEnd_t (by simp only [go_sem, Nat.reduceSub, reduceIte, Nat.reduceEqDiff, Nat.reduceLT, Nat.reduceMul, Nat.reduceAdd, Nat.reduceBEq, Nat.reduceLeDiff, Int.reduceLT, Int.reduceLE, Int.reduceNeg, Int.reduceBEq, Int.reduceBNe, Int.reduceToNat] <;> rfl) ?_ (by simp))
        rw [checkS, if_neg (by omega), h4, hd, checkGo, if_pos (by simpa using hc)]
end Go.Proofs.Ytaefhdklkbohmaa
/- bosketref04.Check. -/
namespace Go.Proofs.Ytaefhdklkbohmaa
open Go Go.RowKit
set_option linter.unusedSimpArgs false
set_option maxRecDepth 20000
def check10I (r : List Pc) (m : Nat) (σ : Env) : Prop := ∃ (i : Nat) (n : Int), i + m = r.length ∧ 0 ≤ n ∧ n ≤ i ∧ checkGo r 0 = checkGo (r.drop i) n ∧ σ = [(0, .t (rxT r)), (3, .t (.int .i64 n)), (4, .t (.int .i64 (i : Int)))]
theorem s4_zero (s : S4) : (((s.w0.toNat : Int) == 0) && (((s.w1.toNat : Int) == 0) && (((s.w2.toNat : Int) == 0) && ((s.w3.toNat : Int) == 0)))) = (s == ⟨0, 0, 0, 0⟩) := by
  obtain ⟨a, b, c, d⟩ := s
  have key : ∀ x : BitVec 64, ((x.toNat : Int) == 0) = (x == 0#64) := by
    intro x
    rw [Bool.eq_iff_iff, beq_iff_eq, beq_iff_eq]
    constructor
    · intro h; exact BitVec.eq_of_toNat_eq (by simp; omega)
    · rintro rfl; rfl
  simp only [key]
  rw [Bool.eq_iff_iff]
  simp
theorem check10_spec (r : List Pc) (hr : r.length ≤ 1073741824) : ACalls Try.prog 10 [rxT r] .sh (.int .i64 (checkS r)) := by
  refine ACalls.of n10 rfl (m10 _ rfl) q10 (by simp only [List.length_cons, List.length_nil]; decide) (fun C hC => ?_)
  have hN : C.N = 50 := hC
  refine AV.seq (AV.reg ?_)
  simp only [hN, c10R0, go_sem, Nat.reduceSub, reduceIte, Nat.reduceEqDiff, Nat.reduceLT, Nat.reduceMul, Nat.reduceAdd, Nat.reduceBEq, Nat.reduceLeDiff, Int.reduceLT, Int.reduceLE, Int.reduceNeg, Int.reduceBEq, Int.reduceBNe, Int.reduceToNat]
  refine AV.seq (AV.seq (AV.reg ?_))
  simp only [hN, c10R1, go_sem, Nat.reduceSub, reduceIte, Nat.reduceEqDiff, Nat.reduceLT, Nat.reduceMul, Nat.reduceAdd, Nat.reduceBEq, Nat.reduceLeDiff, Int.reduceLT, Int.reduceLE, Int.reduceNeg, Int.reduceBEq, Int.reduceBNe, Int.reduceToNat, rxT, List.length_map]
  refine AV.cond ?_ ?_ (fun hc => ?_) (fun hc => ?_) <;> (try simp only [go_sem, Nat.reduceSub, reduceIte, Nat.reduceEqDiff, Nat.reduceLT, Nat.reduceMul, Nat.reduceAdd, Nat.reduceBEq, Nat.reduceLeDiff, Int.reduceLT, Int.reduceLE, Int.reduceNeg, Int.reduceBEq, Int.reduceBNe, Int.reduceToNat] at hc) <;> (try simp only [go_sem, Nat.reduceSub, reduceIte, Nat.reduceEqDiff, Nat.reduceLT, Nat.reduceMul, Nat.reduceAdd, Nat.reduceBEq, Nat.reduceLeDiff, Int.reduceLT, Int.reduceLE, Int.reduceNeg, Int.reduceBEq, Int.reduceBNe, Int.reduceToNat])
  · refine AV.seq (AV.reg ?_)
    simp only [hN, c10R2, go_sem, Nat.reduceSub, reduceIte, Nat.reduceEqDiff, Nat.reduceLT, Nat.reduceMul, Nat.reduceAdd, Nat.reduceBEq, Nat.reduceLeDiff, Int.reduceLT, Int.reduceLE, Int.reduceNeg, Int.reduceBEq, Int.reduceBNe, Int.reduceToNat]
    refine AV.ret (atEnd_t (by simp only [go_sem, Nat.reduceSub, reduceIte, Nat.reduceEqDiff, Nat.reduceLT, Nat.reduceMul, Nat.reduceAdd, Nat.reduceBEq, Nat.reduceLeDiff, Int.reduceLT, Int.reduceLE, Int.reduceNeg, Int.reduceBEq, Int.reduceBNe, Int.reduceToNat] <;> rfl) ?_ (by simp))
    rw [checkS, if_pos (by omega)]
  · refine AV.skip ?_
    simp only [go_sem, Nat.reduceSub, reduceIte, Nat.reduceEqDiff, Nat.reduceLT, Nat.reduceMul, Nat.reduceAdd, Nat.reduceBEq, Nat.reduceLeDiff, Int.reduceLT, Int.reduceLE, Int.reduceNeg, Int.reduceBEq, Int.reduceBNe, Int.reduceToNat]
    refine AV.seq (AV.reg ?_)
    simp only [hN, c10R3, go_sem, Nat.reduceSub, reduceIte, Nat.reduceEqDiff, Nat.reduceLT, Nat.reduceMul, Nat.reduceAdd, Nat.reduceBEq, Nat.reduceLeDiff, Int.reduceLT, Int.reduceLE, Int.reduceNeg, Int.reduceBEq, Int.reduceBNe, Int.reduceToNat]
    refine AV.seq (AV.seq (AV.reg ?_))
    simp only [hN, c10R4, go_sem, Nat.reduceSub, reduceIte, Nat.reduceEqDiff, Nat.reduceLT, Nat.reduceMul, Nat.reduceAdd, Nat.reduceBEq, Nat.reduceLeDiff, Int.reduceLT, Int.reduceLE, Int.reduceNeg, Int.reduceBEq, Int.reduceBNe, Int.reduceToNat]
    refine AV.block ?_
    refine AV.loopK [0, 3, 4] (by simp only [hN]; decide) (n := r.length) (check10I r) ?_ ⟨0, 0, by omega, by omega, by omega, rfl, by simp only [go_sem, Nat.reduceSub, reduceIte, Nat.reduceEqDiff, Nat.reduceLT, Nat.reduceMul, Nat.reduceAdd, Nat.reduceBEq, Nat.reduceLeDiff, Int.reduceLT, Int.reduceLE, Int.reduceNeg, Int.reduceBEq, Int.reduceBNe, Int.reduceToNat] <;> rfl⟩
    rintro m σ ⟨i, n, h1, h2, h3, h4, rfl⟩
    refine AV.seq (AV.seq (AV.reg ?_))
    simp only [hN, c10R5, go_sem, Nat.reduceSub, reduceIte, Nat.reduceEqDiff, Nat.reduceLT, Nat.reduceMul, Nat.reduceAdd, Nat.reduceBEq, Nat.reduceLeDiff, Int.reduceLT, Int.reduceLE, Int.reduceNeg, Int.reduceBEq, Int.reduceBNe, Int.reduceToNat, rxT, List.length_map]
    refine AV.cond ?_ ?_ (fun hc => ?_) (fun hc => ?_) <;> (try simp only [go_sem, Nat.reduceSub, reduceIte, Nat.reduceEqDiff, Nat.reduceLT, Nat.reduceMul, Nat.reduceAdd, Nat.reduceBEq, Nat.reduceLeDiff, Int.reduceLT, Int.reduceLE, Int.reduceNeg, Int.reduceBEq, Int.reduceBNe, Int.reduceToNat] at hc) <;> (try simp only [go_sem, Nat.reduceSub, reduceIte, Nat.reduceEqDiff, Nat.reduceLT, Nat.reduceMul, Nat.reduceAdd, Nat.reduceBEq, Nat.reduceLeDiff, Int.reduceLT, Int.reduceLE, Int.reduceNeg, Int.reduceBEq, Int.reduceBNe, Int.reduceToNat])
    · have hi : i < r.length := by omega
      have hd : r.drop i = r[i] :: r.drop (i + 1) := List.drop_eq_getElem_cons hi
      refine AV.skip ?_
      simp only [go_sem, Nat.reduceSub, reduceIte, Nat.reduceEqDiff, Nat.reduceLT, Nat.reduceMul, Nat.reduceAdd, Nat.reduceBEq, Nat.reduceLeDiff, Int.reduceLT, Int.reduceLE, Int.reduceNeg, Int.reduceBEq, Int.reduceBNe, Int.reduceToNat]
      refine AV.seq (AV.block (AV.seq (AV.reg ?_)))
      simp only [hN, c10R7, go_sem, Nat.reduceSub, reduceIte, Nat.reduceEqDiff, Nat.reduceLT, Nat.reduceMul, Nat.reduceAdd, Nat.reduceBEq, Nat.reduceLeDiff, Int.reduceLT, Int.reduceLE, Int.reduceNeg, Int.reduceBEq, Int.reduceBNe, Int.reduceToNat, List.length_map, getD_map_lt pcT r i default hi, pcT, S4.ts]
      have hk := takes40_le r[i].kind
      refine ⟨⟨by omega, hi⟩, .sh, .int .i64 (takes40 r[i].kind), takes40_spec _, rfl, ?_⟩
      try simp only [go_sem, Nat.reduceSub, reduceIte, Nat.reduceEqDiff, Nat.reduceLT, Nat.reduceMul, Nat.reduceAdd, Nat.reduceBEq, Nat.reduceLeDiff, Int.reduceLT, Int.reduceLE, Int.reduceNeg, Int.reduceBEq, Int.reduceBNe, Int.reduceToNat]
      refine AV.seq (AV.seq (AV.regD mixed ?_))
      simp only [hN, c10R8, go_sem, Nat.reduceSub, reduceIte, Nat.reduceEqDiff, Nat.reduceLT, Nat.reduceMul, Nat.reduceAdd, Nat.reduceBEq, Nat.reduceLeDiff, Int.reduceLT, Int.reduceLE, Int.reduceNeg, Int.reduceBEq, Int.reduceBNe, Int.reduceToNat, List.length_map, getD_map_lt pcT r i default hi, pcT, S4.ts, LK.fitsAll, LK.fits, LK.sameAll, LK.same, s4_zero]
      refine ⟨fun _ => ⟨by omega, hi⟩, fun _ => ⟨by omega, hi⟩, AV.keep [0, 3, 4, 5, 43] (by simp only [hN]; decide) ?_⟩
      simp only [go_sem, Nat.reduceSub, reduceIte, Nat.reduceEqDiff, Nat.reduceLT, Nat.reduceMul, Nat.reduceAdd, Nat.reduceBEq, Nat.reduceLeDiff, Int.reduceLT, Int.reduceLE, Int.reduceNeg, Int.reduceBEq, Int.reduceBNe, Int.reduceToNat]
      generalize r[i] = p at hd hk ⊢
      refine AV.cond ?_ ?_ (fun hc => ?_) (fun hc => ?_) <;> (try simp only [go_sem, Nat.reduceSub, reduceIte, Nat.reduceEqDiff, Nat.reduceLT, Nat.reduceMul, Nat.reduceAdd, Nat.reduceBEq, Nat.reduceLeDiff, Int.reduceLT, Int.reduceLE, Int.reduceNeg, Int.reduceBEq, Int.reduceBNe, Int.reduceToNat] at hc) <;> (try simp only [go_sem, Nat.reduceSub, reduceIte, Nat.reduceEqDiff, Nat.reduceLT, Nat.reduceMul, Nat.reduceAdd, Nat.reduceBEq, Nat.reduceLeDiff, Int.reduceLT, Int.reduceLE, Int.reduceNeg, Int.reduceBEq, Int.reduceBNe, Int.reduceToNat])
      · refine AV.seq (AV.reg ?_)
        simp only [hN, c10R9, go_sem, Nat.reduceSub, reduceIte, Nat.reduceEqDiff, Nat.reduceLT, Nat.reduceMul, Nat.reduceAdd, Nat.reduceBEq, Nat.reduceLeDiff, Int.reduceLT, Int.reduceLE, Int.reduceNeg, Int.reduceBEq, Int.reduceBNe, Int.reduceToNat]
        refine AV.ret ?_
        simp only [go_sem, Nat.reduceSub, reduceIte, Nat.reduceEqDiff, Nat.reduceLT, Nat.reduceMul, Nat.reduceAdd, Nat.reduceBEq, Nat.reduceLeDiff, Int.reduceLT, Int.reduceLE, Int.reduceNeg, Int.reduceBEq, Int.reduceBNe, Int.reduceToNat]
        refine atEnd_t (by simp only [go_sem, Nat.reduceSub, reduceIte, Nat.reduceEqDiff, Nat.reduceLT, Nat.reduceMul, Nat.reduceAdd, Nat.reduceBEq, Nat.reduceLeDiff, Int.reduceLT, Int.reduceLE, Int.reduceNeg, Int.reduceBEq, Int.reduceBNe, Int.reduceToNat] <;> rfl) ?_ (by simp)
        rw [checkS, if_neg (by omega), h4, hd, checkGo, if_pos (show badPc p n = true from hc)]
      · have hnb : ¬ (takes40 p.kind < 0) ∧ ¬ (takes40 p.kind > n) := by
          by_cases h : takes40 p.kind < 0 ∨ takes40 p.kind > n
          · have : (decide (takes40 p.kind < 0) || decide (n < takes40 p.kind)) = true := by simpa using h
            rw [this] at hc; cases hc
          · omega
        refine AV.skip ?_
        simp only [go_sem, Nat.reduceSub, reduceIte, Nat.reduceEqDiff, Nat.reduceLT, Nat.reduceMul, Nat.reduceAdd, Nat.reduceBEq, Nat.reduceLeDiff, Int.reduceLT, Int.reduceLE, Int.reduceNeg, Int.reduceBEq, Int.reduceBNe, Int.reduceToNat]
        refine AV.reg ?_
        simp only [hN, c10R10, go_sem, Nat.reduceSub, reduceIte, Nat.reduceEqDiff, Nat.reduceLT, Nat.reduceMul, Nat.reduceAdd, Nat.reduceBEq, Nat.reduceLeDiff, Int.reduceLT, Int.reduceLE, Int.reduceNeg, Int.reduceBEq, Int.reduceBNe, Int.reduceToNat]
        rw [wrap_small (n - takes40 p.kind) (by omega) (by omega), wrap_small (n - takes40 p.kind + 1) (by omega) (by omega)]
        refine AV.reg ?_
        simp only [hN, c10R6, go_sem, Nat.reduceSub, reduceIte, Nat.reduceEqDiff, Nat.reduceLT, Nat.reduceMul, Nat.reduceAdd, Nat.reduceBEq, Nat.reduceLeDiff, Int.reduceLT, Int.reduceLE, Int.reduceNeg, Int.reduceBEq, Int.reduceBNe, Int.reduceToNat]
        rw [wrap_small ((i : Int) + 1) (by omega) (by omega)]
        refine ⟨m - 1, by omega, i + 1, n - takes40 p.kind + 1, by omega, by omega, by omega, ?_, rfl⟩
        rw [h4, hd, checkGo, if_neg (fun h => by
          have h' : (bif decide (takes40 p.kind < 0) || decide (n < takes40 p.kind) then true else (p.kind == 1) == (p.s == ⟨0, 0, 0, 0⟩)) = true := h
          rw [hc] at h'; cases h')]
    · have hd : r.drop i = [] := List.drop_eq_nil_of_le (by omega)
      refine AV.exit ?_
      simp only [go_sem, Nat.reduceSub, reduceIte, Nat.reduceEqDiff, Nat.reduceLT, Nat.reduceMul, Nat.reduceAdd, Nat.reduceBEq, Nat.reduceLeDiff, Int.reduceLT, Int.reduceLE, Int.reduceNeg, Int.reduceBEq, Int.reduceBNe, Int.reduceToNat]
      refine AV.seq (AV.seq (AV.reg ?_))
      simp only [hN, c10R11, go_sem, Nat.reduceSub, reduceIte, Nat.reduceEqDiff, Nat.reduceLT, Nat.reduceMul, Nat.reduceAdd, Nat.reduceBEq, Nat.reduceLeDiff, Int.reduceLT, Int.reduceLE, Int.reduceNeg, Int.reduceBEq, Int.reduceBNe, Int.reduceToNat]
      refine AV.cond ?_ ?_ (fun hc => ?_) (fun hc => ?_) <;> (try simp only [go_sem, Nat.reduceSub, reduceIte, Nat.reduceEqDiff, Nat.reduceLT, Nat.reduceMul, Nat.reduceAdd, Nat.reduceBEq, Nat.reduceLeDiff, Int.reduceLT, Int.reduceLE, Int.reduceNeg, Int.reduceBEq, Int.reduceBNe, Int.reduceToNat] at hc) <;> (try simp only [go_sem, Nat.reduceSub, reduceIte, Nat.reduceEqDiff, Nat.reduceLT, Nat.reduceMul, Nat.reduceAdd, Nat.reduceBEq, Nat.reduceLeDiff, Int.reduceLT, Int.reduceLE, Int.reduceNeg, Int.reduceBEq, Int.reduceBNe, Int.reduceToNat])
      · refine AV.seq (AV.reg ?_)
        simp only [hN, c10R12, go_sem, Nat.reduceSub, reduceIte, Nat.reduceEqDiff, Nat.reduceLT, Nat.reduceMul, Nat.reduceAdd, Nat.reduceBEq, Nat.reduceLeDiff, Int.reduceLT, Int.reduceLE, Int.reduceNeg, Int.reduceBEq, Int.reduceBNe, Int.reduceToNat]
        refine AV.ret ?_
        try simp only [go_sem, Nat.reduceSub, reduceIte, Nat.reduceEqDiff, Nat.reduceLT, Nat.reduceMul, Nat.reduceAdd, Nat.reduceBEq, Nat.reduceLeDiff, Int.reduceLT, Int.reduceLE, Int.reduceNeg, Int.reduceBEq, Int.reduceBNe, Int.reduceToNat]
        refine atEnd_t (by simp only [go_sem, Nat.reduceSub, reduceIte, Nat.reduceEqDiff, Nat.reduceLT, Nat.reduceMul, Nat.reduceAdd, Nat.reduceBEq, Nat.reduceLeDiff, Int.reduceLT, Int.reduceLE, Int.reduceNeg, Int.reduceBEq, Int.reduceBNe, Int.reduceToNat] <;> rfl) ?_ (by simp)
        rw [checkS, if_neg (by omega), h4, hd, checkGo, if_neg (by simpa using hc)]
      · refine AV.skip ?_
        simp only [go_sem, Nat.reduceSub, reduceIte, Nat.reduceEqDiff, Nat.reduceLT, Nat.reduceMul, Nat.reduceAdd, Nat.reduceBEq, Nat.reduceLeDiff, Int.reduceLT, Int.reduceLE, Int.reduceNeg, Int.reduceBEq, Int.reduceBNe, Int.reduceToNat]
        refine AV.seq (AV.reg ?_)
        simp only [hN, c10R13, go_sem, Nat.reduceSub, reduceIte, Nat.reduceEqDiff, Nat.reduceLT, Nat.reduceMul, Nat.reduceAdd, Nat.reduceBEq, Nat.reduceLeDiff, Int.reduceLT, Int.reduceLE, Int.reduceNeg, Int.reduceBEq, Int.reduceBNe, Int.reduceToNat]
        refine AV.ret (atEnd_t (by simp only [go_sem, Nat.reduceSub, reduceIte, Nat.reduceEqDiff, Nat.reduceLT, Nat.reduceMul, Nat.reduceAdd, Nat.reduceBEq, Nat.reduceLeDiff, Int.reduceLT, Int.reduceLE, Int.reduceNeg, Int.reduceBEq, Int.reduceBNe, Int.reduceToNat] <;> rfl) ?_ (by simp))
        rw [checkS, if_neg (by omega), h4, hd, checkGo, if_pos (by simpa using hc)]
end Go.Proofs.Ytaefhdklkbohmaa
/- Trees of regular expressions, and the lists of pieces that they are. -/
namespace Go.Proofs.Ytaefhdklkbohmaa
open Go Go.RowKit

def z4 : S4 := ⟨0, 0, 0, 0⟩
inductive Rx where
  | none
  | one (s : S4)
  | cat (a b : Rx)
  | alt (a b : Rx)
  | star (a : Rx)
  | plus (a : Rx)
  | opt (a : Rx)
  deriving DecidableEq, Inhabited
def Rx.enc : Rx → List Pc
  | .none => [⟨0, z4⟩]
  | .one s => [⟨1, s⟩]
  | .cat a b => a.enc ++ b.enc ++ [⟨2, z4⟩]
  | .alt a b => a.enc ++ b.enc ++ [⟨3, z4⟩]
  | .star a => a.enc ++ [⟨4, z4⟩]
  | .plus a => a.enc ++ [⟨5, z4⟩]
  | .opt a => a.enc ++ [⟨6, z4⟩]
theorem Rx.enc_pos (t : Rx) : 0 < t.enc.length := by
  cases t <;> simp only [Rx.enc, List.length_append, List.length_cons, List.length_nil] <;> omega
theorem fitsGo_cons (p : Pc) (ps : List Pc) (n : Int) (h1 : 0 ≤ takes40 p.kind) (h2 : takes40 p.kind ≤ n) : fitsGo (p :: ps) n = fitsGo ps (n - takes40 p.kind + 1) := by
  rw [fitsGo, if_neg (by omega)]
theorem tk0 : takes40 0 = 0 := rfl
theorem tk1 : takes40 1 = 0 := rfl
theorem tk2 : takes40 2 = 2 := rfl
theorem tk3 : takes40 3 = 2 := rfl
theorem tk4 : takes40 4 = 1 := rfl
theorem tk5 : takes40 5 = 1 := rfl
theorem tk6 : takes40 6 = 1 := rfl
theorem fitsGo_enc (t : Rx) : ∀ (rest : List Pc) (n : Int), 0 ≤ n → fitsGo (t.enc ++ rest) n = fitsGo rest (n + 1) := by
  induction t with
  | none => intro rest n h; simp only [Rx.enc, List.cons_append, List.nil_append]; rw [fitsGo_cons _ _ _ (by simp [tk0]) (by simp [tk0]; omega)]; simp [tk0]
  | one s => intro rest n h; simp only [Rx.enc, List.cons_append, List.nil_append]; rw [fitsGo_cons _ _ _ (by simp [tk1]) (by simp [tk1]; omega)]; simp [tk1]
  | cat a b iha ihb =>
    intro rest n h
    simp only [Rx.enc, List.append_assoc, List.cons_append, List.nil_append]
    rw [iha _ _ h, ihb _ _ (by omega), fitsGo_cons _ _ _ (by simp [tk2]) (by simp [tk2]; omega)]
    simp only [tk2]; congr 1; omega
  | alt a b iha ihb =>
    intro rest n h
    simp only [Rx.enc, List.append_assoc, List.cons_append, List.nil_append]
    rw [iha _ _ h, ihb _ _ (by omega), fitsGo_cons _ _ _ (by simp [tk3]) (by simp [tk3]; omega)]
    simp only [tk3]; congr 1; omega
  | star a iha =>
    intro rest n h
    simp only [Rx.enc, List.append_assoc, List.cons_append, List.nil_append]
    rw [iha _ _ h, fitsGo_cons _ _ _ (by simp [tk4]) (by simp [tk4]; omega)]
    simp only [tk4]; congr 1; omega
  | plus a iha =>
    intro rest n h
    simp only [Rx.enc, List.append_assoc, List.cons_append, List.nil_append]
    rw [iha _ _ h, fitsGo_cons _ _ _ (by simp [tk5]) (by simp [tk5]; omega)]
    simp only [tk5]; congr 1; omega
  | opt a iha =>
    intro rest n h
    simp only [Rx.enc, List.append_assoc, List.cons_append, List.nil_append]
    rw [iha _ _ h, fitsGo_cons _ _ _ (by simp [tk6]) (by simp [tk6]; omega)]
    simp only [tk6]; congr 1; omega
theorem fits_enc (t : Rx) : fitsGo t.enc 0 = true := by
  have := fitsGo_enc t [] 0 (by omega)
  rw [List.append_nil] at this
  rw [this]; rfl

/-! ### What passes the check is a tree -/
theorem checkGo_parse : ∀ (ps : List Pc) (st : List Rx), checkGo ps st.length = 0 → ∃ t : Rx, st.reverse.flatMap Rx.enc ++ ps = t.enc
  | [], st, h => by
    rw [checkGo] at h
    match st, h with
    | [], h => simp at h
    | [t], _ => exact ⟨t, by simp⟩
    | _ :: _ :: _, h => simp at h; omega
  | p :: ps, st, h => by
    rw [checkGo] at h
    by_cases hb : badPc p st.length = true
    · rw [if_pos hb] at h; cases h
    · rw [if_neg hb] at h
      have hb' : badPc p st.length = false := by simpa using hb
      unfold badPc at hb'
      cases hd : (decide (takes40 p.kind < 0) || decide (takes40 p.kind > (st.length : Int))) with
      | true => rw [hd] at hb'; simp at hb'
      | false =>
        rw [hd] at hb'
        simp only [cond_false] at hb'
        simp only [Bool.or_eq_false_iff, decide_eq_false_iff_not] at hd
        obtain ⟨h1, h2⟩ := hd
        obtain ⟨k, s⟩ := p
        simp only at h h1 h2 hb'
        have hk : k = 0 ∨ k = 1 ∨ k = 2 ∨ k = 3 ∨ k = 4 ∨ k = 5 ∨ k = 6 := by
          unfold takes40 at h1
          split at h1 <;> omega
        have hz : k ≠ 1 → s = z4 := by
          intro hne
          have : (k == 1) = false := by simpa using hne
          rw [this] at hb'
          simpa [z4] using hb'
        rcases hk with rfl | rfl | rfl | rfl | rfl | rfl | rfl
        · obtain ⟨t, ht⟩ := checkGo_parse ps (.none :: st) (by rw [← h]; congr 1 <;> simp [tk0])
          exact ⟨t, by rw [← ht, hz (by decide)]; simp [Rx.enc]⟩
        · obtain ⟨t, ht⟩ := checkGo_parse ps (.one s :: st) (by rw [← h]; congr 1 <;> simp [tk1])
          exact ⟨t, by rw [← ht]; simp [Rx.enc]⟩
        · match st, h, h2 with
          | [], _, h2 => simp [tk2] at h2
          | [_], _, h2 => simp [tk2] at h2
          | b :: a :: st, h, _ =>
            obtain ⟨t, ht⟩ := checkGo_parse ps (.cat a b :: st) (by rw [← h]; congr 1 <;> simp [tk2] <;> omega)
            exact ⟨t, by rw [← ht, hz (by decide)]; simp [Rx.enc]⟩
        · match st, h, h2 with
          | [], _, h2 => simp [tk3] at h2
          | [_], _, h2 => simp [tk3] at h2
          | b :: a :: st, h, _ =>
            obtain ⟨t, ht⟩ := checkGo_parse ps (.alt a b :: st) (by rw [← h]; congr 1 <;> simp [tk3] <;> omega)
            exact ⟨t, by rw [← ht, hz (by decide)]; simp [Rx.enc]⟩
        · match st, h, h2 with
          | [], _, h2 => simp [tk4] at h2
          | a :: st, h, _ =>
            obtain ⟨t, ht⟩ := checkGo_parse ps (.star a :: st) (by rw [← h]; congr 1 <;> simp [tk4])
            exact ⟨t, by rw [← ht, hz (by decide)]; simp [Rx.enc]⟩
        · match st, h, h2 with
          | [], _, h2 => simp [tk5] at h2
          | a :: st, h, _ =>
            obtain ⟨t, ht⟩ := checkGo_parse ps (.plus a :: st) (by rw [← h]; congr 1 <;> simp [tk5])
            exact ⟨t, by rw [← ht, hz (by decide)]; simp [Rx.enc]⟩
        · match st, h, h2 with
          | [], _, h2 => simp [tk6] at h2
          | a :: st, h, _ =>
            obtain ⟨t, ht⟩ := checkGo_parse ps (.opt a :: st) (by rw [← h]; congr 1 <;> simp [tk6])
            exact ⟨t, by rw [← ht, hz (by decide)]; simp [Rx.enc]⟩
theorem checkS_parse {r : List Pc} (h : checkS r = 0) : ∃ t : Rx, r = t.enc := by
  unfold checkS at h
  split at h
  · cases h
  · obtain ⟨t, ht⟩ := checkGo_parse r [] h
    exact ⟨t, by simpa using ht⟩

/-! ### Where a part begins -/
theorem getD_app (pre suf : List Pc) (p : Pc) : (pre ++ p :: suf).getD pre.length default = p := by simp
theorem startGo_enc (t : Rx) : ∀ (pre suf : List Pc) (n : Int), 1 ≤ n → startGo (pre ++ t.enc ++ suf) (pre ++ t.enc).length n = if n = 1 then (pre.length : Int) else startGo (pre ++ t.enc ++ suf) pre.length (n - 1) := by
  have leaf : ∀ (p : Pc), takes40 p.kind = 0 → ∀ (pre suf : List Pc) (n : Int), 1 ≤ n → startGo (pre ++ [p] ++ suf) (pre ++ [p]).length n = if n = 1 then (pre.length : Int) else startGo (pre ++ [p] ++ suf) pre.length (n - 1) := by
    intro p hp pre suf n hn
    have e : pre ++ [p] ++ suf = pre ++ p :: suf := by simp
    rw [e, List.length_append, List.length_singleton, startGo, getD_app, hp]
    by_cases h1 : n = 1
    · rw [if_pos h1, if_pos (by omega)]
    · rw [if_neg h1, if_neg (by omega)]; congr 1; omega
  have un : ∀ (p : Pc) (a : Rx), takes40 p.kind = 1 → (∀ (pre suf : List Pc) (n : Int), 1 ≤ n → startGo (pre ++ a.enc ++ suf) (pre ++ a.enc).length n = if n = 1 then (pre.length : Int) else startGo (pre ++ a.enc ++ suf) pre.length (n - 1)) →
      ∀ (pre suf : List Pc) (n : Int), 1 ≤ n → startGo (pre ++ (a.enc ++ [p]) ++ suf) (pre ++ (a.enc ++ [p])).length n = if n = 1 then (pre.length : Int) else startGo (pre ++ (a.enc ++ [p]) ++ suf) pre.length (n - 1) := by
    intro p a hp iha pre suf n hn
    have e : pre ++ (a.enc ++ [p]) ++ suf = (pre ++ a.enc) ++ p :: suf := by simp
    have e2 : (pre ++ (a.enc ++ [p])).length = (pre ++ a.enc).length + 1 := by simp; omega
    rw [e, e2, startGo, getD_app, hp, if_neg (by omega), show n - 1 + 1 = n by omega, iha _ _ _ hn]
  have bi : ∀ (p : Pc) (a b : Rx), takes40 p.kind = 2 → (∀ (pre suf : List Pc) (n : Int), 1 ≤ n → startGo (pre ++ a.enc ++ suf) (pre ++ a.enc).length n = if n = 1 then (pre.length : Int) else startGo (pre ++ a.enc ++ suf) pre.length (n - 1)) →
      (∀ (pre suf : List Pc) (n : Int), 1 ≤ n → startGo (pre ++ b.enc ++ suf) (pre ++ b.enc).length n = if n = 1 then (pre.length : Int) else startGo (pre ++ b.enc ++ suf) pre.length (n - 1)) →
      ∀ (pre suf : List Pc) (n : Int), 1 ≤ n → startGo (pre ++ (a.enc ++ b.enc ++ [p]) ++ suf) (pre ++ (a.enc ++ b.enc ++ [p])).length n = if n = 1 then (pre.length : Int) else startGo (pre ++ (a.enc ++ b.enc ++ [p]) ++ suf) pre.length (n - 1) := by
    intro p a b hp iha ihb pre suf n hn
    have e : pre ++ (a.enc ++ b.enc ++ [p]) ++ suf = ((pre ++ a.enc) ++ b.enc) ++ p :: suf := by simp
    have e2 : (pre ++ (a.enc ++ b.enc ++ [p])).length = ((pre ++ a.enc) ++ b.enc).length + 1 := by simp; omega
    rw [e, e2, startGo, getD_app, hp, if_neg (by omega), ihb _ _ _ (by omega), if_neg (by omega)]
    have e3 : ((pre ++ a.enc) ++ b.enc) ++ p :: suf = (pre ++ a.enc) ++ (b.enc ++ p :: suf) := by simp
    rw [e3, show n - 1 + 2 - 1 = n by omega, iha _ _ _ hn]
  induction t with
  | none => exact leaf _ tk0
  | one s => exact leaf ⟨1, s⟩ tk1
  | cat a b iha ihb => exact bi ⟨2, z4⟩ a b tk2 iha ihb
  | alt a b iha ihb => exact bi ⟨3, z4⟩ a b tk3 iha ihb
  | star a iha => exact un ⟨4, z4⟩ a tk4 iha
  | plus a iha => exact un ⟨5, z4⟩ a tk5 iha
  | opt a iha => exact un ⟨6, z4⟩ a tk6 iha
theorem start_enc (a b : Rx) (suf : List Pc) : startGo (a.enc ++ b.enc ++ suf) (a.enc ++ b.enc).length 1 = a.enc.length := by
  rw [startGo_enc b a.enc suf 1 (by omega), if_pos rfl]
theorem enc_inj : ∀ (a b : Rx), a.enc = b.enc → a = b := by
  have last : ∀ (u v : List Pc) (p q : Pc), u ++ [p] = v ++ [q] → u = v ∧ p = q := by
    intro u v p q h
    have := List.append_inj' h rfl
    simpa using this
  have two : ∀ (a b c d : Rx), a.enc ++ b.enc = c.enc ++ d.enc → a.enc = c.enc ∧ b.enc = d.enc := by
    intro a b c d h
    have h1 := start_enc a b []
    have h2 := start_enc c d []
    rw [h, h2] at h1
    exact List.append_inj h (by omega)
  have leaf : ∀ (u : Rx) (p q : Pc), u.enc ++ [p] = [q] → False := by
    intro u p q h
    have h1 := congrArg List.length h
    have h2 := u.enc_pos
    simp only [List.length_append, List.length_cons, List.length_nil] at h1
    omega
  have leaf2 : ∀ (u v : Rx) (p q : Pc), u.enc ++ v.enc ++ [p] = [q] → False := by
    intro u v p q h
    have h1 := congrArg List.length h
    have h2 := u.enc_pos
    simp only [List.length_append, List.length_cons, List.length_nil] at h1
    omega
  intro a
  induction a with
  | none =>
    intro b h
    cases b <;> simp only [Rx.enc] at h
    · rfl
    · simp at h
    · exact (leaf2 _ _ _ _ h.symm).elim
    · exact (leaf2 _ _ _ _ h.symm).elim
    · exact (leaf _ _ _ h.symm).elim
    · exact (leaf _ _ _ h.symm).elim
    · exact (leaf _ _ _ h.symm).elim
  | one s =>
    intro b h
    cases b <;> simp only [Rx.enc] at h
    · simp at h
    · simp at h; rw [h]
    · exact (leaf2 _ _ _ _ h.symm).elim
    · exact (leaf2 _ _ _ _ h.symm).elim
    · exact (leaf _ _ _ h.symm).elim
    · exact (leaf _ _ _ h.symm).elim
    · exact (leaf _ _ _ h.symm).elim
  | cat x y ihx ihy =>
    intro b h
    cases b <;> simp only [Rx.enc] at h
    · exact (leaf2 _ _ _ _ h).elim
    · exact (leaf2 _ _ _ _ h).elim
    · obtain ⟨h1, h2⟩ := two _ _ _ _ (last _ _ _ _ h).1
      rw [ihx _ h1, ihy _ h2]
    all_goals (have := (last _ _ _ _ h).2; simp at this)
  | alt x y ihx ihy =>
    intro b h
    cases b <;> simp only [Rx.enc] at h
    · exact (leaf2 _ _ _ _ h).elim
    · exact (leaf2 _ _ _ _ h).elim
    rotate_left
    · obtain ⟨h1, h2⟩ := two _ _ _ _ (last _ _ _ _ h).1
      rw [ihx _ h1, ihy _ h2]
    all_goals (have := (last _ _ _ _ h).2; simp at this)
  | star x ihx =>
    intro b h
    cases b <;> simp only [Rx.enc] at h
    · exact (leaf _ _ _ h).elim
    · exact (leaf _ _ _ h).elim
    rotate_left 2
    · rw [ihx _ (last _ _ _ _ h).1]
    all_goals (have := (last _ _ _ _ h).2; simp at this)
  | plus x ihx =>
    intro b h
    cases b <;> simp only [Rx.enc] at h
    · exact (leaf _ _ _ h).elim
    · exact (leaf _ _ _ h).elim
    rotate_left 3
    · rw [ihx _ (last _ _ _ _ h).1]
    all_goals (have := (last _ _ _ _ h).2; simp at this)
  | opt x ihx =>
    intro b h
    cases b <;> simp only [Rx.enc] at h
    · exact (leaf _ _ _ h).elim
    · exact (leaf _ _ _ h).elim
    rotate_left 4
    · rw [ihx _ (last _ _ _ _ h).1]
    all_goals (have := (last _ _ _ _ h).2; simp at this)
end Go.Proofs.Ytaefhdklkbohmaa
/- Languages of trees, and their derivatives. -/
namespace Go.Proofs.Ytaefhdklkbohmaa
open Go Go.RowKit

inductive StarL (P : List Nat → Prop) : List Nat → Prop where
  | nil : StarL P []
  | app {u v : List Nat} (h : P u) (h' : StarL P v) : StarL P (u ++ v)
def Rx.L : Rx → List Nat → Prop
  | .none, w => w = []
  | .one s, w => ∃ c, w = [c] ∧ s.has c = true
  | .cat a b, w => ∃ u v, w = u ++ v ∧ a.L u ∧ b.L v
  | .alt a b, w => a.L w ∨ b.L w
  | .star a, w => StarL a.L w
  | .plus a, w => ∃ u v, w = u ++ v ∧ a.L u ∧ StarL a.L v
  | .opt a, w => w = [] ∨ a.L w
def Rx.nul : Rx → Bool
  | .none => true
  | .one _ => false
  | .cat a b => a.nul && b.nul
  | .alt a b => a.nul || b.nul
  | .star _ => true
  | .plus a => a.nul
  | .opt _ => true
theorem nul_L (t : Rx) : t.nul = true ↔ t.L [] := by
  induction t with
  | none => simp [Rx.nul, Rx.L]
  | one s => simp [Rx.nul, Rx.L]
  | cat a b iha ihb =>
    simp only [Rx.nul, Rx.L, Bool.and_eq_true, iha, ihb]
    constructor
    · intro h; exact ⟨[], [], rfl, h.1, h.2⟩
    · rintro ⟨u, v, h, h1, h2⟩
      obtain ⟨rfl, rfl⟩ := List.append_eq_nil_iff.1 h.symm
      exact ⟨h1, h2⟩
  | alt a b iha ihb => simp only [Rx.nul, Rx.L, Bool.or_eq_true, iha, ihb]
  | star a _ => simp only [Rx.nul, Rx.L, true_iff]; exact .nil
  | plus a iha =>
    simp only [Rx.nul, Rx.L, iha]
    constructor
    · intro h; exact ⟨[], [], rfl, h, .nil⟩
    · rintro ⟨u, v, h, h1, h2⟩
      obtain ⟨rfl, rfl⟩ := List.append_eq_nil_iff.1 h.symm
      exact h1
  | opt a _ => simp [Rx.nul, Rx.L]
theorem StarL.cons_iff {P : List Nat → Prop} {c : Nat} {w : List Nat} : StarL P (c :: w) ↔ ∃ u v, w = u ++ v ∧ P (c :: u) ∧ StarL P v := by
  constructor
  · intro h
    generalize e : c :: w = x at h
    induction h with
    | nil => cases e
    | @app u v h h' ih =>
      cases u with
      | nil => exact ih e
      | cons d u =>
        simp only [List.cons_append, List.cons.injEq] at e
        obtain ⟨rfl, rfl⟩ := e
        exact ⟨u, v, rfl, h, h'⟩
  · rintro ⟨u, v, rfl, h, h'⟩
    exact StarL.app (u := c :: u) h h'

/-- What is left: nothing, or a tree. -/
def Lo : Option Rx → List Nat → Prop
  | .none, _ => False
  | .some t, w => t.L w
def lcat : Option Rx → Option Rx → Option Rx
  | .some a, .some b => if a = .none then .some b else if b = .none then .some a else .some (.cat a b)
  | _, _ => .none
def lalt : Option Rx → Option Rx → Option Rx
  | .none, y => y
  | .some a, .none => .some a
  | .some a, .some b => if a.enc = b.enc then .some a else .some (.alt a b)
def der (c : Nat) : Rx → Option Rx
  | .none => .none
  | .one s => if s.has c = true then .some .none else .none
  | .cat a b => if a.nul = true then lalt (lcat (der c a) (.some b)) (der c b) else lcat (der c a) (.some b)
  | .alt a b => lalt (der c a) (der c b)
  | .star a => lcat (der c a) (.some (.star a))
  | .plus a => lcat (der c a) (.some (.star a))
  | .opt a => der c a
theorem Lo_some (t : Rx) (w : List Nat) : Lo (.some t) w ↔ t.L w := Iff.rfl
theorem lcat_L (x y : Option Rx) (w : List Nat) : Lo (lcat x y) w ↔ ∃ u v, w = u ++ v ∧ Lo x u ∧ Lo y v := by
  cases x with
  | none => simp [lcat, Lo]
  | some a =>
    cases y with
    | none => simp [lcat, Lo]
    | some b =>
      simp only [lcat]
      split
      · rename_i e; subst e
        simp only [Lo, Rx.L]
        constructor
        · intro h; exact ⟨[], w, rfl, rfl, h⟩
        · rintro ⟨u, v, rfl, rfl, h⟩; exact h
      · split
        · rename_i _ e; subst e
          simp [Lo, Rx.L]
        · simp [Lo, Rx.L]
theorem lalt_L (x y : Option Rx) (w : List Nat) : Lo (lalt x y) w ↔ Lo x w ∨ Lo y w := by
  cases x with
  | none => simp [lalt, Lo]
  | some a =>
    cases y with
    | none => simp [lalt, Lo]
    | some b =>
      simp only [lalt]
      split
      · rename_i e
        rw [enc_inj _ _ e]; simp [Lo]
      · simp [Lo, Rx.L]
theorem der_L (c : Nat) (t : Rx) : ∀ w, Lo (der c t) w ↔ t.L (c :: w) := by
  induction t with
  | none => intro w; simp [der, Lo, Rx.L]
  | one s =>
    intro w
    simp only [der, Rx.L]
    split
    · rename_i h
      simp only [Lo, Rx.L, List.cons.injEq]
      constructor
      · rintro rfl; exact ⟨c, ⟨rfl, rfl⟩, h⟩
      · rintro ⟨d, ⟨_, h⟩, _⟩; exact h
    · rename_i h
      simp only [Lo, false_iff]
      rintro ⟨d, h1, h2⟩
      simp only [List.cons.injEq] at h1
      exact h (h1.1 ▸ h2)
  | cat a b iha ihb =>
    intro w
    simp only [der]
    have h1 : (Rx.cat a b).L (c :: w) ↔ (∃ u v, w = u ++ v ∧ a.L (c :: u) ∧ b.L v) ∨ (a.L [] ∧ b.L (c :: w)) := by
      simp only [Rx.L]
      constructor
      · rintro ⟨u, v, h, h1, h2⟩
        cases u with
        | nil => exact .inr ⟨h1, by rw [h]; exact h2⟩
        | cons d u =>
          simp only [List.cons_append, List.cons.injEq] at h
          exact .inl ⟨u, v, h.2, h.1 ▸ h1, h2⟩
      · rintro (⟨u, v, rfl, h1, h2⟩ | ⟨h1, h2⟩)
        · exact ⟨c :: u, v, rfl, h1, h2⟩
        · exact ⟨[], c :: w, rfl, h1, h2⟩
    rw [h1, ← nul_L a]
    split
    · rename_i hn
      rw [lalt_L, lcat_L, ihb]
      simp only [iha, hn, true_and]
      rfl
    · rename_i hn
      rw [lcat_L]
      simp only [iha, hn, Bool.false_eq_true, false_and, or_false]
      rfl
  | alt a b iha ihb =>
    intro w
    simp only [der, lalt_L, iha, ihb, Rx.L]
  | star a iha =>
    intro w
    simp only [der, lcat_L, iha, Rx.L, Lo_some]
    exact StarL.cons_iff.symm
  | plus a iha =>
    intro w
    simp only [der, lcat_L, iha, Rx.L, Lo_some]
    constructor
    · rintro ⟨u, v, rfl, h1, h2⟩
      exact ⟨c :: u, v, rfl, h1, h2⟩
    · rintro ⟨u, v, h, h1, h2⟩
      cases u with
      | nil =>
        simp only [List.nil_append] at h
        subst h
        exact StarL.cons_iff.1 h2
      | cons d u =>
        simp only [List.cons_append, List.cons.injEq] at h
        exact ⟨u, v, h.2, h.1 ▸ h1, h2⟩
  | opt a iha =>
    intro w
    simp only [der, iha, Rx.L]
    simp

/-! ### How large it is -/
def olen : Option Rx → Nat
  | .none => 0
  | .some t => t.enc.length
theorem olen_lcat (x : Option Rx) (b : Rx) : olen (lcat x (.some b)) ≤ olen x + b.enc.length + 1 := by
  cases x with
  | none => simp [lcat, olen]
  | some a =>
    simp only [lcat]
    split
    · simp [olen]; omega
    · split
      · simp [olen]; omega
      · simp [olen, Rx.enc]; omega
theorem olen_lalt (x y : Option Rx) : olen (lalt x y) ≤ olen x + olen y + 1 := by
  cases x with
  | none => simp [lalt]; omega
  | some a =>
    cases y with
    | none => simp [lalt, olen]
    | some b =>
      simp only [lalt]
      split
      · simp [olen]; omega
      · simp [olen, Rx.enc]; omega
theorem der_len (c : Nat) (t : Rx) : olen (der c t) ≤ t.enc.length * (t.enc.length + 1) := by
  induction t with
  | none => simp [der, olen]
  | one s => simp only [der]; split <;> simp [olen, Rx.enc]
  | cat a b iha ihb =>
    have h1 := olen_lcat (der c a) b
    have h2 := olen_lalt (lcat (der c a) (.some b)) (der c b)
    have h3 : (Rx.cat a b).enc.length = a.enc.length + b.enc.length + 1 := by simp [Rx.enc]; omega
    simp only [der]
    rw [h3]
    generalize a.enc.length = m at *
    generalize b.enc.length = n at *
    have h4 : (m + n + 1) * (m + n + 1 + 1) = m * (m + 1) + n * (n + 1) + (2 * (m * n) + 2 * m + 2 * n + 2) := by
      simp only [Nat.mul_add, Nat.add_mul, Nat.mul_comm n m, Nat.mul_one, Nat.one_mul]; omega
    rw [h4]
    split <;> omega
  | alt a b iha ihb =>
    have h2 := olen_lalt (der c a) (der c b)
    have h3 : (Rx.alt a b).enc.length = a.enc.length + b.enc.length + 1 := by simp [Rx.enc]; omega
    simp only [der]
    rw [h3]
    generalize a.enc.length = m at *
    generalize b.enc.length = n at *
    have h4 : (m + n + 1) * (m + n + 1 + 1) = m * (m + 1) + n * (n + 1) + (2 * (m * n) + 2 * m + 2 * n + 2) := by
      simp only [Nat.mul_add, Nat.add_mul, Nat.mul_comm n m, Nat.mul_one, Nat.one_mul]; omega
    rw [h4]
    omega
  | star a iha =>
    have h1 := olen_lcat (der c a) (.star a)
    have h3 : (Rx.star a).enc.length = a.enc.length + 1 := by simp [Rx.enc]
    have hp := a.enc_pos
    simp only [der]
    rw [h3] at h1 ⊢
    generalize a.enc.length = m at *
    have h4 : (m + 1) * (m + 1 + 1) = m * (m + 1) + (2 * m + 2) := by
      simp only [Nat.mul_add, Nat.add_mul, Nat.mul_one, Nat.one_mul]; omega
    rw [h4]
    omega
  | plus a iha =>
    have h1 := olen_lcat (der c a) (.star a)
    have h3 : (Rx.star a).enc.length = a.enc.length + 1 := by simp [Rx.enc]
    have h3' : (Rx.plus a).enc.length = a.enc.length + 1 := by simp [Rx.enc]
    have hp := a.enc_pos
    simp only [der]
    rw [h3] at h1
    rw [h3']
    generalize a.enc.length = m at *
    have h4 : (m + 1) * (m + 1 + 1) = m * (m + 1) + (2 * m + 2) := by
      simp only [Nat.mul_add, Nat.add_mul, Nat.mul_one, Nat.one_mul]; omega
    rw [h4]
    omega
  | opt a iha =>
    have h3' : (Rx.opt a).enc.length = a.enc.length + 1 := by simp [Rx.enc]
    simp only [der]
    rw [h3']
    refine Nat.le_trans iha ?_
    exact Nat.mul_le_mul (by omega) (by omega)

/-! ### First bytes -/
def Rx.firsts : Rx → S4
  | .none => z4
  | .one s => s
  | .cat a b => if a.nul = true then a.firsts.or b.firsts else a.firsts
  | .alt a b => a.firsts.or b.firsts
  | .star a => a.firsts
  | .plus a => a.firsts
  | .opt a => a.firsts
theorem or_has (a b : S4) (c : Nat) : (a.or b).has c = (a.has c || b.has c) := by
  unfold S4.has S4.or S4.word
  generalize c / 64 = q
  match q with
  | 0 => simp
  | 1 => simp
  | 2 => simp
  | _ + 3 => simp
theorem lcat_none (x : Option Rx) (b : Rx) : (lcat x (.some b)).isSome = x.isSome := by
  cases x with
  | none => rfl
  | some a =>
    simp only [lcat]
    split
    · rfl
    · split <;> rfl
theorem lalt_none (x y : Option Rx) : (lalt x y).isSome = (x.isSome || y.isSome) := by
  cases x with
  | none => simp [lalt]
  | some a =>
    cases y with
    | none => rfl
    | some b => simp only [lalt]; split <;> rfl
theorem der_firsts (c : Nat) (t : Rx) : (der c t).isSome = t.firsts.has c := by
  induction t with
  | none =>
    have : z4.has c = false := by
      unfold S4.has S4.word z4
      generalize c / 64 = q
      match q with
      | 0 => simp
      | 1 => simp
      | 2 => simp
      | _ + 3 => simp
    simp [der, Rx.firsts, this]
  | one s => simp only [der, Rx.firsts]; split <;> simp_all
  | cat a b iha ihb =>
    simp only [der, Rx.firsts]
    split
    · rw [lalt_none, lcat_none, iha, ihb, or_has]
    · rw [lcat_none, iha]
  | alt a b iha ihb => simp only [der, Rx.firsts]; rw [lalt_none, iha, ihb, or_has]
  | star a iha => simp only [der, Rx.firsts]; rw [lcat_none, iha]
  | plus a iha => simp only [der, Rx.firsts]; rw [lcat_none, iha]
  | opt a iha => simp only [der, Rx.firsts]; exact iha
end Go.Proofs.Ytaefhdklkbohmaa
