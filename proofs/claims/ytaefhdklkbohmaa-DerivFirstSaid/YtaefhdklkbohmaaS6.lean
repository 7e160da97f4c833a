/- A part of the proof: E3x, G5, H4, H5, P4, H6, Q0, K1. No condition. -/
import Derived.Test.YtaefhdklkbohmaaS4
import Derived.Test.YtaefhdklkbohmaaProg
import Derived.KernelRfl
import Derived.WalkKit
import Derived.ProofKit
import Derived.OpenShut
import Derived.ShutString
import Derived.ChangeOld
import Derived.Below
import Derived.SizedLaws
set_option linter.unusedSimpArgs false
set_option linter.unusedVariables false
set_option linter.unusedSectionVars false
/- Compact code of the functions, and that it is what the program has. Printed by ac.py. -/
namespace Go.Proofs.Ytaefhdklkbohmaa
open Go Go.RowKit
/-! bosket/bosketlaw05.DerivFirst -/
def c4R0 : AC :=
  .reg false [{ dst := some 4, op := .pure (.mv (.const (.bool false))) }]
def c4R1 : AC :=
  .reg false [{ dst := some 7, op := .call false 8 [] },
    { dst := some 8, op := .pure (.not (.tmp 7)) }]
def c4R2 : AC :=
  .reg false [{ dst := some 4, op := .pure (.mv (.const (.bool false))) }]
def c4P1 : AC := .seq c4R2 .ret
def c4P2 : AC := .cond (.tmp 8) c4P1 .skip
def c4P3 : AC := .seq c4R1 c4P2
def c4R3 : AC :=
  .reg false [{ dst := some 9, op := .pure (.mv (.tmp 0)) },
    { dst := some 10, op := .pure (.len 5 (.tmp 9)) },
    { dst := some 11, op := .pure (.bin .gtr .i64 (.tmp 10) (.const (.int .i64 60))) },
    { dst := some 12, op := .pure (.mv (.tmp 11)) },
    { dst := some 13, op := .pure (.mv (.tmp 0)), g := some (12, false) },
    { dst := some 14, op := .call false 10 [(.tmp 13)], g := some (12, false) },
    { dst := some 15, op := .pure (.bin .neq .i64 (.tmp 14) (.const (.int .i64 0))), g := some (12, false) },
    { dst := some 16, op := .pure (.pick (.tmp 12) (.const (.bool true)) (.tmp 15)) }]
def c4R4 : AC :=
  .reg false [{ dst := some 4, op := .pure (.mv (.const (.bool true))) }]
def c4P4 : AC := .seq c4R4 .ret
def c4P5 : AC := .cond (.tmp 16) c4P4 .skip
def c4P6 : AC := .seq c4R3 c4P5
def c4R5 : AC :=
  .reg false [{ dst := some 18, op := .pure (.mv (.tmp 0)) },
    { dst := some 19, op := .call false 13 [(.tmp 18)] },
    { dst := some 17, op := .pure (.mv (.tmp 19)) },
    { dst := some 20, op := .pure (.ext (.tmp 17) 0) },
    { dst := some 21, op := .pure (.ext (.tmp 17) 1) },
    { dst := some 5, op := .alloc [.sh, .sh, .sh, .sh] (.agg [.int .u64 0, .int .u64 0, .int .u64 0, .int .u64 0]) },
    { dst := none, op := .sto 4 (.tmp 5) (.tmp 20) },
    { dst := some 6, op := .pure (.mv (.tmp 21)) }]
def c4R6 : AC :=
  .reg true [{ dst := some 22, op := .pure (.mv (.tmp 0)), unk := [24], tch := some [22] },
    { dst := some 23, op := .call false 14 [(.tmp 22)], unk := [24], tch := some [23] },
    { dst := some 24, op := .pure (.mv (.tmp 6)), unk := [22, 23], tch := some [24] },
    { dst := some 25, op := .pure (.beq false (.tmp 23) (.tmp 24)), tch := some [25] },
    { dst := some 26, op := .pure (.mv (.tmp 25)), tch := some [26] },
    { dst := some 27, op := .pure (.mv (.tmp 0)), g := some (26, true), unk := [29], tch := some [27] },
    { dst := some 28, op := .call false 15 [(.tmp 27)], g := some (26, true), unk := [29], tch := some [28] },
    { dst := some 29, op := .pure (.load 4 true (.tmp 5)), g := some (26, true), unk := [27, 28], tch := some [29] },
    { dst := some 30, op := .pure (.aeq false [.int .u64, .int .u64, .int .u64, .int .u64] (.tmp 28) (.tmp 29)), g := some (26, true), tch := some [30] },
    { dst := some 31, op := .pure (.pick (.tmp 26) (.tmp 30) (.const (.bool false))), tch := some [31] },
    { dst := some 32, op := .pure (.mv (.tmp 31)), tch := some [32] },
    { dst := some 33, op := .pure (.mv (.tmp 0)), g := some (32, true), unk := [34, 37, 38, 39], tch := some [33] },
    { dst := some 34, op := .pure (.mv (.tmp 1)), g := some (32, true), unk := [33, 37, 38, 39], tch := some [34] },
    { dst := some 35, op := .call false 16 [(.tmp 33), (.tmp 34)], g := some (32, true), unk := [37, 38, 39], tch := some [35] },
    { dst := some 36, op := .pure (.fld 0 1 false (.tmp 35)), g := some (32, true), unk := [37, 38, 39, 40], tch := some [36] },
    { dst := some 37, op := .pure (.load 4 true (.tmp 5)), g := some (32, true), unk := [33, 34, 35, 36, 38, 39], tch := some [37] },
    { dst := some 38, op := .pure (.mv (.tmp 1)), g := some (32, true), unk := [33, 34, 35, 36, 37], tch := some [38] },
    { dst := some 39, op := .pure (.conv .i64 .u8 (.tmp 38)), g := some (32, true), unk := [33, 34, 35, 36, 37], tch := some [39] },
    { dst := some 40, op := .call false 17 [(.tmp 37), (.tmp 39)], g := some (32, true), unk := [36], tch := some [40] },
    { dst := some 41, op := .pure (.beq true (.tmp 36) (.tmp 40)), g := some (32, true), tch := some [41] },
    { dst := some 42, op := .pure (.pick (.tmp 32) (.tmp 41) (.const (.bool false))), tch := some [42] },
    { dst := some 4, op := .pure (.mv (.tmp 42)), tch := some [4] }]
def c4P7 : AC := .seq c4R6 .ret
def c4P8 : AC := .seq c4R5 c4P7
def c4P9 : AC := .seq c4P6 c4P8
def c4P10 : AC := .seq c4P3 c4P9
def c4P11 : AC := .seq c4R0 c4P10
def c4 : AC := c4P11
def r4 : List RV := [.tmp 4]
/-! bosket/bosketref05.First -/
def c13R0 : AC :=
  .reg false [{ dst := some 2, op := .alloc [.sh, .sh, .sh, .sh] (.agg [.int .u64 0, .int .u64 0, .int .u64 0, .int .u64 0]) },
    { dst := some 3, op := .pure (.mv (.const (.bool false))) }]
def c13R1 : AC :=
  .reg false [{ dst := some 16, op := .pure (.mv (.tmp 0)) },
    { dst := some 17, op := .pure (.mv (.tmp 0)) },
    { dst := some 18, op := .pure (.len 5 (.tmp 17)) },
    { dst := some 19, op := .pure (.bin .sub .i64 (.tmp 18) (.const (.int .i64 1))) },
    { dst := some 20, op := .pure (.iadr 5 .i64 (.tmp 16) (.tmp 19)) },
    { dst := some 21, op := .pure (.load 5 true (.tmp 20)) },
    { dst := some 4, op := .alloc [.sh, .sh, .sh, .sh, .sh] (.agg [.int .i64 0, .int .u64 0, .int .u64 0, .int .u64 0, .int .u64 0]) },
    { dst := none, op := .sto 5 (.tmp 4) (.tmp 21) }]
def c13R2 : AC :=
  .reg false [{ dst := some 22, op := .pure (.mv (.tmp 0)) },
    { dst := some 23, op := .call false 42 [(.tmp 22)] },
    { dst := some 5, op := .pure (.mv (.tmp 23)) }]
def c13R3 : AC :=
  .reg false [{ dst := some 24, op := .pure (.fadr 0 (.tmp 4)) },
    { dst := some 25, op := .pure (.load 1 false (.tmp 24)) }]
def c13R4 : AC :=
  .reg false [{ dst := some 27, op := .pure (.bin .eql .i64 (.tmp 25) (.const (.int .i64 0))) },
    { dst := some 26, op := .pure (.mv (.tmp 27)) }]
def c13R5 : AC :=
  .reg false [{ dst := some 28, op := .pure (.bld [.int .u64 0, .int .u64 0, .int .u64 0, .int .u64 0] []) },
    { dst := none, op := .sto 4 (.tmp 2) (.tmp 28) },
    { dst := some 3, op := .pure (.mv (.const (.bool true))) }]
def c13P1 : AC := .seq c13R5 .ret
def c13R6 : AC :=
  .reg false [{ dst := some 30, op := .pure (.bin .eql .i64 (.tmp 25) (.const (.int .i64 1))) },
    { dst := some 29, op := .pure (.mv (.tmp 30)) }]
def c13R7 : AC :=
  .reg false [{ dst := some 31, op := .pure (.fadr 1 (.tmp 4)) },
    { dst := some 32, op := .pure (.load 4 true (.tmp 31)) },
    { dst := none, op := .sto 4 (.tmp 2) (.tmp 32) },
    { dst := some 3, op := .pure (.mv (.const (.bool false))) }]
def c13P2 : AC := .seq c13R7 .ret
def c13R8 : AC :=
  .reg false [{ dst := some 34, op := .pure (.bin .eql .i64 (.tmp 25) (.const (.int .i64 2))) },
    { dst := some 33, op := .pure (.mv (.tmp 34)) }]
def c13R9 : AC :=
  .reg false [{ dst := some 36, op := .pure (.mv (.tmp 5)) },
    { dst := some 37, op := .pure (.iadr 1 .i64 (.tmp 36) (.const (.int .i64 0))) },
    { dst := some 38, op := .pure (.load 1 false (.tmp 37)) },
    { dst := some 39, op := .call false 13 [(.tmp 38)] },
    { dst := some 35, op := .pure (.mv (.tmp 39)) },
    { dst := some 40, op := .pure (.ext (.tmp 35) 0) },
    { dst := some 41, op := .pure (.ext (.tmp 35) 1) },
    { dst := some 6, op := .alloc [.sh, .sh, .sh, .sh] (.agg [.int .u64 0, .int .u64 0, .int .u64 0, .int .u64 0]) },
    { dst := none, op := .sto 4 (.tmp 6) (.tmp 40) },
    { dst := some 7, op := .pure (.mv (.tmp 41)) }]
def c13R10 : AC :=
  .reg false [{ dst := some 43, op := .pure (.mv (.tmp 5)) },
    { dst := some 44, op := .pure (.iadr 1 .i64 (.tmp 43) (.const (.int .i64 1))) },
    { dst := some 45, op := .pure (.load 1 false (.tmp 44)) },
    { dst := some 46, op := .call false 13 [(.tmp 45)] },
    { dst := some 42, op := .pure (.mv (.tmp 46)) },
    { dst := some 47, op := .pure (.ext (.tmp 42) 0) },
    { dst := some 48, op := .pure (.ext (.tmp 42) 1) },
    { dst := some 8, op := .alloc [.sh, .sh, .sh, .sh] (.agg [.int .u64 0, .int .u64 0, .int .u64 0, .int .u64 0]) },
    { dst := none, op := .sto 4 (.tmp 8) (.tmp 47) },
    { dst := some 9, op := .pure (.mv (.tmp 48)) }]
def c13R11 : AC :=
  .reg false [{ dst := some 49, op := .pure (.mv (.tmp 7)) }]
def c13R12 : AC :=
  .reg false [{ dst := some 50, op := .pure (.load 4 true (.tmp 6)) },
    { dst := some 51, op := .pure (.load 4 true (.tmp 8)) },
    { dst := some 52, op := .call false 43 [(.const (.int .i64 0)), (.tmp 50), (.tmp 51)] },
    { dst := none, op := .sto 4 (.tmp 6) (.tmp 52) }]
def c13P3 : AC := .cond (.tmp 49) c13R12 .skip
def c13P4 : AC := .seq c13R11 c13P3
def c13R13 : AC :=
  .reg false [{ dst := some 53, op := .pure (.load 4 true (.tmp 6)) },
    { dst := some 54, op := .pure (.mv (.tmp 7)) },
    { dst := some 55, op := .pure (.mv (.tmp 54)) },
    { dst := some 56, op := .pure (.mv (.tmp 9)), g := some (55, true) },
    { dst := some 57, op := .pure (.pick (.tmp 55) (.tmp 56) (.const (.bool false))) },
    { dst := none, op := .sto 4 (.tmp 2) (.tmp 53) },
    { dst := some 3, op := .pure (.mv (.tmp 57)) }]
def c13P5 : AC := .seq c13R13 .ret
def c13P6 : AC := .seq c13P4 c13P5
def c13P7 : AC := .seq c13R10 c13P6
def c13P8 : AC := .seq c13R9 c13P7
def c13R14 : AC :=
  .reg false [{ dst := some 59, op := .pure (.bin .eql .i64 (.tmp 25) (.const (.int .i64 3))) },
    { dst := some 58, op := .pure (.mv (.tmp 59)) }]
def c13R15 : AC :=
  .reg false [{ dst := some 61, op := .pure (.mv (.tmp 5)) },
    { dst := some 62, op := .pure (.iadr 1 .i64 (.tmp 61) (.const (.int .i64 0))) },
    { dst := some 63, op := .pure (.load 1 false (.tmp 62)) },
    { dst := some 64, op := .call false 13 [(.tmp 63)] },
    { dst := some 60, op := .pure (.mv (.tmp 64)) },
    { dst := some 65, op := .pure (.ext (.tmp 60) 0) },
    { dst := some 66, op := .pure (.ext (.tmp 60) 1) },
    { dst := some 10, op := .alloc [.sh, .sh, .sh, .sh] (.agg [.int .u64 0, .int .u64 0, .int .u64 0, .int .u64 0]) },
    { dst := none, op := .sto 4 (.tmp 10) (.tmp 65) },
    { dst := some 11, op := .pure (.mv (.tmp 66)) }]
def c13R16 : AC :=
  .reg false [{ dst := some 68, op := .pure (.mv (.tmp 5)) },
    { dst := some 69, op := .pure (.iadr 1 .i64 (.tmp 68) (.const (.int .i64 1))) },
    { dst := some 70, op := .pure (.load 1 false (.tmp 69)) },
    { dst := some 71, op := .call false 13 [(.tmp 70)] },
    { dst := some 67, op := .pure (.mv (.tmp 71)) },
    { dst := some 72, op := .pure (.ext (.tmp 67) 0) },
    { dst := some 73, op := .pure (.ext (.tmp 67) 1) },
    { dst := some 12, op := .alloc [.sh, .sh, .sh, .sh] (.agg [.int .u64 0, .int .u64 0, .int .u64 0, .int .u64 0]) },
    { dst := none, op := .sto 4 (.tmp 12) (.tmp 72) },
    { dst := some 13, op := .pure (.mv (.tmp 73)) }]
def c13R17 : AC :=
  .reg false [{ dst := some 74, op := .pure (.load 4 true (.tmp 10)) },
    { dst := some 75, op := .pure (.load 4 true (.tmp 12)) },
    { dst := some 76, op := .call false 43 [(.const (.int .i64 0)), (.tmp 74), (.tmp 75)] },
    { dst := some 77, op := .pure (.mv (.tmp 11)) },
    { dst := some 78, op := .pure (.mv (.tmp 77)) },
    { dst := some 79, op := .pure (.mv (.tmp 13)), g := some (78, false) },
    { dst := some 80, op := .pure (.pick (.tmp 78) (.const (.bool true)) (.tmp 79)) },
    { dst := none, op := .sto 4 (.tmp 2) (.tmp 76) },
    { dst := some 3, op := .pure (.mv (.tmp 80)) }]
def c13P9 : AC := .seq c13R17 .ret
def c13P10 : AC := .seq c13R16 c13P9
def c13P11 : AC := .seq c13R15 c13P10
def c13P12 : AC := .cond (.tmp 58) c13P11 .skip
def c13P13 : AC := .seq c13R14 c13P12
def c13P14 : AC := .cond (.tmp 33) c13P8 c13P13
def c13P15 : AC := .seq c13R8 c13P14
def c13P16 : AC := .cond (.tmp 29) c13P2 c13P15
def c13P17 : AC := .seq c13R6 c13P16
def c13P18 : AC := .cond (.tmp 26) c13P1 c13P17
def c13P19 : AC := .seq c13R4 c13P18
def c13P20 : AC := .block 0 c13P19
def c13P21 : AC := .seq c13R3 c13P20
def c13R18 : AC :=
  .reg false [{ dst := some 82, op := .pure (.mv (.tmp 5)) },
    { dst := some 83, op := .pure (.iadr 1 .i64 (.tmp 82) (.const (.int .i64 0))) },
    { dst := some 84, op := .pure (.load 1 false (.tmp 83)) },
    { dst := some 85, op := .call false 13 [(.tmp 84)] },
    { dst := some 81, op := .pure (.mv (.tmp 85)) },
    { dst := some 86, op := .pure (.ext (.tmp 81) 0) },
    { dst := some 87, op := .pure (.ext (.tmp 81) 1) },
    { dst := some 14, op := .alloc [.sh, .sh, .sh, .sh] (.agg [.int .u64 0, .int .u64 0, .int .u64 0, .int .u64 0]) },
    { dst := none, op := .sto 4 (.tmp 14) (.tmp 86) },
    { dst := some 15, op := .pure (.mv (.tmp 87)) }]
def c13R19 : AC :=
  .reg true [{ dst := some 88, op := .pure (.load 4 true (.tmp 14)), unk := [89, 90, 91, 92, 93, 94], tch := some [88] },
    { dst := some 89, op := .pure (.mv (.tmp 15)), unk := [88], tch := some [89] },
    { dst := some 90, op := .pure (.mv (.tmp 89)), unk := [88], tch := some [90] },
    { dst := some 91, op := .pure (.fadr 0 (.tmp 4)), g := some (90, false), unk := [2, 88], tch := some [91] },
    { dst := some 92, op := .pure (.load 1 false (.tmp 91)), g := some (90, false), unk := [2, 88], tch := some [92] },
    { dst := some 93, op := .pure (.bin .neq .i64 (.tmp 92) (.const (.int .i64 5))), g := some (90, false), unk := [2, 88], tch := some [93] },
    { dst := some 94, op := .pure (.pick (.tmp 90) (.const (.bool true)) (.tmp 93)), unk := [2, 88], tch := some [94] },
    { dst := none, op := .sto 4 (.tmp 2) (.tmp 88), unk := [91, 92, 93, 94], tch := some [2] },
    { dst := some 3, op := .pure (.mv (.tmp 94)), tch := some [3] }]
def c13P22 : AC := .seq c13R19 .ret
def c13P23 : AC := .seq c13R18 c13P22
def c13P24 : AC := .seq c13P21 c13P23
def c13P25 : AC := .seq c13R2 c13P24
def c13P26 : AC := .seq c13R1 c13P25
def c13P27 : AC := .seq c13R0 c13P26
def c13 : AC := c13P27
def r13 : List RV := [.cell 2 4 true, .tmp 3]
/-! bosket/deriv.First -/
def c15R0 : AC :=
  .reg false [{ dst := some 2, op := .alloc [.sh, .sh, .sh, .sh] (.agg [.int .u64 0, .int .u64 0, .int .u64 0, .int .u64 0]) }]
def c15R1 : AC :=
  .reg false [{ dst := some 3, op := .nilO [.sh, .sh, .sh, .sh, .sh] }]
def c15R2 : AC :=
  .reg false [{ dst := some 9, op := .pure (.mv (.tmp 0)) },
    { dst := some 10, op := .pure (.len 5 (.tmp 9)) },
    { dst := some 11, op := .pure (.mv (.const (.int .i64 0))) }]
def c15R3 : AC :=
  .reg false [{ dst := some 12, op := .pure (.bin .lss .i64 (.tmp 11) (.tmp 10)) }]
def c15P1 : AC := .cond (.tmp 12) .skip (.exit 0)
def c15R4 : AC :=
  .reg false [{ dst := some 13, op := .pure (.iadr 5 .i64 (.tmp 9) (.tmp 11)) },
    { dst := some 14, op := .pure (.load 5 true (.tmp 13)) },
    { dst := some 5, op := .alloc [.sh, .sh, .sh, .sh, .sh] (.agg [.int .i64 0, .int .u64 0, .int .u64 0, .int .u64 0, .int .u64 0]) },
    { dst := none, op := .sto 5 (.tmp 5) (.tmp 14) }]
def c15R5 : AC :=
  .reg false [{ dst := some 15, op := .pure (.mv (.tmp 3)) },
    { dst := some 16, op := .pure (.len 5 (.tmp 15)) },
    { dst := some 6, op := .pure (.mv (.tmp 16)) }]
def c15R6 : AC :=
  .reg false [{ dst := some 17, op := .pure (.fadr 0 (.tmp 5)) },
    { dst := some 18, op := .pure (.load 1 false (.tmp 17)) }]
def c15R7 : AC :=
  .reg false [{ dst := some 20, op := .pure (.bin .eql .i64 (.tmp 18) (.const (.int .i64 0))) },
    { dst := some 19, op := .pure (.mv (.tmp 20)) }]
def c15R8 : AC :=
  .reg false [{ dst := some 21, op := .pure (.mv (.tmp 3)) },
    { dst := some 22, op := .pure (.bld [.int .u64 0, .int .u64 0, .int .u64 0, .int .u64 0, .bool false] [(4, 1, (.const (.bool true)))]) },
    { dst := some 23, op := .mks true true 5 1 [(0, 5, (.tmp 22))] },
    { dst := some 24, op := .app false false [.sh, .sh, .sh, .sh, .sh] (.tmp 21) (.tmp 23) },
    { dst := some 3, op := .take 24 }]
def c15R9 : AC :=
  .reg false [{ dst := some 26, op := .pure (.bin .eql .i64 (.tmp 18) (.const (.int .i64 1))) },
    { dst := some 25, op := .pure (.mv (.tmp 26)) }]
def c15R10 : AC :=
  .reg false [{ dst := some 27, op := .pure (.mv (.tmp 3)) },
    { dst := some 28, op := .pure (.fadr 1 (.tmp 5)) },
    { dst := some 29, op := .pure (.load 4 true (.tmp 28)) },
    { dst := some 30, op := .pure (.bld [.int .u64 0, .int .u64 0, .int .u64 0, .int .u64 0, .bool false] [(0, 4, (.tmp 29))]) },
    { dst := some 31, op := .mks true true 5 1 [(0, 5, (.tmp 30))] },
    { dst := some 32, op := .app false false [.sh, .sh, .sh, .sh, .sh] (.tmp 27) (.tmp 31) },
    { dst := some 3, op := .take 32 }]
def c15R11 : AC :=
  .reg false [{ dst := some 34, op := .pure (.bin .eql .i64 (.tmp 18) (.const (.int .i64 2))) },
    { dst := some 33, op := .pure (.mv (.tmp 34)) }]
def c15R12 : AC :=
  .reg true [{ dst := some 35, op := .pure (.mv (.tmp 3)), unk := [7, 8, 36, 37, 40, 41, 42, 43, 44], tch := some [35] },
    { dst := some 36, op := .pure (.mv (.tmp 6)), unk := [7, 8, 35, 40, 41, 42, 43, 44], tch := some [36] },
    { dst := some 37, op := .pure (.bin .sub .i64 (.tmp 36) (.const (.int .i64 2))), unk := [7, 8, 35, 40, 41, 42, 43, 44], tch := some [37] },
    { dst := some 38, op := .pure (.iadr 5 .i64 (.tmp 35) (.tmp 37)), unk := [7, 8, 40, 41, 42, 43, 44], tch := some [38] },
    { dst := some 39, op := .pure (.load 5 true (.tmp 38)), unk := [7, 8, 40, 41, 42, 43, 44], tch := some [39] },
    { dst := some 40, op := .pure (.mv (.tmp 3)), unk := [7, 8, 35, 36, 37, 38, 39, 41, 42], tch := some [40] },
    { dst := some 41, op := .pure (.mv (.tmp 6)), unk := [7, 8, 35, 36, 37, 38, 39, 40], tch := some [41] },
    { dst := some 42, op := .pure (.bin .sub .i64 (.tmp 41) (.const (.int .i64 1))), unk := [7, 8, 35, 36, 37, 38, 39, 40], tch := some [42] },
    { dst := some 43, op := .pure (.iadr 5 .i64 (.tmp 40) (.tmp 42)), unk := [7, 8, 35, 36, 37, 38, 39], tch := some [43] },
    { dst := some 44, op := .pure (.load 5 true (.tmp 43)), unk := [7, 8, 35, 36, 37, 38, 39], tch := some [44] },
    { dst := some 7, op := .alloc [.sh, .sh, .sh, .sh, .sh] (.agg [.int .u64 0, .int .u64 0, .int .u64 0, .int .u64 0, .bool false]), unk := [8, 35, 36, 37, 38, 39, 40, 41, 42, 43, 44], tch := some [7] },
    { dst := some 8, op := .alloc [.sh, .sh, .sh, .sh, .sh] (.agg [.int .u64 0, .int .u64 0, .int .u64 0, .int .u64 0, .bool false]), unk := [7, 35, 36, 37, 38, 39, 40, 41, 42, 43, 44], tch := some [8] },
    { dst := none, op := .sto 5 (.tmp 7) (.tmp 39), unk := [40, 41, 42, 43, 44], tch := some [7] },
    { dst := none, op := .sto 5 (.tmp 8) (.tmp 44), tch := some [8] }]
def c15R13 : AC :=
  .reg false [{ dst := some 45, op := .pure (.fadr 4 (.tmp 7)) },
    { dst := some 46, op := .pure (.load 1 false (.tmp 45)) }]
def c15R14 : AC :=
  .reg false [{ dst := some 47, op := .pure (.fadr 0 (.tmp 7)) },
    { dst := some 48, op := .pure (.load 4 true (.tmp 47)) },
    { dst := some 49, op := .pure (.fadr 0 (.tmp 8)) },
    { dst := some 50, op := .pure (.load 4 true (.tmp 49)) },
    { dst := some 51, op := .call false 44 [(.tmp 48), (.tmp 50)] },
    { dst := some 52, op := .pure (.fadr 0 (.tmp 7)) },
    { dst := none, op := .sto 4 (.tmp 52) (.tmp 51) }]
def c15P2 : AC := .cond (.tmp 46) c15R14 .skip
def c15P3 : AC := .seq c15R13 c15P2
def c15R15 : AC :=
  .reg true [{ dst := some 53, op := .pure (.mv (.tmp 3)), unk := [54, 55, 57, 58, 59, 60, 61, 62, 63, 64, 65, 66], tch := some [53] },
    { dst := some 54, op := .pure (.mv (.tmp 6)), unk := [53, 57, 58, 59, 60, 61, 62, 63, 64, 65, 66], tch := some [54] },
    { dst := some 55, op := .pure (.bin .sub .i64 (.tmp 54) (.const (.int .i64 2))), unk := [53, 57, 58, 59, 60, 61, 62, 63, 64, 65, 66], tch := some [55] },
    { dst := some 56, op := .pure (.slc 5 (.tmp 53) none (some (.i64, (.tmp 55)))), unk := [57, 58, 59, 60, 61, 62, 63, 64, 65, 66], tch := some [56] },
    { dst := some 57, op := .pure (.fadr 0 (.tmp 7)), unk := [53, 54, 55, 56, 59, 60, 61, 62, 63, 64], tch := some [57] },
    { dst := some 58, op := .pure (.load 4 true (.tmp 57)), unk := [53, 54, 55, 56, 59, 60, 61, 62, 63, 64], tch := some [58] },
    { dst := some 59, op := .pure (.fadr 4 (.tmp 7)), unk := [53, 54, 55, 56, 57, 58], tch := some [59] },
    { dst := some 60, op := .pure (.load 1 false (.tmp 59)), unk := [53, 54, 55, 56, 57, 58], tch := some [60] },
    { dst := some 61, op := .pure (.mv (.tmp 60)), unk := [53, 54, 55, 56, 57, 58], tch := some [61] },
    { dst := some 62, op := .pure (.fadr 4 (.tmp 8)), g := some (61, true), unk := [53, 54, 55, 56, 57, 58], tch := some [62] },
    { dst := some 63, op := .pure (.load 1 false (.tmp 62)), g := some (61, true), unk := [53, 54, 55, 56, 57, 58], tch := some [63] },
    { dst := some 64, op := .pure (.pick (.tmp 61) (.tmp 63) (.const (.bool false))), unk := [53, 54, 55, 56, 57, 58], tch := some [64] },
    { dst := some 65, op := .pure (.bld [.int .u64 0, .int .u64 0, .int .u64 0, .int .u64 0, .bool false] [(0, 4, (.tmp 58)), (4, 1, (.tmp 64))]), unk := [53, 54, 55, 56], tch := some [65] },
    { dst := some 66, op := .mks true true 5 1 [(0, 5, (.tmp 65))], unk := [53, 54, 55, 56], tch := some [66] },
    { dst := some 67, op := .app false false [.sh, .sh, .sh, .sh, .sh] (.tmp 56) (.tmp 66) },
    { dst := some 3, op := .take 67, tch := some [67, 3, 53, 54, 55, 56, 57, 58, 59, 60, 61, 62, 63, 64, 65, 66], kil := [53, 54, 55, 56, 57, 58, 59, 60, 61, 62, 63, 64, 65, 66] }]
def c15P4 : AC := .seq c15P3 c15R15
def c15P5 : AC := .seq c15R12 c15P4
def c15R16 : AC :=
  .reg false [{ dst := some 69, op := .pure (.bin .eql .i64 (.tmp 18) (.const (.int .i64 3))) },
    { dst := some 68, op := .pure (.mv (.tmp 69)) }]
def c15R17 : AC :=
  .reg true [{ dst := some 70, op := .pure (.mv (.tmp 3)), unk := [71, 72, 74, 75, 76, 77, 78, 79, 80, 81, 82, 83, 84, 85, 86, 87, 88, 89, 90, 91, 92, 93, 94, 95, 96, 97, 98, 99, 100, 101, 102], tch := some [70] },
    { dst := some 71, op := .pure (.mv (.tmp 6)), unk := [70, 74, 75, 76, 77, 78, 79, 80, 81, 82, 83, 84, 85, 86, 87, 88, 89, 90, 91, 92, 93, 94, 95, 96, 97, 98, 99, 100, 101, 102], tch := some [71] },
    { dst := some 72, op := .pure (.bin .sub .i64 (.tmp 71) (.const (.int .i64 2))), unk := [70, 74, 75, 76, 77, 78, 79, 80, 81, 82, 83, 84, 85, 86, 87, 88, 89, 90, 91, 92, 93, 94, 95, 96, 97, 98, 99, 100, 101, 102], tch := some [72] },
    { dst := some 73, op := .pure (.slc 5 (.tmp 70) none (some (.i64, (.tmp 72)))), unk := [74, 75, 76, 77, 78, 79, 80, 81, 82, 83, 84, 85, 86, 87, 88, 89, 90, 91, 92, 93, 94, 95, 96, 97, 98, 99, 100, 101, 102], tch := some [73] },
    { dst := some 74, op := .pure (.mv (.tmp 3)), unk := [70, 71, 72, 73, 75, 76, 80, 81, 82, 83, 84, 85, 87, 88, 89, 90, 91, 92], tch := some [74] },
    { dst := some 75, op := .pure (.mv (.tmp 6)), unk := [70, 71, 72, 73, 74, 80, 81, 82, 83, 84, 85, 87, 88, 89, 90, 91, 92], tch := some [75] },
    { dst := some 76, op := .pure (.bin .sub .i64 (.tmp 75) (.const (.int .i64 2))), unk := [70, 71, 72, 73, 74, 80, 81, 82, 83, 84, 85, 87, 88, 89, 90, 91, 92], tch := some [76] },
    { dst := some 77, op := .pure (.iadr 5 .i64 (.tmp 74) (.tmp 76)), unk := [70, 71, 72, 73, 80, 81, 82, 83, 84, 85, 87, 88, 89, 90, 91, 92], tch := some [77] },
    { dst := some 78, op := .pure (.fadr 0 (.tmp 77)), unk := [70, 71, 72, 73, 80, 81, 82, 83, 84, 85, 87, 88, 89, 90, 91, 92], tch := some [78] },
    { dst := some 79, op := .pure (.load 4 true (.tmp 78)), unk := [70, 71, 72, 73, 80, 81, 82, 83, 84, 85, 87, 88, 89, 90, 91, 92], tch := some [79] },
    { dst := some 80, op := .pure (.mv (.tmp 3)), unk := [70, 71, 72, 73, 74, 75, 76, 77, 78, 79, 81, 82, 87, 88, 89, 90, 91, 92], tch := some [80] },
    { dst := some 81, op := .pure (.mv (.tmp 6)), unk := [70, 71, 72, 73, 74, 75, 76, 77, 78, 79, 80, 87, 88, 89, 90, 91, 92], tch := some [81] },
    { dst := some 82, op := .pure (.bin .sub .i64 (.tmp 81) (.const (.int .i64 1))), unk := [70, 71, 72, 73, 74, 75, 76, 77, 78, 79, 80, 87, 88, 89, 90, 91, 92], tch := some [82] },
    { dst := some 83, op := .pure (.iadr 5 .i64 (.tmp 80) (.tmp 82)), unk := [70, 71, 72, 73, 74, 75, 76, 77, 78, 79, 87, 88, 89, 90, 91, 92], tch := some [83] },
    { dst := some 84, op := .pure (.fadr 0 (.tmp 83)), unk := [70, 71, 72, 73, 74, 75, 76, 77, 78, 79, 87, 88, 89, 90, 91, 92], tch := some [84] },
    { dst := some 85, op := .pure (.load 4 true (.tmp 84)), unk := [70, 71, 72, 73, 74, 75, 76, 77, 78, 79, 87, 88, 89, 90, 91, 92], tch := some [85] },
    { dst := some 86, op := .call false 44 [(.tmp 79), (.tmp 85)], unk := [70, 71, 72, 73, 87, 88, 89, 90, 91, 92], tch := some [86] },
    { dst := some 87, op := .pure (.mv (.tmp 3)), unk := [70, 71, 72, 73, 74, 75, 76, 77, 78, 79, 80, 81, 82, 83, 84, 85, 86, 88, 89], tch := some [87] },
    { dst := some 88, op := .pure (.mv (.tmp 6)), unk := [70, 71, 72, 73, 74, 75, 76, 77, 78, 79, 80, 81, 82, 83, 84, 85, 86, 87], tch := some [88] },
    { dst := some 89, op := .pure (.bin .sub .i64 (.tmp 88) (.const (.int .i64 2))), unk := [70, 71, 72, 73, 74, 75, 76, 77, 78, 79, 80, 81, 82, 83, 84, 85, 86, 87], tch := some [89] },
    { dst := some 90, op := .pure (.iadr 5 .i64 (.tmp 87) (.tmp 89)), unk := [70, 71, 72, 73, 74, 75, 76, 77, 78, 79, 80, 81, 82, 83, 84, 85, 86], tch := some [90] },
    { dst := some 91, op := .pure (.fadr 4 (.tmp 90)), unk := [70, 71, 72, 73, 74, 75, 76, 77, 78, 79, 80, 81, 82, 83, 84, 85, 86], tch := some [91] },
    { dst := some 92, op := .pure (.load 1 false (.tmp 91)), unk := [70, 71, 72, 73, 74, 75, 76, 77, 78, 79, 80, 81, 82, 83, 84, 85, 86], tch := some [92] },
    { dst := some 93, op := .pure (.mv (.tmp 92)), unk := [70, 71, 72, 73], tch := some [93] },
    { dst := some 94, op := .pure (.mv (.tmp 3)), g := some (93, false), unk := [70, 71, 72, 73, 95, 96], tch := some [94] },
    { dst := some 95, op := .pure (.mv (.tmp 6)), g := some (93, false), unk := [70, 71, 72, 73, 94], tch := some [95] },
    { dst := some 96, op := .pure (.bin .sub .i64 (.tmp 95) (.const (.int .i64 1))), g := some (93, false), unk := [70, 71, 72, 73, 94], tch := some [96] },
    { dst := some 97, op := .pure (.iadr 5 .i64 (.tmp 94) (.tmp 96)), g := some (93, false), unk := [70, 71, 72, 73], tch := some [97] },
    { dst := some 98, op := .pure (.fadr 4 (.tmp 97)), g := some (93, false), unk := [70, 71, 72, 73], tch := some [98] },
    { dst := some 99, op := .pure (.load 1 false (.tmp 98)), g := some (93, false), unk := [70, 71, 72, 73], tch := some [99] },
    { dst := some 100, op := .pure (.pick (.tmp 93) (.const (.bool true)) (.tmp 99)), unk := [70, 71, 72, 73], tch := some [100] },
    { dst := some 101, op := .pure (.bld [.int .u64 0, .int .u64 0, .int .u64 0, .int .u64 0, .bool false] [(0, 4, (.tmp 86)), (4, 1, (.tmp 100))]), unk := [70, 71, 72, 73], tch := some [101] },
    { dst := some 102, op := .mks true true 5 1 [(0, 5, (.tmp 101))], unk := [70, 71, 72, 73], tch := some [102] },
    { dst := some 103, op := .app false false [.sh, .sh, .sh, .sh, .sh] (.tmp 73) (.tmp 102) },
    { dst := some 3, op := .take 103, tch := some [103, 3, 70, 71, 72, 73, 74, 75, 76, 77, 78, 79, 80, 81, 82, 83, 84, 85, 86, 87, 88, 89, 90, 91, 92, 93, 94, 95, 96, 97, 98, 99, 100, 101, 102], kil := [70, 71, 72, 73, 74, 75, 76, 77, 78, 79, 80, 81, 82, 83, 84, 85, 86, 87, 88, 89, 90, 91, 92, 93, 94, 95, 96, 97, 98, 99, 100, 101, 102] }]
def c15R18 : AC :=
  .reg false [{ dst := some 105, op := .pure (.bin .eql .i64 (.tmp 18) (.const (.int .i64 4))) },
    { dst := some 104, op := .pure (.mv (.tmp 105)) }]
def c15R19 : AC :=
  .reg false [{ dst := some 106, op := .pure (.bin .eql .i64 (.tmp 18) (.const (.int .i64 6))) },
    { dst := some 104, op := .pure (.mv (.tmp 106)) }]
def c15P6 : AC := .cond (.tmp 104) .skip c15R19
def c15P7 : AC := .seq c15R18 c15P6
def c15R20 : AC :=
  .reg false [{ dst := some 107, op := .pure (.mv (.tmp 3)) },
    { dst := some 108, op := .pure (.mv (.tmp 6)) },
    { dst := some 109, op := .pure (.bin .sub .i64 (.tmp 108) (.const (.int .i64 1))) },
    { dst := some 110, op := .pure (.iadr 5 .i64 (.tmp 107) (.tmp 109)) },
    { dst := some 111, op := .pure (.fadr 4 (.tmp 110)) },
    { dst := none, op := .sto 1 (.tmp 111) (.const (.bool true)) }]
def c15P8 : AC := .cond (.tmp 104) c15R20 .skip
def c15P9 : AC := .seq c15P7 c15P8
def c15P10 : AC := .cond (.tmp 68) c15R17 c15P9
def c15P11 : AC := .seq c15R16 c15P10
def c15P12 : AC := .cond (.tmp 33) c15P5 c15P11
def c15P13 : AC := .seq c15R11 c15P12
def c15P14 : AC := .cond (.tmp 25) c15R10 c15P13
def c15P15 : AC := .seq c15R9 c15P14
def c15P16 : AC := .cond (.tmp 19) c15R8 c15P15
def c15P17 : AC := .seq c15R7 c15P16
def c15P18 : AC := .block 2 c15P17
def c15P19 : AC := .seq c15R6 c15P18
def c15P20 : AC := .seq c15R5 c15P19
def c15P21 : AC := .seq c15R4 c15P20
def c15P22 : AC := .block 1 c15P21
def c15R21 : AC :=
  .reg false [{ dst := some 112, op := .pure (.bin .add .i64 (.tmp 11) (.const (.int .i64 1))) },
    { dst := some 11, op := .pure (.mv (.tmp 112)) }]
def c15P23 : AC := .seq c15P22 c15R21
def c15P24 : AC := .seq c15P1 c15P23
def c15P25 : AC := .seq c15R3 c15P24
def c15P26 : AC := .loop c15P25
def c15P27 : AC := .block 0 c15P26
def c15P28 : AC := .seq c15R2 c15P27
def c15R22 : AC :=
  .reg false [{ dst := some 113, op := .pure (.mv (.tmp 3)) },
    { dst := some 114, op := .pure (.len 5 (.tmp 113)) },
    { dst := some 115, op := .pure (.bin .neq .i64 (.tmp 114) (.const (.int .i64 1))) }]
def c15R23 : AC :=
  .reg false [{ dst := some 116, op := .pure (.bld [.int .u64 0, .int .u64 0, .int .u64 0, .int .u64 0] []) },
    { dst := none, op := .sto 4 (.tmp 2) (.tmp 116) }]
def c15P29 : AC := .seq c15R23 .ret
def c15P30 : AC := .cond (.tmp 115) c15P29 .skip
def c15P31 : AC := .seq c15R22 c15P30
def c15R24 : AC :=
  .reg false [{ dst := some 117, op := .pure (.mv (.tmp 3)) },
    { dst := some 118, op := .pure (.iadr 5 .i64 (.tmp 117) (.const (.int .i64 0))) },
    { dst := some 119, op := .pure (.fadr 0 (.tmp 118)) },
    { dst := some 120, op := .pure (.load 4 true (.tmp 119)) },
    { dst := none, op := .sto 4 (.tmp 2) (.tmp 120) }]
def c15P32 : AC := .seq c15R24 .ret
def c15P33 : AC := .seq c15P31 c15P32
def c15P34 : AC := .seq c15P28 c15P33
def c15P35 : AC := .seq c15R1 c15P34
def c15P36 : AC := .seq c15R0 c15P35
def c15 : AC := c15P36
def r15 : List RV := [.cell 2 4 true]
/-! bosket/bosketref04.Parts -/
def c42R0 : AC :=
  .reg false [{ dst := some 2, op := .pure (.mv (.const (.sl 1 []))) }]
def c42R1 : AC :=
  .reg false [{ dst := some 8, op := .pure (.mv (.tmp 0)) },
    { dst := some 9, op := .pure (.len 5 (.tmp 8)) },
    { dst := some 10, op := .pure (.bin .sub .i64 (.tmp 9) (.const (.int .i64 1))) },
    { dst := some 3, op := .pure (.mv (.tmp 10)) }]
def c42R2 : AC :=
  .reg false [{ dst := some 4, op := .pure (.mv (.const (.sl 1 []))) }]
def c42R3 : AC :=
  .reg false [{ dst := some 11, op := .pure (.mv (.tmp 3)) },
    { dst := some 5, op := .pure (.mv (.tmp 11)) }]
def c42R4 : AC :=
  .reg false [{ dst := some 12, op := .pure (.mv (.tmp 0)) },
    { dst := some 13, op := .pure (.mv (.tmp 3)) },
    { dst := some 14, op := .pure (.iadr 5 .i64 (.tmp 12) (.tmp 13)) },
    { dst := some 15, op := .pure (.fadr 0 (.tmp 14)) },
    { dst := some 16, op := .pure (.load 1 false (.tmp 15)) },
    { dst := some 17, op := .call false 40 [(.tmp 16)] },
    { dst := some 6, op := .pure (.mv (.tmp 17)) }]
def c42R5 : AC :=
  .reg false [{ dst := some 18, op := .pure (.mv (.tmp 6)) },
    { dst := some 19, op := .pure (.bin .gtr .i64 (.tmp 18) (.const (.int .i64 0))) }]
def c42P1 : AC := .cond (.tmp 19) .skip (.exit 0)
def c42P2 : AC := .seq c42R5 c42P1
def c42R7 : AC :=
  .reg false [{ dst := some 22, op := .pure (.mv (.tmp 0)) },
    { dst := some 23, op := .pure (.mv (.tmp 5)) },
    { dst := some 24, op := .pure (.bin .sub .i64 (.tmp 23) (.const (.int .i64 1))) },
    { dst := some 25, op := .call false 84 [(.tmp 22), (.tmp 24)] },
    { dst := some 7, op := .pure (.mv (.tmp 25)) }]
def c42R8 : AC :=
  .reg false [{ dst := some 26, op := .pure (.mv (.tmp 0)) },
    { dst := some 27, op := .pure (.mv (.tmp 7)) },
    { dst := some 28, op := .pure (.mv (.tmp 5)) },
    { dst := some 29, op := .pure (.slc 5 (.tmp 26) (some (.i64, (.tmp 27))) (some (.i64, (.tmp 28)))) },
    { dst := some 30, op := .mks false false 1 1 [(0, 1, (.tmp 29))] },
    { dst := some 31, op := .pure (.mv (.tmp 4)) },
    { dst := some 32, op := .app true false [.sh] (.tmp 30) (.tmp 31) },
    { dst := some 4, op := .pure (.mv (.tmp 32)) }]
def c42R9 : AC :=
  .reg false [{ dst := some 33, op := .pure (.mv (.tmp 7)) },
    { dst := some 5, op := .pure (.mv (.tmp 33)) }]
def c42P3 : AC := .seq c42R8 c42R9
def c42P4 : AC := .seq c42R7 c42P3
def c42P5 : AC := .block 1 c42P4
def c42R6 : AC :=
  .reg false [{ dst := some 20, op := .pure (.mv (.tmp 6)) },
    { dst := some 21, op := .pure (.bin .sub .i64 (.tmp 20) (.const (.int .i64 1))) },
    { dst := some 6, op := .pure (.mv (.tmp 21)) }]
def c42P6 : AC := .seq c42P5 c42R6
def c42P7 : AC := .seq c42P2 c42P6
def c42P8 : AC := .loop c42P7
def c42P9 : AC := .block 0 c42P8
def c42P10 : AC := .seq c42R4 c42P9
def c42R10 : AC :=
  .reg false [{ dst := some 34, op := .pure (.mv (.tmp 4)) },
    { dst := some 2, op := .pure (.mv (.tmp 34)) }]
def c42P11 : AC := .seq c42R10 .ret
def c42P12 : AC := .seq c42P10 c42P11
def c42P13 : AC := .seq c42R3 c42P12
def c42P14 : AC := .seq c42R2 c42P13
def c42P15 : AC := .seq c42R1 c42P14
def c42P16 : AC := .seq c42R0 c42P15
def c42 : AC := c42P16
def r42 : List RV := [.tmp 2]
/-! bosket/bosketref02.Put -/
def c43R0 : AC :=
  .reg false [{ dst := some 4, op := .box (.tmp 1) },
    { dst := some 5, op := .box (.tmp 2) },
    { dst := some 6, op := .alloc [.sh, .sh, .sh, .sh] (.agg [.int .u64 0, .int .u64 0, .int .u64 0, .int .u64 0]) }]
def c43R1 : AC :=
  .reg false [{ dst := some 7, op := .nilO [.sh] }]
def c43R2 : AC :=
  .reg false [{ dst := some 8, op := .pure (.mv (.const (.int .i64 0))) }]
def c43R3 : AC :=
  .reg false [{ dst := some 11, op := .pure (.mv (.tmp 8)) },
    { dst := some 12, op := .pure (.bin .lss .i64 (.tmp 11) (.const (.int .i64 256))) }]
def c43P1 : AC := .cond (.tmp 12) .skip (.exit 0)
def c43P2 : AC := .seq c43R3 c43P1
def c43R5 : AC :=
  .reg true [{ dst := some 15, op := .pure (.load 4 true (.tmp 4)), unk := [16, 18, 19], tch := some [15] },
    { dst := some 16, op := .pure (.mv (.tmp 8)), unk := [15, 18, 19], tch := some [16] },
    { dst := some 17, op := .call false 17 [(.tmp 15), (.tmp 16)], unk := [18, 19], tch := some [17] },
    { dst := some 18, op := .pure (.load 4 true (.tmp 5)), unk := [15, 16, 17, 19], tch := some [18] },
    { dst := some 19, op := .pure (.mv (.tmp 8)), unk := [15, 16, 17, 18], tch := some [19] },
    { dst := some 20, op := .call false 17 [(.tmp 18), (.tmp 19)], tch := some [20] },
    { dst := some 9, op := .pure (.mv (.tmp 17)), tch := some [9] },
    { dst := some 10, op := .pure (.mv (.tmp 20)), tch := some [10] }]
def c43R6 : AC :=
  .reg false [{ dst := some 21, op := .pure (.mv (.tmp 0)) }]
def c43R8 : AC :=
  .reg false [{ dst := some 28, op := .pure (.bin .eql .i64 (.tmp 21) (.const (.int .i64 0))) },
    { dst := some 27, op := .pure (.mv (.tmp 28)) }]
def c43R9 : AC :=
  .reg false [{ dst := some 29, op := .pure (.mv (.tmp 7)) },
    { dst := some 30, op := .pure (.mv (.tmp 9)) },
    { dst := some 31, op := .pure (.mv (.tmp 30)) },
    { dst := some 32, op := .pure (.mv (.tmp 10)), g := some (31, false) },
    { dst := some 33, op := .pure (.pick (.tmp 31) (.const (.bool true)) (.tmp 32)) },
    { dst := some 34, op := .mks true false 1 1 [(0, 1, (.tmp 33))] },
    { dst := some 35, op := .app false false [.sh] (.tmp 29) (.tmp 34) },
    { dst := some 7, op := .take 35 }]
def c43R10 : AC :=
  .reg false [{ dst := some 37, op := .pure (.bin .eql .i64 (.tmp 21) (.const (.int .i64 1))) },
    { dst := some 36, op := .pure (.mv (.tmp 37)) }]
def c43R11 : AC :=
  .reg false [{ dst := some 38, op := .pure (.mv (.tmp 7)) },
    { dst := some 39, op := .pure (.mv (.tmp 9)) },
    { dst := some 40, op := .pure (.mv (.tmp 39)) },
    { dst := some 41, op := .pure (.mv (.tmp 10)), g := some (40, true) },
    { dst := some 42, op := .pure (.pick (.tmp 40) (.tmp 41) (.const (.bool false))) },
    { dst := some 43, op := .mks true false 1 1 [(0, 1, (.tmp 42))] },
    { dst := some 44, op := .app false false [.sh] (.tmp 38) (.tmp 43) },
    { dst := some 7, op := .take 44 }]
def c43R12 : AC :=
  .reg false [{ dst := some 46, op := .pure (.bin .eql .i64 (.tmp 21) (.const (.int .i64 2))) },
    { dst := some 45, op := .pure (.mv (.tmp 46)) }]
def c43R13 : AC :=
  .reg false [{ dst := some 47, op := .pure (.mv (.tmp 7)) },
    { dst := some 48, op := .pure (.mv (.tmp 9)) },
    { dst := some 49, op := .pure (.mv (.tmp 48)) },
    { dst := some 50, op := .pure (.mv (.tmp 10)), g := some (49, true) },
    { dst := some 51, op := .pure (.not (.tmp 50)), g := some (49, true) },
    { dst := some 52, op := .pure (.pick (.tmp 49) (.tmp 51) (.const (.bool false))) },
    { dst := some 53, op := .mks true false 1 1 [(0, 1, (.tmp 52))] },
    { dst := some 54, op := .app false false [.sh] (.tmp 47) (.tmp 53) },
    { dst := some 7, op := .take 54 }]
def c43R7 : AC :=
  .reg false [{ dst := some 22, op := .pure (.mv (.tmp 7)) },
    { dst := some 23, op := .pure (.mv (.tmp 9)) },
    { dst := some 24, op := .pure (.not (.tmp 23)) },
    { dst := some 25, op := .mks true false 1 1 [(0, 1, (.tmp 24))] },
    { dst := some 26, op := .app false false [.sh] (.tmp 22) (.tmp 25) },
    { dst := some 7, op := .take 26 }]
def c43P3 : AC := .cond (.tmp 45) c43R13 c43R7
def c43P4 : AC := .seq c43R12 c43P3
def c43P5 : AC := .cond (.tmp 36) c43R11 c43P4
def c43P6 : AC := .seq c43R10 c43P5
def c43P7 : AC := .cond (.tmp 27) c43R9 c43P6
def c43P8 : AC := .seq c43R8 c43P7
def c43P9 : AC := .block 2 c43P8
def c43P10 : AC := .seq c43R6 c43P9
def c43P11 : AC := .seq c43R5 c43P10
def c43P12 : AC := .block 1 c43P11
def c43R4 : AC :=
  .reg false [{ dst := some 13, op := .pure (.mv (.tmp 8)) },
    { dst := some 14, op := .pure (.bin .add .i64 (.tmp 13) (.const (.int .i64 1))) },
    { dst := some 8, op := .pure (.mv (.tmp 14)) }]
def c43P13 : AC := .seq c43P12 c43R4
def c43P14 : AC := .seq c43P2 c43P13
def c43P15 : AC := .loop c43P14
def c43P16 : AC := .block 0 c43P15
def c43P17 : AC := .seq c43R2 c43P16
def c43R14 : AC :=
  .reg false [{ dst := some 55, op := .frz 7 },
    { dst := some 56, op := .call false 85 [(.tmp 55)] },
    { dst := none, op := .sto 4 (.tmp 6) (.tmp 56) }]
def c43P18 : AC := .seq c43R14 .ret
def c43P19 : AC := .seq c43P17 c43P18
def c43P20 : AC := .seq c43R1 c43P19
def c43P21 : AC := .seq c43R0 c43P20
def c43 : AC := c43P21
def r43 : List RV := [.cell 6 4 true]
/-! bosket/bosketref02.Of -/
def c85R0 : AC :=
  .reg false [{ dst := some 2, op := .alloc [.sh, .sh, .sh, .sh] (.agg [.int .u64 0, .int .u64 0, .int .u64 0, .int .u64 0]) }]
def c85R1 : AC :=
  .reg false [{ dst := some 3, op := .alloc [.sh, .sh, .sh, .sh] (.agg [.int .u64 0, .int .u64 0, .int .u64 0, .int .u64 0]) }]
def c85R2 : AC :=
  .reg false [{ dst := some 4, op := .pure (.mv (.const (.int .i64 0))) }]
def c85R3 : AC :=
  .reg false [{ dst := some 5, op := .pure (.mv (.tmp 4)) },
    { dst := some 6, op := .pure (.bin .lss .i64 (.tmp 5) (.const (.int .i64 256))) },
    { dst := some 7, op := .pure (.mv (.tmp 6)) },
    { dst := some 8, op := .pure (.mv (.tmp 4)), g := some (7, true) },
    { dst := some 9, op := .pure (.mv (.tmp 0)), g := some (7, true) },
    { dst := some 10, op := .pure (.len 1 (.tmp 9)), g := some (7, true) },
    { dst := some 11, op := .pure (.bin .lss .i64 (.tmp 8) (.tmp 10)), g := some (7, true) },
    { dst := some 12, op := .pure (.pick (.tmp 7) (.tmp 11) (.const (.bool false))) }]
def c85P1 : AC := .cond (.tmp 12) .skip (.exit 0)
def c85P2 : AC := .seq c85R3 c85P1
def c85R5 : AC :=
  .reg false [{ dst := some 15, op := .pure (.mv (.tmp 0)) },
    { dst := some 16, op := .pure (.mv (.tmp 4)) },
    { dst := some 17, op := .pure (.iadr 1 .i64 (.tmp 15) (.tmp 16)) },
    { dst := some 18, op := .pure (.load 1 false (.tmp 17)) }]
def c85R6 : AC :=
  .reg false [{ dst := some 19, op := .pure (.mv (.tmp 4)) },
    { dst := some 20, op := .pure (.bin .quo .i64 (.tmp 19) (.const (.int .i64 64))) },
    { dst := some 21, op := .pure (.mv (.tmp 4)) },
    { dst := some 22, op := .pure (.bin .quo .i64 (.tmp 21) (.const (.int .i64 64))) },
    { dst := some 23, op := .pure (.aadr 1 4 .i64 (.tmp 3) (.tmp 22)) },
    { dst := some 24, op := .pure (.load 1 false (.tmp 23)) },
    { dst := some 25, op := .pure (.mv (.tmp 4)) },
    { dst := some 26, op := .pure (.bin .rem .i64 (.tmp 25) (.const (.int .i64 64))) },
    { dst := some 27, op := .pure (.conv .u64 .i64 (.tmp 26)) },
    { dst := some 28, op := .pure (.shf .shl .u64 .u64 (.const (.int .u64 1)) (.tmp 27)) },
    { dst := some 29, op := .pure (.bin .add .u64 (.tmp 24) (.tmp 28)) },
    { dst := some 30, op := .pure (.aadr 1 4 .i64 (.tmp 3) (.tmp 20)) },
    { dst := none, op := .sto 1 (.tmp 30) (.tmp 29) }]
def c85P3 : AC := .cond (.tmp 18) c85R6 .skip
def c85P4 : AC := .seq c85R5 c85P3
def c85P5 : AC := .block 1 c85P4
def c85R4 : AC :=
  .reg false [{ dst := some 13, op := .pure (.mv (.tmp 4)) },
    { dst := some 14, op := .pure (.bin .add .i64 (.tmp 13) (.const (.int .i64 1))) },
    { dst := some 4, op := .pure (.mv (.tmp 14)) }]
def c85P6 : AC := .seq c85P5 c85R4
def c85P7 : AC := .seq c85P2 c85P6
def c85P8 : AC := .loop c85P7
def c85P9 : AC := .block 0 c85P8
def c85P10 : AC := .seq c85R2 c85P9
def c85R7 : AC :=
  .reg false [{ dst := some 31, op := .pure (.load 4 true (.tmp 3)) },
    { dst := none, op := .sto 4 (.tmp 2) (.tmp 31) }]
def c85P11 : AC := .seq c85R7 .ret
def c85P12 : AC := .seq c85P10 c85P11
def c85P13 : AC := .seq c85R1 c85P12
def c85P14 : AC := .seq c85R0 c85P13
def c85 : AC := c85P14
def r85 : List RV := [.cell 2 4 true]
theorem m4 (c : Code) (h : Try.f4.body = some c) : matC Try.prog Try.f4.ntmps c c4 = true := by
  cases h
  kernel_rfl
theorem n4 : Try.prog.funcs[4]? = some Try.f4 := by kernel_rfl
theorem q4 : matRVs Try.prog Try.f4.results.toList r4 = true := by kernel_rfl
theorem m13 (c : Code) (h : Try.f13.body = some c) : matC Try.prog Try.f13.ntmps c c13 = true := by
  cases h
  kernel_rfl
theorem n13 : Try.prog.funcs[13]? = some Try.f13 := by kernel_rfl
theorem q13 : matRVs Try.prog Try.f13.results.toList r13 = true := by kernel_rfl
theorem m15 (c : Code) (h : Try.f15.body = some c) : matC Try.prog Try.f15.ntmps c c15 = true := by
  cases h
  kernel_rfl
theorem n15 : Try.prog.funcs[15]? = some Try.f15 := by kernel_rfl
theorem q15 : matRVs Try.prog Try.f15.results.toList r15 = true := by kernel_rfl
theorem m42 (c : Code) (h : Try.f42.body = some c) : matC Try.prog Try.f42.ntmps c c42 = true := by
  cases h
  kernel_rfl
theorem n42 : Try.prog.funcs[42]? = some Try.f42 := by kernel_rfl
theorem q42 : matRVs Try.prog Try.f42.results.toList r42 = true := by kernel_rfl
theorem m43 (c : Code) (h : Try.f43.body = some c) : matC Try.prog Try.f43.ntmps c c43 = true := by
  cases h
  kernel_rfl
theorem n43 : Try.prog.funcs[43]? = some Try.f43 := by kernel_rfl
theorem q43 : matRVs Try.prog Try.f43.results.toList r43 = true := by kernel_rfl
theorem m85 (c : Code) (h : Try.f85.body = some c) : matC Try.prog Try.f85.ntmps c c85 = true := by
  cases h
  kernel_rfl
theorem n85 : Try.prog.funcs[85]? = some Try.f85 := by kernel_rfl
theorem q85 : matRVs Try.prog Try.f85.results.toList r85 = true := by kernel_rfl
end Go.Proofs.Ytaefhdklkbohmaa
/- deriv.Through. -/
namespace Go.Proofs.Ytaefhdklkbohmaa
open Go Go.RowKit
set_option linter.unusedSimpArgs false
set_option maxRecDepth 20000
set_option maxHeartbeats 4000000
theorem atEnd_ct {σ : Env} {s n s' : Nat} {ag : Bool} {t u t' u' : T} (h : pev true σ.get (.load n ag (.tmp s)) = (True, .t u)) (hu : u = t) (ht : ∀ us, t ≠ .tup us) (h' : evT true σ.get (.tmp s') = (True, u')) (hu' : u' = t') (ht' : ∀ us, t' ≠ .tup us) :
    atEnd [.cell s n ag, .tmp s'] (.tup [.sh, .sh]) (.tup [t, t']) .ret σ := by
  subst hu; subst hu'
  refine .inr (.inr ⟨by simp, rfl, ?_, ?_⟩)
  · simp only [resTs, resT, h, h']
  · simp only [resTs, resT, h, h']
    exact ⟨trivial, ht, trivial, ht', trivial⟩
def bytesOf (w : ByteArray) : List Nat := w.data.toList.map UInt8.toNat
theorem bytesOf_length (w : ByteArray) : (bytesOf w).length = w.size := by
  simp only [bytesOf, List.length_map, Array.length_toList]; rfl
theorem bytesOf_at (w : ByteArray) (i : Nat) (h : i < w.size) : (bytesOf w).drop i = (w.data.toList.getD i 0).toNat :: (bytesOf w).drop (i + 1) := by
  have h' : i < (bytesOf w).length := by rw [bytesOf_length]; exact h
  rw [List.drop_eq_getElem_cons h']
  congr 1
  have : i < w.data.size := h
  simp only [bytesOf, List.getElem_map]
  rw [List.getD_eq_getElem?_getD, List.getElem?_eq_getElem (by simpa using this)]
  rfl
theorem byte_lt (w : ByteArray) (i : Nat) : (w.data.toList.getD i 0).toNat < 256 := UInt8.toNat_lt _
def thr (most : Int) : Rx → List Nat → Nat → Option Rx × Nat
  | x, [], i => (.some x, i)
  | x, c :: l, i => match der c x with
    | .none => (.none, i)
    | .some y => if (y.enc.length : Int) > most then (.some y, i) else thr most y l (i + 1)
def thr9I (most : Int) (R : Option Rx × Nat) (w : ByteArray) (m : Nat) (σ : Env) : Prop := ∃ (i : Nat) (x : Rx), i + m = w.size ∧ x.enc.length ≤ 10000 ∧ R = thr most x ((bytesOf w).drop i) i ∧
  σ = [(1, .t (.str w)), (2, .t (.int .i64 most)), (6, .own (.box [.sh, .sh]) (.agg [.bool false, .sl 5 []])), (8, .own (.box [.sh, .sh]) (.agg [.bool false, .sl 5 (x.enc.map pcT)])), (19, .t (.int .i64 (w.size : Int))), (20, .t (.int .i64 (i : Int)))]
theorem through9_bad (r : List Pc) (w : ByteArray) (most : Int) (hl : r.length ≤ 1073741824) (hk : checkS r ≠ 0) : ACalls Try.prog 9 [rxT r, .str w, .int .i64 most] (.tup [.sh, .sh]) (.tup [leftT .none, .int .i64 0]) := by
  refine ACalls.of n9 rfl (m9 _ rfl) q9 (by simp only [List.length_cons, List.length_nil]; decide) (fun C hC => ?_)
  have hN : C.N = 45 := hC
  have hb : (checkS r != 0) = true := by simpa using hk
  repeat' first
    | refine AV.seq ?_
    | refine AV.block ?_
    | ((first | refine AV.reg ?_ | refine AV.regD mixed ?_); simp only [hN, c9R0, c9R1, c9R2, c9R3, c9R4, c9R5, c9R6, c9R7, c9R8, c9R9, c9R10, c9R11, c9R12, rxT, List.length_map, leftT, hb, go_sem, Nat.reduceSub, reduceIte, Nat.reduceEqDiff, Nat.reduceLT, Nat.reduceMul, Nat.reduceAdd, Nat.reduceBEq, Nat.reduceLeDiff, Int.reduceLT, Int.reduceLE, Int.reduceNeg, Int.reduceBEq, Int.reduceBNe, Int.reduceToNat]; repeat (simp (disch := omega) only [wrap_small, getD_map_lt]; try simp only [go_sem, Nat.reduceSub, reduceIte, Nat.reduceEqDiff, Nat.reduceLT, Nat.reduceMul, Nat.reduceAdd, Nat.reduceBEq, Nat.reduceLeDiff, Int.reduceLT, Int.reduceLE, Int.reduceNeg, Int.reduceBEq, Int.reduceBNe, Int.reduceToNat, rxT, List.length_map, leftT, hb]))
    | (refine AV.cond ?_ ?_ (fun hc => ?_) (fun hc => ?_) <;> (try simp only [go_sem, Nat.reduceSub, reduceIte, Nat.reduceEqDiff, Nat.reduceLT, Nat.reduceMul, Nat.reduceAdd, Nat.reduceBEq, Nat.reduceLeDiff, Int.reduceLT, Int.reduceLE, Int.reduceNeg, Int.reduceBEq, Int.reduceBNe, Int.reduceToNat, beq_iff_eq, beq_eq_false_iff_ne] at hc) <;> (try simp only [go_sem, Nat.reduceSub, reduceIte, Nat.reduceEqDiff, Nat.reduceLT, Nat.reduceMul, Nat.reduceAdd, Nat.reduceBEq, Nat.reduceLeDiff, Int.reduceLT, Int.reduceLE, Int.reduceNeg, Int.reduceBEq, Int.reduceBNe, Int.reduceToNat]))
    | ((first | refine AV.skip ?_ | refine AV.exit ?_); simp only [go_sem, Nat.reduceSub, reduceIte, Nat.reduceEqDiff, Nat.reduceLT, Nat.reduceMul, Nat.reduceAdd, Nat.reduceBEq, Nat.reduceLeDiff, Int.reduceLT, Int.reduceLE, Int.reduceNeg, Int.reduceBEq, Int.reduceBNe, Int.reduceToNat])
    | ((first | refine ⟨_, _, clone37_spec r hl, rfl, ?_⟩ | refine ⟨_, _, clone37_spec r hl, ?_⟩ | refine ⟨_, _, fun _ => clone37_spec r hl, rfl, fun _ => trivial, ?_⟩ | refine ⟨_, _, check38_spec r hl, rfl, ?_⟩ | refine ⟨_, _, check38_spec r hl, ?_⟩ | refine ⟨_, _, fun _ => check38_spec r hl, rfl, fun _ => trivial, ?_⟩); (try simp only [go_sem, Nat.reduceSub, reduceIte, Nat.reduceEqDiff, Nat.reduceLT, Nat.reduceMul, Nat.reduceAdd, Nat.reduceBEq, Nat.reduceLeDiff, Int.reduceLT, Int.reduceLE, Int.reduceNeg, Int.reduceBEq, Int.reduceBNe, Int.reduceToNat, rxT, List.length_map, leftT, hb]); repeat (simp (disch := omega) only [wrap_small, getD_map_lt]; try simp only [go_sem, Nat.reduceSub, reduceIte, Nat.reduceEqDiff, Nat.reduceLT, Nat.reduceMul, Nat.reduceAdd, Nat.reduceBEq, Nat.reduceLeDiff, Int.reduceLT, Int.reduceLE, Int.reduceNeg, Int.reduceBEq, Int.reduceBNe, Int.reduceToNat, rxT, List.length_map, leftT, hb]))
    | ((first | refine ⟨.sh, .bool false, rfl, trivial, ?_⟩ | refine ⟨.sh, .bool false, rfl, ?_⟩); try simp only [go_sem, Nat.reduceSub, reduceIte, Nat.reduceEqDiff, Nat.reduceLT, Nat.reduceMul, Nat.reduceAdd, Nat.reduceBEq, Nat.reduceLeDiff, Int.reduceLT, Int.reduceLE, Int.reduceNeg, Int.reduceBEq, Int.reduceBNe, Int.reduceToNat])
    | (refine AV.ret ?_; (try simp only [go_sem, Nat.reduceSub, reduceIte, Nat.reduceEqDiff, Nat.reduceLT, Nat.reduceMul, Nat.reduceAdd, Nat.reduceBEq, Nat.reduceLeDiff, Int.reduceLT, Int.reduceLE, Int.reduceNeg, Int.reduceBEq, Int.reduceBNe, Int.reduceToNat]); first | refine atEnd_t (by simp only [go_sem, Nat.reduceSub, reduceIte, Nat.reduceEqDiff, Nat.reduceLT, Nat.reduceMul, Nat.reduceAdd, Nat.reduceBEq, Nat.reduceLeDiff, Int.reduceLT, Int.reduceLE, Int.reduceNeg, Int.reduceBEq, Int.reduceBNe, Int.reduceToNat] <;> rfl) ?_ (by first | (simp [rxT]; done) | exact leftT_tup _) | refine atEnd_c (by simp only [go_sem, Nat.reduceSub, reduceIte, Nat.reduceEqDiff, Nat.reduceLT, Nat.reduceMul, Nat.reduceAdd, Nat.reduceBEq, Nat.reduceLeDiff, Int.reduceLT, Int.reduceLE, Int.reduceNeg, Int.reduceBEq, Int.reduceBNe, Int.reduceToNat] <;> rfl) ?_ (by first | (simp [rxT]; done) | exact leftT_tup _) | refine atEnd_ct (by simp only [go_sem, Nat.reduceSub, reduceIte, Nat.reduceEqDiff, Nat.reduceLT, Nat.reduceMul, Nat.reduceAdd, Nat.reduceBEq, Nat.reduceLeDiff, Int.reduceLT, Int.reduceLE, Int.reduceNeg, Int.reduceBEq, Int.reduceBNe, Int.reduceToNat] <;> rfl) ?_ (by first | (simp; done) | exact leftT_tup _) (by simp only [go_sem, Nat.reduceSub, reduceIte, Nat.reduceEqDiff, Nat.reduceLT, Nat.reduceMul, Nat.reduceAdd, Nat.reduceBEq, Nat.reduceLeDiff, Int.reduceLT, Int.reduceLE, Int.reduceNeg, Int.reduceBEq, Int.reduceBNe, Int.reduceToNat] <;> rfl) ?_ (by simp) | refine atEnd_o (by simp only [go_sem, Nat.reduceSub, reduceIte, Nat.reduceEqDiff, Nat.reduceLT, Nat.reduceMul, Nat.reduceAdd, Nat.reduceBEq, Nat.reduceLeDiff, Int.reduceLT, Int.reduceLE, Int.reduceNeg, Int.reduceBEq, Int.reduceBNe, Int.reduceToNat] <;> rfl) ?_)
    | (refine And.intro ?_ ?_)
    | (with_reducible intro _)
  all_goals try first | exact True.intro | omega | exact ⟨_, _, rfl⟩ | exact allSolid_pcs _ | exact allSolid_one _ | exact allSolid_bool _ | rfl
theorem through9_spec (t : Rx) (w : ByteArray) (most : Int) (hm : most ≤ 10000) (hl : t.enc.length ≤ 400) (hw : w.size ≤ 1073741824) (hk : checkS t.enc = 0) : ACalls Try.prog 9 [rxT t.enc, .str w, .int .i64 most] (.tup [.sh, .sh]) (.tup [leftT (thr most t (bytesOf w) 0).1, .int .i64 (thr most t (bytesOf w) 0).2]) := by
  refine ACalls.of n9 rfl (m9 _ rfl) q9 (by simp only [List.length_cons, List.length_nil]; decide) (fun C hC => ?_)
  have hN : C.N = 45 := hC
  generalize hR : thr most t (bytesOf w) 0 = R
  repeat' first
    | refine AV.seq ?_
    | refine AV.block ?_
    | ((first | refine AV.reg ?_ | refine AV.regD mixed ?_); simp only [hN, c9R0, c9R1, c9R2, c9R3, c9R4, c9R5, c9R6, c9R7, c9R8, c9R9, c9R10, c9R11, c9R12, rxT, List.length_map, hk, go_sem, Nat.reduceSub, reduceIte, Nat.reduceEqDiff, Nat.reduceLT, Nat.reduceMul, Nat.reduceAdd, Nat.reduceBEq, Nat.reduceLeDiff, Int.reduceLT, Int.reduceLE, Int.reduceNeg, Int.reduceBEq, Int.reduceBNe, Int.reduceToNat]; repeat (simp (disch := omega) only [wrap_small, getD_map_lt]; try simp only [go_sem, Nat.reduceSub, reduceIte, Nat.reduceEqDiff, Nat.reduceLT, Nat.reduceMul, Nat.reduceAdd, Nat.reduceBEq, Nat.reduceLeDiff, Int.reduceLT, Int.reduceLE, Int.reduceNeg, Int.reduceBEq, Int.reduceBNe, Int.reduceToNat, rxT, List.length_map, hk]))
    | (refine AV.cond ?_ ?_ (fun hc => ?_) (fun hc => ?_) <;> (try simp only [go_sem, Nat.reduceSub, reduceIte, Nat.reduceEqDiff, Nat.reduceLT, Nat.reduceMul, Nat.reduceAdd, Nat.reduceBEq, Nat.reduceLeDiff, Int.reduceLT, Int.reduceLE, Int.reduceNeg, Int.reduceBEq, Int.reduceBNe, Int.reduceToNat, beq_iff_eq, beq_eq_false_iff_ne] at hc) <;> (try simp only [go_sem, Nat.reduceSub, reduceIte, Nat.reduceEqDiff, Nat.reduceLT, Nat.reduceMul, Nat.reduceAdd, Nat.reduceBEq, Nat.reduceLeDiff, Int.reduceLT, Int.reduceLE, Int.reduceNeg, Int.reduceBEq, Int.reduceBNe, Int.reduceToNat]))
    | ((first | refine AV.skip ?_ | refine AV.exit ?_); simp only [go_sem, Nat.reduceSub, reduceIte, Nat.reduceEqDiff, Nat.reduceLT, Nat.reduceMul, Nat.reduceAdd, Nat.reduceBEq, Nat.reduceLeDiff, Int.reduceLT, Int.reduceLE, Int.reduceNeg, Int.reduceBEq, Int.reduceBNe, Int.reduceToNat])
    | ((first | refine ⟨_, _, clone37_spec t.enc (by omega), rfl, ?_⟩ | refine ⟨_, _, clone37_spec t.enc (by omega), ?_⟩ | refine ⟨_, _, fun _ => clone37_spec t.enc (by omega), rfl, fun _ => trivial, ?_⟩ | refine ⟨_, _, check38_spec t.enc (by omega), rfl, ?_⟩ | refine ⟨_, _, check38_spec t.enc (by omega), ?_⟩ | refine ⟨_, _, fun _ => check38_spec t.enc (by omega), rfl, fun _ => trivial, ?_⟩); (try simp only [go_sem, Nat.reduceSub, reduceIte, Nat.reduceEqDiff, Nat.reduceLT, Nat.reduceMul, Nat.reduceAdd, Nat.reduceBEq, Nat.reduceLeDiff, Int.reduceLT, Int.reduceLE, Int.reduceNeg, Int.reduceBEq, Int.reduceBNe, Int.reduceToNat, rxT, List.length_map, hk]); repeat (simp (disch := omega) only [wrap_small, getD_map_lt]; try simp only [go_sem, Nat.reduceSub, reduceIte, Nat.reduceEqDiff, Nat.reduceLT, Nat.reduceMul, Nat.reduceAdd, Nat.reduceBEq, Nat.reduceLeDiff, Int.reduceLT, Int.reduceLE, Int.reduceNeg, Int.reduceBEq, Int.reduceBNe, Int.reduceToNat, rxT, List.length_map, hk]))
    | ((first | refine ⟨.sh, .bool false, rfl, trivial, ?_⟩ | refine ⟨.sh, .bool false, rfl, ?_⟩); try simp only [go_sem, Nat.reduceSub, reduceIte, Nat.reduceEqDiff, Nat.reduceLT, Nat.reduceMul, Nat.reduceAdd, Nat.reduceBEq, Nat.reduceLeDiff, Int.reduceLT, Int.reduceLE, Int.reduceNeg, Int.reduceBEq, Int.reduceBNe, Int.reduceToNat])
    | (refine AV.ret ?_; (try simp only [go_sem, Nat.reduceSub, reduceIte, Nat.reduceEqDiff, Nat.reduceLT, Nat.reduceMul, Nat.reduceAdd, Nat.reduceBEq, Nat.reduceLeDiff, Int.reduceLT, Int.reduceLE, Int.reduceNeg, Int.reduceBEq, Int.reduceBNe, Int.reduceToNat]); first | refine atEnd_t (by simp only [go_sem, Nat.reduceSub, reduceIte, Nat.reduceEqDiff, Nat.reduceLT, Nat.reduceMul, Nat.reduceAdd, Nat.reduceBEq, Nat.reduceLeDiff, Int.reduceLT, Int.reduceLE, Int.reduceNeg, Int.reduceBEq, Int.reduceBNe, Int.reduceToNat] <;> rfl) ?_ (by first | (simp [rxT]; done) | exact leftT_tup _) | refine atEnd_c (by simp only [go_sem, Nat.reduceSub, reduceIte, Nat.reduceEqDiff, Nat.reduceLT, Nat.reduceMul, Nat.reduceAdd, Nat.reduceBEq, Nat.reduceLeDiff, Int.reduceLT, Int.reduceLE, Int.reduceNeg, Int.reduceBEq, Int.reduceBNe, Int.reduceToNat] <;> rfl) ?_ (by first | (simp [rxT]; done) | exact leftT_tup _) | refine atEnd_ct (by simp only [go_sem, Nat.reduceSub, reduceIte, Nat.reduceEqDiff, Nat.reduceLT, Nat.reduceMul, Nat.reduceAdd, Nat.reduceBEq, Nat.reduceLeDiff, Int.reduceLT, Int.reduceLE, Int.reduceNeg, Int.reduceBEq, Int.reduceBNe, Int.reduceToNat] <;> rfl) ?_ (by first | (simp; done) | exact leftT_tup _) (by simp only [go_sem, Nat.reduceSub, reduceIte, Nat.reduceEqDiff, Nat.reduceLT, Nat.reduceMul, Nat.reduceAdd, Nat.reduceBEq, Nat.reduceLeDiff, Int.reduceLT, Int.reduceLE, Int.reduceNeg, Int.reduceBEq, Int.reduceBNe, Int.reduceToNat] <;> rfl) ?_ (by simp) | refine atEnd_o (by simp only [go_sem, Nat.reduceSub, reduceIte, Nat.reduceEqDiff, Nat.reduceLT, Nat.reduceMul, Nat.reduceAdd, Nat.reduceBEq, Nat.reduceLeDiff, Int.reduceLT, Int.reduceLE, Int.reduceNeg, Int.reduceBEq, Int.reduceBNe, Int.reduceToNat] <;> rfl) ?_)
    | (refine And.intro ?_ ?_)
    | (with_reducible intro _)
  all_goals try first | exact True.intro | omega | exact ⟨_, _, rfl⟩ | exact allSolid_pcs _ | exact allSolid_one _ | exact allSolid_bool _ | rfl
  refine AV.loopK [1, 2, 6, 8, 19, 20] (by simp only [hN]; decide) (n := w.size) (thr9I most R w) ?_ ⟨0, t, by omega, by omega, hR.symm, by simp only [go_sem, Nat.reduceSub, reduceIte, Nat.reduceEqDiff, Nat.reduceLT, Nat.reduceMul, Nat.reduceAdd, Nat.reduceBEq, Nat.reduceLeDiff, Int.reduceLT, Int.reduceLE, Int.reduceNeg, Int.reduceBEq, Int.reduceBNe, Int.reduceToNat] <;> rfl⟩
  clear hR
  rintro m σ ⟨i, x, h1, h2, h3, rfl⟩
  by_cases hi : i < w.size
  · have hd := bytesOf_at w i hi
    have hc := byte_lt w i
    obtain ⟨c, hce⟩ : ∃ c, (w.data.toList.getD i 0).toNat = c := ⟨_, rfl⟩
    rw [hce] at hd hc
    have hD := derive39_spec c hc x h2
    rw [hd, thr] at h3
    cases hx : der c x with
    | none =>
      rw [hx] at h3
      simp only at h3
      subst h3
      repeat' first
        | refine AV.seq ?_
        | refine AV.block ?_
        | ((first | refine AV.reg ?_ | refine AV.regD mixed ?_); simp only [hN, c9R0, c9R1, c9R2, c9R3, c9R4, c9R5, c9R6, c9R7, c9R8, c9R9, c9R10, c9R11, c9R12, rxT, List.length_map, leftT, hx, hce, oe, Option.isNone_none, Option.isNone_some, go_sem, Nat.reduceSub, reduceIte, Nat.reduceEqDiff, Nat.reduceLT, Nat.reduceMul, Nat.reduceAdd, Nat.reduceBEq, Nat.reduceLeDiff, Int.reduceLT, Int.reduceLE, Int.reduceNeg, Int.reduceBEq, Int.reduceBNe, Int.reduceToNat]; repeat (simp (disch := omega) only [wrap_small, getD_map_lt]; try simp only [go_sem, Nat.reduceSub, reduceIte, Nat.reduceEqDiff, Nat.reduceLT, Nat.reduceMul, Nat.reduceAdd, Nat.reduceBEq, Nat.reduceLeDiff, Int.reduceLT, Int.reduceLE, Int.reduceNeg, Int.reduceBEq, Int.reduceBNe, Int.reduceToNat, rxT, List.length_map, leftT, hx, hce, oe, Option.isNone_none, Option.isNone_some]))
        | (refine AV.cond ?_ ?_ (fun hc => ?_) (fun hc => ?_) <;> (try simp only [go_sem, Nat.reduceSub, reduceIte, Nat.reduceEqDiff, Nat.reduceLT, Nat.reduceMul, Nat.reduceAdd, Nat.reduceBEq, Nat.reduceLeDiff, Int.reduceLT, Int.reduceLE, Int.reduceNeg, Int.reduceBEq, Int.reduceBNe, Int.reduceToNat, beq_iff_eq, beq_eq_false_iff_ne] at hc) <;> (try simp only [go_sem, Nat.reduceSub, reduceIte, Nat.reduceEqDiff, Nat.reduceLT, Nat.reduceMul, Nat.reduceAdd, Nat.reduceBEq, Nat.reduceLeDiff, Int.reduceLT, Int.reduceLE, Int.reduceNeg, Int.reduceBEq, Int.reduceBNe, Int.reduceToNat]))
        | ((first | refine AV.skip ?_ | refine AV.exit ?_); simp only [go_sem, Nat.reduceSub, reduceIte, Nat.reduceEqDiff, Nat.reduceLT, Nat.reduceMul, Nat.reduceAdd, Nat.reduceBEq, Nat.reduceLeDiff, Int.reduceLT, Int.reduceLE, Int.reduceNeg, Int.reduceBEq, Int.reduceBNe, Int.reduceToNat])
        | ((first | refine ⟨_, _, hD, rfl, ?_⟩ | refine ⟨_, _, hD, ?_⟩ | refine ⟨_, _, fun _ => hD, rfl, fun _ => trivial, ?_⟩); (try simp only [go_sem, Nat.reduceSub, reduceIte, Nat.reduceEqDiff, Nat.reduceLT, Nat.reduceMul, Nat.reduceAdd, Nat.reduceBEq, Nat.reduceLeDiff, Int.reduceLT, Int.reduceLE, Int.reduceNeg, Int.reduceBEq, Int.reduceBNe, Int.reduceToNat, rxT, List.length_map, leftT, hx, hce, oe, Option.isNone_none, Option.isNone_some]); repeat (simp (disch := omega) only [wrap_small, getD_map_lt]; try simp only [go_sem, Nat.reduceSub, reduceIte, Nat.reduceEqDiff, Nat.reduceLT, Nat.reduceMul, Nat.reduceAdd, Nat.reduceBEq, Nat.reduceLeDiff, Int.reduceLT, Int.reduceLE, Int.reduceNeg, Int.reduceBEq, Int.reduceBNe, Int.reduceToNat, rxT, List.length_map, leftT, hx, hce, oe, Option.isNone_none, Option.isNone_some]))
        | ((first | refine ⟨.sh, .bool false, rfl, trivial, ?_⟩ | refine ⟨.sh, .bool false, rfl, ?_⟩); try simp only [go_sem, Nat.reduceSub, reduceIte, Nat.reduceEqDiff, Nat.reduceLT, Nat.reduceMul, Nat.reduceAdd, Nat.reduceBEq, Nat.reduceLeDiff, Int.reduceLT, Int.reduceLE, Int.reduceNeg, Int.reduceBEq, Int.reduceBNe, Int.reduceToNat])
        | (refine AV.ret ?_; (try simp only [go_sem, Nat.reduceSub, reduceIte, Nat.reduceEqDiff, Nat.reduceLT, Nat.reduceMul, Nat.reduceAdd, Nat.reduceBEq, Nat.reduceLeDiff, Int.reduceLT, Int.reduceLE, Int.reduceNeg, Int.reduceBEq, Int.reduceBNe, Int.reduceToNat]); first | refine atEnd_t (by simp only [go_sem, Nat.reduceSub, reduceIte, Nat.reduceEqDiff, Nat.reduceLT, Nat.reduceMul, Nat.reduceAdd, Nat.reduceBEq, Nat.reduceLeDiff, Int.reduceLT, Int.reduceLE, Int.reduceNeg, Int.reduceBEq, Int.reduceBNe, Int.reduceToNat] <;> rfl) ?_ (by first | (simp [rxT]; done) | exact leftT_tup _) | refine atEnd_c (by simp only [go_sem, Nat.reduceSub, reduceIte, Nat.reduceEqDiff, Nat.reduceLT, Nat.reduceMul, Nat.reduceAdd, Nat.reduceBEq, Nat.reduceLeDiff, Int.reduceLT, Int.reduceLE, Int.reduceNeg, Int.reduceBEq, Int.reduceBNe, Int.reduceToNat] <;> rfl) ?_ (by first | (simp [rxT]; done) | exact leftT_tup _) | refine atEnd_ct (by simp only [go_sem, Nat.reduceSub, reduceIte, Nat.reduceEqDiff, Nat.reduceLT, Nat.reduceMul, Nat.reduceAdd, Nat.reduceBEq, Nat.reduceLeDiff, Int.reduceLT, Int.reduceLE, Int.reduceNeg, Int.reduceBEq, Int.reduceBNe, Int.reduceToNat] <;> rfl) ?_ (by first | (simp; done) | exact leftT_tup _) (by simp only [go_sem, Nat.reduceSub, reduceIte, Nat.reduceEqDiff, Nat.reduceLT, Nat.reduceMul, Nat.reduceAdd, Nat.reduceBEq, Nat.reduceLeDiff, Int.reduceLT, Int.reduceLE, Int.reduceNeg, Int.reduceBEq, Int.reduceBNe, Int.reduceToNat] <;> rfl) ?_ (by simp) | refine atEnd_o (by simp only [go_sem, Nat.reduceSub, reduceIte, Nat.reduceEqDiff, Nat.reduceLT, Nat.reduceMul, Nat.reduceAdd, Nat.reduceBEq, Nat.reduceLeDiff, Int.reduceLT, Int.reduceLE, Int.reduceNeg, Int.reduceBEq, Int.reduceBNe, Int.reduceToNat] <;> rfl) ?_)
        | (refine And.intro ?_ ?_)
        | (with_reducible intro _)
      all_goals try first | exact True.intro | omega | exact ⟨_, _, rfl⟩ | exact allSolid_pcs _ | exact allSolid_one _ | exact allSolid_bool _ | rfl
    | some y =>
      rw [hx] at h3
      simp only at h3
      by_cases hy : (y.enc.length : Int) > most
      · rw [if_pos hy] at h3
        subst h3
        have hyb : decide ((y.enc.length : Int) > most) = true := by simpa using hy
        repeat' first
          | refine AV.seq ?_
          | refine AV.block ?_
          | ((first | refine AV.reg ?_ | refine AV.regD mixed ?_); simp only [hN, c9R0, c9R1, c9R2, c9R3, c9R4, c9R5, c9R6, c9R7, c9R8, c9R9, c9R10, c9R11, c9R12, rxT, List.length_map, leftT, hx, hce, oe, Option.isNone_none, Option.isNone_some, hyb, go_sem, Nat.reduceSub, reduceIte, Nat.reduceEqDiff, Nat.reduceLT, Nat.reduceMul, Nat.reduceAdd, Nat.reduceBEq, Nat.reduceLeDiff, Int.reduceLT, Int.reduceLE, Int.reduceNeg, Int.reduceBEq, Int.reduceBNe, Int.reduceToNat]; repeat (simp (disch := omega) only [wrap_small, getD_map_lt]; try simp only [go_sem, Nat.reduceSub, reduceIte, Nat.reduceEqDiff, Nat.reduceLT, Nat.reduceMul, Nat.reduceAdd, Nat.reduceBEq, Nat.reduceLeDiff, Int.reduceLT, Int.reduceLE, Int.reduceNeg, Int.reduceBEq, Int.reduceBNe, Int.reduceToNat, rxT, List.length_map, leftT, hx, hce, oe, Option.isNone_none, Option.isNone_some, hyb]))
          | (refine AV.cond ?_ ?_ (fun hc => ?_) (fun hc => ?_) <;> (try simp only [go_sem, Nat.reduceSub, reduceIte, Nat.reduceEqDiff, Nat.reduceLT, Nat.reduceMul, Nat.reduceAdd, Nat.reduceBEq, Nat.reduceLeDiff, Int.reduceLT, Int.reduceLE, Int.reduceNeg, Int.reduceBEq, Int.reduceBNe, Int.reduceToNat, beq_iff_eq, beq_eq_false_iff_ne] at hc) <;> (try simp only [go_sem, Nat.reduceSub, reduceIte, Nat.reduceEqDiff, Nat.reduceLT, Nat.reduceMul, Nat.reduceAdd, Nat.reduceBEq, Nat.reduceLeDiff, Int.reduceLT, Int.reduceLE, Int.reduceNeg, Int.reduceBEq, Int.reduceBNe, Int.reduceToNat]))
          | ((first | refine AV.skip ?_ | refine AV.exit ?_); simp only [go_sem, Nat.reduceSub, reduceIte, Nat.reduceEqDiff, Nat.reduceLT, Nat.reduceMul, Nat.reduceAdd, Nat.reduceBEq, Nat.reduceLeDiff, Int.reduceLT, Int.reduceLE, Int.reduceNeg, Int.reduceBEq, Int.reduceBNe, Int.reduceToNat])
          | ((first | refine ⟨_, _, hD, rfl, ?_⟩ | refine ⟨_, _, hD, ?_⟩ | refine ⟨_, _, fun _ => hD, rfl, fun _ => trivial, ?_⟩); (try simp only [go_sem, Nat.reduceSub, reduceIte, Nat.reduceEqDiff, Nat.reduceLT, Nat.reduceMul, Nat.reduceAdd, Nat.reduceBEq, Nat.reduceLeDiff, Int.reduceLT, Int.reduceLE, Int.reduceNeg, Int.reduceBEq, Int.reduceBNe, Int.reduceToNat, rxT, List.length_map, leftT, hx, hce, oe, Option.isNone_none, Option.isNone_some, hyb]); repeat (simp (disch := omega) only [wrap_small, getD_map_lt]; try simp only [go_sem, Nat.reduceSub, reduceIte, Nat.reduceEqDiff, Nat.reduceLT, Nat.reduceMul, Nat.reduceAdd, Nat.reduceBEq, Nat.reduceLeDiff, Int.reduceLT, Int.reduceLE, Int.reduceNeg, Int.reduceBEq, Int.reduceBNe, Int.reduceToNat, rxT, List.length_map, leftT, hx, hce, oe, Option.isNone_none, Option.isNone_some, hyb]))
          | ((first | refine ⟨.sh, .bool false, rfl, trivial, ?_⟩ | refine ⟨.sh, .bool false, rfl, ?_⟩); try simp only [go_sem, Nat.reduceSub, reduceIte, Nat.reduceEqDiff, Nat.reduceLT, Nat.reduceMul, Nat.reduceAdd, Nat.reduceBEq, Nat.reduceLeDiff, Int.reduceLT, Int.reduceLE, Int.reduceNeg, Int.reduceBEq, Int.reduceBNe, Int.reduceToNat])
          | (refine AV.ret ?_; (try simp only [go_sem, Nat.reduceSub, reduceIte, Nat.reduceEqDiff, Nat.reduceLT, Nat.reduceMul, Nat.reduceAdd, Nat.reduceBEq, Nat.reduceLeDiff, Int.reduceLT, Int.reduceLE, Int.reduceNeg, Int.reduceBEq, Int.reduceBNe, Int.reduceToNat]); first | refine atEnd_t (by simp only [go_sem, Nat.reduceSub, reduceIte, Nat.reduceEqDiff, Nat.reduceLT, Nat.reduceMul, Nat.reduceAdd, Nat.reduceBEq, Nat.reduceLeDiff, Int.reduceLT, Int.reduceLE, Int.reduceNeg, Int.reduceBEq, Int.reduceBNe, Int.reduceToNat] <;> rfl) ?_ (by first | (simp [rxT]; done) | exact leftT_tup _) | refine atEnd_c (by simp only [go_sem, Nat.reduceSub, reduceIte, Nat.reduceEqDiff, Nat.reduceLT, Nat.reduceMul, Nat.reduceAdd, Nat.reduceBEq, Nat.reduceLeDiff, Int.reduceLT, Int.reduceLE, Int.reduceNeg, Int.reduceBEq, Int.reduceBNe, Int.reduceToNat] <;> rfl) ?_ (by first | (simp [rxT]; done) | exact leftT_tup _) | refine atEnd_ct (by simp only [go_sem, Nat.reduceSub, reduceIte, Nat.reduceEqDiff, Nat.reduceLT, Nat.reduceMul, Nat.reduceAdd, Nat.reduceBEq, Nat.reduceLeDiff, Int.reduceLT, Int.reduceLE, Int.reduceNeg, Int.reduceBEq, Int.reduceBNe, Int.reduceToNat] <;> rfl) ?_ (by first | (simp; done) | exact leftT_tup _) (by simp only [go_sem, Nat.reduceSub, reduceIte, Nat.reduceEqDiff, Nat.reduceLT, Nat.reduceMul, Nat.reduceAdd, Nat.reduceBEq, Nat.reduceLeDiff, Int.reduceLT, Int.reduceLE, Int.reduceNeg, Int.reduceBEq, Int.reduceBNe, Int.reduceToNat] <;> rfl) ?_ (by simp) | refine atEnd_o (by simp only [go_sem, Nat.reduceSub, reduceIte, Nat.reduceEqDiff, Nat.reduceLT, Nat.reduceMul, Nat.reduceAdd, Nat.reduceBEq, Nat.reduceLeDiff, Int.reduceLT, Int.reduceLE, Int.reduceNeg, Int.reduceBEq, Int.reduceBNe, Int.reduceToNat] <;> rfl) ?_)
          | (refine And.intro ?_ ?_)
          | (with_reducible intro _)
        all_goals try first | exact True.intro | omega | exact ⟨_, _, rfl⟩ | exact allSolid_pcs _ | exact allSolid_one _ | exact allSolid_bool _ | rfl
      · rw [if_neg hy] at h3
        have hyb : decide ((y.enc.length : Int) > most) = false := by simpa using hy
        repeat' first
          | refine AV.seq ?_
          | refine AV.block ?_
          | ((first | refine AV.reg ?_ | refine AV.regD mixed ?_); simp only [hN, c9R0, c9R1, c9R2, c9R3, c9R4, c9R5, c9R6, c9R7, c9R8, c9R9, c9R10, c9R11, c9R12, rxT, List.length_map, leftT, hx, hce, oe, Option.isNone_none, Option.isNone_some, hyb, go_sem, Nat.reduceSub, reduceIte, Nat.reduceEqDiff, Nat.reduceLT, Nat.reduceMul, Nat.reduceAdd, Nat.reduceBEq, Nat.reduceLeDiff, Int.reduceLT, Int.reduceLE, Int.reduceNeg, Int.reduceBEq, Int.reduceBNe, Int.reduceToNat]; repeat (simp (disch := omega) only [wrap_small, getD_map_lt]; try simp only [go_sem, Nat.reduceSub, reduceIte, Nat.reduceEqDiff, Nat.reduceLT, Nat.reduceMul, Nat.reduceAdd, Nat.reduceBEq, Nat.reduceLeDiff, Int.reduceLT, Int.reduceLE, Int.reduceNeg, Int.reduceBEq, Int.reduceBNe, Int.reduceToNat, rxT, List.length_map, leftT, hx, hce, oe, Option.isNone_none, Option.isNone_some, hyb]))
          | (refine AV.cond ?_ ?_ (fun hc => ?_) (fun hc => ?_) <;> (try simp only [go_sem, Nat.reduceSub, reduceIte, Nat.reduceEqDiff, Nat.reduceLT, Nat.reduceMul, Nat.reduceAdd, Nat.reduceBEq, Nat.reduceLeDiff, Int.reduceLT, Int.reduceLE, Int.reduceNeg, Int.reduceBEq, Int.reduceBNe, Int.reduceToNat, beq_iff_eq, beq_eq_false_iff_ne] at hc) <;> (try simp only [go_sem, Nat.reduceSub, reduceIte, Nat.reduceEqDiff, Nat.reduceLT, Nat.reduceMul, Nat.reduceAdd, Nat.reduceBEq, Nat.reduceLeDiff, Int.reduceLT, Int.reduceLE, Int.reduceNeg, Int.reduceBEq, Int.reduceBNe, Int.reduceToNat]))
          | ((first | refine AV.skip ?_ | refine AV.exit ?_); simp only [go_sem, Nat.reduceSub, reduceIte, Nat.reduceEqDiff, Nat.reduceLT, Nat.reduceMul, Nat.reduceAdd, Nat.reduceBEq, Nat.reduceLeDiff, Int.reduceLT, Int.reduceLE, Int.reduceNeg, Int.reduceBEq, Int.reduceBNe, Int.reduceToNat])
          | ((first | refine ⟨_, _, hD, rfl, ?_⟩ | refine ⟨_, _, hD, ?_⟩ | refine ⟨_, _, fun _ => hD, rfl, fun _ => trivial, ?_⟩); (try simp only [go_sem, Nat.reduceSub, reduceIte, Nat.reduceEqDiff, Nat.reduceLT, Nat.reduceMul, Nat.reduceAdd, Nat.reduceBEq, Nat.reduceLeDiff, Int.reduceLT, Int.reduceLE, Int.reduceNeg, Int.reduceBEq, Int.reduceBNe, Int.reduceToNat, rxT, List.length_map, leftT, hx, hce, oe, Option.isNone_none, Option.isNone_some, hyb]); repeat (simp (disch := omega) only [wrap_small, getD_map_lt]; try simp only [go_sem, Nat.reduceSub, reduceIte, Nat.reduceEqDiff, Nat.reduceLT, Nat.reduceMul, Nat.reduceAdd, Nat.reduceBEq, Nat.reduceLeDiff, Int.reduceLT, Int.reduceLE, Int.reduceNeg, Int.reduceBEq, Int.reduceBNe, Int.reduceToNat, rxT, List.length_map, leftT, hx, hce, oe, Option.isNone_none, Option.isNone_some, hyb]))
          | ((first | refine ⟨.sh, .bool false, rfl, trivial, ?_⟩ | refine ⟨.sh, .bool false, rfl, ?_⟩); try simp only [go_sem, Nat.reduceSub, reduceIte, Nat.reduceEqDiff, Nat.reduceLT, Nat.reduceMul, Nat.reduceAdd, Nat.reduceBEq, Nat.reduceLeDiff, Int.reduceLT, Int.reduceLE, Int.reduceNeg, Int.reduceBEq, Int.reduceBNe, Int.reduceToNat])
          | (refine AV.ret ?_; (try simp only [go_sem, Nat.reduceSub, reduceIte, Nat.reduceEqDiff, Nat.reduceLT, Nat.reduceMul, Nat.reduceAdd, Nat.reduceBEq, Nat.reduceLeDiff, Int.reduceLT, Int.reduceLE, Int.reduceNeg, Int.reduceBEq, Int.reduceBNe, Int.reduceToNat]); first | refine atEnd_t (by simp only [go_sem, Nat.reduceSub, reduceIte, Nat.reduceEqDiff, Nat.reduceLT, Nat.reduceMul, Nat.reduceAdd, Nat.reduceBEq, Nat.reduceLeDiff, Int.reduceLT, Int.reduceLE, Int.reduceNeg, Int.reduceBEq, Int.reduceBNe, Int.reduceToNat] <;> rfl) ?_ (by first | (simp [rxT]; done) | exact leftT_tup _) | refine atEnd_c (by simp only [go_sem, Nat.reduceSub, reduceIte, Nat.reduceEqDiff, Nat.reduceLT, Nat.reduceMul, Nat.reduceAdd, Nat.reduceBEq, Nat.reduceLeDiff, Int.reduceLT, Int.reduceLE, Int.reduceNeg, Int.reduceBEq, Int.reduceBNe, Int.reduceToNat] <;> rfl) ?_ (by first | (simp [rxT]; done) | exact leftT_tup _) | refine atEnd_ct (by simp only [go_sem, Nat.reduceSub, reduceIte, Nat.reduceEqDiff, Nat.reduceLT, Nat.reduceMul, Nat.reduceAdd, Nat.reduceBEq, Nat.reduceLeDiff, Int.reduceLT, Int.reduceLE, Int.reduceNeg, Int.reduceBEq, Int.reduceBNe, Int.reduceToNat] <;> rfl) ?_ (by first | (simp; done) | exact leftT_tup _) (by simp only [go_sem, Nat.reduceSub, reduceIte, Nat.reduceEqDiff, Nat.reduceLT, Nat.reduceMul, Nat.reduceAdd, Nat.reduceBEq, Nat.reduceLeDiff, Int.reduceLT, Int.reduceLE, Int.reduceNeg, Int.reduceBEq, Int.reduceBNe, Int.reduceToNat] <;> rfl) ?_ (by simp) | refine atEnd_o (by simp only [go_sem, Nat.reduceSub, reduceIte, Nat.reduceEqDiff, Nat.reduceLT, Nat.reduceMul, Nat.reduceAdd, Nat.reduceBEq, Nat.reduceLeDiff, Int.reduceLT, Int.reduceLE, Int.reduceNeg, Int.reduceBEq, Int.reduceBNe, Int.reduceToNat] <;> rfl) ?_)
          | (refine And.intro ?_ ?_)
          | (with_reducible intro _)
        all_goals try first | exact True.intro | omega | exact ⟨_, _, rfl⟩ | exact allSolid_pcs _ | exact allSolid_one _ | exact allSolid_bool _ | rfl
        exact ⟨m - 1, by omega, i + 1, y, by omega, by omega, h3, rfl⟩
  · have hnil : (bytesOf w).drop i = [] := List.drop_eq_nil_of_le (by rw [bytesOf_length]; omega)
    rw [hnil, thr] at h3
    subst h3
    have hiw : i = w.size := by omega
    subst hiw
    repeat' first
      | refine AV.seq ?_
      | refine AV.block ?_
      | ((first | refine AV.reg ?_ | refine AV.regD mixed ?_); simp only [hN, c9R0, c9R1, c9R2, c9R3, c9R4, c9R5, c9R6, c9R7, c9R8, c9R9, c9R10, c9R11, c9R12, rxT, List.length_map, leftT, oe, Option.isNone_none, Option.isNone_some, go_sem, Nat.reduceSub, reduceIte, Nat.reduceEqDiff, Nat.reduceLT, Nat.reduceMul, Nat.reduceAdd, Nat.reduceBEq, Nat.reduceLeDiff, Int.reduceLT, Int.reduceLE, Int.reduceNeg, Int.reduceBEq, Int.reduceBNe, Int.reduceToNat]; repeat (simp (disch := omega) only [wrap_small, getD_map_lt]; try simp only [go_sem, Nat.reduceSub, reduceIte, Nat.reduceEqDiff, Nat.reduceLT, Nat.reduceMul, Nat.reduceAdd, Nat.reduceBEq, Nat.reduceLeDiff, Int.reduceLT, Int.reduceLE, Int.reduceNeg, Int.reduceBEq, Int.reduceBNe, Int.reduceToNat, rxT, List.length_map, leftT, oe, Option.isNone_none, Option.isNone_some]))
      | (refine AV.cond ?_ ?_ (fun hc => ?_) (fun hc => ?_) <;> (try simp only [go_sem, Nat.reduceSub, reduceIte, Nat.reduceEqDiff, Nat.reduceLT, Nat.reduceMul, Nat.reduceAdd, Nat.reduceBEq, Nat.reduceLeDiff, Int.reduceLT, Int.reduceLE, Int.reduceNeg, Int.reduceBEq, Int.reduceBNe, Int.reduceToNat, beq_iff_eq, beq_eq_false_iff_ne] at hc) <;> (try simp only [go_sem, Nat.reduceSub, reduceIte, Nat.reduceEqDiff, Nat.reduceLT, Nat.reduceMul, Nat.reduceAdd, Nat.reduceBEq, Nat.reduceLeDiff, Int.reduceLT, Int.reduceLE, Int.reduceNeg, Int.reduceBEq, Int.reduceBNe, Int.reduceToNat]))
      | ((first | refine AV.skip ?_ | refine AV.exit ?_); simp only [go_sem, Nat.reduceSub, reduceIte, Nat.reduceEqDiff, Nat.reduceLT, Nat.reduceMul, Nat.reduceAdd, Nat.reduceBEq, Nat.reduceLeDiff, Int.reduceLT, Int.reduceLE, Int.reduceNeg, Int.reduceBEq, Int.reduceBNe, Int.reduceToNat])
      | (refine AV.ret ?_; (try simp only [go_sem, Nat.reduceSub, reduceIte, Nat.reduceEqDiff, Nat.reduceLT, Nat.reduceMul, Nat.reduceAdd, Nat.reduceBEq, Nat.reduceLeDiff, Int.reduceLT, Int.reduceLE, Int.reduceNeg, Int.reduceBEq, Int.reduceBNe, Int.reduceToNat]); first | refine atEnd_t (by simp only [go_sem, Nat.reduceSub, reduceIte, Nat.reduceEqDiff, Nat.reduceLT, Nat.reduceMul, Nat.reduceAdd, Nat.reduceBEq, Nat.reduceLeDiff, Int.reduceLT, Int.reduceLE, Int.reduceNeg, Int.reduceBEq, Int.reduceBNe, Int.reduceToNat] <;> rfl) ?_ (by first | (simp [rxT]; done) | exact leftT_tup _) | refine atEnd_c (by simp only [go_sem, Nat.reduceSub, reduceIte, Nat.reduceEqDiff, Nat.reduceLT, Nat.reduceMul, Nat.reduceAdd, Nat.reduceBEq, Nat.reduceLeDiff, Int.reduceLT, Int.reduceLE, Int.reduceNeg, Int.reduceBEq, Int.reduceBNe, Int.reduceToNat] <;> rfl) ?_ (by first | (simp [rxT]; done) | exact leftT_tup _) | refine atEnd_ct (by simp only [go_sem, Nat.reduceSub, reduceIte, Nat.reduceEqDiff, Nat.reduceLT, Nat.reduceMul, Nat.reduceAdd, Nat.reduceBEq, Nat.reduceLeDiff, Int.reduceLT, Int.reduceLE, Int.reduceNeg, Int.reduceBEq, Int.reduceBNe, Int.reduceToNat] <;> rfl) ?_ (by first | (simp; done) | exact leftT_tup _) (by simp only [go_sem, Nat.reduceSub, reduceIte, Nat.reduceEqDiff, Nat.reduceLT, Nat.reduceMul, Nat.reduceAdd, Nat.reduceBEq, Nat.reduceLeDiff, Int.reduceLT, Int.reduceLE, Int.reduceNeg, Int.reduceBEq, Int.reduceBNe, Int.reduceToNat] <;> rfl) ?_ (by simp) | refine atEnd_o (by simp only [go_sem, Nat.reduceSub, reduceIte, Nat.reduceEqDiff, Nat.reduceLT, Nat.reduceMul, Nat.reduceAdd, Nat.reduceBEq, Nat.reduceLeDiff, Int.reduceLT, Int.reduceLE, Int.reduceNeg, Int.reduceBEq, Int.reduceBNe, Int.reduceToNat] <;> rfl) ?_)
      | (refine And.intro ?_ ?_)
      | (with_reducible intro _)
    all_goals try first | exact True.intro | omega | exact ⟨_, _, rfl⟩ | exact allSolid_pcs _ | exact allSolid_one _ | exact allSolid_bool _ | rfl
end Go.Proofs.Ytaefhdklkbohmaa
/- bosketref04.spans. -/
namespace Go.Proofs.Ytaefhdklkbohmaa
open Go Go.RowKit
set_option linter.unusedSimpArgs false
set_option maxRecDepth 20000
set_option maxHeartbeats 4000000
def thenB (f g : Nat → Nat → Bool) (a b : Nat) : Bool := (List.range (b + 1)).any fun k => decide (a ≤ k) && (f a k && g k b)
def orB (f g : Nat → Nat → Bool) (a b : Nat) : Bool := decide (a ≤ b) && (f a b || g a b)
def agB (f : Nat → Nat → Bool) : Nat → Nat → Nat → Bool
  | 0, a, b => decide (a = b)
  | m + 1, a, b => decide (a = b) || (List.range (b + 1)).any fun k => decide (a < k) && (f a k && agB f m k b)
def againB (f : Nat → Nat → Bool) (a b : Nat) : Bool := agB f (b - a) a b
def idB (a b : Nat) : Bool := decide (a = b)
def oneB (w : ByteArray) (s : S4) (a b : Nat) : Bool := decide (b = a + 1 ∧ a < w.size) && s.has (w.data.toList.getD a 0).toNat
theorem thenB_iff (f g : Nat → Nat → Bool) (a b : Nat) : thenB f g a b = true ↔ thenP f g a b := by
  unfold thenB thenP
  rw [List.any_eq_true]
  constructor
  · rintro ⟨k, h1, h2⟩
    rw [List.mem_range] at h1
    simp only [Bool.and_eq_true, decide_eq_true_eq] at h2
    exact ⟨k, h2.1, by omega, h2.2.1, h2.2.2⟩
  · rintro ⟨k, h1, h2, h3, h4⟩
    exact ⟨k, by rw [List.mem_range]; omega, by simp [h1, h3, h4]⟩
theorem agB_iff (f : Nat → Nat → Bool) : ∀ (m a b : Nat), b - a ≤ m → (agB f m a b = true ↔ AgP f a b)
  | 0, a, b, h => by
    rw [AgP.iff, agB, decide_eq_true_eq]
    constructor
    · exact .inl
    · rintro (h1 | ⟨k, h1, _, h3⟩)
      · exact h1
      · have := h3.le; omega
  | m + 1, a, b, h => by
    rw [AgP.iff, agB, Bool.or_eq_true, decide_eq_true_eq, List.any_eq_true]
    constructor
    · rintro (h1 | ⟨k, h1, h2⟩)
      · exact .inl h1
      · rw [List.mem_range] at h1
        simp only [Bool.and_eq_true, decide_eq_true_eq] at h2
        exact .inr ⟨k, h2.1, h2.2.1, (agB_iff f m k b (by omega)).1 h2.2.2⟩
    · rintro (h1 | ⟨k, h1, h2, h3⟩)
      · exact .inl h1
      · refine .inr ⟨k, by rw [List.mem_range]; have := h3.le; omega, ?_⟩
        simp [h1, h2, (agB_iff f m k b (by omega)).2 h3]
theorem againB_iff (f : Nat → Nat → Bool) (a b : Nat) : againB f a b = true ↔ AgP f a b := agB_iff f _ a b (Nat.le_refl _)
theorem orB_iff (f g : Nat → Nat → Bool) (a b : Nat) : orB f g a b = true ↔ a ≤ b ∧ (f a b = true ∨ g a b = true) := by simp [orB]
def spansB (w : ByteArray) (p : Pc) (l : List (Nat → Nat → Bool)) : Nat → Nat → Bool :=
  if p.kind = 1 then oneB w p.s else if p.kind = 2 then thenB (l.getD 0 idB) (l.getD 1 idB) else if p.kind = 3 then orB (l.getD 0 idB) (l.getD 1 idB) else if p.kind = 4 then againB (l.getD 0 idB)
  else if p.kind = 5 then thenB (l.getD 0 idB) (againB (l.getD 0 idB)) else if p.kind = 6 then orB idB (l.getD 0 idB) else idB
theorem spans41_0 (s : S4) (w : ByteArray) (hw : w.size ≤ 1000000) : ACalls Try.prog 41 [pcT ⟨0, s⟩, .sl 1 [], .str w] (.sl [.sl [.sh]]) (matT w.size (spansB w ⟨0, s⟩ [])) := by
  have e : spansB w ⟨0, s⟩ [] = fun a b => decide (a = b) := rfl
  rw [e]
  refine ACalls.of n41 rfl (m41 _ rfl) q41 (by simp only [List.length_cons, List.length_nil]; decide) (fun C hC => ?_)
  have hN : C.N = 83 := hC
  repeat' first
    | refine AV.seq ?_
    | refine AV.block ?_
    | ((first | refine AV.reg ?_ | refine AV.regD mixed ?_); simp only [hN, c41R0, c41R1, c41R2, c41R3, c41R4, c41R5, c41R7, c41R6, c41R8, c41R9, c41R10, c41R11, c41R12, c41R13, c41R14, c41R15, c41R16, c41R17, c41R18, c41R19, List.length_map, pcT, S4.ts, go_sem, Nat.reduceSub, reduceIte, Nat.reduceEqDiff, Nat.reduceLT, Nat.reduceMul, Nat.reduceAdd, Nat.reduceBEq, Nat.reduceLeDiff, Int.reduceLT, Int.reduceLE, Int.reduceNeg, Int.reduceBEq, Int.reduceBNe, Int.reduceToNat]; repeat (simp (disch := omega) only [wrap_small, getD_map_lt, getD_range]; try simp only [go_sem, Nat.reduceSub, reduceIte, Nat.reduceEqDiff, Nat.reduceLT, Nat.reduceMul, Nat.reduceAdd, Nat.reduceBEq, Nat.reduceLeDiff, Int.reduceLT, Int.reduceLE, Int.reduceNeg, Int.reduceBEq, Int.reduceBNe, Int.reduceToNat, List.length_map, pcT, S4.ts]))
    | (refine AV.cond ?_ ?_ (fun hc => ?_) (fun hc => ?_) <;> (try simp only [go_sem, Nat.reduceSub, reduceIte, Nat.reduceEqDiff, Nat.reduceLT, Nat.reduceMul, Nat.reduceAdd, Nat.reduceBEq, Nat.reduceLeDiff, Int.reduceLT, Int.reduceLE, Int.reduceNeg, Int.reduceBEq, Int.reduceBNe, Int.reduceToNat, beq_iff_eq, beq_eq_false_iff_ne] at hc) <;> (try simp only [go_sem, Nat.reduceSub, reduceIte, Nat.reduceEqDiff, Nat.reduceLT, Nat.reduceMul, Nat.reduceAdd, Nat.reduceBEq, Nat.reduceLeDiff, Int.reduceLT, Int.reduceLE, Int.reduceNeg, Int.reduceBEq, Int.reduceBNe, Int.reduceToNat]))
    | ((first | refine AV.skip ?_ | refine AV.exit ?_); simp only [go_sem, Nat.reduceSub, reduceIte, Nat.reduceEqDiff, Nat.reduceLT, Nat.reduceMul, Nat.reduceAdd, Nat.reduceBEq, Nat.reduceLeDiff, Int.reduceLT, Int.reduceLE, Int.reduceNeg, Int.reduceBEq, Int.reduceBNe, Int.reduceToNat])
    | ((first | refine ⟨_, _, empty83_spec w.size hw, rfl, ?_⟩ | refine ⟨_, _, empty83_spec w.size hw, ?_⟩ | refine ⟨_, _, fun _ => empty83_spec w.size hw, rfl, fun _ => trivial, ?_⟩); (try simp only [go_sem, Nat.reduceSub, reduceIte, Nat.reduceEqDiff, Nat.reduceLT, Nat.reduceMul, Nat.reduceAdd, Nat.reduceBEq, Nat.reduceLeDiff, Int.reduceLT, Int.reduceLE, Int.reduceNeg, Int.reduceBEq, Int.reduceBNe, Int.reduceToNat, List.length_map, pcT, S4.ts]); repeat (simp (disch := omega) only [wrap_small, getD_map_lt, getD_range]; try simp only [go_sem, Nat.reduceSub, reduceIte, Nat.reduceEqDiff, Nat.reduceLT, Nat.reduceMul, Nat.reduceAdd, Nat.reduceBEq, Nat.reduceLeDiff, Int.reduceLT, Int.reduceLE, Int.reduceNeg, Int.reduceBEq, Int.reduceBNe, Int.reduceToNat, List.length_map, pcT, S4.ts]))
    | ((first | refine ⟨.sh, .bool false, rfl, trivial, ?_⟩ | refine ⟨.sh, .bool false, rfl, ?_⟩); try simp only [go_sem, Nat.reduceSub, reduceIte, Nat.reduceEqDiff, Nat.reduceLT, Nat.reduceMul, Nat.reduceAdd, Nat.reduceBEq, Nat.reduceLeDiff, Int.reduceLT, Int.reduceLE, Int.reduceNeg, Int.reduceBEq, Int.reduceBNe, Int.reduceToNat])
    | (refine AV.ret ?_; (try simp only [go_sem, Nat.reduceSub, reduceIte, Nat.reduceEqDiff, Nat.reduceLT, Nat.reduceMul, Nat.reduceAdd, Nat.reduceBEq, Nat.reduceLeDiff, Int.reduceLT, Int.reduceLE, Int.reduceNeg, Int.reduceBEq, Int.reduceBNe, Int.reduceToNat]); first | refine atEnd_t (by simp only [go_sem, Nat.reduceSub, reduceIte, Nat.reduceEqDiff, Nat.reduceLT, Nat.reduceMul, Nat.reduceAdd, Nat.reduceBEq, Nat.reduceLeDiff, Int.reduceLT, Int.reduceLE, Int.reduceNeg, Int.reduceBEq, Int.reduceBNe, Int.reduceToNat] <;> rfl) ?_ (by first | (simp [rxT]; done) | exact leftT_tup _) | refine atEnd_c (by simp only [go_sem, Nat.reduceSub, reduceIte, Nat.reduceEqDiff, Nat.reduceLT, Nat.reduceMul, Nat.reduceAdd, Nat.reduceBEq, Nat.reduceLeDiff, Int.reduceLT, Int.reduceLE, Int.reduceNeg, Int.reduceBEq, Int.reduceBNe, Int.reduceToNat] <;> rfl) ?_ (by first | (simp [rxT]; done) | exact leftT_tup _) | refine atEnd_ct (by simp only [go_sem, Nat.reduceSub, reduceIte, Nat.reduceEqDiff, Nat.reduceLT, Nat.reduceMul, Nat.reduceAdd, Nat.reduceBEq, Nat.reduceLeDiff, Int.reduceLT, Int.reduceLE, Int.reduceNeg, Int.reduceBEq, Int.reduceBNe, Int.reduceToNat] <;> rfl) ?_ (by first | (simp; done) | exact leftT_tup _) (by simp only [go_sem, Nat.reduceSub, reduceIte, Nat.reduceEqDiff, Nat.reduceLT, Nat.reduceMul, Nat.reduceAdd, Nat.reduceBEq, Nat.reduceLeDiff, Int.reduceLT, Int.reduceLE, Int.reduceNeg, Int.reduceBEq, Int.reduceBNe, Int.reduceToNat] <;> rfl) ?_ (by simp) | refine atEnd_o (by simp only [go_sem, Nat.reduceSub, reduceIte, Nat.reduceEqDiff, Nat.reduceLT, Nat.reduceMul, Nat.reduceAdd, Nat.reduceBEq, Nat.reduceLeDiff, Int.reduceLT, Int.reduceLE, Int.reduceNeg, Int.reduceBEq, Int.reduceBNe, Int.reduceToNat] <;> rfl) ?_)
    | (refine And.intro ?_ ?_)
    | (with_reducible intro _)
  all_goals try first | exact True.intro | omega | exact ⟨_, _, rfl⟩ | exact allSolid_pcs _ | exact allSolid_one _ | exact allSolid_bool _ | rfl
theorem toNat_succ (i : Nat) : ((i : Int) + 1).toNat = i + 1 := by omega
def one41I (w : ByteArray) (s : S4) (m : Nat) (σ : Env) : Prop := ∃ (i : Nat) (h : Nat → Nat → Bool), i + m = w.size ∧ (∀ a b, a ≤ w.size → b ≤ w.size → (h a b = true ↔ a < i ∧ oneB w s a b = true)) ∧
  σ = [(2, .t (.str w)), (3, .own (.box [.sh, .sh, .sh, .sh, .sh]) (.agg (.int .i64 1 :: s.ts))), (7, .own (.sl [.sl [.sh]]) (matT w.size h)), (8, .t (.int .i64 (i : Int)))]
theorem spans41_1 (s : S4) (w : ByteArray) (hw : w.size ≤ 1000000) : ACalls Try.prog 41 [pcT ⟨1, s⟩, .sl 1 [], .str w] (.sl [.sl [.sh]]) (matT w.size (spansB w ⟨1, s⟩ [])) := by
  have e : spansB w ⟨1, s⟩ [] = oneB w s := rfl
  rw [e]
  refine ACalls.of n41 rfl (m41 _ rfl) q41 (by simp only [List.length_cons, List.length_nil]; decide) (fun C hC => ?_)
  have hN : C.N = 83 := hC
  repeat' first
    | refine AV.seq ?_
    | refine AV.block ?_
    | ((first | refine AV.reg ?_ | refine AV.regD mixed ?_); simp only [hN, c41R0, c41R1, c41R2, c41R3, c41R4, c41R5, c41R7, c41R6, c41R8, c41R9, c41R10, c41R11, c41R12, c41R13, c41R14, c41R15, c41R16, c41R17, c41R18, c41R19, List.length_map, pcT, S4.ts, go_sem, Nat.reduceSub, reduceIte, Nat.reduceEqDiff, Nat.reduceLT, Nat.reduceMul, Nat.reduceAdd, Nat.reduceBEq, Nat.reduceLeDiff, Int.reduceLT, Int.reduceLE, Int.reduceNeg, Int.reduceBEq, Int.reduceBNe, Int.reduceToNat]; repeat (simp (disch := omega) only [wrap_small, getD_map_lt, getD_range]; try simp only [go_sem, Nat.reduceSub, reduceIte, Nat.reduceEqDiff, Nat.reduceLT, Nat.reduceMul, Nat.reduceAdd, Nat.reduceBEq, Nat.reduceLeDiff, Int.reduceLT, Int.reduceLE, Int.reduceNeg, Int.reduceBEq, Int.reduceBNe, Int.reduceToNat, List.length_map, pcT, S4.ts]))
    | (refine AV.cond ?_ ?_ (fun hc => ?_) (fun hc => ?_) <;> (try simp only [go_sem, Nat.reduceSub, reduceIte, Nat.reduceEqDiff, Nat.reduceLT, Nat.reduceMul, Nat.reduceAdd, Nat.reduceBEq, Nat.reduceLeDiff, Int.reduceLT, Int.reduceLE, Int.reduceNeg, Int.reduceBEq, Int.reduceBNe, Int.reduceToNat, beq_iff_eq, beq_eq_false_iff_ne] at hc) <;> (try simp only [go_sem, Nat.reduceSub, reduceIte, Nat.reduceEqDiff, Nat.reduceLT, Nat.reduceMul, Nat.reduceAdd, Nat.reduceBEq, Nat.reduceLeDiff, Int.reduceLT, Int.reduceLE, Int.reduceNeg, Int.reduceBEq, Int.reduceBNe, Int.reduceToNat]))
    | ((first | refine AV.skip ?_ | refine AV.exit ?_); simp only [go_sem, Nat.reduceSub, reduceIte, Nat.reduceEqDiff, Nat.reduceLT, Nat.reduceMul, Nat.reduceAdd, Nat.reduceBEq, Nat.reduceLeDiff, Int.reduceLT, Int.reduceLE, Int.reduceNeg, Int.reduceBEq, Int.reduceBNe, Int.reduceToNat])
    | ((first | refine ⟨_, _, none79_spec w.size hw, rfl, ?_⟩ | refine ⟨_, _, none79_spec w.size hw, ?_⟩ | refine ⟨_, _, fun _ => none79_spec w.size hw, rfl, fun _ => trivial, ?_⟩); (try simp only [go_sem, Nat.reduceSub, reduceIte, Nat.reduceEqDiff, Nat.reduceLT, Nat.reduceMul, Nat.reduceAdd, Nat.reduceBEq, Nat.reduceLeDiff, Int.reduceLT, Int.reduceLE, Int.reduceNeg, Int.reduceBEq, Int.reduceBNe, Int.reduceToNat, List.length_map, pcT, S4.ts]); repeat (simp (disch := omega) only [wrap_small, getD_map_lt, getD_range]; try simp only [go_sem, Nat.reduceSub, reduceIte, Nat.reduceEqDiff, Nat.reduceLT, Nat.reduceMul, Nat.reduceAdd, Nat.reduceBEq, Nat.reduceLeDiff, Int.reduceLT, Int.reduceLE, Int.reduceNeg, Int.reduceBEq, Int.reduceBNe, Int.reduceToNat, List.length_map, pcT, S4.ts]))
    | ((first | refine ⟨.sh, .bool false, rfl, trivial, ?_⟩ | refine ⟨.sh, .bool false, rfl, ?_⟩); try simp only [go_sem, Nat.reduceSub, reduceIte, Nat.reduceEqDiff, Nat.reduceLT, Nat.reduceMul, Nat.reduceAdd, Nat.reduceBEq, Nat.reduceLeDiff, Int.reduceLT, Int.reduceLE, Int.reduceNeg, Int.reduceBEq, Int.reduceBNe, Int.reduceToNat])
    | (refine AV.ret ?_; (try simp only [go_sem, Nat.reduceSub, reduceIte, Nat.reduceEqDiff, Nat.reduceLT, Nat.reduceMul, Nat.reduceAdd, Nat.reduceBEq, Nat.reduceLeDiff, Int.reduceLT, Int.reduceLE, Int.reduceNeg, Int.reduceBEq, Int.reduceBNe, Int.reduceToNat]); first | refine atEnd_t (by simp only [go_sem, Nat.reduceSub, reduceIte, Nat.reduceEqDiff, Nat.reduceLT, Nat.reduceMul, Nat.reduceAdd, Nat.reduceBEq, Nat.reduceLeDiff, Int.reduceLT, Int.reduceLE, Int.reduceNeg, Int.reduceBEq, Int.reduceBNe, Int.reduceToNat] <;> rfl) ?_ (by first | (simp [rxT]; done) | exact leftT_tup _) | refine atEnd_c (by simp only [go_sem, Nat.reduceSub, reduceIte, Nat.reduceEqDiff, Nat.reduceLT, Nat.reduceMul, Nat.reduceAdd, Nat.reduceBEq, Nat.reduceLeDiff, Int.reduceLT, Int.reduceLE, Int.reduceNeg, Int.reduceBEq, Int.reduceBNe, Int.reduceToNat] <;> rfl) ?_ (by first | (simp [rxT]; done) | exact leftT_tup _) | refine atEnd_ct (by simp only [go_sem, Nat.reduceSub, reduceIte, Nat.reduceEqDiff, Nat.reduceLT, Nat.reduceMul, Nat.reduceAdd, Nat.reduceBEq, Nat.reduceLeDiff, Int.reduceLT, Int.reduceLE, Int.reduceNeg, Int.reduceBEq, Int.reduceBNe, Int.reduceToNat] <;> rfl) ?_ (by first | (simp; done) | exact leftT_tup _) (by simp only [go_sem, Nat.reduceSub, reduceIte, Nat.reduceEqDiff, Nat.reduceLT, Nat.reduceMul, Nat.reduceAdd, Nat.reduceBEq, Nat.reduceLeDiff, Int.reduceLT, Int.reduceLE, Int.reduceNeg, Int.reduceBEq, Int.reduceBNe, Int.reduceToNat] <;> rfl) ?_ (by simp) | refine atEnd_o (by simp only [go_sem, Nat.reduceSub, reduceIte, Nat.reduceEqDiff, Nat.reduceLT, Nat.reduceMul, Nat.reduceAdd, Nat.reduceBEq, Nat.reduceLeDiff, Int.reduceLT, Int.reduceLE, Int.reduceNeg, Int.reduceBEq, Int.reduceBNe, Int.reduceToNat] <;> rfl) ?_)
    | (refine And.intro ?_ ?_)
    | (with_reducible intro _)
  all_goals try first | exact True.intro | omega | exact ⟨_, _, rfl⟩ | exact allSolid_pcs _ | exact allSolid_one _ | exact allSolid_bool _ | rfl
  refine AV.loopK [2, 3, 7, 8] (by simp only [hN]; decide) (n := w.size) (one41I w s) ?_ ⟨0, fun _ _ => false, by omega, by simp, by simp only [go_sem, Nat.reduceSub, reduceIte, Nat.reduceEqDiff, Nat.reduceLT, Nat.reduceMul, Nat.reduceAdd, Nat.reduceBEq, Nat.reduceLeDiff, Int.reduceLT, Int.reduceLE, Int.reduceNeg, Int.reduceBEq, Int.reduceBNe, Int.reduceToNat] <;> rfl⟩
  rintro m σ ⟨i, h, hi, hh, rfl⟩
  by_cases hi2 : i < w.size
  · obtain ⟨c, hce⟩ : ∃ c, (w.data.toList.getD i 0).toNat = c := ⟨_, rfl⟩
    have hcc := byte_lt w i
    rw [hce] at hcc
    repeat' first
      | refine AV.seq ?_
      | refine AV.block ?_
      | ((first | refine AV.reg ?_ | refine AV.regD mixed ?_); simp only [hN, c41R0, c41R1, c41R2, c41R3, c41R4, c41R5, c41R7, c41R6, c41R8, c41R9, c41R10, c41R11, c41R12, c41R13, c41R14, c41R15, c41R16, c41R17, c41R18, c41R19, List.length_map, pcT, S4.ts, hce, matT, brow, idxs_len, toNat_succ, go_sem, Nat.reduceSub, reduceIte, Nat.reduceEqDiff, Nat.reduceLT, Nat.reduceMul, Nat.reduceAdd, Nat.reduceBEq, Nat.reduceLeDiff, Int.reduceLT, Int.reduceLE, Int.reduceNeg, Int.reduceBEq, Int.reduceBNe, Int.reduceToNat]; repeat (simp (disch := omega) only [wrap_small, getD_map_lt, getD_range]; try simp only [go_sem, Nat.reduceSub, reduceIte, Nat.reduceEqDiff, Nat.reduceLT, Nat.reduceMul, Nat.reduceAdd, Nat.reduceBEq, Nat.reduceLeDiff, Int.reduceLT, Int.reduceLE, Int.reduceNeg, Int.reduceBEq, Int.reduceBNe, Int.reduceToNat, List.length_map, pcT, S4.ts, hce, matT, brow, idxs_len, toNat_succ]))
      | (refine AV.cond ?_ ?_ (fun hc => ?_) (fun hc => ?_) <;> (try simp only [go_sem, Nat.reduceSub, reduceIte, Nat.reduceEqDiff, Nat.reduceLT, Nat.reduceMul, Nat.reduceAdd, Nat.reduceBEq, Nat.reduceLeDiff, Int.reduceLT, Int.reduceLE, Int.reduceNeg, Int.reduceBEq, Int.reduceBNe, Int.reduceToNat, beq_iff_eq, beq_eq_false_iff_ne] at hc) <;> (try simp only [go_sem, Nat.reduceSub, reduceIte, Nat.reduceEqDiff, Nat.reduceLT, Nat.reduceMul, Nat.reduceAdd, Nat.reduceBEq, Nat.reduceLeDiff, Int.reduceLT, Int.reduceLE, Int.reduceNeg, Int.reduceBEq, Int.reduceBNe, Int.reduceToNat]))
      | ((first | refine AV.skip ?_ | refine AV.exit ?_); simp only [go_sem, Nat.reduceSub, reduceIte, Nat.reduceEqDiff, Nat.reduceLT, Nat.reduceMul, Nat.reduceAdd, Nat.reduceBEq, Nat.reduceLeDiff, Int.reduceLT, Int.reduceLE, Int.reduceNeg, Int.reduceBEq, Int.reduceBNe, Int.reduceToNat])
      | ((first | refine ⟨_, _, has17_spec s c hcc, rfl, ?_⟩ | refine ⟨_, _, has17_spec s c hcc, ?_⟩ | refine ⟨_, _, fun _ => has17_spec s c hcc, rfl, fun _ => trivial, ?_⟩); (try simp only [go_sem, Nat.reduceSub, reduceIte, Nat.reduceEqDiff, Nat.reduceLT, Nat.reduceMul, Nat.reduceAdd, Nat.reduceBEq, Nat.reduceLeDiff, Int.reduceLT, Int.reduceLE, Int.reduceNeg, Int.reduceBEq, Int.reduceBNe, Int.reduceToNat, List.length_map, pcT, S4.ts, hce, matT, brow, idxs_len, toNat_succ]); repeat (simp (disch := omega) only [wrap_small, getD_map_lt, getD_range]; try simp only [go_sem, Nat.reduceSub, reduceIte, Nat.reduceEqDiff, Nat.reduceLT, Nat.reduceMul, Nat.reduceAdd, Nat.reduceBEq, Nat.reduceLeDiff, Int.reduceLT, Int.reduceLE, Int.reduceNeg, Int.reduceBEq, Int.reduceBNe, Int.reduceToNat, List.length_map, pcT, S4.ts, hce, matT, brow, idxs_len, toNat_succ]))
      | ((first | refine ⟨.sh, .bool false, rfl, trivial, ?_⟩ | refine ⟨.sh, .bool false, rfl, ?_⟩); try simp only [go_sem, Nat.reduceSub, reduceIte, Nat.reduceEqDiff, Nat.reduceLT, Nat.reduceMul, Nat.reduceAdd, Nat.reduceBEq, Nat.reduceLeDiff, Int.reduceLT, Int.reduceLE, Int.reduceNeg, Int.reduceBEq, Int.reduceBNe, Int.reduceToNat])
      | (refine AV.ret ?_; (try simp only [go_sem, Nat.reduceSub, reduceIte, Nat.reduceEqDiff, Nat.reduceLT, Nat.reduceMul, Nat.reduceAdd, Nat.reduceBEq, Nat.reduceLeDiff, Int.reduceLT, Int.reduceLE, Int.reduceNeg, Int.reduceBEq, Int.reduceBNe, Int.reduceToNat]); first | refine atEnd_t (by simp only [go_sem, Nat.reduceSub, reduceIte, Nat.reduceEqDiff, Nat.reduceLT, Nat.reduceMul, Nat.reduceAdd, Nat.reduceBEq, Nat.reduceLeDiff, Int.reduceLT, Int.reduceLE, Int.reduceNeg, Int.reduceBEq, Int.reduceBNe, Int.reduceToNat] <;> rfl) ?_ (by first | (simp [rxT]; done) | exact leftT_tup _) | refine atEnd_c (by simp only [go_sem, Nat.reduceSub, reduceIte, Nat.reduceEqDiff, Nat.reduceLT, Nat.reduceMul, Nat.reduceAdd, Nat.reduceBEq, Nat.reduceLeDiff, Int.reduceLT, Int.reduceLE, Int.reduceNeg, Int.reduceBEq, Int.reduceBNe, Int.reduceToNat] <;> rfl) ?_ (by first | (simp [rxT]; done) | exact leftT_tup _) | refine atEnd_ct (by simp only [go_sem, Nat.reduceSub, reduceIte, Nat.reduceEqDiff, Nat.reduceLT, Nat.reduceMul, Nat.reduceAdd, Nat.reduceBEq, Nat.reduceLeDiff, Int.reduceLT, Int.reduceLE, Int.reduceNeg, Int.reduceBEq, Int.reduceBNe, Int.reduceToNat] <;> rfl) ?_ (by first | (simp; done) | exact leftT_tup _) (by simp only [go_sem, Nat.reduceSub, reduceIte, Nat.reduceEqDiff, Nat.reduceLT, Nat.reduceMul, Nat.reduceAdd, Nat.reduceBEq, Nat.reduceLeDiff, Int.reduceLT, Int.reduceLE, Int.reduceNeg, Int.reduceBEq, Int.reduceBNe, Int.reduceToNat] <;> rfl) ?_ (by simp) | refine atEnd_o (by simp only [go_sem, Nat.reduceSub, reduceIte, Nat.reduceEqDiff, Nat.reduceLT, Nat.reduceMul, Nat.reduceAdd, Nat.reduceBEq, Nat.reduceLeDiff, Int.reduceLT, Int.reduceLE, Int.reduceNeg, Int.reduceBEq, Int.reduceBNe, Int.reduceToNat] <;> rfl) ?_)
      | (refine And.intro ?_ ?_)
      | (with_reducible intro _)
    all_goals try first | exact True.intro | omega | exact ⟨_, _, rfl⟩ | exact allSolid_pcs _ | exact allSolid_one _ | exact allSolid_bool _ | rfl
    refine ⟨m - 1, by omega, i + 1, up2 h i (i + 1) (s.has c), by omega, ?_, by rw [mat_put]; rfl⟩
    intro a b ha hb
    unfold up2
    split
    · rename_i e1
      obtain ⟨rfl, rfl⟩ := e1
      simp only [oneB, hce]
      simp [hi2]
    · rename_i e1
      rw [hh a b ha hb]
      constructor
      · rintro ⟨h1, h2⟩; exact ⟨by omega, h2⟩
      · rintro ⟨h1, h2⟩
        refine ⟨?_, h2⟩
        simp only [oneB, Bool.and_eq_true, decide_eq_true_eq] at h2
        omega
  · repeat' first
      | refine AV.seq ?_
      | refine AV.block ?_
      | ((first | refine AV.reg ?_ | refine AV.regD mixed ?_); simp only [hN, c41R0, c41R1, c41R2, c41R3, c41R4, c41R5, c41R7, c41R6, c41R8, c41R9, c41R10, c41R11, c41R12, c41R13, c41R14, c41R15, c41R16, c41R17, c41R18, c41R19, List.length_map, pcT, S4.ts, matT, go_sem, Nat.reduceSub, reduceIte, Nat.reduceEqDiff, Nat.reduceLT, Nat.reduceMul, Nat.reduceAdd, Nat.reduceBEq, Nat.reduceLeDiff, Int.reduceLT, Int.reduceLE, Int.reduceNeg, Int.reduceBEq, Int.reduceBNe, Int.reduceToNat]; repeat (simp (disch := omega) only [wrap_small, getD_map_lt, getD_range]; try simp only [go_sem, Nat.reduceSub, reduceIte, Nat.reduceEqDiff, Nat.reduceLT, Nat.reduceMul, Nat.reduceAdd, Nat.reduceBEq, Nat.reduceLeDiff, Int.reduceLT, Int.reduceLE, Int.reduceNeg, Int.reduceBEq, Int.reduceBNe, Int.reduceToNat, List.length_map, pcT, S4.ts, matT]))
      | (refine AV.cond ?_ ?_ (fun hc => ?_) (fun hc => ?_) <;> (try simp only [go_sem, Nat.reduceSub, reduceIte, Nat.reduceEqDiff, Nat.reduceLT, Nat.reduceMul, Nat.reduceAdd, Nat.reduceBEq, Nat.reduceLeDiff, Int.reduceLT, Int.reduceLE, Int.reduceNeg, Int.reduceBEq, Int.reduceBNe, Int.reduceToNat, beq_iff_eq, beq_eq_false_iff_ne] at hc) <;> (try simp only [go_sem, Nat.reduceSub, reduceIte, Nat.reduceEqDiff, Nat.reduceLT, Nat.reduceMul, Nat.reduceAdd, Nat.reduceBEq, Nat.reduceLeDiff, Int.reduceLT, Int.reduceLE, Int.reduceNeg, Int.reduceBEq, Int.reduceBNe, Int.reduceToNat]))
      | ((first | refine AV.skip ?_ | refine AV.exit ?_); simp only [go_sem, Nat.reduceSub, reduceIte, Nat.reduceEqDiff, Nat.reduceLT, Nat.reduceMul, Nat.reduceAdd, Nat.reduceBEq, Nat.reduceLeDiff, Int.reduceLT, Int.reduceLE, Int.reduceNeg, Int.reduceBEq, Int.reduceBNe, Int.reduceToNat])
      | (refine AV.ret ?_; (try simp only [go_sem, Nat.reduceSub, reduceIte, Nat.reduceEqDiff, Nat.reduceLT, Nat.reduceMul, Nat.reduceAdd, Nat.reduceBEq, Nat.reduceLeDiff, Int.reduceLT, Int.reduceLE, Int.reduceNeg, Int.reduceBEq, Int.reduceBNe, Int.reduceToNat]); first | refine atEnd_t (by simp only [go_sem, Nat.reduceSub, reduceIte, Nat.reduceEqDiff, Nat.reduceLT, Nat.reduceMul, Nat.reduceAdd, Nat.reduceBEq, Nat.reduceLeDiff, Int.reduceLT, Int.reduceLE, Int.reduceNeg, Int.reduceBEq, Int.reduceBNe, Int.reduceToNat] <;> rfl) ?_ (by first | (simp [rxT]; done) | exact leftT_tup _) | refine atEnd_c (by simp only [go_sem, Nat.reduceSub, reduceIte, Nat.reduceEqDiff, Nat.reduceLT, Nat.reduceMul, Nat.reduceAdd, Nat.reduceBEq, Nat.reduceLeDiff, Int.reduceLT, Int.reduceLE, Int.reduceNeg, Int.reduceBEq, Int.reduceBNe, Int.reduceToNat] <;> rfl) ?_ (by first | (simp [rxT]; done) | exact leftT_tup _) | refine atEnd_ct (by simp only [go_sem, Nat.reduceSub, reduceIte, Nat.reduceEqDiff, Nat.reduceLT, Nat.reduceMul, Nat.reduceAdd, Nat.reduceBEq, Nat.reduceLeDiff, Int.reduceLT, Int.reduceLE, Int.reduceNeg, Int.reduceBEq, Int.reduceBNe, Int.reduceToNat] <;> rfl) ?_ (by first | (simp; done) | exact leftT_tup _) (by simp only [go_sem, Nat.reduceSub, reduceIte, Nat.reduceEqDiff, Nat.reduceLT, Nat.reduceMul, Nat.reduceAdd, Nat.reduceBEq, Nat.reduceLeDiff, Int.reduceLT, Int.reduceLE, Int.reduceNeg, Int.reduceBEq, Int.reduceBNe, Int.reduceToNat] <;> rfl) ?_ (by simp) | refine atEnd_o (by simp only [go_sem, Nat.reduceSub, reduceIte, Nat.reduceEqDiff, Nat.reduceLT, Nat.reduceMul, Nat.reduceAdd, Nat.reduceBEq, Nat.reduceLeDiff, Int.reduceLT, Int.reduceLE, Int.reduceNeg, Int.reduceBEq, Int.reduceBNe, Int.reduceToNat] <;> rfl) ?_)
      | (refine And.intro ?_ ?_)
      | (with_reducible intro _)
    all_goals try first | exact True.intro | omega | exact ⟨_, _, rfl⟩ | exact allSolid_pcs _ | exact allSolid_one _ | exact allSolid_bool _ | rfl
    refine matT_congr w.size h _ (fun a b ha hb => bool_ext ?_)
    rw [hh a b ha hb]
    constructor
    · rintro ⟨_, h2⟩; exact h2
    · intro h2
      refine ⟨?_, h2⟩
      simp only [oneB, Bool.and_eq_true, decide_eq_true_eq] at h2
      omega
theorem spans41_2 (s : S4) (w : ByteArray) (hw : w.size ≤ 1000000) (f g : Nat → Nat → Bool) : ACalls Try.prog 41 [pcT ⟨2, s⟩, .sl 1 [matT w.size f, matT w.size g], .str w] (.sl [.sl [.sh]]) (matT w.size (spansB w ⟨2, s⟩ [f, g])) := by
  have e : spansB w ⟨2, s⟩ [f, g] = thenB f g := rfl
  rw [e]
  refine ACalls.of n41 rfl (m41 _ rfl) q41 (by simp only [List.length_cons, List.length_nil]; decide) (fun C hC => ?_)
  have hN : C.N = 83 := hC
  repeat' first
    | refine AV.seq ?_
    | refine AV.block ?_
    | ((first | refine AV.reg ?_ | refine AV.regD mixed ?_); simp only [hN, c41R0, c41R1, c41R2, c41R3, c41R4, c41R5, c41R7, c41R6, c41R8, c41R9, c41R10, c41R11, c41R12, c41R13, c41R14, c41R15, c41R16, c41R17, c41R18, c41R19, List.length_map, pcT, S4.ts, matT, go_sem, Nat.reduceSub, reduceIte, Nat.reduceEqDiff, Nat.reduceLT, Nat.reduceMul, Nat.reduceAdd, Nat.reduceBEq, Nat.reduceLeDiff, Int.reduceLT, Int.reduceLE, Int.reduceNeg, Int.reduceBEq, Int.reduceBNe, Int.reduceToNat]; repeat (simp (disch := omega) only [wrap_small, getD_map_lt, getD_range]; try simp only [go_sem, Nat.reduceSub, reduceIte, Nat.reduceEqDiff, Nat.reduceLT, Nat.reduceMul, Nat.reduceAdd, Nat.reduceBEq, Nat.reduceLeDiff, Int.reduceLT, Int.reduceLE, Int.reduceNeg, Int.reduceBEq, Int.reduceBNe, Int.reduceToNat, List.length_map, pcT, S4.ts, matT]))
    | (refine AV.cond ?_ ?_ (fun hc => ?_) (fun hc => ?_) <;> (try simp only [go_sem, Nat.reduceSub, reduceIte, Nat.reduceEqDiff, Nat.reduceLT, Nat.reduceMul, Nat.reduceAdd, Nat.reduceBEq, Nat.reduceLeDiff, Int.reduceLT, Int.reduceLE, Int.reduceNeg, Int.reduceBEq, Int.reduceBNe, Int.reduceToNat, beq_iff_eq, beq_eq_false_iff_ne] at hc) <;> (try simp only [go_sem, Nat.reduceSub, reduceIte, Nat.reduceEqDiff, Nat.reduceLT, Nat.reduceMul, Nat.reduceAdd, Nat.reduceBEq, Nat.reduceLeDiff, Int.reduceLT, Int.reduceLE, Int.reduceNeg, Int.reduceBEq, Int.reduceBNe, Int.reduceToNat]))
    | ((first | refine AV.skip ?_ | refine AV.exit ?_); simp only [go_sem, Nat.reduceSub, reduceIte, Nat.reduceEqDiff, Nat.reduceLT, Nat.reduceMul, Nat.reduceAdd, Nat.reduceBEq, Nat.reduceLeDiff, Int.reduceLT, Int.reduceLE, Int.reduceNeg, Int.reduceBEq, Int.reduceBNe, Int.reduceToNat])
    | ((first | refine ⟨_, _, then80_spec w.size hw f g (thenB f g) (fun a b _ _ => thenB_iff f g a b), rfl, ?_⟩ | refine ⟨_, _, then80_spec w.size hw f g (thenB f g) (fun a b _ _ => thenB_iff f g a b), ?_⟩ | refine ⟨_, _, fun _ => then80_spec w.size hw f g (thenB f g) (fun a b _ _ => thenB_iff f g a b), rfl, fun _ => trivial, ?_⟩); (try simp only [go_sem, Nat.reduceSub, reduceIte, Nat.reduceEqDiff, Nat.reduceLT, Nat.reduceMul, Nat.reduceAdd, Nat.reduceBEq, Nat.reduceLeDiff, Int.reduceLT, Int.reduceLE, Int.reduceNeg, Int.reduceBEq, Int.reduceBNe, Int.reduceToNat, List.length_map, pcT, S4.ts, matT]); repeat (simp (disch := omega) only [wrap_small, getD_map_lt, getD_range]; try simp only [go_sem, Nat.reduceSub, reduceIte, Nat.reduceEqDiff, Nat.reduceLT, Nat.reduceMul, Nat.reduceAdd, Nat.reduceBEq, Nat.reduceLeDiff, Int.reduceLT, Int.reduceLE, Int.reduceNeg, Int.reduceBEq, Int.reduceBNe, Int.reduceToNat, List.length_map, pcT, S4.ts, matT]))
    | ((first | refine ⟨.sh, .bool false, rfl, trivial, ?_⟩ | refine ⟨.sh, .bool false, rfl, ?_⟩); try simp only [go_sem, Nat.reduceSub, reduceIte, Nat.reduceEqDiff, Nat.reduceLT, Nat.reduceMul, Nat.reduceAdd, Nat.reduceBEq, Nat.reduceLeDiff, Int.reduceLT, Int.reduceLE, Int.reduceNeg, Int.reduceBEq, Int.reduceBNe, Int.reduceToNat])
    | (refine AV.ret ?_; (try simp only [go_sem, Nat.reduceSub, reduceIte, Nat.reduceEqDiff, Nat.reduceLT, Nat.reduceMul, Nat.reduceAdd, Nat.reduceBEq, Nat.reduceLeDiff, Int.reduceLT, Int.reduceLE, Int.reduceNeg, Int.reduceBEq, Int.reduceBNe, Int.reduceToNat]); first | refine atEnd_t (by simp only [go_sem, Nat.reduceSub, reduceIte, Nat.reduceEqDiff, Nat.reduceLT, Nat.reduceMul, Nat.reduceAdd, Nat.reduceBEq, Nat.reduceLeDiff, Int.reduceLT, Int.reduceLE, Int.reduceNeg, Int.reduceBEq, Int.reduceBNe, Int.reduceToNat] <;> rfl) ?_ (by first | (simp [rxT]; done) | exact leftT_tup _) | refine atEnd_c (by simp only [go_sem, Nat.reduceSub, reduceIte, Nat.reduceEqDiff, Nat.reduceLT, Nat.reduceMul, Nat.reduceAdd, Nat.reduceBEq, Nat.reduceLeDiff, Int.reduceLT, Int.reduceLE, Int.reduceNeg, Int.reduceBEq, Int.reduceBNe, Int.reduceToNat] <;> rfl) ?_ (by first | (simp [rxT]; done) | exact leftT_tup _) | refine atEnd_ct (by simp only [go_sem, Nat.reduceSub, reduceIte, Nat.reduceEqDiff, Nat.reduceLT, Nat.reduceMul, Nat.reduceAdd, Nat.reduceBEq, Nat.reduceLeDiff, Int.reduceLT, Int.reduceLE, Int.reduceNeg, Int.reduceBEq, Int.reduceBNe, Int.reduceToNat] <;> rfl) ?_ (by first | (simp; done) | exact leftT_tup _) (by simp only [go_sem, Nat.reduceSub, reduceIte, Nat.reduceEqDiff, Nat.reduceLT, Nat.reduceMul, Nat.reduceAdd, Nat.reduceBEq, Nat.reduceLeDiff, Int.reduceLT, Int.reduceLE, Int.reduceNeg, Int.reduceBEq, Int.reduceBNe, Int.reduceToNat] <;> rfl) ?_ (by simp) | refine atEnd_o (by simp only [go_sem, Nat.reduceSub, reduceIte, Nat.reduceEqDiff, Nat.reduceLT, Nat.reduceMul, Nat.reduceAdd, Nat.reduceBEq, Nat.reduceLeDiff, Int.reduceLT, Int.reduceLE, Int.reduceNeg, Int.reduceBEq, Int.reduceBNe, Int.reduceToNat] <;> rfl) ?_)
    | (refine And.intro ?_ ?_)
    | (with_reducible intro _)
  all_goals try first | exact True.intro | omega | exact ⟨_, _, rfl⟩ | exact allSolid_pcs _ | exact allSolid_one _ | exact allSolid_bool _ | rfl
theorem spans41_3 (s : S4) (w : ByteArray) (hw : w.size ≤ 1000000) (f g : Nat → Nat → Bool) : ACalls Try.prog 41 [pcT ⟨3, s⟩, .sl 1 [matT w.size f, matT w.size g], .str w] (.sl [.sl [.sh]]) (matT w.size (spansB w ⟨3, s⟩ [f, g])) := by
  have e : spansB w ⟨3, s⟩ [f, g] = orB f g := rfl
  rw [e]
  refine ACalls.of n41 rfl (m41 _ rfl) q41 (by simp only [List.length_cons, List.length_nil]; decide) (fun C hC => ?_)
  have hN : C.N = 83 := hC
  repeat' first
    | refine AV.seq ?_
    | refine AV.block ?_
    | ((first | refine AV.reg ?_ | refine AV.regD mixed ?_); simp only [hN, c41R0, c41R1, c41R2, c41R3, c41R4, c41R5, c41R7, c41R6, c41R8, c41R9, c41R10, c41R11, c41R12, c41R13, c41R14, c41R15, c41R16, c41R17, c41R18, c41R19, List.length_map, pcT, S4.ts, matT, go_sem, Nat.reduceSub, reduceIte, Nat.reduceEqDiff, Nat.reduceLT, Nat.reduceMul, Nat.reduceAdd, Nat.reduceBEq, Nat.reduceLeDiff, Int.reduceLT, Int.reduceLE, Int.reduceNeg, Int.reduceBEq, Int.reduceBNe, Int.reduceToNat]; repeat (simp (disch := omega) only [wrap_small, getD_map_lt, getD_range]; try simp only [go_sem, Nat.reduceSub, reduceIte, Nat.reduceEqDiff, Nat.reduceLT, Nat.reduceMul, Nat.reduceAdd, Nat.reduceBEq, Nat.reduceLeDiff, Int.reduceLT, Int.reduceLE, Int.reduceNeg, Int.reduceBEq, Int.reduceBNe, Int.reduceToNat, List.length_map, pcT, S4.ts, matT]))
    | (refine AV.cond ?_ ?_ (fun hc => ?_) (fun hc => ?_) <;> (try simp only [go_sem, Nat.reduceSub, reduceIte, Nat.reduceEqDiff, Nat.reduceLT, Nat.reduceMul, Nat.reduceAdd, Nat.reduceBEq, Nat.reduceLeDiff, Int.reduceLT, Int.reduceLE, Int.reduceNeg, Int.reduceBEq, Int.reduceBNe, Int.reduceToNat, beq_iff_eq, beq_eq_false_iff_ne] at hc) <;> (try simp only [go_sem, Nat.reduceSub, reduceIte, Nat.reduceEqDiff, Nat.reduceLT, Nat.reduceMul, Nat.reduceAdd, Nat.reduceBEq, Nat.reduceLeDiff, Int.reduceLT, Int.reduceLE, Int.reduceNeg, Int.reduceBEq, Int.reduceBNe, Int.reduceToNat]))
    | ((first | refine AV.skip ?_ | refine AV.exit ?_); simp only [go_sem, Nat.reduceSub, reduceIte, Nat.reduceEqDiff, Nat.reduceLT, Nat.reduceMul, Nat.reduceAdd, Nat.reduceBEq, Nat.reduceLeDiff, Int.reduceLT, Int.reduceLE, Int.reduceNeg, Int.reduceBEq, Int.reduceBNe, Int.reduceToNat])
    | ((first | refine ⟨_, _, or81_spec w.size hw f g (orB f g) (fun a b _ _ => orB_iff f g a b), rfl, ?_⟩ | refine ⟨_, _, or81_spec w.size hw f g (orB f g) (fun a b _ _ => orB_iff f g a b), ?_⟩ | refine ⟨_, _, fun _ => or81_spec w.size hw f g (orB f g) (fun a b _ _ => orB_iff f g a b), rfl, fun _ => trivial, ?_⟩); (try simp only [go_sem, Nat.reduceSub, reduceIte, Nat.reduceEqDiff, Nat.reduceLT, Nat.reduceMul, Nat.reduceAdd, Nat.reduceBEq, Nat.reduceLeDiff, Int.reduceLT, Int.reduceLE, Int.reduceNeg, Int.reduceBEq, Int.reduceBNe, Int.reduceToNat, List.length_map, pcT, S4.ts, matT]); repeat (simp (disch := omega) only [wrap_small, getD_map_lt, getD_range]; try simp only [go_sem, Nat.reduceSub, reduceIte, Nat.reduceEqDiff, Nat.reduceLT, Nat.reduceMul, Nat.reduceAdd, Nat.reduceBEq, Nat.reduceLeDiff, Int.reduceLT, Int.reduceLE, Int.reduceNeg, Int.reduceBEq, Int.reduceBNe, Int.reduceToNat, List.length_map, pcT, S4.ts, matT]))
    | ((first | refine ⟨.sh, .bool false, rfl, trivial, ?_⟩ | refine ⟨.sh, .bool false, rfl, ?_⟩); try simp only [go_sem, Nat.reduceSub, reduceIte, Nat.reduceEqDiff, Nat.reduceLT, Nat.reduceMul, Nat.reduceAdd, Nat.reduceBEq, Nat.reduceLeDiff, Int.reduceLT, Int.reduceLE, Int.reduceNeg, Int.reduceBEq, Int.reduceBNe, Int.reduceToNat])
    | (refine AV.ret ?_; (try simp only [go_sem, Nat.reduceSub, reduceIte, Nat.reduceEqDiff, Nat.reduceLT, Nat.reduceMul, Nat.reduceAdd, Nat.reduceBEq, Nat.reduceLeDiff, Int.reduceLT, Int.reduceLE, Int.reduceNeg, Int.reduceBEq, Int.reduceBNe, Int.reduceToNat]); first | refine atEnd_t (by simp only [go_sem, Nat.reduceSub, reduceIte, Nat.reduceEqDiff, Nat.reduceLT, Nat.reduceMul, Nat.reduceAdd, Nat.reduceBEq, Nat.reduceLeDiff, Int.reduceLT, Int.reduceLE, Int.reduceNeg, Int.reduceBEq, Int.reduceBNe, Int.reduceToNat] <;> rfl) ?_ (by first | (simp [rxT]; done) | exact leftT_tup _) | refine atEnd_c (by simp only [go_sem, Nat.reduceSub, reduceIte, Nat.reduceEqDiff, Nat.reduceLT, Nat.reduceMul, Nat.reduceAdd, Nat.reduceBEq, Nat.reduceLeDiff, Int.reduceLT, Int.reduceLE, Int.reduceNeg, Int.reduceBEq, Int.reduceBNe, Int.reduceToNat] <;> rfl) ?_ (by first | (simp [rxT]; done) | exact leftT_tup _) | refine atEnd_ct (by simp only [go_sem, Nat.reduceSub, reduceIte, Nat.reduceEqDiff, Nat.reduceLT, Nat.reduceMul, Nat.reduceAdd, Nat.reduceBEq, Nat.reduceLeDiff, Int.reduceLT, Int.reduceLE, Int.reduceNeg, Int.reduceBEq, Int.reduceBNe, Int.reduceToNat] <;> rfl) ?_ (by first | (simp; done) | exact leftT_tup _) (by simp only [go_sem, Nat.reduceSub, reduceIte, Nat.reduceEqDiff, Nat.reduceLT, Nat.reduceMul, Nat.reduceAdd, Nat.reduceBEq, Nat.reduceLeDiff, Int.reduceLT, Int.reduceLE, Int.reduceNeg, Int.reduceBEq, Int.reduceBNe, Int.reduceToNat] <;> rfl) ?_ (by simp) | refine atEnd_o (by simp only [go_sem, Nat.reduceSub, reduceIte, Nat.reduceEqDiff, Nat.reduceLT, Nat.reduceMul, Nat.reduceAdd, Nat.reduceBEq, Nat.reduceLeDiff, Int.reduceLT, Int.reduceLE, Int.reduceNeg, Int.reduceBEq, Int.reduceBNe, Int.reduceToNat] <;> rfl) ?_)
    | (refine And.intro ?_ ?_)
    | (with_reducible intro _)
  all_goals try first | exact True.intro | omega | exact ⟨_, _, rfl⟩ | exact allSolid_pcs _ | exact allSolid_one _ | exact allSolid_bool _ | rfl
theorem spans41_4 (s : S4) (w : ByteArray) (hw : w.size ≤ 1000000) (f : Nat → Nat → Bool) : ACalls Try.prog 41 [pcT ⟨4, s⟩, .sl 1 [matT w.size f], .str w] (.sl [.sl [.sh]]) (matT w.size (spansB w ⟨4, s⟩ [f])) := by
  have e : spansB w ⟨4, s⟩ [f] = againB f := rfl
  rw [e]
  refine ACalls.of n41 rfl (m41 _ rfl) q41 (by simp only [List.length_cons, List.length_nil]; decide) (fun C hC => ?_)
  have hN : C.N = 83 := hC
  repeat' first
    | refine AV.seq ?_
    | refine AV.block ?_
    | ((first | refine AV.reg ?_ | refine AV.regD mixed ?_); simp only [hN, c41R0, c41R1, c41R2, c41R3, c41R4, c41R5, c41R7, c41R6, c41R8, c41R9, c41R10, c41R11, c41R12, c41R13, c41R14, c41R15, c41R16, c41R17, c41R18, c41R19, List.length_map, pcT, S4.ts, matT, go_sem, Nat.reduceSub, reduceIte, Nat.reduceEqDiff, Nat.reduceLT, Nat.reduceMul, Nat.reduceAdd, Nat.reduceBEq, Nat.reduceLeDiff, Int.reduceLT, Int.reduceLE, Int.reduceNeg, Int.reduceBEq, Int.reduceBNe, Int.reduceToNat]; repeat (simp (disch := omega) only [wrap_small, getD_map_lt, getD_range]; try simp only [go_sem, Nat.reduceSub, reduceIte, Nat.reduceEqDiff, Nat.reduceLT, Nat.reduceMul, Nat.reduceAdd, Nat.reduceBEq, Nat.reduceLeDiff, Int.reduceLT, Int.reduceLE, Int.reduceNeg, Int.reduceBEq, Int.reduceBNe, Int.reduceToNat, List.length_map, pcT, S4.ts, matT]))
    | (refine AV.cond ?_ ?_ (fun hc => ?_) (fun hc => ?_) <;> (try simp only [go_sem, Nat.reduceSub, reduceIte, Nat.reduceEqDiff, Nat.reduceLT, Nat.reduceMul, Nat.reduceAdd, Nat.reduceBEq, Nat.reduceLeDiff, Int.reduceLT, Int.reduceLE, Int.reduceNeg, Int.reduceBEq, Int.reduceBNe, Int.reduceToNat, beq_iff_eq, beq_eq_false_iff_ne] at hc) <;> (try simp only [go_sem, Nat.reduceSub, reduceIte, Nat.reduceEqDiff, Nat.reduceLT, Nat.reduceMul, Nat.reduceAdd, Nat.reduceBEq, Nat.reduceLeDiff, Int.reduceLT, Int.reduceLE, Int.reduceNeg, Int.reduceBEq, Int.reduceBNe, Int.reduceToNat]))
    | ((first | refine AV.skip ?_ | refine AV.exit ?_); simp only [go_sem, Nat.reduceSub, reduceIte, Nat.reduceEqDiff, Nat.reduceLT, Nat.reduceMul, Nat.reduceAdd, Nat.reduceBEq, Nat.reduceLeDiff, Int.reduceLT, Int.reduceLE, Int.reduceNeg, Int.reduceBEq, Int.reduceBNe, Int.reduceToNat])
    | ((first | refine ⟨_, _, again82_spec w.size hw f (againB f) (fun a b _ _ => againB_iff f a b), rfl, ?_⟩ | refine ⟨_, _, again82_spec w.size hw f (againB f) (fun a b _ _ => againB_iff f a b), ?_⟩ | refine ⟨_, _, fun _ => again82_spec w.size hw f (againB f) (fun a b _ _ => againB_iff f a b), rfl, fun _ => trivial, ?_⟩); (try simp only [go_sem, Nat.reduceSub, reduceIte, Nat.reduceEqDiff, Nat.reduceLT, Nat.reduceMul, Nat.reduceAdd, Nat.reduceBEq, Nat.reduceLeDiff, Int.reduceLT, Int.reduceLE, Int.reduceNeg, Int.reduceBEq, Int.reduceBNe, Int.reduceToNat, List.length_map, pcT, S4.ts, matT]); repeat (simp (disch := omega) only [wrap_small, getD_map_lt, getD_range]; try simp only [go_sem, Nat.reduceSub, reduceIte, Nat.reduceEqDiff, Nat.reduceLT, Nat.reduceMul, Nat.reduceAdd, Nat.reduceBEq, Nat.reduceLeDiff, Int.reduceLT, Int.reduceLE, Int.reduceNeg, Int.reduceBEq, Int.reduceBNe, Int.reduceToNat, List.length_map, pcT, S4.ts, matT]))
    | ((first | refine ⟨.sh, .bool false, rfl, trivial, ?_⟩ | refine ⟨.sh, .bool false, rfl, ?_⟩); try simp only [go_sem, Nat.reduceSub, reduceIte, Nat.reduceEqDiff, Nat.reduceLT, Nat.reduceMul, Nat.reduceAdd, Nat.reduceBEq, Nat.reduceLeDiff, Int.reduceLT, Int.reduceLE, Int.reduceNeg, Int.reduceBEq, Int.reduceBNe, Int.reduceToNat])
    | (refine AV.ret ?_; (try simp only [go_sem, Nat.reduceSub, reduceIte, Nat.reduceEqDiff, Nat.reduceLT, Nat.reduceMul, Nat.reduceAdd, Nat.reduceBEq, Nat.reduceLeDiff, Int.reduceLT, Int.reduceLE, Int.reduceNeg, Int.reduceBEq, Int.reduceBNe, Int.reduceToNat]); first | refine atEnd_t (by simp only [go_sem, Nat.reduceSub, reduceIte, Nat.reduceEqDiff, Nat.reduceLT, Nat.reduceMul, Nat.reduceAdd, Nat.reduceBEq, Nat.reduceLeDiff, Int.reduceLT, Int.reduceLE, Int.reduceNeg, Int.reduceBEq, Int.reduceBNe, Int.reduceToNat] <;> rfl) ?_ (by first | (simp [rxT]; done) | exact leftT_tup _) | refine atEnd_c (by simp only [go_sem, Nat.reduceSub, reduceIte, Nat.reduceEqDiff, Nat.reduceLT, Nat.reduceMul, Nat.reduceAdd, Nat.reduceBEq, Nat.reduceLeDiff, Int.reduceLT, Int.reduceLE, Int.reduceNeg, Int.reduceBEq, Int.reduceBNe, Int.reduceToNat] <;> rfl) ?_ (by first | (simp [rxT]; done) | exact leftT_tup _) | refine atEnd_ct (by simp only [go_sem, Nat.reduceSub, reduceIte, Nat.reduceEqDiff, Nat.reduceLT, Nat.reduceMul, Nat.reduceAdd, Nat.reduceBEq, Nat.reduceLeDiff, Int.reduceLT, Int.reduceLE, Int.reduceNeg, Int.reduceBEq, Int.reduceBNe, Int.reduceToNat] <;> rfl) ?_ (by first | (simp; done) | exact leftT_tup _) (by simp only [go_sem, Nat.reduceSub, reduceIte, Nat.reduceEqDiff, Nat.reduceLT, Nat.reduceMul, Nat.reduceAdd, Nat.reduceBEq, Nat.reduceLeDiff, Int.reduceLT, Int.reduceLE, Int.reduceNeg, Int.reduceBEq, Int.reduceBNe, Int.reduceToNat] <;> rfl) ?_ (by simp) | refine atEnd_o (by simp only [go_sem, Nat.reduceSub, reduceIte, Nat.reduceEqDiff, Nat.reduceLT, Nat.reduceMul, Nat.reduceAdd, Nat.reduceBEq, Nat.reduceLeDiff, Int.reduceLT, Int.reduceLE, Int.reduceNeg, Int.reduceBEq, Int.reduceBNe, Int.reduceToNat] <;> rfl) ?_)
    | (refine And.intro ?_ ?_)
    | (with_reducible intro _)
  all_goals try first | exact True.intro | omega | exact ⟨_, _, rfl⟩ | exact allSolid_pcs _ | exact allSolid_one _ | exact allSolid_bool _ | rfl
theorem spans41_5 (s : S4) (w : ByteArray) (hw : w.size ≤ 1000000) (f : Nat → Nat → Bool) : ACalls Try.prog 41 [pcT ⟨5, s⟩, .sl 1 [matT w.size f], .str w] (.sl [.sl [.sh]]) (matT w.size (spansB w ⟨5, s⟩ [f])) := by
  have e : spansB w ⟨5, s⟩ [f] = thenB f (againB f) := rfl
  rw [e]
  refine ACalls.of n41 rfl (m41 _ rfl) q41 (by simp only [List.length_cons, List.length_nil]; decide) (fun C hC => ?_)
  have hN : C.N = 83 := hC
  repeat' first
    | refine AV.seq ?_
    | refine AV.block ?_
    | ((first | refine AV.reg ?_ | refine AV.regD mixed ?_); simp only [hN, c41R0, c41R1, c41R2, c41R3, c41R4, c41R5, c41R7, c41R6, c41R8, c41R9, c41R10, c41R11, c41R12, c41R13, c41R14, c41R15, c41R16, c41R17, c41R18, c41R19, List.length_map, pcT, S4.ts, matT, go_sem, Nat.reduceSub, reduceIte, Nat.reduceEqDiff, Nat.reduceLT, Nat.reduceMul, Nat.reduceAdd, Nat.reduceBEq, Nat.reduceLeDiff, Int.reduceLT, Int.reduceLE, Int.reduceNeg, Int.reduceBEq, Int.reduceBNe, Int.reduceToNat]; repeat (simp (disch := omega) only [wrap_small, getD_map_lt, getD_range]; try simp only [go_sem, Nat.reduceSub, reduceIte, Nat.reduceEqDiff, Nat.reduceLT, Nat.reduceMul, Nat.reduceAdd, Nat.reduceBEq, Nat.reduceLeDiff, Int.reduceLT, Int.reduceLE, Int.reduceNeg, Int.reduceBEq, Int.reduceBNe, Int.reduceToNat, List.length_map, pcT, S4.ts, matT]))
    | (refine AV.cond ?_ ?_ (fun hc => ?_) (fun hc => ?_) <;> (try simp only [go_sem, Nat.reduceSub, reduceIte, Nat.reduceEqDiff, Nat.reduceLT, Nat.reduceMul, Nat.reduceAdd, Nat.reduceBEq, Nat.reduceLeDiff, Int.reduceLT, Int.reduceLE, Int.reduceNeg, Int.reduceBEq, Int.reduceBNe, Int.reduceToNat, beq_iff_eq, beq_eq_false_iff_ne] at hc) <;> (try simp only [go_sem, Nat.reduceSub, reduceIte, Nat.reduceEqDiff, Nat.reduceLT, Nat.reduceMul, Nat.reduceAdd, Nat.reduceBEq, Nat.reduceLeDiff, Int.reduceLT, Int.reduceLE, Int.reduceNeg, Int.reduceBEq, Int.reduceBNe, Int.reduceToNat]))
    | ((first | refine AV.skip ?_ | refine AV.exit ?_); simp only [go_sem, Nat.reduceSub, reduceIte, Nat.reduceEqDiff, Nat.reduceLT, Nat.reduceMul, Nat.reduceAdd, Nat.reduceBEq, Nat.reduceLeDiff, Int.reduceLT, Int.reduceLE, Int.reduceNeg, Int.reduceBEq, Int.reduceBNe, Int.reduceToNat])
    | ((first | refine ⟨_, _, again82_spec w.size hw f (againB f) (fun a b _ _ => againB_iff f a b), rfl, ?_⟩ | refine ⟨_, _, again82_spec w.size hw f (againB f) (fun a b _ _ => againB_iff f a b), ?_⟩ | refine ⟨_, _, fun _ => again82_spec w.size hw f (againB f) (fun a b _ _ => againB_iff f a b), rfl, fun _ => trivial, ?_⟩ | refine ⟨_, _, then80_spec w.size hw f (againB f) (thenB f (againB f)) (fun a b _ _ => thenB_iff f (againB f) a b), rfl, ?_⟩ | refine ⟨_, _, then80_spec w.size hw f (againB f) (thenB f (againB f)) (fun a b _ _ => thenB_iff f (againB f) a b), ?_⟩ | refine ⟨_, _, fun _ => then80_spec w.size hw f (againB f) (thenB f (againB f)) (fun a b _ _ => thenB_iff f (againB f) a b), rfl, fun _ => trivial, ?_⟩); (try simp only [go_sem, Nat.reduceSub, reduceIte, Nat.reduceEqDiff, Nat.reduceLT, Nat.reduceMul, Nat.reduceAdd, Nat.reduceBEq, Nat.reduceLeDiff, Int.reduceLT, Int.reduceLE, Int.reduceNeg, Int.reduceBEq, Int.reduceBNe, Int.reduceToNat, List.length_map, pcT, S4.ts, matT]); repeat (simp (disch := omega) only [wrap_small, getD_map_lt, getD_range]; try simp only [go_sem, Nat.reduceSub, reduceIte, Nat.reduceEqDiff, Nat.reduceLT, Nat.reduceMul, Nat.reduceAdd, Nat.reduceBEq, Nat.reduceLeDiff, Int.reduceLT, Int.reduceLE, Int.reduceNeg, Int.reduceBEq, Int.reduceBNe, Int.reduceToNat, List.length_map, pcT, S4.ts, matT]))
    | ((first | refine ⟨.sh, .bool false, rfl, trivial, ?_⟩ | refine ⟨.sh, .bool false, rfl, ?_⟩); try simp only [go_sem, Nat.reduceSub, reduceIte, Nat.reduceEqDiff, Nat.reduceLT, Nat.reduceMul, Nat.reduceAdd, Nat.reduceBEq, Nat.reduceLeDiff, Int.reduceLT, Int.reduceLE, Int.reduceNeg, Int.reduceBEq, Int.reduceBNe, Int.reduceToNat])
    | (refine AV.ret ?_; (try simp only [go_sem, Nat.reduceSub, reduceIte, Nat.reduceEqDiff, Nat.reduceLT, Nat.reduceMul, Nat.reduceAdd, Nat.reduceBEq, Nat.reduceLeDiff, Int.reduceLT, Int.reduceLE, Int.reduceNeg, Int.reduceBEq, Int.reduceBNe, Int.reduceToNat]); first | refine atEnd_t (by simp only [go_sem, Nat.reduceSub, reduceIte, Nat.reduceEqDiff, Nat.reduceLT, Nat.reduceMul, Nat.reduceAdd, Nat.reduceBEq, Nat.reduceLeDiff, Int.reduceLT, Int.reduceLE, Int.reduceNeg, Int.reduceBEq, Int.reduceBNe, Int.reduceToNat] <;> rfl) ?_ (by first | (simp [rxT]; done) | exact leftT_tup _) | refine atEnd_c (by simp only [go_sem, Nat.reduceSub, reduceIte, Nat.reduceEqDiff, Nat.reduceLT, Nat.reduceMul, Nat.reduceAdd, Nat.reduceBEq, Nat.reduceLeDiff, Int.reduceLT, Int.reduceLE, Int.reduceNeg, Int.reduceBEq, Int.reduceBNe, Int.reduceToNat] <;> rfl) ?_ (by first | (simp [rxT]; done) | exact leftT_tup _) | refine atEnd_ct (by simp only [go_sem, Nat.reduceSub, reduceIte, Nat.reduceEqDiff, Nat.reduceLT, Nat.reduceMul, Nat.reduceAdd, Nat.reduceBEq, Nat.reduceLeDiff, Int.reduceLT, Int.reduceLE, Int.reduceNeg, Int.reduceBEq, Int.reduceBNe, Int.reduceToNat] <;> rfl) ?_ (by first | (simp; done) | exact leftT_tup _) (by simp only [go_sem, Nat.reduceSub, reduceIte, Nat.reduceEqDiff, Nat.reduceLT, Nat.reduceMul, Nat.reduceAdd, Nat.reduceBEq, Nat.reduceLeDiff, Int.reduceLT, Int.reduceLE, Int.reduceNeg, Int.reduceBEq, Int.reduceBNe, Int.reduceToNat] <;> rfl) ?_ (by simp) | refine atEnd_o (by simp only [go_sem, Nat.reduceSub, reduceIte, Nat.reduceEqDiff, Nat.reduceLT, Nat.reduceMul, Nat.reduceAdd, Nat.reduceBEq, Nat.reduceLeDiff, Int.reduceLT, Int.reduceLE, Int.reduceNeg, Int.reduceBEq, Int.reduceBNe, Int.reduceToNat] <;> rfl) ?_)
    | (refine And.intro ?_ ?_)
    | (with_reducible intro _)
  all_goals try first | exact True.intro | omega | exact ⟨_, _, rfl⟩ | exact allSolid_pcs _ | exact allSolid_one _ | exact allSolid_bool _ | rfl
theorem spans41_6 (s : S4) (w : ByteArray) (hw : w.size ≤ 1000000) (f : Nat → Nat → Bool) : ACalls Try.prog 41 [pcT ⟨6, s⟩, .sl 1 [matT w.size f], .str w] (.sl [.sl [.sh]]) (matT w.size (spansB w ⟨6, s⟩ [f])) := by
  have e : spansB w ⟨6, s⟩ [f] = orB idB f := rfl
  rw [e]
  refine ACalls.of n41 rfl (m41 _ rfl) q41 (by simp only [List.length_cons, List.length_nil]; decide) (fun C hC => ?_)
  have hN : C.N = 83 := hC
  repeat' first
    | refine AV.seq ?_
    | refine AV.block ?_
    | ((first | refine AV.reg ?_ | refine AV.regD mixed ?_); simp only [hN, c41R0, c41R1, c41R2, c41R3, c41R4, c41R5, c41R7, c41R6, c41R8, c41R9, c41R10, c41R11, c41R12, c41R13, c41R14, c41R15, c41R16, c41R17, c41R18, c41R19, List.length_map, pcT, S4.ts, matT, go_sem, Nat.reduceSub, reduceIte, Nat.reduceEqDiff, Nat.reduceLT, Nat.reduceMul, Nat.reduceAdd, Nat.reduceBEq, Nat.reduceLeDiff, Int.reduceLT, Int.reduceLE, Int.reduceNeg, Int.reduceBEq, Int.reduceBNe, Int.reduceToNat]; repeat (simp (disch := omega) only [wrap_small, getD_map_lt, getD_range]; try simp only [go_sem, Nat.reduceSub, reduceIte, Nat.reduceEqDiff, Nat.reduceLT, Nat.reduceMul, Nat.reduceAdd, Nat.reduceBEq, Nat.reduceLeDiff, Int.reduceLT, Int.reduceLE, Int.reduceNeg, Int.reduceBEq, Int.reduceBNe, Int.reduceToNat, List.length_map, pcT, S4.ts, matT]))
    | (refine AV.cond ?_ ?_ (fun hc => ?_) (fun hc => ?_) <;> (try simp only [go_sem, Nat.reduceSub, reduceIte, Nat.reduceEqDiff, Nat.reduceLT, Nat.reduceMul, Nat.reduceAdd, Nat.reduceBEq, Nat.reduceLeDiff, Int.reduceLT, Int.reduceLE, Int.reduceNeg, Int.reduceBEq, Int.reduceBNe, Int.reduceToNat, beq_iff_eq, beq_eq_false_iff_ne] at hc) <;> (try simp only [go_sem, Nat.reduceSub, reduceIte, Nat.reduceEqDiff, Nat.reduceLT, Nat.reduceMul, Nat.reduceAdd, Nat.reduceBEq, Nat.reduceLeDiff, Int.reduceLT, Int.reduceLE, Int.reduceNeg, Int.reduceBEq, Int.reduceBNe, Int.reduceToNat]))
    | ((first | refine AV.skip ?_ | refine AV.exit ?_); simp only [go_sem, Nat.reduceSub, reduceIte, Nat.reduceEqDiff, Nat.reduceLT, Nat.reduceMul, Nat.reduceAdd, Nat.reduceBEq, Nat.reduceLeDiff, Int.reduceLT, Int.reduceLE, Int.reduceNeg, Int.reduceBEq, Int.reduceBNe, Int.reduceToNat])
    | ((first | refine ⟨_, _, empty83_spec w.size hw, rfl, ?_⟩ | refine ⟨_, _, empty83_spec w.size hw, ?_⟩ | refine ⟨_, _, fun _ => empty83_spec w.size hw, rfl, fun _ => trivial, ?_⟩ | refine ⟨_, _, or81_spec w.size hw idB f (orB idB f) (fun a b _ _ => orB_iff idB f a b), rfl, ?_⟩ | refine ⟨_, _, or81_spec w.size hw idB f (orB idB f) (fun a b _ _ => orB_iff idB f a b), ?_⟩ | refine ⟨_, _, fun _ => or81_spec w.size hw idB f (orB idB f) (fun a b _ _ => orB_iff idB f a b), rfl, fun _ => trivial, ?_⟩); (try simp only [go_sem, Nat.reduceSub, reduceIte, Nat.reduceEqDiff, Nat.reduceLT, Nat.reduceMul, Nat.reduceAdd, Nat.reduceBEq, Nat.reduceLeDiff, Int.reduceLT, Int.reduceLE, Int.reduceNeg, Int.reduceBEq, Int.reduceBNe, Int.reduceToNat, List.length_map, pcT, S4.ts, matT]); repeat (simp (disch := omega) only [wrap_small, getD_map_lt, getD_range]; try simp only [go_sem, Nat.reduceSub, reduceIte, Nat.reduceEqDiff, Nat.reduceLT, Nat.reduceMul, Nat.reduceAdd, Nat.reduceBEq, Nat.reduceLeDiff, Int.reduceLT, Int.reduceLE, Int.reduceNeg, Int.reduceBEq, Int.reduceBNe, Int.reduceToNat, List.length_map, pcT, S4.ts, matT]))
    | ((first | refine ⟨.sh, .bool false, rfl, trivial, ?_⟩ | refine ⟨.sh, .bool false, rfl, ?_⟩); try simp only [go_sem, Nat.reduceSub, reduceIte, Nat.reduceEqDiff, Nat.reduceLT, Nat.reduceMul, Nat.reduceAdd, Nat.reduceBEq, Nat.reduceLeDiff, Int.reduceLT, Int.reduceLE, Int.reduceNeg, Int.reduceBEq, Int.reduceBNe, Int.reduceToNat])
    | (refine AV.ret ?_; (try simp only [go_sem, Nat.reduceSub, reduceIte, Nat.reduceEqDiff, Nat.reduceLT, Nat.reduceMul, Nat.reduceAdd, Nat.reduceBEq, Nat.reduceLeDiff, Int.reduceLT, Int.reduceLE, Int.reduceNeg, Int.reduceBEq, Int.reduceBNe, Int.reduceToNat]); first | refine atEnd_t (by simp only [go_sem, Nat.reduceSub, reduceIte, Nat.reduceEqDiff, Nat.reduceLT, Nat.reduceMul, Nat.reduceAdd, Nat.reduceBEq, Nat.reduceLeDiff, Int.reduceLT, Int.reduceLE, Int.reduceNeg, Int.reduceBEq, Int.reduceBNe, Int.reduceToNat] <;> rfl) ?_ (by first | (simp [rxT]; done) | exact leftT_tup _) | refine atEnd_c (by simp only [go_sem, Nat.reduceSub, reduceIte, Nat.reduceEqDiff, Nat.reduceLT, Nat.reduceMul, Nat.reduceAdd, Nat.reduceBEq, Nat.reduceLeDiff, Int.reduceLT, Int.reduceLE, Int.reduceNeg, Int.reduceBEq, Int.reduceBNe, Int.reduceToNat] <;> rfl) ?_ (by first | (simp [rxT]; done) | exact leftT_tup _) | refine atEnd_ct (by simp only [go_sem, Nat.reduceSub, reduceIte, Nat.reduceEqDiff, Nat.reduceLT, Nat.reduceMul, Nat.reduceAdd, Nat.reduceBEq, Nat.reduceLeDiff, Int.reduceLT, Int.reduceLE, Int.reduceNeg, Int.reduceBEq, Int.reduceBNe, Int.reduceToNat] <;> rfl) ?_ (by first | (simp; done) | exact leftT_tup _) (by simp only [go_sem, Nat.reduceSub, reduceIte, Nat.reduceEqDiff, Nat.reduceLT, Nat.reduceMul, Nat.reduceAdd, Nat.reduceBEq, Nat.reduceLeDiff, Int.reduceLT, Int.reduceLE, Int.reduceNeg, Int.reduceBEq, Int.reduceBNe, Int.reduceToNat] <;> rfl) ?_ (by simp) | refine atEnd_o (by simp only [go_sem, Nat.reduceSub, reduceIte, Nat.reduceEqDiff, Nat.reduceLT, Nat.reduceMul, Nat.reduceAdd, Nat.reduceBEq, Nat.reduceLeDiff, Int.reduceLT, Int.reduceLE, Int.reduceNeg, Int.reduceBEq, Int.reduceBNe, Int.reduceToNat] <;> rfl) ?_)
    | (refine And.intro ?_ ?_)
    | (with_reducible intro _)
  all_goals try first | exact True.intro | omega | exact ⟨_, _, rfl⟩ | exact allSolid_pcs _ | exact allSolid_one _ | exact allSolid_bool _ | rfl
  all_goals trace_state
end Go.Proofs.Ytaefhdklkbohmaa
/- bosketref04.Has. -/
namespace Go.Proofs.Ytaefhdklkbohmaa
open Go Go.RowKit
set_option linter.unusedSimpArgs false
set_option maxRecDepth 20000
set_option maxHeartbeats 4000000
theorem allSolid_mat (n : Nat) (f : Nat → Nat → Bool) : allSolid [matT n f] := by
  intro y hy
  obtain rfl := List.mem_singleton.1 hy
  rfl
theorem flat_mat (n : Nat) (f : Nat → Nat → Bool) : K.flat (.sl [.sl [.sh]]) (matT n f) := by
  intro x hx
  obtain ⟨i, _, rfl⟩ := List.mem_map.1 hx
  simp only [brow, T.leaves, K.flats, List.headD_cons, K.flat, T.elems, and_true]
  intro y hy
  obtain ⟨j, _, rfl⟩ := List.mem_map.1 hy
  simp [T.leaves, K.flats, K.flat, T.flat, T.flat1]
def has11I (r : List Pc) (w : ByteArray) (m : Nat) (σ : Env) : Prop := ∃ (i : Nat) (st : List (Nat → Nat → Bool)), i + m = r.length ∧ st.length ≤ i ∧ fitsGo (r.drop i) st.length = true ∧ runM (spansB w) r [] = runM (spansB w) (r.drop i) st ∧
  σ = [(0, .t (rxT r)), (1, .t (.str w)), (5, .own (.sl [.sh]) (.sl 1 (st.map (matT w.size)))), (6, .t (.int .i64 (i : Int)))]
theorem has11_spec (r : List Pc) (w : ByteArray) (hr : r.length ≤ 1073741820) (hw : w.size ≤ 1000000) (hf : fitsGo r 0 = true) : ACalls Try.prog 11 [rxT r, .str w] .sh (.bool ((runM (spansB w) r []).getD 0 idB 0 w.size)) := by
  refine ACalls.of n11 rfl (m11 _ rfl) q11 (by simp only [List.length_cons, List.length_nil]; decide) (fun C hC => ?_)
  have hN : C.N = 48 := hC
  repeat' first
    | refine AV.seq ?_
    | refine AV.block ?_
    | ((first | refine AV.reg ?_ | refine AV.regD mixed ?_); simp only [hN, c11R0, c11R1, c11R2, c11R3, c11R5, c11R6, c11R7, c11R4, c11R8, rxT, List.length_map, go_sem, Nat.reduceSub, reduceIte, Nat.reduceEqDiff, Nat.reduceLT, Nat.reduceMul, Nat.reduceAdd, Nat.reduceBEq, Nat.reduceLeDiff, Int.reduceLT, Int.reduceLE, Int.reduceNeg, Int.reduceBEq, Int.reduceBNe, Int.reduceToNat]; repeat (simp (disch := omega) only [wrap_small, getD_map_lt, getD_range]; try simp only [go_sem, Nat.reduceSub, reduceIte, Nat.reduceEqDiff, Nat.reduceLT, Nat.reduceMul, Nat.reduceAdd, Nat.reduceBEq, Nat.reduceLeDiff, Int.reduceLT, Int.reduceLE, Int.reduceNeg, Int.reduceBEq, Int.reduceBNe, Int.reduceToNat, rxT, List.length_map]))
    | (refine AV.cond ?_ ?_ (fun hc => ?_) (fun hc => ?_) <;> (try simp only [go_sem, Nat.reduceSub, reduceIte, Nat.reduceEqDiff, Nat.reduceLT, Nat.reduceMul, Nat.reduceAdd, Nat.reduceBEq, Nat.reduceLeDiff, Int.reduceLT, Int.reduceLE, Int.reduceNeg, Int.reduceBEq, Int.reduceBNe, Int.reduceToNat, beq_iff_eq, beq_eq_false_iff_ne] at hc) <;> (try simp only [go_sem, Nat.reduceSub, reduceIte, Nat.reduceEqDiff, Nat.reduceLT, Nat.reduceMul, Nat.reduceAdd, Nat.reduceBEq, Nat.reduceLeDiff, Int.reduceLT, Int.reduceLE, Int.reduceNeg, Int.reduceBEq, Int.reduceBNe, Int.reduceToNat]))
    | ((first | refine AV.skip ?_ | refine AV.exit ?_); simp only [go_sem, Nat.reduceSub, reduceIte, Nat.reduceEqDiff, Nat.reduceLT, Nat.reduceMul, Nat.reduceAdd, Nat.reduceBEq, Nat.reduceLeDiff, Int.reduceLT, Int.reduceLE, Int.reduceNeg, Int.reduceBEq, Int.reduceBNe, Int.reduceToNat])
    | (refine AV.ret ?_; (try simp only [go_sem, Nat.reduceSub, reduceIte, Nat.reduceEqDiff, Nat.reduceLT, Nat.reduceMul, Nat.reduceAdd, Nat.reduceBEq, Nat.reduceLeDiff, Int.reduceLT, Int.reduceLE, Int.reduceNeg, Int.reduceBEq, Int.reduceBNe, Int.reduceToNat]); first | refine atEnd_t (by simp only [go_sem, Nat.reduceSub, reduceIte, Nat.reduceEqDiff, Nat.reduceLT, Nat.reduceMul, Nat.reduceAdd, Nat.reduceBEq, Nat.reduceLeDiff, Int.reduceLT, Int.reduceLE, Int.reduceNeg, Int.reduceBEq, Int.reduceBNe, Int.reduceToNat] <;> rfl) ?_ (by first | (simp [rxT]; done) | exact leftT_tup _) | refine atEnd_c (by simp only [go_sem, Nat.reduceSub, reduceIte, Nat.reduceEqDiff, Nat.reduceLT, Nat.reduceMul, Nat.reduceAdd, Nat.reduceBEq, Nat.reduceLeDiff, Int.reduceLT, Int.reduceLE, Int.reduceNeg, Int.reduceBEq, Int.reduceBNe, Int.reduceToNat] <;> rfl) ?_ (by first | (simp [rxT]; done) | exact leftT_tup _) | refine atEnd_ct (by simp only [go_sem, Nat.reduceSub, reduceIte, Nat.reduceEqDiff, Nat.reduceLT, Nat.reduceMul, Nat.reduceAdd, Nat.reduceBEq, Nat.reduceLeDiff, Int.reduceLT, Int.reduceLE, Int.reduceNeg, Int.reduceBEq, Int.reduceBNe, Int.reduceToNat] <;> rfl) ?_ (by first | (simp; done) | exact leftT_tup _) (by simp only [go_sem, Nat.reduceSub, reduceIte, Nat.reduceEqDiff, Nat.reduceLT, Nat.reduceMul, Nat.reduceAdd, Nat.reduceBEq, Nat.reduceLeDiff, Int.reduceLT, Int.reduceLE, Int.reduceNeg, Int.reduceBEq, Int.reduceBNe, Int.reduceToNat] <;> rfl) ?_ (by simp) | refine atEnd_o (by simp only [go_sem, Nat.reduceSub, reduceIte, Nat.reduceEqDiff, Nat.reduceLT, Nat.reduceMul, Nat.reduceAdd, Nat.reduceBEq, Nat.reduceLeDiff, Int.reduceLT, Int.reduceLE, Int.reduceNeg, Int.reduceBEq, Int.reduceBNe, Int.reduceToNat] <;> rfl) ?_)
    | (refine And.intro ?_ ?_)
    | (with_reducible intro _)
  all_goals try first | exact True.intro | omega | exact ⟨_, _, rfl⟩ | exact allSolid_pcs _ | exact allSolid_one _ | exact allSolid_bool _ | rfl
  refine AV.loopK [0, 1, 5, 6] (by simp only [hN]; decide) (n := r.length) (has11I r w) ?_ ⟨0, [], by omega, by simp, hf, rfl, by simp only [go_sem, Nat.reduceSub, reduceIte, Nat.reduceEqDiff, Nat.reduceLT, Nat.reduceMul, Nat.reduceAdd, Nat.reduceBEq, Nat.reduceLeDiff, Int.reduceLT, Int.reduceLE, Int.reduceNeg, Int.reduceBEq, Int.reduceBNe, Int.reduceToNat] <;> rfl⟩
  rintro m σ ⟨i, st, h1, h2, h3, h4, rfl⟩
  by_cases hi : i < r.length
  · have hd : r.drop i = r[i] :: r.drop (i + 1) := List.drop_eq_getElem_cons hi
    rw [hd] at h3 h4
    obtain ⟨pk, ps, hp⟩ : ∃ pk ps, r[i] = ⟨pk, ps⟩ := ⟨_, _, rfl⟩
    rw [hp] at h3 h4
    rcases fits_next _ _ _ h3 with ⟨hk, h5⟩ | ⟨hk, st', f, rfl, h5⟩ | ⟨hk, st', f, g, rfl, h5⟩
    · have hw0 : IntKind.i64.wrap ((st.length : Int) - 0) = (st.length : Int) := by rw [wrap_small] <;> omega
      have hs0 : st.length - st.length = 0 := by omega
      have hd0 : (st.map (matT w.size)).drop st.length = [] := by simp
      have ht0 : (st.map (matT w.size)).take st.length = st.map (matT w.size) := List.take_of_length_le (by simp)
      rcases hk with hk | hk <;> simp only at hk <;> subst hk
      · repeat' first
          | refine AV.seq ?_
          | refine AV.block ?_
          | ((first | refine AV.reg ?_ | refine AV.regD mixed ?_); simp only [hN, c11R0, c11R1, c11R2, c11R3, c11R5, c11R6, c11R7, c11R4, c11R8, rxT, List.length_map, hp, pcT, S4.ts, tk0, hw0, hs0, hd0, ht0, matT, go_sem, Nat.reduceSub, reduceIte, Nat.reduceEqDiff, Nat.reduceLT, Nat.reduceMul, Nat.reduceAdd, Nat.reduceBEq, Nat.reduceLeDiff, Int.reduceLT, Int.reduceLE, Int.reduceNeg, Int.reduceBEq, Int.reduceBNe, Int.reduceToNat]; repeat (simp (disch := omega) only [wrap_small, getD_map_lt, getD_range]; try simp only [go_sem, Nat.reduceSub, reduceIte, Nat.reduceEqDiff, Nat.reduceLT, Nat.reduceMul, Nat.reduceAdd, Nat.reduceBEq, Nat.reduceLeDiff, Int.reduceLT, Int.reduceLE, Int.reduceNeg, Int.reduceBEq, Int.reduceBNe, Int.reduceToNat, rxT, List.length_map, hp, pcT, S4.ts, tk0, hw0, hs0, hd0, ht0, matT]))
          | (refine AV.cond ?_ ?_ (fun hc => ?_) (fun hc => ?_) <;> (try simp only [go_sem, Nat.reduceSub, reduceIte, Nat.reduceEqDiff, Nat.reduceLT, Nat.reduceMul, Nat.reduceAdd, Nat.reduceBEq, Nat.reduceLeDiff, Int.reduceLT, Int.reduceLE, Int.reduceNeg, Int.reduceBEq, Int.reduceBNe, Int.reduceToNat, beq_iff_eq, beq_eq_false_iff_ne] at hc) <;> (try simp only [go_sem, Nat.reduceSub, reduceIte, Nat.reduceEqDiff, Nat.reduceLT, Nat.reduceMul, Nat.reduceAdd, Nat.reduceBEq, Nat.reduceLeDiff, Int.reduceLT, Int.reduceLE, Int.reduceNeg, Int.reduceBEq, Int.reduceBNe, Int.reduceToNat]))
          | ((first | refine AV.skip ?_ | refine AV.exit ?_); simp only [go_sem, Nat.reduceSub, reduceIte, Nat.reduceEqDiff, Nat.reduceLT, Nat.reduceMul, Nat.reduceAdd, Nat.reduceBEq, Nat.reduceLeDiff, Int.reduceLT, Int.reduceLE, Int.reduceNeg, Int.reduceBEq, Int.reduceBNe, Int.reduceToNat])
          | ((first | refine ⟨_, _, takes40_spec _, rfl, ?_⟩ | refine ⟨_, _, takes40_spec _, ?_⟩ | refine ⟨_, _, fun _ => takes40_spec _, rfl, fun _ => trivial, ?_⟩ | refine ⟨_, _, spans41_0 ps w hw, flat_mat _ _, rfl, ?_⟩ | refine ⟨_, _, spans41_0 ps w hw, flat_mat _ _, ?_⟩ | refine ⟨_, _, fun _ => spans41_0 ps w hw, flat_mat _ _, rfl, fun _ => trivial, ?_⟩); (try simp only [go_sem, Nat.reduceSub, reduceIte, Nat.reduceEqDiff, Nat.reduceLT, Nat.reduceMul, Nat.reduceAdd, Nat.reduceBEq, Nat.reduceLeDiff, Int.reduceLT, Int.reduceLE, Int.reduceNeg, Int.reduceBEq, Int.reduceBNe, Int.reduceToNat, rxT, List.length_map, hp, pcT, S4.ts, tk0, hw0, hs0, hd0, ht0, matT]); repeat (simp (disch := omega) only [wrap_small, getD_map_lt, getD_range]; try simp only [go_sem, Nat.reduceSub, reduceIte, Nat.reduceEqDiff, Nat.reduceLT, Nat.reduceMul, Nat.reduceAdd, Nat.reduceBEq, Nat.reduceLeDiff, Int.reduceLT, Int.reduceLE, Int.reduceNeg, Int.reduceBEq, Int.reduceBNe, Int.reduceToNat, rxT, List.length_map, hp, pcT, S4.ts, tk0, hw0, hs0, hd0, ht0, matT]))
          | ((first | refine ⟨.sh, .bool false, rfl, trivial, ?_⟩ | refine ⟨.sh, .bool false, rfl, ?_⟩); try simp only [go_sem, Nat.reduceSub, reduceIte, Nat.reduceEqDiff, Nat.reduceLT, Nat.reduceMul, Nat.reduceAdd, Nat.reduceBEq, Nat.reduceLeDiff, Int.reduceLT, Int.reduceLE, Int.reduceNeg, Int.reduceBEq, Int.reduceBNe, Int.reduceToNat])
          | (refine AV.ret ?_; (try simp only [go_sem, Nat.reduceSub, reduceIte, Nat.reduceEqDiff, Nat.reduceLT, Nat.reduceMul, Nat.reduceAdd, Nat.reduceBEq, Nat.reduceLeDiff, Int.reduceLT, Int.reduceLE, Int.reduceNeg, Int.reduceBEq, Int.reduceBNe, Int.reduceToNat]); first | refine atEnd_t (by simp only [go_sem, Nat.reduceSub, reduceIte, Nat.reduceEqDiff, Nat.reduceLT, Nat.reduceMul, Nat.reduceAdd, Nat.reduceBEq, Nat.reduceLeDiff, Int.reduceLT, Int.reduceLE, Int.reduceNeg, Int.reduceBEq, Int.reduceBNe, Int.reduceToNat] <;> rfl) ?_ (by first | (simp [rxT]; done) | exact leftT_tup _) | refine atEnd_c (by simp only [go_sem, Nat.reduceSub, reduceIte, Nat.reduceEqDiff, Nat.reduceLT, Nat.reduceMul, Nat.reduceAdd, Nat.reduceBEq, Nat.reduceLeDiff, Int.reduceLT, Int.reduceLE, Int.reduceNeg, Int.reduceBEq, Int.reduceBNe, Int.reduceToNat] <;> rfl) ?_ (by first | (simp [rxT]; done) | exact leftT_tup _) | refine atEnd_ct (by simp only [go_sem, Nat.reduceSub, reduceIte, Nat.reduceEqDiff, Nat.reduceLT, Nat.reduceMul, Nat.reduceAdd, Nat.reduceBEq, Nat.reduceLeDiff, Int.reduceLT, Int.reduceLE, Int.reduceNeg, Int.reduceBEq, Int.reduceBNe, Int.reduceToNat] <;> rfl) ?_ (by first | (simp; done) | exact leftT_tup _) (by simp only [go_sem, Nat.reduceSub, reduceIte, Nat.reduceEqDiff, Nat.reduceLT, Nat.reduceMul, Nat.reduceAdd, Nat.reduceBEq, Nat.reduceLeDiff, Int.reduceLT, Int.reduceLE, Int.reduceNeg, Int.reduceBEq, Int.reduceBNe, Int.reduceToNat] <;> rfl) ?_ (by simp) | refine atEnd_o (by simp only [go_sem, Nat.reduceSub, reduceIte, Nat.reduceEqDiff, Nat.reduceLT, Nat.reduceMul, Nat.reduceAdd, Nat.reduceBEq, Nat.reduceLeDiff, Int.reduceLT, Int.reduceLE, Int.reduceNeg, Int.reduceBEq, Int.reduceBNe, Int.reduceToNat] <;> rfl) ?_)
          | (refine And.intro ?_ ?_)
          | (with_reducible intro _)
        all_goals try first | exact True.intro | omega | exact ⟨_, _, rfl⟩ | exact allSolid_pcs _ | exact allSolid_one _ | exact allSolid_bool _ | rfl
        · exact allSolid_mat _ _
        · exact ⟨m - 1, by omega, i + 1, st ++ [spansB w ⟨0, ps⟩ []], by omega, by simp; omega, by simpa using h5, by rw [h4, runM_leaf _ _ _ _ tk0], by simp [rxT, matT]⟩
      · repeat' first
          | refine AV.seq ?_
          | refine AV.block ?_
          | ((first | refine AV.reg ?_ | refine AV.regD mixed ?_); simp only [hN, c11R0, c11R1, c11R2, c11R3, c11R5, c11R6, c11R7, c11R4, c11R8, rxT, List.length_map, hp, pcT, S4.ts, tk1, hw0, hs0, hd0, ht0, matT, go_sem, Nat.reduceSub, reduceIte, Nat.reduceEqDiff, Nat.reduceLT, Nat.reduceMul, Nat.reduceAdd, Nat.reduceBEq, Nat.reduceLeDiff, Int.reduceLT, Int.reduceLE, Int.reduceNeg, Int.reduceBEq, Int.reduceBNe, Int.reduceToNat]; repeat (simp (disch := omega) only [wrap_small, getD_map_lt, getD_range]; try simp only [go_sem, Nat.reduceSub, reduceIte, Nat.reduceEqDiff, Nat.reduceLT, Nat.reduceMul, Nat.reduceAdd, Nat.reduceBEq, Nat.reduceLeDiff, Int.reduceLT, Int.reduceLE, Int.reduceNeg, Int.reduceBEq, Int.reduceBNe, Int.reduceToNat, rxT, List.length_map, hp, pcT, S4.ts, tk1, hw0, hs0, hd0, ht0, matT]))
          | (refine AV.cond ?_ ?_ (fun hc => ?_) (fun hc => ?_) <;> (try simp only [go_sem, Nat.reduceSub, reduceIte, Nat.reduceEqDiff, Nat.reduceLT, Nat.reduceMul, Nat.reduceAdd, Nat.reduceBEq, Nat.reduceLeDiff, Int.reduceLT, Int.reduceLE, Int.reduceNeg, Int.reduceBEq, Int.reduceBNe, Int.reduceToNat, beq_iff_eq, beq_eq_false_iff_ne] at hc) <;> (try simp only [go_sem, Nat.reduceSub, reduceIte, Nat.reduceEqDiff, Nat.reduceLT, Nat.reduceMul, Nat.reduceAdd, Nat.reduceBEq, Nat.reduceLeDiff, Int.reduceLT, Int.reduceLE, Int.reduceNeg, Int.reduceBEq, Int.reduceBNe, Int.reduceToNat]))
          | ((first | refine AV.skip ?_ | refine AV.exit ?_); simp only [go_sem, Nat.reduceSub, reduceIte, Nat.reduceEqDiff, Nat.reduceLT, Nat.reduceMul, Nat.reduceAdd, Nat.reduceBEq, Nat.reduceLeDiff, Int.reduceLT, Int.reduceLE, Int.reduceNeg, Int.reduceBEq, Int.reduceBNe, Int.reduceToNat])
          | ((first | refine ⟨_, _, takes40_spec _, rfl, ?_⟩ | refine ⟨_, _, takes40_spec _, ?_⟩ | refine ⟨_, _, fun _ => takes40_spec _, rfl, fun _ => trivial, ?_⟩ | refine ⟨_, _, spans41_1 ps w hw, flat_mat _ _, rfl, ?_⟩ | refine ⟨_, _, spans41_1 ps w hw, flat_mat _ _, ?_⟩ | refine ⟨_, _, fun _ => spans41_1 ps w hw, flat_mat _ _, rfl, fun _ => trivial, ?_⟩); (try simp only [go_sem, Nat.reduceSub, reduceIte, Nat.reduceEqDiff, Nat.reduceLT, Nat.reduceMul, Nat.reduceAdd, Nat.reduceBEq, Nat.reduceLeDiff, Int.reduceLT, Int.reduceLE, Int.reduceNeg, Int.reduceBEq, Int.reduceBNe, Int.reduceToNat, rxT, List.length_map, hp, pcT, S4.ts, tk1, hw0, hs0, hd0, ht0, matT]); repeat (simp (disch := omega) only [wrap_small, getD_map_lt, getD_range]; try simp only [go_sem, Nat.reduceSub, reduceIte, Nat.reduceEqDiff, Nat.reduceLT, Nat.reduceMul, Nat.reduceAdd, Nat.reduceBEq, Nat.reduceLeDiff, Int.reduceLT, Int.reduceLE, Int.reduceNeg, Int.reduceBEq, Int.reduceBNe, Int.reduceToNat, rxT, List.length_map, hp, pcT, S4.ts, tk1, hw0, hs0, hd0, ht0, matT]))
          | ((first | refine ⟨.sh, .bool false, rfl, trivial, ?_⟩ | refine ⟨.sh, .bool false, rfl, ?_⟩); try simp only [go_sem, Nat.reduceSub, reduceIte, Nat.reduceEqDiff, Nat.reduceLT, Nat.reduceMul, Nat.reduceAdd, Nat.reduceBEq, Nat.reduceLeDiff, Int.reduceLT, Int.reduceLE, Int.reduceNeg, Int.reduceBEq, Int.reduceBNe, Int.reduceToNat])
          | (refine AV.ret ?_; (try simp only [go_sem, Nat.reduceSub, reduceIte, Nat.reduceEqDiff, Nat.reduceLT, Nat.reduceMul, Nat.reduceAdd, Nat.reduceBEq, Nat.reduceLeDiff, Int.reduceLT, Int.reduceLE, Int.reduceNeg, Int.reduceBEq, Int.reduceBNe, Int.reduceToNat]); first | refine atEnd_t (by simp only [go_sem, Nat.reduceSub, reduceIte, Nat.reduceEqDiff, Nat.reduceLT, Nat.reduceMul, Nat.reduceAdd, Nat.reduceBEq, Nat.reduceLeDiff, Int.reduceLT, Int.reduceLE, Int.reduceNeg, Int.reduceBEq, Int.reduceBNe, Int.reduceToNat] <;> rfl) ?_ (by first | (simp [rxT]; done) | exact leftT_tup _) | refine atEnd_c (by simp only [go_sem, Nat.reduceSub, reduceIte, Nat.reduceEqDiff, Nat.reduceLT, Nat.reduceMul, Nat.reduceAdd, Nat.reduceBEq, Nat.reduceLeDiff, Int.reduceLT, Int.reduceLE, Int.reduceNeg, Int.reduceBEq, Int.reduceBNe, Int.reduceToNat] <;> rfl) ?_ (by first | (simp [rxT]; done) | exact leftT_tup _) | refine atEnd_ct (by simp only [go_sem, Nat.reduceSub, reduceIte, Nat.reduceEqDiff, Nat.reduceLT, Nat.reduceMul, Nat.reduceAdd, Nat.reduceBEq, Nat.reduceLeDiff, Int.reduceLT, Int.reduceLE, Int.reduceNeg, Int.reduceBEq, Int.reduceBNe, Int.reduceToNat] <;> rfl) ?_ (by first | (simp; done) | exact leftT_tup _) (by simp only [go_sem, Nat.reduceSub, reduceIte, Nat.reduceEqDiff, Nat.reduceLT, Nat.reduceMul, Nat.reduceAdd, Nat.reduceBEq, Nat.reduceLeDiff, Int.reduceLT, Int.reduceLE, Int.reduceNeg, Int.reduceBEq, Int.reduceBNe, Int.reduceToNat] <;> rfl) ?_ (by simp) | refine atEnd_o (by simp only [go_sem, Nat.reduceSub, reduceIte, Nat.reduceEqDiff, Nat.reduceLT, Nat.reduceMul, Nat.reduceAdd, Nat.reduceBEq, Nat.reduceLeDiff, Int.reduceLT, Int.reduceLE, Int.reduceNeg, Int.reduceBEq, Int.reduceBNe, Int.reduceToNat] <;> rfl) ?_)
          | (refine And.intro ?_ ?_)
          | (with_reducible intro _)
        all_goals try first | exact True.intro | omega | exact ⟨_, _, rfl⟩ | exact allSolid_pcs _ | exact allSolid_one _ | exact allSolid_bool _ | rfl
        · exact allSolid_mat _ _
        · exact ⟨m - 1, by omega, i + 1, st ++ [spansB w ⟨1, ps⟩ []], by omega, by simp; omega, by simpa using h5, by rw [h4, runM_leaf _ _ _ _ tk1], by simp [rxT, matT]⟩
    · have hl : (st' ++ [f]).length = st'.length + 1 := by simp
      rw [hl] at h2
      have hw0 : IntKind.i64.wrap (((st'.length + 1 : Nat) : Int) - 1) = (st'.length : Int) := by rw [wrap_small] <;> omega
      have hs0 : st'.length + 1 - st'.length = 1 := by omega
      have hd0 : ((st' ++ [f]).map (matT w.size)).drop st'.length = [matT w.size f] := by simp
      have ht0 : ((st' ++ [f]).map (matT w.size)).take st'.length = st'.map (matT w.size) := by simp
      rcases hk with hk | hk | hk <;> simp only at hk <;> subst hk
      · repeat' first
          | refine AV.seq ?_
          | refine AV.block ?_
          | ((first | refine AV.reg ?_ | refine AV.regD mixed ?_); simp only [hN, c11R0, c11R1, c11R2, c11R3, c11R5, c11R6, c11R7, c11R4, c11R8, rxT, List.length_map, hp, pcT, S4.ts, tk4, hl, hw0, hs0, hd0, ht0, matT, go_sem, Nat.reduceSub, reduceIte, Nat.reduceEqDiff, Nat.reduceLT, Nat.reduceMul, Nat.reduceAdd, Nat.reduceBEq, Nat.reduceLeDiff, Int.reduceLT, Int.reduceLE, Int.reduceNeg, Int.reduceBEq, Int.reduceBNe, Int.reduceToNat]; repeat (simp (disch := omega) only [wrap_small, getD_map_lt, getD_range]; try simp only [go_sem, Nat.reduceSub, reduceIte, Nat.reduceEqDiff, Nat.reduceLT, Nat.reduceMul, Nat.reduceAdd, Nat.reduceBEq, Nat.reduceLeDiff, Int.reduceLT, Int.reduceLE, Int.reduceNeg, Int.reduceBEq, Int.reduceBNe, Int.reduceToNat, rxT, List.length_map, hp, pcT, S4.ts, tk4, hl, hw0, hs0, hd0, ht0, matT]))
          | (refine AV.cond ?_ ?_ (fun hc => ?_) (fun hc => ?_) <;> (try simp only [go_sem, Nat.reduceSub, reduceIte, Nat.reduceEqDiff, Nat.reduceLT, Nat.reduceMul, Nat.reduceAdd, Nat.reduceBEq, Nat.reduceLeDiff, Int.reduceLT, Int.reduceLE, Int.reduceNeg, Int.reduceBEq, Int.reduceBNe, Int.reduceToNat, beq_iff_eq, beq_eq_false_iff_ne] at hc) <;> (try simp only [go_sem, Nat.reduceSub, reduceIte, Nat.reduceEqDiff, Nat.reduceLT, Nat.reduceMul, Nat.reduceAdd, Nat.reduceBEq, Nat.reduceLeDiff, Int.reduceLT, Int.reduceLE, Int.reduceNeg, Int.reduceBEq, Int.reduceBNe, Int.reduceToNat]))
          | ((first | refine AV.skip ?_ | refine AV.exit ?_); simp only [go_sem, Nat.reduceSub, reduceIte, Nat.reduceEqDiff, Nat.reduceLT, Nat.reduceMul, Nat.reduceAdd, Nat.reduceBEq, Nat.reduceLeDiff, Int.reduceLT, Int.reduceLE, Int.reduceNeg, Int.reduceBEq, Int.reduceBNe, Int.reduceToNat])
          | ((first | refine ⟨_, _, takes40_spec _, rfl, ?_⟩ | refine ⟨_, _, takes40_spec _, ?_⟩ | refine ⟨_, _, fun _ => takes40_spec _, rfl, fun _ => trivial, ?_⟩ | refine ⟨_, _, spans41_4 ps w hw f, flat_mat _ _, rfl, ?_⟩ | refine ⟨_, _, spans41_4 ps w hw f, flat_mat _ _, ?_⟩ | refine ⟨_, _, fun _ => spans41_4 ps w hw f, flat_mat _ _, rfl, fun _ => trivial, ?_⟩); (try simp only [go_sem, Nat.reduceSub, reduceIte, Nat.reduceEqDiff, Nat.reduceLT, Nat.reduceMul, Nat.reduceAdd, Nat.reduceBEq, Nat.reduceLeDiff, Int.reduceLT, Int.reduceLE, Int.reduceNeg, Int.reduceBEq, Int.reduceBNe, Int.reduceToNat, rxT, List.length_map, hp, pcT, S4.ts, tk4, hl, hw0, hs0, hd0, ht0, matT]); repeat (simp (disch := omega) only [wrap_small, getD_map_lt, getD_range]; try simp only [go_sem, Nat.reduceSub, reduceIte, Nat.reduceEqDiff, Nat.reduceLT, Nat.reduceMul, Nat.reduceAdd, Nat.reduceBEq, Nat.reduceLeDiff, Int.reduceLT, Int.reduceLE, Int.reduceNeg, Int.reduceBEq, Int.reduceBNe, Int.reduceToNat, rxT, List.length_map, hp, pcT, S4.ts, tk4, hl, hw0, hs0, hd0, ht0, matT]))
          | ((first | refine ⟨.sh, .bool false, rfl, trivial, ?_⟩ | refine ⟨.sh, .bool false, rfl, ?_⟩); try simp only [go_sem, Nat.reduceSub, reduceIte, Nat.reduceEqDiff, Nat.reduceLT, Nat.reduceMul, Nat.reduceAdd, Nat.reduceBEq, Nat.reduceLeDiff, Int.reduceLT, Int.reduceLE, Int.reduceNeg, Int.reduceBEq, Int.reduceBNe, Int.reduceToNat])
          | (refine AV.ret ?_; (try simp only [go_sem, Nat.reduceSub, reduceIte, Nat.reduceEqDiff, Nat.reduceLT, Nat.reduceMul, Nat.reduceAdd, Nat.reduceBEq, Nat.reduceLeDiff, Int.reduceLT, Int.reduceLE, Int.reduceNeg, Int.reduceBEq, Int.reduceBNe, Int.reduceToNat]); first | refine atEnd_t (by simp only [go_sem, Nat.reduceSub, reduceIte, Nat.reduceEqDiff, Nat.reduceLT, Nat.reduceMul, Nat.reduceAdd, Nat.reduceBEq, Nat.reduceLeDiff, Int.reduceLT, Int.reduceLE, Int.reduceNeg, Int.reduceBEq, Int.reduceBNe, Int.reduceToNat] <;> rfl) ?_ (by first | (simp [rxT]; done) | exact leftT_tup _) | refine atEnd_c (by simp only [go_sem, Nat.reduceSub, reduceIte, Nat.reduceEqDiff, Nat.reduceLT, Nat.reduceMul, Nat.reduceAdd, Nat.reduceBEq, Nat.reduceLeDiff, Int.reduceLT, Int.reduceLE, Int.reduceNeg, Int.reduceBEq, Int.reduceBNe, Int.reduceToNat] <;> rfl) ?_ (by first | (simp [rxT]; done) | exact leftT_tup _) | refine atEnd_ct (by simp only [go_sem, Nat.reduceSub, reduceIte, Nat.reduceEqDiff, Nat.reduceLT, Nat.reduceMul, Nat.reduceAdd, Nat.reduceBEq, Nat.reduceLeDiff, Int.reduceLT, Int.reduceLE, Int.reduceNeg, Int.reduceBEq, Int.reduceBNe, Int.reduceToNat] <;> rfl) ?_ (by first | (simp; done) | exact leftT_tup _) (by simp only [go_sem, Nat.reduceSub, reduceIte, Nat.reduceEqDiff, Nat.reduceLT, Nat.reduceMul, Nat.reduceAdd, Nat.reduceBEq, Nat.reduceLeDiff, Int.reduceLT, Int.reduceLE, Int.reduceNeg, Int.reduceBEq, Int.reduceBNe, Int.reduceToNat] <;> rfl) ?_ (by simp) | refine atEnd_o (by simp only [go_sem, Nat.reduceSub, reduceIte, Nat.reduceEqDiff, Nat.reduceLT, Nat.reduceMul, Nat.reduceAdd, Nat.reduceBEq, Nat.reduceLeDiff, Int.reduceLT, Int.reduceLE, Int.reduceNeg, Int.reduceBEq, Int.reduceBNe, Int.reduceToNat] <;> rfl) ?_)
          | (refine And.intro ?_ ?_)
          | (with_reducible intro _)
        all_goals try first | exact True.intro | omega | exact ⟨_, _, rfl⟩ | exact allSolid_pcs _ | exact allSolid_one _ | exact allSolid_bool _ | rfl
        · exact allSolid_mat _ _
        · exact ⟨m - 1, by omega, i + 1, st' ++ [spansB w ⟨4, ps⟩ [f]], by omega, by simp; omega, by simpa using h5, by rw [h4, runM_un _ _ _ _ _ tk4], by simp [rxT, matT]⟩
      · repeat' first
          | refine AV.seq ?_
          | refine AV.block ?_
          | ((first | refine AV.reg ?_ | refine AV.regD mixed ?_); simp only [hN, c11R0, c11R1, c11R2, c11R3, c11R5, c11R6, c11R7, c11R4, c11R8, rxT, List.length_map, hp, pcT, S4.ts, tk5, hl, hw0, hs0, hd0, ht0, matT, go_sem, Nat.reduceSub, reduceIte, Nat.reduceEqDiff, Nat.reduceLT, Nat.reduceMul, Nat.reduceAdd, Nat.reduceBEq, Nat.reduceLeDiff, Int.reduceLT, Int.reduceLE, Int.reduceNeg, Int.reduceBEq, Int.reduceBNe, Int.reduceToNat]; repeat (simp (disch := omega) only [wrap_small, getD_map_lt, getD_range]; try simp only [go_sem, Nat.reduceSub, reduceIte, Nat.reduceEqDiff, Nat.reduceLT, Nat.reduceMul, Nat.reduceAdd, Nat.reduceBEq, Nat.reduceLeDiff, Int.reduceLT, Int.reduceLE, Int.reduceNeg, Int.reduceBEq, Int.reduceBNe, Int.reduceToNat, rxT, List.length_map, hp, pcT, S4.ts, tk5, hl, hw0, hs0, hd0, ht0, matT]))
          | (refine AV.cond ?_ ?_ (fun hc => ?_) (fun hc => ?_) <;> (try simp only [go_sem, Nat.reduceSub, reduceIte, Nat.reduceEqDiff, Nat.reduceLT, Nat.reduceMul, Nat.reduceAdd, Nat.reduceBEq, Nat.reduceLeDiff, Int.reduceLT, Int.reduceLE, Int.reduceNeg, Int.reduceBEq, Int.reduceBNe, Int.reduceToNat, beq_iff_eq, beq_eq_false_iff_ne] at hc) <;> (try simp only [go_sem, Nat.reduceSub, reduceIte, Nat.reduceEqDiff, Nat.reduceLT, Nat.reduceMul, Nat.reduceAdd, Nat.reduceBEq, Nat.reduceLeDiff, Int.reduceLT, Int.reduceLE, Int.reduceNeg, Int.reduceBEq, Int.reduceBNe, Int.reduceToNat]))
          | ((first | refine AV.skip ?_ | refine AV.exit ?_); simp only [go_sem, Nat.reduceSub, reduceIte, Nat.reduceEqDiff, Nat.reduceLT, Nat.reduceMul, Nat.reduceAdd, Nat.reduceBEq, Nat.reduceLeDiff, Int.reduceLT, Int.reduceLE, Int.reduceNeg, Int.reduceBEq, Int.reduceBNe, Int.reduceToNat])
          | ((first | refine ⟨_, _, takes40_spec _, rfl, ?_⟩ | refine ⟨_, _, takes40_spec _, ?_⟩ | refine ⟨_, _, fun _ => takes40_spec _, rfl, fun _ => trivial, ?_⟩ | refine ⟨_, _, spans41_5 ps w hw f, flat_mat _ _, rfl, ?_⟩ | refine ⟨_, _, spans41_5 ps w hw f, flat_mat _ _, ?_⟩ | refine ⟨_, _, fun _ => spans41_5 ps w hw f, flat_mat _ _, rfl, fun _ => trivial, ?_⟩); (try simp only [go_sem, Nat.reduceSub, reduceIte, Nat.reduceEqDiff, Nat.reduceLT, Nat.reduceMul, Nat.reduceAdd, Nat.reduceBEq, Nat.reduceLeDiff, Int.reduceLT, Int.reduceLE, Int.reduceNeg, Int.reduceBEq, Int.reduceBNe, Int.reduceToNat, rxT, List.length_map, hp, pcT, S4.ts, tk5, hl, hw0, hs0, hd0, ht0, matT]); repeat (simp (disch := omega) only [wrap_small, getD_map_lt, getD_range]; try simp only [go_sem, Nat.reduceSub, reduceIte, Nat.reduceEqDiff, Nat.reduceLT, Nat.reduceMul, Nat.reduceAdd, Nat.reduceBEq, Nat.reduceLeDiff, Int.reduceLT, Int.reduceLE, Int.reduceNeg, Int.reduceBEq, Int.reduceBNe, Int.reduceToNat, rxT, List.length_map, hp, pcT, S4.ts, tk5, hl, hw0, hs0, hd0, ht0, matT]))
          | ((first | refine ⟨.sh, .bool false, rfl, trivial, ?_⟩ | refine ⟨.sh, .bool false, rfl, ?_⟩); try simp only [go_sem, Nat.reduceSub, reduceIte, Nat.reduceEqDiff, Nat.reduceLT, Nat.reduceMul, Nat.reduceAdd, Nat.reduceBEq, Nat.reduceLeDiff, Int.reduceLT, Int.reduceLE, Int.reduceNeg, Int.reduceBEq, Int.reduceBNe, Int.reduceToNat])
          | (refine AV.ret ?_; (try simp only [go_sem, Nat.reduceSub, reduceIte, Nat.reduceEqDiff, Nat.reduceLT, Nat.reduceMul, Nat.reduceAdd, Nat.reduceBEq, Nat.reduceLeDiff, Int.reduceLT, Int.reduceLE, Int.reduceNeg, Int.reduceBEq, Int.reduceBNe, Int.reduceToNat]); first | refine atEnd_t (by simp only [go_sem, Nat.reduceSub, reduceIte, Nat.reduceEqDiff, Nat.reduceLT, Nat.reduceMul, Nat.reduceAdd, Nat.reduceBEq, Nat.reduceLeDiff, Int.reduceLT, Int.reduceLE, Int.reduceNeg, Int.reduceBEq, Int.reduceBNe, Int.reduceToNat] <;> rfl) ?_ (by first | (simp [rxT]; done) | exact leftT_tup _) | refine atEnd_c (by simp only [go_sem, Nat.reduceSub, reduceIte, Nat.reduceEqDiff, Nat.reduceLT, Nat.reduceMul, Nat.reduceAdd, Nat.reduceBEq, Nat.reduceLeDiff, Int.reduceLT, Int.reduceLE, Int.reduceNeg, Int.reduceBEq, Int.reduceBNe, Int.reduceToNat] <;> rfl) ?_ (by first | (simp [rxT]; done) | exact leftT_tup _) | refine atEnd_ct (by simp only [go_sem, Nat.reduceSub, reduceIte, Nat.reduceEqDiff, Nat.reduceLT, Nat.reduceMul, Nat.reduceAdd, Nat.reduceBEq, Nat.reduceLeDiff, Int.reduceLT, Int.reduceLE, Int.reduceNeg, Int.reduceBEq, Int.reduceBNe, Int.reduceToNat] <;> rfl) ?_ (by first | (simp; done) | exact leftT_tup _) (by simp only [go_sem, Nat.reduceSub, reduceIte, Nat.reduceEqDiff, Nat.reduceLT, Nat.reduceMul, Nat.reduceAdd, Nat.reduceBEq, Nat.reduceLeDiff, Int.reduceLT, Int.reduceLE, Int.reduceNeg, Int.reduceBEq, Int.reduceBNe, Int.reduceToNat] <;> rfl) ?_ (by simp) | refine atEnd_o (by simp only [go_sem, Nat.reduceSub, reduceIte, Nat.reduceEqDiff, Nat.reduceLT, Nat.reduceMul, Nat.reduceAdd, Nat.reduceBEq, Nat.reduceLeDiff, Int.reduceLT, Int.reduceLE, Int.reduceNeg, Int.reduceBEq, Int.reduceBNe, Int.reduceToNat] <;> rfl) ?_)
          | (refine And.intro ?_ ?_)
          | (with_reducible intro _)
        all_goals try first | exact True.intro | omega | exact ⟨_, _, rfl⟩ | exact allSolid_pcs _ | exact allSolid_one _ | exact allSolid_bool _ | rfl
        · exact allSolid_mat _ _
        · exact ⟨m - 1, by omega, i + 1, st' ++ [spansB w ⟨5, ps⟩ [f]], by omega, by simp; omega, by simpa using h5, by rw [h4, runM_un _ _ _ _ _ tk5], by simp [rxT, matT]⟩
      · repeat' first
          | refine AV.seq ?_
          | refine AV.block ?_
          | ((first | refine AV.reg ?_ | refine AV.regD mixed ?_); simp only [hN, c11R0, c11R1, c11R2, c11R3, c11R5, c11R6, c11R7, c11R4, c11R8, rxT, List.length_map, hp, pcT, S4.ts, tk6, hl, hw0, hs0, hd0, ht0, matT, go_sem, Nat.reduceSub, reduceIte, Nat.reduceEqDiff, Nat.reduceLT, Nat.reduceMul, Nat.reduceAdd, Nat.reduceBEq, Nat.reduceLeDiff, Int.reduceLT, Int.reduceLE, Int.reduceNeg, Int.reduceBEq, Int.reduceBNe, Int.reduceToNat]; repeat (simp (disch := omega) only [wrap_small, getD_map_lt, getD_range]; try simp only [go_sem, Nat.reduceSub, reduceIte, Nat.reduceEqDiff, Nat.reduceLT, Nat.reduceMul, Nat.reduceAdd, Nat.reduceBEq, Nat.reduceLeDiff, Int.reduceLT, Int.reduceLE, Int.reduceNeg, Int.reduceBEq, Int.reduceBNe, Int.reduceToNat, rxT, List.length_map, hp, pcT, S4.ts, tk6, hl, hw0, hs0, hd0, ht0, matT]))
          | (refine AV.cond ?_ ?_ (fun hc => ?_) (fun hc => ?_) <;> (try simp only [go_sem, Nat.reduceSub, reduceIte, Nat.reduceEqDiff, Nat.reduceLT, Nat.reduceMul, Nat.reduceAdd, Nat.reduceBEq, Nat.reduceLeDiff, Int.reduceLT, Int.reduceLE, Int.reduceNeg, Int.reduceBEq, Int.reduceBNe, Int.reduceToNat, beq_iff_eq, beq_eq_false_iff_ne] at hc) <;> (try simp only [go_sem, Nat.reduceSub, reduceIte, Nat.reduceEqDiff, Nat.reduceLT, Nat.reduceMul, Nat.reduceAdd, Nat.reduceBEq, Nat.reduceLeDiff, Int.reduceLT, Int.reduceLE, Int.reduceNeg, Int.reduceBEq, Int.reduceBNe, Int.reduceToNat]))
          | ((first | refine AV.skip ?_ | refine AV.exit ?_); simp only [go_sem, Nat.reduceSub, reduceIte, Nat.reduceEqDiff, Nat.reduceLT, Nat.reduceMul, Nat.reduceAdd, Nat.reduceBEq, Nat.reduceLeDiff, Int.reduceLT, Int.reduceLE, Int.reduceNeg, Int.reduceBEq, Int.reduceBNe, Int.reduceToNat])
          | ((first | refine ⟨_, _, takes40_spec _, rfl, ?_⟩ | refine ⟨_, _, takes40_spec _, ?_⟩ | refine ⟨_, _, fun _ => takes40_spec _, rfl, fun _ => trivial, ?_⟩ | refine ⟨_, _, spans41_6 ps w hw f, flat_mat _ _, rfl, ?_⟩ | refine ⟨_, _, spans41_6 ps w hw f, flat_mat _ _, ?_⟩ | refine ⟨_, _, fun _ => spans41_6 ps w hw f, flat_mat _ _, rfl, fun _ => trivial, ?_⟩); (try simp only [go_sem, Nat.reduceSub, reduceIte, Nat.reduceEqDiff, Nat.reduceLT, Nat.reduceMul, Nat.reduceAdd, Nat.reduceBEq, Nat.reduceLeDiff, Int.reduceLT, Int.reduceLE, Int.reduceNeg, Int.reduceBEq, Int.reduceBNe, Int.reduceToNat, rxT, List.length_map, hp, pcT, S4.ts, tk6, hl, hw0, hs0, hd0, ht0, matT]); repeat (simp (disch := omega) only [wrap_small, getD_map_lt, getD_range]; try simp only [go_sem, Nat.reduceSub, reduceIte, Nat.reduceEqDiff, Nat.reduceLT, Nat.reduceMul, Nat.reduceAdd, Nat.reduceBEq, Nat.reduceLeDiff, Int.reduceLT, Int.reduceLE, Int.reduceNeg, Int.reduceBEq, Int.reduceBNe, Int.reduceToNat, rxT, List.length_map, hp, pcT, S4.ts, tk6, hl, hw0, hs0, hd0, ht0, matT]))
          | ((first | refine ⟨.sh, .bool false, rfl, trivial, ?_⟩ | refine ⟨.sh, .bool false, rfl, ?_⟩); try simp only [go_sem, Nat.reduceSub, reduceIte, Nat.reduceEqDiff, Nat.reduceLT, Nat.reduceMul, Nat.reduceAdd, Nat.reduceBEq, Nat.reduceLeDiff, Int.reduceLT, Int.reduceLE, Int.reduceNeg, Int.reduceBEq, Int.reduceBNe, Int.reduceToNat])
          | (refine AV.ret ?_; (try simp only [go_sem, Nat.reduceSub, reduceIte, Nat.reduceEqDiff, Nat.reduceLT, Nat.reduceMul, Nat.reduceAdd, Nat.reduceBEq, Nat.reduceLeDiff, Int.reduceLT, Int.reduceLE, Int.reduceNeg, Int.reduceBEq, Int.reduceBNe, Int.reduceToNat]); first | refine atEnd_t (by simp only [go_sem, Nat.reduceSub, reduceIte, Nat.reduceEqDiff, Nat.reduceLT, Nat.reduceMul, Nat.reduceAdd, Nat.reduceBEq, Nat.reduceLeDiff, Int.reduceLT, Int.reduceLE, Int.reduceNeg, Int.reduceBEq, Int.reduceBNe, Int.reduceToNat] <;> rfl) ?_ (by first | (simp [rxT]; done) | exact leftT_tup _) | refine atEnd_c (by simp only [go_sem, Nat.reduceSub, reduceIte, Nat.reduceEqDiff, Nat.reduceLT, Nat.reduceMul, Nat.reduceAdd, Nat.reduceBEq, Nat.reduceLeDiff, Int.reduceLT, Int.reduceLE, Int.reduceNeg, Int.reduceBEq, Int.reduceBNe, Int.reduceToNat] <;> rfl) ?_ (by first | (simp [rxT]; done) | exact leftT_tup _) | refine atEnd_ct (by simp only [go_sem, Nat.reduceSub, reduceIte, Nat.reduceEqDiff, Nat.reduceLT, Nat.reduceMul, Nat.reduceAdd, Nat.reduceBEq, Nat.reduceLeDiff, Int.reduceLT, Int.reduceLE, Int.reduceNeg, Int.reduceBEq, Int.reduceBNe, Int.reduceToNat] <;> rfl) ?_ (by first | (simp; done) | exact leftT_tup _) (by simp only [go_sem, Nat.reduceSub, reduceIte, Nat.reduceEqDiff, Nat.reduceLT, Nat.reduceMul, Nat.reduceAdd, Nat.reduceBEq, Nat.reduceLeDiff, Int.reduceLT, Int.reduceLE, Int.reduceNeg, Int.reduceBEq, Int.reduceBNe, Int.reduceToNat] <;> rfl) ?_ (by simp) | refine atEnd_o (by simp only [go_sem, Nat.reduceSub, reduceIte, Nat.reduceEqDiff, Nat.reduceLT, Nat.reduceMul, Nat.reduceAdd, Nat.reduceBEq, Nat.reduceLeDiff, Int.reduceLT, Int.reduceLE, Int.reduceNeg, Int.reduceBEq, Int.reduceBNe, Int.reduceToNat] <;> rfl) ?_)
          | (refine And.intro ?_ ?_)
          | (with_reducible intro _)
        all_goals try first | exact True.intro | omega | exact ⟨_, _, rfl⟩ | exact allSolid_pcs _ | exact allSolid_one _ | exact allSolid_bool _ | rfl
        · exact allSolid_mat _ _
        · exact ⟨m - 1, by omega, i + 1, st' ++ [spansB w ⟨6, ps⟩ [f]], by omega, by simp; omega, by simpa using h5, by rw [h4, runM_un _ _ _ _ _ tk6], by simp [rxT, matT]⟩
    · have hl : (st' ++ [f, g]).length = st'.length + 2 := by simp
      rw [hl] at h2
      have hw0 : IntKind.i64.wrap (((st'.length + 2 : Nat) : Int) - 2) = (st'.length : Int) := by rw [wrap_small] <;> omega
      have hs0 : st'.length + 2 - st'.length = 2 := by omega
      have hd0 : ((st' ++ [f, g]).map (matT w.size)).drop st'.length = [matT w.size f, matT w.size g] := by simp
      have ht0 : ((st' ++ [f, g]).map (matT w.size)).take st'.length = st'.map (matT w.size) := by simp
      rcases hk with hk | hk <;> simp only at hk <;> subst hk
      · repeat' first
          | refine AV.seq ?_
          | refine AV.block ?_
          | ((first | refine AV.reg ?_ | refine AV.regD mixed ?_); simp only [hN, c11R0, c11R1, c11R2, c11R3, c11R5, c11R6, c11R7, c11R4, c11R8, rxT, List.length_map, hp, pcT, S4.ts, tk2, hl, hw0, hs0, hd0, ht0, matT, go_sem, Nat.reduceSub, reduceIte, Nat.reduceEqDiff, Nat.reduceLT, Nat.reduceMul, Nat.reduceAdd, Nat.reduceBEq, Nat.reduceLeDiff, Int.reduceLT, Int.reduceLE, Int.reduceNeg, Int.reduceBEq, Int.reduceBNe, Int.reduceToNat]; repeat (simp (disch := omega) only [wrap_small, getD_map_lt, getD_range]; try simp only [go_sem, Nat.reduceSub, reduceIte, Nat.reduceEqDiff, Nat.reduceLT, Nat.reduceMul, Nat.reduceAdd, Nat.reduceBEq, Nat.reduceLeDiff, Int.reduceLT, Int.reduceLE, Int.reduceNeg, Int.reduceBEq, Int.reduceBNe, Int.reduceToNat, rxT, List.length_map, hp, pcT, S4.ts, tk2, hl, hw0, hs0, hd0, ht0, matT]))
          | (refine AV.cond ?_ ?_ (fun hc => ?_) (fun hc => ?_) <;> (try simp only [go_sem, Nat.reduceSub, reduceIte, Nat.reduceEqDiff, Nat.reduceLT, Nat.reduceMul, Nat.reduceAdd, Nat.reduceBEq, Nat.reduceLeDiff, Int.reduceLT, Int.reduceLE, Int.reduceNeg, Int.reduceBEq, Int.reduceBNe, Int.reduceToNat, beq_iff_eq, beq_eq_false_iff_ne] at hc) <;> (try simp only [go_sem, Nat.reduceSub, reduceIte, Nat.reduceEqDiff, Nat.reduceLT, Nat.reduceMul, Nat.reduceAdd, Nat.reduceBEq, Nat.reduceLeDiff, Int.reduceLT, Int.reduceLE, Int.reduceNeg, Int.reduceBEq, Int.reduceBNe, Int.reduceToNat]))
          | ((first | refine AV.skip ?_ | refine AV.exit ?_); simp only [go_sem, Nat.reduceSub, reduceIte, Nat.reduceEqDiff, Nat.reduceLT, Nat.reduceMul, Nat.reduceAdd, Nat.reduceBEq, Nat.reduceLeDiff, Int.reduceLT, Int.reduceLE, Int.reduceNeg, Int.reduceBEq, Int.reduceBNe, Int.reduceToNat])
          | ((first | refine ⟨_, _, takes40_spec _, rfl, ?_⟩ | refine ⟨_, _, takes40_spec _, ?_⟩ | refine ⟨_, _, fun _ => takes40_spec _, rfl, fun _ => trivial, ?_⟩ | refine ⟨_, _, spans41_2 ps w hw f g, flat_mat _ _, rfl, ?_⟩ | refine ⟨_, _, spans41_2 ps w hw f g, flat_mat _ _, ?_⟩ | refine ⟨_, _, fun _ => spans41_2 ps w hw f g, flat_mat _ _, rfl, fun _ => trivial, ?_⟩); (try simp only [go_sem, Nat.reduceSub, reduceIte, Nat.reduceEqDiff, Nat.reduceLT, Nat.reduceMul, Nat.reduceAdd, Nat.reduceBEq, Nat.reduceLeDiff, Int.reduceLT, Int.reduceLE, Int.reduceNeg, Int.reduceBEq, Int.reduceBNe, Int.reduceToNat, rxT, List.length_map, hp, pcT, S4.ts, tk2, hl, hw0, hs0, hd0, ht0, matT]); repeat (simp (disch := omega) only [wrap_small, getD_map_lt, getD_range]; try simp only [go_sem, Nat.reduceSub, reduceIte, Nat.reduceEqDiff, Nat.reduceLT, Nat.reduceMul, Nat.reduceAdd, Nat.reduceBEq, Nat.reduceLeDiff, Int.reduceLT, Int.reduceLE, Int.reduceNeg, Int.reduceBEq, Int.reduceBNe, Int.reduceToNat, rxT, List.length_map, hp, pcT, S4.ts, tk2, hl, hw0, hs0, hd0, ht0, matT]))
          | ((first | refine ⟨.sh, .bool false, rfl, trivial, ?_⟩ | refine ⟨.sh, .bool false, rfl, ?_⟩); try simp only [go_sem, Nat.reduceSub, reduceIte, Nat.reduceEqDiff, Nat.reduceLT, Nat.reduceMul, Nat.reduceAdd, Nat.reduceBEq, Nat.reduceLeDiff, Int.reduceLT, Int.reduceLE, Int.reduceNeg, Int.reduceBEq, Int.reduceBNe, Int.reduceToNat])
          | (refine AV.ret ?_; (try simp only [go_sem, Nat.reduceSub, reduceIte, Nat.reduceEqDiff, Nat.reduceLT, Nat.reduceMul, Nat.reduceAdd, Nat.reduceBEq, Nat.reduceLeDiff, Int.reduceLT, Int.reduceLE, Int.reduceNeg, Int.reduceBEq, Int.reduceBNe, Int.reduceToNat]); first | refine atEnd_t (by simp only [go_sem, Nat.reduceSub, reduceIte, Nat.reduceEqDiff, Nat.reduceLT, Nat.reduceMul, Nat.reduceAdd, Nat.reduceBEq, Nat.reduceLeDiff, Int.reduceLT, Int.reduceLE, Int.reduceNeg, Int.reduceBEq, Int.reduceBNe, Int.reduceToNat] <;> rfl) ?_ (by first | (simp [rxT]; done) | exact leftT_tup _) | refine atEnd_c (by simp only [go_sem, Nat.reduceSub, reduceIte, Nat.reduceEqDiff, Nat.reduceLT, Nat.reduceMul, Nat.reduceAdd, Nat.reduceBEq, Nat.reduceLeDiff, Int.reduceLT, Int.reduceLE, Int.reduceNeg, Int.reduceBEq, Int.reduceBNe, Int.reduceToNat] <;> rfl) ?_ (by first | (simp [rxT]; done) | exact leftT_tup _) | refine atEnd_ct (by simp only [go_sem, Nat.reduceSub, reduceIte, Nat.reduceEqDiff, Nat.reduceLT, Nat.reduceMul, Nat.reduceAdd, Nat.reduceBEq, Nat.reduceLeDiff, Int.reduceLT, Int.reduceLE, Int.reduceNeg, Int.reduceBEq, Int.reduceBNe, Int.reduceToNat] <;> rfl) ?_ (by first | (simp; done) | exact leftT_tup _) (by simp only [go_sem, Nat.reduceSub, reduceIte, Nat.reduceEqDiff, Nat.reduceLT, Nat.reduceMul, Nat.reduceAdd, Nat.reduceBEq, Nat.reduceLeDiff, Int.reduceLT, Int.reduceLE, Int.reduceNeg, Int.reduceBEq, Int.reduceBNe, Int.reduceToNat] <;> rfl) ?_ (by simp) | refine atEnd_o (by simp only [go_sem, Nat.reduceSub, reduceIte, Nat.reduceEqDiff, Nat.reduceLT, Nat.reduceMul, Nat.reduceAdd, Nat.reduceBEq, Nat.reduceLeDiff, Int.reduceLT, Int.reduceLE, Int.reduceNeg, Int.reduceBEq, Int.reduceBNe, Int.reduceToNat] <;> rfl) ?_)
          | (refine And.intro ?_ ?_)
          | (with_reducible intro _)
        all_goals try first | exact True.intro | omega | exact ⟨_, _, rfl⟩ | exact allSolid_pcs _ | exact allSolid_one _ | exact allSolid_bool _ | rfl
        · exact allSolid_mat _ _
        · exact ⟨m - 1, by omega, i + 1, st' ++ [spansB w ⟨2, ps⟩ [f, g]], by omega, by simp; omega, by simpa using h5, by rw [h4, runM_bi _ _ _ _ _ _ tk2], by simp [rxT, matT]⟩
      · repeat' first
          | refine AV.seq ?_
          | refine AV.block ?_
          | ((first | refine AV.reg ?_ | refine AV.regD mixed ?_); simp only [hN, c11R0, c11R1, c11R2, c11R3, c11R5, c11R6, c11R7, c11R4, c11R8, rxT, List.length_map, hp, pcT, S4.ts, tk3, hl, hw0, hs0, hd0, ht0, matT, go_sem, Nat.reduceSub, reduceIte, Nat.reduceEqDiff, Nat.reduceLT, Nat.reduceMul, Nat.reduceAdd, Nat.reduceBEq, Nat.reduceLeDiff, Int.reduceLT, Int.reduceLE, Int.reduceNeg, Int.reduceBEq, Int.reduceBNe, Int.reduceToNat]; repeat (simp (disch := omega) only [wrap_small, getD_map_lt, getD_range]; try simp only [go_sem, Nat.reduceSub, reduceIte, Nat.reduceEqDiff, Nat.reduceLT, Nat.reduceMul, Nat.reduceAdd, Nat.reduceBEq, Nat.reduceLeDiff, Int.reduceLT, Int.reduceLE, Int.reduceNeg, Int.reduceBEq, Int.reduceBNe, Int.reduceToNat, rxT, List.length_map, hp, pcT, S4.ts, tk3, hl, hw0, hs0, hd0, ht0, matT]))
          | (refine AV.cond ?_ ?_ (fun hc => ?_) (fun hc => ?_) <;> (try simp only [go_sem, Nat.reduceSub, reduceIte, Nat.reduceEqDiff, Nat.reduceLT, Nat.reduceMul, Nat.reduceAdd, Nat.reduceBEq, Nat.reduceLeDiff, Int.reduceLT, Int.reduceLE, Int.reduceNeg, Int.reduceBEq, Int.reduceBNe, Int.reduceToNat, beq_iff_eq, beq_eq_false_iff_ne] at hc) <;> (try simp only [go_sem, Nat.reduceSub, reduceIte, Nat.reduceEqDiff, Nat.reduceLT, Nat.reduceMul, Nat.reduceAdd, Nat.reduceBEq, Nat.reduceLeDiff, Int.reduceLT, Int.reduceLE, Int.reduceNeg, Int.reduceBEq, Int.reduceBNe, Int.reduceToNat]))
          | ((first | refine AV.skip ?_ | refine AV.exit ?_); simp only [go_sem, Nat.reduceSub, reduceIte, Nat.reduceEqDiff, Nat.reduceLT, Nat.reduceMul, Nat.reduceAdd, Nat.reduceBEq, Nat.reduceLeDiff, Int.reduceLT, Int.reduceLE, Int.reduceNeg, Int.reduceBEq, Int.reduceBNe, Int.reduceToNat])
          | ((first | refine ⟨_, _, takes40_spec _, rfl, ?_⟩ | refine ⟨_, _, takes40_spec _, ?_⟩ | refine ⟨_, _, fun _ => takes40_spec _, rfl, fun _ => trivial, ?_⟩ | refine ⟨_, _, spans41_3 ps w hw f g, flat_mat _ _, rfl, ?_⟩ | refine ⟨_, _, spans41_3 ps w hw f g, flat_mat _ _, ?_⟩ | refine ⟨_, _, fun _ => spans41_3 ps w hw f g, flat_mat _ _, rfl, fun _ => trivial, ?_⟩); (try simp only [go_sem, Nat.reduceSub, reduceIte, Nat.reduceEqDiff, Nat.reduceLT, Nat.reduceMul, Nat.reduceAdd, Nat.reduceBEq, Nat.reduceLeDiff, Int.reduceLT, Int.reduceLE, Int.reduceNeg, Int.reduceBEq, Int.reduceBNe, Int.reduceToNat, rxT, List.length_map, hp, pcT, S4.ts, tk3, hl, hw0, hs0, hd0, ht0, matT]); repeat (simp (disch := omega) only [wrap_small, getD_map_lt, getD_range]; try simp only [go_sem, Nat.reduceSub, reduceIte, Nat.reduceEqDiff, Nat.reduceLT, Nat.reduceMul, Nat.reduceAdd, Nat.reduceBEq, Nat.reduceLeDiff, Int.reduceLT, Int.reduceLE, Int.reduceNeg, Int.reduceBEq, Int.reduceBNe, Int.reduceToNat, rxT, List.length_map, hp, pcT, S4.ts, tk3, hl, hw0, hs0, hd0, ht0, matT]))
          | ((first | refine ⟨.sh, .bool false, rfl, trivial, ?_⟩ | refine ⟨.sh, .bool false, rfl, ?_⟩); try simp only [go_sem, Nat.reduceSub, reduceIte, Nat.reduceEqDiff, Nat.reduceLT, Nat.reduceMul, Nat.reduceAdd, Nat.reduceBEq, Nat.reduceLeDiff, Int.reduceLT, Int.reduceLE, Int.reduceNeg, Int.reduceBEq, Int.reduceBNe, Int.reduceToNat])
          | (refine AV.ret ?_; (try simp only [go_sem, Nat.reduceSub, reduceIte, Nat.reduceEqDiff, Nat.reduceLT, Nat.reduceMul, Nat.reduceAdd, Nat.reduceBEq, Nat.reduceLeDiff, Int.reduceLT, Int.reduceLE, Int.reduceNeg, Int.reduceBEq, Int.reduceBNe, Int.reduceToNat]); first | refine atEnd_t (by simp only [go_sem, Nat.reduceSub, reduceIte, Nat.reduceEqDiff, Nat.reduceLT, Nat.reduceMul, Nat.reduceAdd, Nat.reduceBEq, Nat.reduceLeDiff, Int.reduceLT, Int.reduceLE, Int.reduceNeg, Int.reduceBEq, Int.reduceBNe, Int.reduceToNat] <;> rfl) ?_ (by first | (simp [rxT]; done) | exact leftT_tup _) | refine atEnd_c (by simp only [go_sem, Nat.reduceSub, reduceIte, Nat.reduceEqDiff, Nat.reduceLT, Nat.reduceMul, Nat.reduceAdd, Nat.reduceBEq, Nat.reduceLeDiff, Int.reduceLT, Int.reduceLE, Int.reduceNeg, Int.reduceBEq, Int.reduceBNe, Int.reduceToNat] <;> rfl) ?_ (by first | (simp [rxT]; done) | exact leftT_tup _) | refine atEnd_ct (by simp only [go_sem, Nat.reduceSub, reduceIte, Nat.reduceEqDiff, Nat.reduceLT, Nat.reduceMul, Nat.reduceAdd, Nat.reduceBEq, Nat.reduceLeDiff, Int.reduceLT, Int.reduceLE, Int.reduceNeg, Int.reduceBEq, Int.reduceBNe, Int.reduceToNat] <;> rfl) ?_ (by first | (simp; done) | exact leftT_tup _) (by simp only [go_sem, Nat.reduceSub, reduceIte, Nat.reduceEqDiff, Nat.reduceLT, Nat.reduceMul, Nat.reduceAdd, Nat.reduceBEq, Nat.reduceLeDiff, Int.reduceLT, Int.reduceLE, Int.reduceNeg, Int.reduceBEq, Int.reduceBNe, Int.reduceToNat] <;> rfl) ?_ (by simp) | refine atEnd_o (by simp only [go_sem, Nat.reduceSub, reduceIte, Nat.reduceEqDiff, Nat.reduceLT, Nat.reduceMul, Nat.reduceAdd, Nat.reduceBEq, Nat.reduceLeDiff, Int.reduceLT, Int.reduceLE, Int.reduceNeg, Int.reduceBEq, Int.reduceBNe, Int.reduceToNat] <;> rfl) ?_)
          | (refine And.intro ?_ ?_)
          | (with_reducible intro _)
        all_goals try first | exact True.intro | omega | exact ⟨_, _, rfl⟩ | exact allSolid_pcs _ | exact allSolid_one _ | exact allSolid_bool _ | rfl
        · exact allSolid_mat _ _
        · exact ⟨m - 1, by omega, i + 1, st' ++ [spansB w ⟨3, ps⟩ [f, g]], by omega, by simp; omega, by simpa using h5, by rw [h4, runM_bi _ _ _ _ _ _ tk3], by simp [rxT, matT]⟩
  · have hd : r.drop i = [] := List.drop_eq_nil_of_le (by omega)
    rw [hd] at h3 h4
    obtain ⟨f, rfl⟩ := fits_end _ h3
    repeat' first
      | refine AV.seq ?_
      | refine AV.block ?_
      | ((first | refine AV.reg ?_ | refine AV.regD mixed ?_); simp only [hN, c11R0, c11R1, c11R2, c11R3, c11R5, c11R6, c11R7, c11R4, c11R8, rxT, List.length_map, matT, brow, idxs_len, go_sem, Nat.reduceSub, reduceIte, Nat.reduceEqDiff, Nat.reduceLT, Nat.reduceMul, Nat.reduceAdd, Nat.reduceBEq, Nat.reduceLeDiff, Int.reduceLT, Int.reduceLE, Int.reduceNeg, Int.reduceBEq, Int.reduceBNe, Int.reduceToNat]; repeat (simp (disch := omega) only [wrap_small, getD_map_lt, getD_range]; try simp only [go_sem, Nat.reduceSub, reduceIte, Nat.reduceEqDiff, Nat.reduceLT, Nat.reduceMul, Nat.reduceAdd, Nat.reduceBEq, Nat.reduceLeDiff, Int.reduceLT, Int.reduceLE, Int.reduceNeg, Int.reduceBEq, Int.reduceBNe, Int.reduceToNat, rxT, List.length_map, matT, brow, idxs_len]))
      | (refine AV.cond ?_ ?_ (fun hc => ?_) (fun hc => ?_) <;> (try simp only [go_sem, Nat.reduceSub, reduceIte, Nat.reduceEqDiff, Nat.reduceLT, Nat.reduceMul, Nat.reduceAdd, Nat.reduceBEq, Nat.reduceLeDiff, Int.reduceLT, Int.reduceLE, Int.reduceNeg, Int.reduceBEq, Int.reduceBNe, Int.reduceToNat, beq_iff_eq, beq_eq_false_iff_ne] at hc) <;> (try simp only [go_sem, Nat.reduceSub, reduceIte, Nat.reduceEqDiff, Nat.reduceLT, Nat.reduceMul, Nat.reduceAdd, Nat.reduceBEq, Nat.reduceLeDiff, Int.reduceLT, Int.reduceLE, Int.reduceNeg, Int.reduceBEq, Int.reduceBNe, Int.reduceToNat]))
      | ((first | refine AV.skip ?_ | refine AV.exit ?_); simp only [go_sem, Nat.reduceSub, reduceIte, Nat.reduceEqDiff, Nat.reduceLT, Nat.reduceMul, Nat.reduceAdd, Nat.reduceBEq, Nat.reduceLeDiff, Int.reduceLT, Int.reduceLE, Int.reduceNeg, Int.reduceBEq, Int.reduceBNe, Int.reduceToNat])
      | (refine AV.ret ?_; (try simp only [go_sem, Nat.reduceSub, reduceIte, Nat.reduceEqDiff, Nat.reduceLT, Nat.reduceMul, Nat.reduceAdd, Nat.reduceBEq, Nat.reduceLeDiff, Int.reduceLT, Int.reduceLE, Int.reduceNeg, Int.reduceBEq, Int.reduceBNe, Int.reduceToNat]); first | refine atEnd_t (by simp only [go_sem, Nat.reduceSub, reduceIte, Nat.reduceEqDiff, Nat.reduceLT, Nat.reduceMul, Nat.reduceAdd, Nat.reduceBEq, Nat.reduceLeDiff, Int.reduceLT, Int.reduceLE, Int.reduceNeg, Int.reduceBEq, Int.reduceBNe, Int.reduceToNat] <;> rfl) ?_ (by first | (simp [rxT]; done) | exact leftT_tup _) | refine atEnd_c (by simp only [go_sem, Nat.reduceSub, reduceIte, Nat.reduceEqDiff, Nat.reduceLT, Nat.reduceMul, Nat.reduceAdd, Nat.reduceBEq, Nat.reduceLeDiff, Int.reduceLT, Int.reduceLE, Int.reduceNeg, Int.reduceBEq, Int.reduceBNe, Int.reduceToNat] <;> rfl) ?_ (by first | (simp [rxT]; done) | exact leftT_tup _) | refine atEnd_ct (by simp only [go_sem, Nat.reduceSub, reduceIte, Nat.reduceEqDiff, Nat.reduceLT, Nat.reduceMul, Nat.reduceAdd, Nat.reduceBEq, Nat.reduceLeDiff, Int.reduceLT, Int.reduceLE, Int.reduceNeg, Int.reduceBEq, Int.reduceBNe, Int.reduceToNat] <;> rfl) ?_ (by first | (simp; done) | exact leftT_tup _) (by simp only [go_sem, Nat.reduceSub, reduceIte, Nat.reduceEqDiff, Nat.reduceLT, Nat.reduceMul, Nat.reduceAdd, Nat.reduceBEq, Nat.reduceLeDiff, Int.reduceLT, Int.reduceLE, Int.reduceNeg, Int.reduceBEq, Int.reduceBNe, Int.reduceToNat] <;> rfl) ?_ (by simp) | refine atEnd_o (by simp only [go_sem, Nat.reduceSub, reduceIte, Nat.reduceEqDiff, Nat.reduceLT, Nat.reduceMul, Nat.reduceAdd, Nat.reduceBEq, Nat.reduceLeDiff, Int.reduceLT, Int.reduceLE, Int.reduceNeg, Int.reduceBEq, Int.reduceBNe, Int.reduceToNat] <;> rfl) ?_)
      | (refine And.intro ?_ ?_)
      | (with_reducible intro _)
    all_goals try first | exact True.intro | omega | exact ⟨_, _, rfl⟩ | exact allSolid_pcs _ | exact allSolid_one _ | exact allSolid_bool _ | rfl
    rw [h4]; rfl
end Go.Proofs.Ytaefhdklkbohmaa
/- What the tables of truths tell: the languages of the trees. -/
namespace Go.Proofs.Ytaefhdklkbohmaa
open Go Go.RowKit

def seg (l : List Nat) (a b : Nat) : List Nat := (l.drop a).take (b - a)
theorem seg_len (l : List Nat) (a b : Nat) (h : b ≤ l.length) : (seg l a b).length = b - a := by
  simp [seg]; omega
theorem seg_self (l : List Nat) (a : Nat) : seg l a a = [] := by simp [seg]
theorem seg_app (l : List Nat) (a k b : Nat) (h : a ≤ k) (h' : k ≤ b) : seg l a k ++ seg l k b = seg l a b := by
  unfold seg
  have e : b - a = (k - a) + (b - k) := by omega
  rw [e, List.take_add, List.drop_drop, show a + (k - a) = k by omega]
theorem seg_split (l u v : List Nat) (a b : Nat) (hab : a ≤ b) (hb : b ≤ l.length) (h : seg l a b = u ++ v) : ∃ k, a ≤ k ∧ k ≤ b ∧ seg l a k = u ∧ seg l k b = v := by
  have hl := seg_len l a b hb
  rw [h, List.length_append] at hl
  refine ⟨a + u.length, by omega, by omega, ?_⟩
  have h1 := seg_app l a (a + u.length) b (by omega) (by omega)
  rw [h] at h1
  exact List.append_inj h1 (by rw [seg_len _ _ _ (by omega)]; omega)
theorem star_seg (l : List Nat) (P : List Nat → Prop) (f : Nat → Nat → Bool) (hf : ∀ a b, a ≤ l.length → b ≤ l.length → (f a b = true ↔ a ≤ b ∧ P (seg l a b))) (a b : Nat) (ha : a ≤ l.length) (hb : b ≤ l.length) :
    AgP f a b ↔ a ≤ b ∧ StarL P (seg l a b) := by
  constructor
  · intro h
    refine ⟨h.le, ?_⟩
    induction h with
    | refl a => rw [seg_self]; exact .nil
    | @step a k b h h1 h2 ih =>
      have hk : k ≤ l.length := Nat.le_trans h2.le hb
      rw [← seg_app l a k b (Nat.le_of_lt h) h2.le]
      exact .app ((hf a k ha hk).1 h1).2 (ih hk hb)
  · rintro ⟨hab, h⟩
    generalize e : seg l a b = x at h
    induction h generalizing a b with
    | nil =>
      have := seg_len l a b hb
      rw [e, List.length_nil] at this
      have : a = b := by omega
      subst this
      exact .refl _
    | @app u v h1 h2 ih =>
      obtain ⟨k, k1, k2, rfl, rfl⟩ := seg_split l u v a b hab hb e
      have hk : k ≤ l.length := by omega
      have := ih k b hk hb k2 rfl
      by_cases ek : a = k
      · subst ek; exact this
      · exact .step (by omega) ((hf a k ha hk).2 ⟨k1, h1⟩) this
theorem seg_one (w : ByteArray) (a : Nat) (h : a < w.size) : seg (bytesOf w) a (a + 1) = [(w.data.toList.getD a 0).toNat] := by
  unfold seg
  rw [bytesOf_at w a h, show a + 1 - a = 1 by omega]
  rfl
theorem evR_spans (w : ByteArray) (t : Rx) : ∀ a b, a ≤ w.size → b ≤ w.size → (evR (spansB w) t a b = true ↔ a ≤ b ∧ t.L (seg (bytesOf w) a b)) := by
  have hn : (bytesOf w).length = w.size := bytesOf_length w
  have hid : ∀ a b, a ≤ w.size → b ≤ w.size → (idB a b = true ↔ a ≤ b ∧ seg (bytesOf w) a b = []) := by
    intro a b ha hb
    simp only [idB, decide_eq_true_eq]
    constructor
    · rintro rfl; exact ⟨Nat.le_refl _, seg_self _ _⟩
    · rintro ⟨h1, h2⟩
      have := seg_len (bytesOf w) a b (by omega)
      rw [h2, List.length_nil] at this
      omega
  have hthen : ∀ (f g : Nat → Nat → Bool) (P Q : List Nat → Prop), (∀ a b, a ≤ w.size → b ≤ w.size → (f a b = true ↔ a ≤ b ∧ P (seg (bytesOf w) a b))) → (∀ a b, a ≤ w.size → b ≤ w.size → (g a b = true ↔ a ≤ b ∧ Q (seg (bytesOf w) a b))) →
      ∀ a b, a ≤ w.size → b ≤ w.size → (thenB f g a b = true ↔ a ≤ b ∧ ∃ u v, seg (bytesOf w) a b = u ++ v ∧ P u ∧ Q v) := by
    intro f g P Q hf hg a b ha hb
    rw [thenB_iff]
    constructor
    · rintro ⟨k, k1, k2, k3, k4⟩
      refine ⟨by omega, _, _, (seg_app (bytesOf w) a k b k1 k2).symm, ((hf a k ha (by omega)).1 k3).2, ((hg k b (by omega) hb).1 k4).2⟩
    · rintro ⟨hab, u, v, h, hu, hv⟩
      obtain ⟨k, k1, k2, rfl, rfl⟩ := seg_split _ u v a b hab (by omega) h
      exact ⟨k, k1, k2, (hf a k ha (by omega)).2 ⟨k1, hu⟩, (hg k b (by omega) hb).2 ⟨k2, hv⟩⟩
  induction t with
  | none => exact hid
  | one s =>
    intro a b ha hb
    show oneB w s a b = true ↔ _
    simp only [oneB, Bool.and_eq_true, decide_eq_true_eq, Rx.L]
    constructor
    · rintro ⟨⟨rfl, h1⟩, h2⟩
      exact ⟨by omega, _, seg_one w a h1, h2⟩
    · rintro ⟨h1, c, h2, h3⟩
      have hl := seg_len (bytesOf w) a b (by omega)
      rw [h2, List.length_singleton] at hl
      have hb1 : b = a + 1 := by omega
      subst hb1
      rw [seg_one w a (by omega)] at h2
      simp only [List.cons.injEq, and_true] at h2
      exact ⟨⟨rfl, by omega⟩, by rw [h2]; exact h3⟩
  | cat x y ihx ihy => exact hthen _ _ _ _ ihx ihy
  | alt x y ihx ihy =>
    intro a b ha hb
    show orB (evR (spansB w) x) (evR (spansB w) y) a b = true ↔ _
    rw [orB_iff, ihx a b ha hb, ihy a b ha hb]
    simp only [Rx.L]
    constructor
    · rintro ⟨h, h1 | h1⟩
      · exact ⟨h, .inl h1.2⟩
      · exact ⟨h, .inr h1.2⟩
    · rintro ⟨h, h1 | h1⟩
      · exact ⟨h, .inl ⟨h, h1⟩⟩
      · exact ⟨h, .inr ⟨h, h1⟩⟩
  | star x ihx =>
    intro a b ha hb
    show againB _ a b = true ↔ _
    rw [againB_iff]
    rw [← hn] at ihx ha hb
    exact star_seg _ _ _ ihx a b ha hb
  | plus x ihx =>
    refine hthen _ _ _ _ ihx (fun a b ha hb => ?_)
    show againB _ a b = true ↔ _
    rw [againB_iff]
    rw [← hn] at ihx ha hb
    exact star_seg _ _ _ ihx a b ha hb
  | opt x ihx =>
    intro a b ha hb
    show orB idB (evR (spansB w) x) a b = true ↔ _
    rw [orB_iff, ihx a b ha hb, hid a b ha hb]
    simp only [Rx.L]
    constructor
    · rintro ⟨h, h1 | h1⟩
      · exact ⟨h, .inl h1.2⟩
      · exact ⟨h, .inr h1.2⟩
    · rintro ⟨h, h1 | h1⟩
      · exact ⟨h, .inl ⟨h, h1⟩⟩
      · exact ⟨h, .inr ⟨h, h1⟩⟩
/-- bosketref04.Has of a tree. -/
def hasB (t : Rx) (w : ByteArray) : Bool := evR (spansB w) t 0 w.size
theorem hasB_iff (t : Rx) (w : ByteArray) : hasB t w = true ↔ t.L (bytesOf w) := by
  have h := evR_spans w t 0 w.size (by omega) (Nat.le_refl _)
  unfold hasB
  rw [h]
  have : seg (bytesOf w) 0 w.size = bytesOf w := by
    unfold seg
    rw [List.drop_zero]
    exact List.take_of_length_le (by rw [bytesOf_length]; omega)
  rw [this]
  simp
theorem has11_tree (t : Rx) (w : ByteArray) (hr : t.enc.length ≤ 1073741820) (hw : w.size ≤ 1000000) : ACalls Try.prog 11 [rxT t.enc, .str w] .sh (.bool (hasB t w)) := by
  have := has11_spec t.enc w hr hw (fits_enc t)
  rw [runM_all] at this
  exact this
/-! ### Behind a text -/
/-- What is left behind a text, and how far one came: as far as it went, nothing is lost. -/
theorem thr_L (most : Int) : ∀ (l : List Nat) (x : Rx) (i : Nat), i ≤ (thr most x l i).2 ∧ (thr most x l i).2 ≤ i + l.length ∧
    ((thr most x l i).2 < i + l.length → ((thr most x l i).1 = .none ∧ ∀ v, ¬ x.L (l.take ((thr most x l i).2 - i + 1) ++ v)) ∨ ∃ y, (thr most x l i).1 = .some y ∧ (y.enc.length : Int) > most) ∧
    ((thr most x l i).2 = i + l.length → ∃ y, (thr most x l i).1 = .some y ∧ ∀ v, y.L v ↔ x.L (l ++ v))
  | [], x, i => by
    simp only [thr, List.length_nil, Nat.add_zero]
    exact ⟨Nat.le_refl _, Nat.le_refl _, fun h => absurd h (Nat.lt_irrefl _), fun _ => ⟨x, rfl, fun v => Iff.rfl⟩⟩
  | c :: l, x, i => by
    have hd := der_L c x
    simp only [thr]
    cases hx : der c x with
    | none =>
      rw [hx] at hd
      simp only [List.length_cons]
      refine ⟨Nat.le_refl _, by omega, fun _ => .inl ⟨trivial, fun v h => ?_⟩, fun h => by omega⟩
      rw [Nat.sub_self, Nat.zero_add, List.take_succ_cons, List.take_zero] at h
      exact (hd v).2 h
    | some y =>
      rw [hx] at hd
      simp only [List.length_cons]
      by_cases hy : (y.enc.length : Int) > most
      · rw [if_pos hy]
        exact ⟨Nat.le_refl _, by omega, fun _ => .inr ⟨y, rfl, hy⟩, fun h => by simp only at h; omega⟩
      · rw [if_neg hy]
        obtain ⟨h1, h2, h3, h4⟩ := thr_L most l y (i + 1)
        refine ⟨by omega, by omega, fun h => ?_, fun h => ?_⟩
        · rcases h3 (by omega) with ⟨h5, h6⟩ | h5
          · refine .inl ⟨h5, fun v hv => h6 v ?_⟩
            have e : (thr most y l (i + 1)).2 - i + 1 = ((thr most y l (i + 1)).2 - (i + 1) + 1) + 1 := by omega
            rw [e, List.take_succ_cons, List.cons_append] at hv
            exact (hd _).2 hv
          · exact .inr h5
        · obtain ⟨z, h5, h6⟩ := h4 (by omega)
          refine ⟨z, h5, fun v => ?_⟩
          rw [h6, List.cons_append]
          exact hd _
theorem thr_len (most : Int) : ∀ (l : List Nat) (x y : Rx) (i : Nat), (thr most x l i).1 = .some y → (thr most x l i).2 = i + l.length → (y.enc.length : Int) ≤ x.enc.length ∨ (y.enc.length : Int) ≤ most
  | [], x, y, i, h, _ => by
    simp only [thr, Option.some.injEq] at h
    subst h
    exact .inl (Int.le_refl _)
  | c :: l, x, y, i, h, h' => by
    simp only [thr, List.length_cons] at h h'
    cases hx : der c x with
    | none => rw [hx] at h; cases h
    | some z =>
      rw [hx] at h h'
      simp only at h h'
      by_cases hy : (z.enc.length : Int) > most
      · rw [if_pos hy] at h'
        simp only at h'
        omega
      · rw [if_neg hy] at h h'
        rcases thr_len most l z y (i + 1) h (by omega) with h1 | h1
        · exact .inr (by omega)
        · exact .inr h1
theorem bytesOf_append (u v : ByteArray) : bytesOf (u ++ v) = bytesOf u ++ bytesOf v := by
  simp [bytesOf, ByteArray.data_append]
theorem bytesOf_take (u : ByteArray) (k : Nat) : bytesOf (u.extract 0 k) = (bytesOf u).take k := by
  simp [bytesOf, List.map_take]
end Go.Proofs.Ytaefhdklkbohmaa
/- The example of the law. -/
namespace Go.Proofs.Ytaefhdklkbohmaa
open Go Go.RowKit
set_option linter.unusedSimpArgs false
set_option maxRecDepth 20000
set_option maxHeartbeats 4000000
def aw : Rx := .star (.one ⟨0, 8589934592, 0, 0⟩)
theorem awake8_spec : ACalls Try.prog 8 [] .sh (.bool true) := by
  have e97 : der 97 aw = .some aw := by decide
  have e98 : der 98 aw = .none := by decide
  have hk : checkS aw.enc = 0 := by decide
  have k97 := by16_spec 97 (by omega) aw (by decide) hk
  have k98 := by16_spec 98 (by omega) aw (by decide) hk
  rw [e97] at k97
  rw [e98] at k98
  have h1 : hasB aw ⟨#[97, 97]⟩ = true := by decide
  have h2 : hasB aw ⟨#[98]⟩ = false := by decide
  have f1 := fits12_spec aw.enc (by decide)
  rw [fits_enc] at f1
  have f2 := has11_tree aw ⟨#[97, 97]⟩ (by decide) (by decide)
  rw [h1] at f2
  have f3 := has11_tree aw ⟨#[98]⟩ (by decide) (by decide)
  rw [h2] at f3
  have f4 := empty14_tree aw (by decide)
  have e : aw.nul = true := rfl
  rw [e] at f4
  have hr : aw.enc = [⟨1, ⟨0, 8589934592, 0, 0⟩⟩, ⟨4, z4⟩] := rfl
  have hl : leftT (.some aw) = .agg [.bool false, rxT aw.enc] := rfl
  have hl2 : leftT .none = .agg [.bool true, .sl 5 []] := rfl
  have hrx : rxT aw.enc = .sl 5 [.agg [.int .i64 1, .int .u64 0, .int .u64 8589934592, .int .u64 0, .int .u64 0], .agg [.int .i64 4, .int .u64 0, .int .u64 0, .int .u64 0, .int .u64 0]] := rfl
  rw [hrx] at k97 k98 f1 f2 f3 f4 hl
  rw [hl] at k97
  rw [hl2] at k98
  refine ACalls.of n8 rfl (m8 _ rfl) q8 (by simp only [List.length_cons, List.length_nil]; decide) (fun C hC => ?_)
  have hN : C.N = 39 := hC
  repeat' first
    | refine AV.seq ?_
    | refine AV.block ?_
    | ((first | refine AV.reg ?_ | refine AV.regD mixed ?_); simp only [hN, c8R0, c8R1, c8R2, c8R3, List.length_map, go_sem, Nat.reduceSub, reduceIte, Nat.reduceEqDiff, Nat.reduceLT, Nat.reduceMul, Nat.reduceAdd, Nat.reduceBEq, Nat.reduceLeDiff, Int.reduceLT, Int.reduceLE, Int.reduceNeg, Int.reduceBEq, Int.reduceBNe, Int.reduceToNat]; repeat (simp (disch := omega) only [wrap_small, getD_map_lt]; try simp only [go_sem, Nat.reduceSub, reduceIte, Nat.reduceEqDiff, Nat.reduceLT, Nat.reduceMul, Nat.reduceAdd, Nat.reduceBEq, Nat.reduceLeDiff, Int.reduceLT, Int.reduceLE, Int.reduceNeg, Int.reduceBEq, Int.reduceBNe, Int.reduceToNat, List.length_map]))
    | (refine AV.cond ?_ ?_ (fun hc => ?_) (fun hc => ?_) <;> (try simp only [go_sem, Nat.reduceSub, reduceIte, Nat.reduceEqDiff, Nat.reduceLT, Nat.reduceMul, Nat.reduceAdd, Nat.reduceBEq, Nat.reduceLeDiff, Int.reduceLT, Int.reduceLE, Int.reduceNeg, Int.reduceBEq, Int.reduceBNe, Int.reduceToNat, beq_iff_eq, beq_eq_false_iff_ne] at hc) <;> (try simp only [go_sem, Nat.reduceSub, reduceIte, Nat.reduceEqDiff, Nat.reduceLT, Nat.reduceMul, Nat.reduceAdd, Nat.reduceBEq, Nat.reduceLeDiff, Int.reduceLT, Int.reduceLE, Int.reduceNeg, Int.reduceBEq, Int.reduceBNe, Int.reduceToNat]))
    | ((first | refine AV.skip ?_ | refine AV.exit ?_); simp only [go_sem, Nat.reduceSub, reduceIte, Nat.reduceEqDiff, Nat.reduceLT, Nat.reduceMul, Nat.reduceAdd, Nat.reduceBEq, Nat.reduceLeDiff, Int.reduceLT, Int.reduceLE, Int.reduceNeg, Int.reduceBEq, Int.reduceBNe, Int.reduceToNat])
    | ((first | refine ⟨_, _, k97, rfl, ?_⟩ | refine ⟨_, _, k97, ?_⟩ | refine ⟨_, _, fun _ => k97, rfl, fun _ => trivial, ?_⟩ | refine ⟨_, _, k98, rfl, ?_⟩ | refine ⟨_, _, k98, ?_⟩ | refine ⟨_, _, fun _ => k98, rfl, fun _ => trivial, ?_⟩ | refine ⟨_, _, f1, rfl, ?_⟩ | refine ⟨_, _, f1, ?_⟩ | refine ⟨_, _, fun _ => f1, rfl, fun _ => trivial, ?_⟩ | refine ⟨_, _, f2, rfl, ?_⟩ | refine ⟨_, _, f2, ?_⟩ | refine ⟨_, _, fun _ => f2, rfl, fun _ => trivial, ?_⟩ | refine ⟨_, _, f3, rfl, ?_⟩ | refine ⟨_, _, f3, ?_⟩ | refine ⟨_, _, fun _ => f3, rfl, fun _ => trivial, ?_⟩ | refine ⟨_, _, f4, rfl, ?_⟩ | refine ⟨_, _, f4, ?_⟩ | refine ⟨_, _, fun _ => f4, rfl, fun _ => trivial, ?_⟩); (try simp only [go_sem, Nat.reduceSub, reduceIte, Nat.reduceEqDiff, Nat.reduceLT, Nat.reduceMul, Nat.reduceAdd, Nat.reduceBEq, Nat.reduceLeDiff, Int.reduceLT, Int.reduceLE, Int.reduceNeg, Int.reduceBEq, Int.reduceBNe, Int.reduceToNat, List.length_map]); repeat (simp (disch := omega) only [wrap_small, getD_map_lt]; try simp only [go_sem, Nat.reduceSub, reduceIte, Nat.reduceEqDiff, Nat.reduceLT, Nat.reduceMul, Nat.reduceAdd, Nat.reduceBEq, Nat.reduceLeDiff, Int.reduceLT, Int.reduceLE, Int.reduceNeg, Int.reduceBEq, Int.reduceBNe, Int.reduceToNat, List.length_map]))
    | ((first | refine ⟨.sh, .bool false, rfl, trivial, ?_⟩ | refine ⟨.sh, .bool false, rfl, ?_⟩); try simp only [go_sem, Nat.reduceSub, reduceIte, Nat.reduceEqDiff, Nat.reduceLT, Nat.reduceMul, Nat.reduceAdd, Nat.reduceBEq, Nat.reduceLeDiff, Int.reduceLT, Int.reduceLE, Int.reduceNeg, Int.reduceBEq, Int.reduceBNe, Int.reduceToNat])
    | (refine AV.ret ?_; (try simp only [go_sem, Nat.reduceSub, reduceIte, Nat.reduceEqDiff, Nat.reduceLT, Nat.reduceMul, Nat.reduceAdd, Nat.reduceBEq, Nat.reduceLeDiff, Int.reduceLT, Int.reduceLE, Int.reduceNeg, Int.reduceBEq, Int.reduceBNe, Int.reduceToNat]); first | refine atEnd_t (by simp only [go_sem, Nat.reduceSub, reduceIte, Nat.reduceEqDiff, Nat.reduceLT, Nat.reduceMul, Nat.reduceAdd, Nat.reduceBEq, Nat.reduceLeDiff, Int.reduceLT, Int.reduceLE, Int.reduceNeg, Int.reduceBEq, Int.reduceBNe, Int.reduceToNat] <;> rfl) ?_ (by first | (simp [rxT]; done) | exact leftT_tup _) | refine atEnd_c (by simp only [go_sem, Nat.reduceSub, reduceIte, Nat.reduceEqDiff, Nat.reduceLT, Nat.reduceMul, Nat.reduceAdd, Nat.reduceBEq, Nat.reduceLeDiff, Int.reduceLT, Int.reduceLE, Int.reduceNeg, Int.reduceBEq, Int.reduceBNe, Int.reduceToNat] <;> rfl) ?_ (by first | (simp [rxT]; done) | exact leftT_tup _) | refine atEnd_ct (by simp only [go_sem, Nat.reduceSub, reduceIte, Nat.reduceEqDiff, Nat.reduceLT, Nat.reduceMul, Nat.reduceAdd, Nat.reduceBEq, Nat.reduceLeDiff, Int.reduceLT, Int.reduceLE, Int.reduceNeg, Int.reduceBEq, Int.reduceBNe, Int.reduceToNat] <;> rfl) ?_ (by first | (simp; done) | exact leftT_tup _) (by simp only [go_sem, Nat.reduceSub, reduceIte, Nat.reduceEqDiff, Nat.reduceLT, Nat.reduceMul, Nat.reduceAdd, Nat.reduceBEq, Nat.reduceLeDiff, Int.reduceLT, Int.reduceLE, Int.reduceNeg, Int.reduceBEq, Int.reduceBNe, Int.reduceToNat] <;> rfl) ?_ (by simp) | refine atEnd_o (by simp only [go_sem, Nat.reduceSub, reduceIte, Nat.reduceEqDiff, Nat.reduceLT, Nat.reduceMul, Nat.reduceAdd, Nat.reduceBEq, Nat.reduceLeDiff, Int.reduceLT, Int.reduceLE, Int.reduceNeg, Int.reduceBEq, Int.reduceBNe, Int.reduceToNat] <;> rfl) ?_)
    | (refine And.intro ?_ ?_)
    | (with_reducible intro _)
  all_goals try first | exact True.intro | omega | exact ⟨_, _, rfl⟩ | exact allSolid_pcs _ | exact allSolid_one _ | exact allSolid_bool _ | rfl
  all_goals trace_state
end Go.Proofs.Ytaefhdklkbohmaa
/- What laws' arguments read as; a law's contract. -/
namespace Go.Proofs.Ytaefhdklkbohmaa
open Go Go.RowKit
set_option linter.unusedVariables false
def lsS4 : List LS := [.int .u64, .int .u64, .int .u64, .int .u64]
def lsPc : List LS := .int .i64 :: lsS4
theorem u64_of {n : Int} (h : (Lit.int .u64 n).wf = true) : ∃ b : BitVec 64, n = (b.toNat : Int) := by
  simp [Lit.wf, IntKind.min, IntKind.max, IntKind.bits, IntKind.signed] at h
  refine ⟨BitVec.ofNat 64 n.toNat, ?_⟩
  rw [BitVec.toNat_ofNat, Nat.mod_eq_of_lt (by omega)]
  omega
theorem s4_of {ts : List T} (h : fitLs lsS4 ts) : ∃ s : S4, ts = s.ts := by
  simp only [lsS4, fitLs, fitL] at h
  obtain ⟨t0, r0, rfl, ⟨n0, rfl, h0⟩, t1, r1, rfl, ⟨n1, rfl, h1⟩, t2, r2, rfl, ⟨n2, rfl, h2⟩, t3, r3, rfl, ⟨n3, rfl, h3⟩, rfl⟩ := h
  obtain ⟨b0, rfl⟩ := u64_of h0
  obtain ⟨b1, rfl⟩ := u64_of h1
  obtain ⟨b2, rfl⟩ := u64_of h2
  obtain ⟨b3, rfl⟩ := u64_of h3
  exact ⟨⟨b0, b1, b2, b3⟩, rfl⟩
theorem pc_of {x : T} (ha : x.isAgg) (h : fitLs lsPc x.leaves) : ∃ p : Pc, x = pcT p := by
  rw [T.isAgg_eq ha]
  generalize x.leaves = ts at h ⊢
  simp only [lsPc, fitLs, fitL] at h
  obtain ⟨t, r, rfl, ⟨n, rfl, hn⟩, h⟩ := h
  obtain ⟨s, rfl⟩ := s4_of h
  exact ⟨⟨n, s⟩, rfl⟩
theorem rx_of {u : T} (h : fitL (.sl true lsPc) u) : ∃ r : List Pc, u = rxT r := by
  simp only [fitL] at h
  obtain ⟨xs, rfl, _, hx⟩ := h
  have : ∀ (xs : List T), (∀ x ∈ xs, ∃ p : Pc, x = pcT p) → ∃ r : List Pc, xs = r.map pcT := by
    intro xs
    induction xs with
    | nil => intro _; exact ⟨[], rfl⟩
    | cons x xs ih =>
      intro h
      obtain ⟨p, rfl⟩ := h x (by simp)
      obtain ⟨r, rfl⟩ := ih (fun y hy => h y (by simp [hy]))
      exact ⟨p :: r, rfl⟩
  obtain ⟨r, rfl⟩ := this xs (fun x hm => pc_of ((hx x hm).1 trivial) (hx x hm).2.2)
  exact ⟨r, rfl⟩
theorem two_of {ts : List T} (h : fitLs [.str, .str] ts) : ∃ s t : ByteArray, ts = [.str s, .str t] := by
  simp only [fitLs, fitL] at h
  obtain ⟨t0, r0, rfl, ⟨s, rfl, _⟩, t1, r1, rfl, ⟨t, rfl, _⟩, rfl⟩ := h
  exact ⟨s, t, rfl⟩
/-- A law's contract, as the machine runs it. -/
theorem law_calls {P : Program} {f : FuncId} {us : List T} (h : ACalls P f us .sh (.bool true)) {W : World} {vs : List Value} (hv : R0s W (fun b => b < W.heap.size) us vs) :
    Calls P f vs.toArray W fun e W' => e = .returned (.bool true) ∧ Below W.heap.size W W' := by
  refine (h W _ vs (fun b hb => hb) hv).mono fun e W' => ?_
  rintro ⟨c, F, rfl, hr⟩
  have hval := hr.val
  simp only [RO, R0, RL] at hval
  obtain ⟨_, hc⟩ := hval
  simp only [List.cons.injEq, and_true] at hc
  subst hc
  exact ⟨rfl, ⟨hr.ext.os, hr.ext.tape, hr.ext.output, hr.ext.size, hr.ext.block⟩⟩
end Go.Proofs.Ytaefhdklkbohmaa
/- bosketref02.Of. -/
namespace Go.Proofs.Ytaefhdklkbohmaa
open Go Go.RowKit
set_option linter.unusedSimpArgs false
set_option maxRecDepth 20000
set_option maxHeartbeats 4000000
def S4.put (s : S4) (b : Nat) : S4 :=
  if b / 64 = 0 then ⟨s.w0 ||| 1#64 <<< (b % 64), s.w1, s.w2, s.w3⟩ else if b / 64 = 1 then ⟨s.w0, s.w1 ||| 1#64 <<< (b % 64), s.w2, s.w3⟩
  else if b / 64 = 2 then ⟨s.w0, s.w1, s.w2 ||| 1#64 <<< (b % 64), s.w3⟩ else ⟨s.w0, s.w1, s.w2, s.w3 ||| 1#64 <<< (b % 64)⟩
theorem bit_shift (k j : Nat) (hk : k < 64) (hj : j < 64) : (1#64 <<< k).getLsbD j = decide (j = k) := by
  rw [BitVec.getLsbD_shiftLeft, BitVec.getLsbD_one]
  by_cases h : j = k
  · subst h; simp [hj]
  · by_cases h2 : j < k
    · simp [h, h2]
    · have : ¬ j - k = 0 := by omega
      simp [h, this]
theorem put_has (s : S4) (b c : Nat) (hb : b < 256) (hc : c < 256) : (s.put b).has c = (s.has c || decide (c = b)) := by
  have e : (c = b) ↔ (c / 64 = b / 64 ∧ c % 64 = b % 64) := by omega
  have hq : c / 64 = 0 ∨ c / 64 = 1 ∨ c / 64 = 2 ∨ c / 64 = 3 := by omega
  have hp : b / 64 = 0 ∨ b / 64 = 1 ∨ b / 64 = 2 ∨ b / 64 = 3 := by omega
  have hb' := Nat.mod_lt b (show 0 < 64 by decide)
  have hc' := Nat.mod_lt c (show 0 < 64 by decide)
  simp only [e, S4.put, S4.has]
  rcases hq with h | h | h | h <;> rcases hp with h' | h' | h' | h' <;> simp [h, h', S4.word, bit_shift _ _ hb' hc']
theorem s4_ext (a b : S4) (h : ∀ c, c < 256 → a.has c = b.has c) : a = b := by
  obtain ⟨a0, a1, a2, a3⟩ := a
  obtain ⟨b0, b1, b2, b3⟩ := b
  have key : ∀ q, q < 4 → ∀ i, i < 64 → (S4.word ⟨a0, a1, a2, a3⟩ q).getLsbD i = (S4.word ⟨b0, b1, b2, b3⟩ q).getLsbD i := by
    intro q hq i hi
    have := h (q * 64 + i) (by omega)
    unfold S4.has at this
    rwa [show (q * 64 + i) / 64 = q by omega, show (q * 64 + i) % 64 = i by omega] at this
  have e0 : a0 = b0 := BitVec.eq_of_getLsbD_eq fun i hi => key 0 (by omega) i hi
  have e1 : a1 = b1 := BitVec.eq_of_getLsbD_eq fun i hi => key 1 (by omega) i hi
  have e2 : a2 = b2 := BitVec.eq_of_getLsbD_eq fun i hi => key 2 (by omega) i hi
  have e3 : a3 = b3 := BitVec.eq_of_getLsbD_eq fun i hi => key 3 (by omega) i hi
  rw [e0, e1, e2, e3]
/-- Word and bit, as the machine adds them. -/
theorem add_bit (w : BitVec 64) (k : Nat) (hk : k < 64) (h : w.getLsbD k = false) :
    IntKind.u64.wrap ((w.toNat : Int) + IntKind.u64.wrap (1 * 2 ^ min k 64)) = ((w ||| 1#64 <<< k).toNat : Int) := by
  have h1 : (1 * 2 ^ min k 64 : Int) = ((2 ^ k : Nat) : Int) := by rw [Nat.min_eq_left (by omega)]; simp
  have h2 : (2 ^ k : Nat) < 2 ^ 64 := Nat.pow_lt_pow_right (by decide) hk
  have h3 : (1#64 <<< k).toNat = 2 ^ k := by
    rw [BitVec.toNat_shiftLeft]
    simp [Nat.shiftLeft_eq, Nat.mod_eq_of_lt h2]
  have h4 : w &&& 1#64 <<< k = 0#64 := by
    refine BitVec.eq_of_getLsbD_eq fun i hi => ?_
    rw [BitVec.getLsbD_and, bit_shift k i hk hi]
    by_cases e : i = k
    · subst e; simp [h]
    · simp [e]
  have h5 : w ||| 1#64 <<< k = w + 1#64 <<< k := (BitVec.add_eq_or_of_and_eq_zero _ _ h4).symm
  rw [h1, wrap_u64 (2 ^ k) (by omega), h5, BitVec.toNat_add, h3]
  simp only [IntKind.wrap, IntKind.bits, IntKind.signed]
  simp only [Bool.false_and, Bool.false_eq_true, if_false]
  omega
def of85I (l : List Bool) (m : Nat) (σ : Env) : Prop := ∃ (i : Nat) (s : S4), i + m = 256 ∧ (∀ b, b < 256 → s.has b = (decide (b < i) && l.getD b false)) ∧
  σ = [(0, .t (.sl 1 (l.map T.bool))), (2, .own (.box [.sh, .sh, .sh, .sh]) (.agg [.int .u64 0, .int .u64 0, .int .u64 0, .int .u64 0])), (3, .own (.box [.sh, .sh, .sh, .sh]) (.agg s.ts)), (4, .t (.int .i64 (i : Int)))]
theorem zero_has (c : Nat) : z4.has c = false := by
  unfold S4.has S4.word z4
  generalize c / 64 = q
  match q with
  | 0 => simp
  | 1 => simp
  | 2 => simp
  | _ + 3 => simp
theorem of85_spec (l : List Bool) (r : S4) (hl : l.length = 256) (hr : ∀ b, b < 256 → r.has b = l.getD b false) : ACalls Try.prog 85 [.sl 1 (l.map T.bool)] .sh (.agg r.ts) := by
  refine ACalls.of n85 rfl (m85 _ rfl) q85 (by simp only [List.length_cons, List.length_nil]; decide) (fun C hC => ?_)
  have hN : C.N = 32 := hC
  repeat' first
    | refine AV.seq ?_
    | refine AV.block ?_
    | ((first | refine AV.reg ?_ | refine AV.regD mixed ?_); simp only [hN, c85R0, c85R1, c85R2, c85R3, c85R5, c85R6, c85R4, c85R7, List.length_map, hl, go_sem, Nat.reduceSub, reduceIte, Nat.reduceEqDiff, Nat.reduceLT, Nat.reduceMul, Nat.reduceAdd, Nat.reduceBEq, Nat.reduceLeDiff, Int.reduceLT, Int.reduceLE, Int.reduceNeg, Int.reduceBEq, Int.reduceBNe, Int.reduceToNat]; repeat (simp (disch := omega) only [wrap_small, getD_map_lt]; try simp only [go_sem, Nat.reduceSub, reduceIte, Nat.reduceEqDiff, Nat.reduceLT, Nat.reduceMul, Nat.reduceAdd, Nat.reduceBEq, Nat.reduceLeDiff, Int.reduceLT, Int.reduceLE, Int.reduceNeg, Int.reduceBEq, Int.reduceBNe, Int.reduceToNat, List.length_map, hl]))
    | (refine AV.cond ?_ ?_ (fun hc => ?_) (fun hc => ?_) <;> (try simp only [go_sem, Nat.reduceSub, reduceIte, Nat.reduceEqDiff, Nat.reduceLT, Nat.reduceMul, Nat.reduceAdd, Nat.reduceBEq, Nat.reduceLeDiff, Int.reduceLT, Int.reduceLE, Int.reduceNeg, Int.reduceBEq, Int.reduceBNe, Int.reduceToNat, beq_iff_eq, beq_eq_false_iff_ne] at hc) <;> (try simp only [go_sem, Nat.reduceSub, reduceIte, Nat.reduceEqDiff, Nat.reduceLT, Nat.reduceMul, Nat.reduceAdd, Nat.reduceBEq, Nat.reduceLeDiff, Int.reduceLT, Int.reduceLE, Int.reduceNeg, Int.reduceBEq, Int.reduceBNe, Int.reduceToNat]))
    | ((first | refine AV.skip ?_ | refine AV.exit ?_); simp only [go_sem, Nat.reduceSub, reduceIte, Nat.reduceEqDiff, Nat.reduceLT, Nat.reduceMul, Nat.reduceAdd, Nat.reduceBEq, Nat.reduceLeDiff, Int.reduceLT, Int.reduceLE, Int.reduceNeg, Int.reduceBEq, Int.reduceBNe, Int.reduceToNat])
    | (refine AV.ret ?_; (try simp only [go_sem, Nat.reduceSub, reduceIte, Nat.reduceEqDiff, Nat.reduceLT, Nat.reduceMul, Nat.reduceAdd, Nat.reduceBEq, Nat.reduceLeDiff, Int.reduceLT, Int.reduceLE, Int.reduceNeg, Int.reduceBEq, Int.reduceBNe, Int.reduceToNat]); first | refine atEnd_t (by simp only [go_sem, Nat.reduceSub, reduceIte, Nat.reduceEqDiff, Nat.reduceLT, Nat.reduceMul, Nat.reduceAdd, Nat.reduceBEq, Nat.reduceLeDiff, Int.reduceLT, Int.reduceLE, Int.reduceNeg, Int.reduceBEq, Int.reduceBNe, Int.reduceToNat] <;> rfl) ?_ (by first | (simp [rxT]; done) | exact leftT_tup _) | refine atEnd_c (by simp only [go_sem, Nat.reduceSub, reduceIte, Nat.reduceEqDiff, Nat.reduceLT, Nat.reduceMul, Nat.reduceAdd, Nat.reduceBEq, Nat.reduceLeDiff, Int.reduceLT, Int.reduceLE, Int.reduceNeg, Int.reduceBEq, Int.reduceBNe, Int.reduceToNat] <;> rfl) ?_ (by first | (simp [rxT]; done) | exact leftT_tup _) | refine atEnd_ct (by simp only [go_sem, Nat.reduceSub, reduceIte, Nat.reduceEqDiff, Nat.reduceLT, Nat.reduceMul, Nat.reduceAdd, Nat.reduceBEq, Nat.reduceLeDiff, Int.reduceLT, Int.reduceLE, Int.reduceNeg, Int.reduceBEq, Int.reduceBNe, Int.reduceToNat] <;> rfl) ?_ (by first | (simp; done) | exact leftT_tup _) (by simp only [go_sem, Nat.reduceSub, reduceIte, Nat.reduceEqDiff, Nat.reduceLT, Nat.reduceMul, Nat.reduceAdd, Nat.reduceBEq, Nat.reduceLeDiff, Int.reduceLT, Int.reduceLE, Int.reduceNeg, Int.reduceBEq, Int.reduceBNe, Int.reduceToNat] <;> rfl) ?_ (by simp) | refine atEnd_o (by simp only [go_sem, Nat.reduceSub, reduceIte, Nat.reduceEqDiff, Nat.reduceLT, Nat.reduceMul, Nat.reduceAdd, Nat.reduceBEq, Nat.reduceLeDiff, Int.reduceLT, Int.reduceLE, Int.reduceNeg, Int.reduceBEq, Int.reduceBNe, Int.reduceToNat] <;> rfl) ?_)
    | (refine And.intro ?_ ?_)
    | (with_reducible intro _)
  all_goals try first | exact True.intro | omega | exact ⟨_, _, rfl⟩ | exact allSolid_pcs _ | exact allSolid_one _ | exact allSolid_bool _ | rfl
  refine AV.loopK [0, 2, 3, 4] (by simp only [hN]; decide) (n := 256) (of85I l) ?_ ⟨0, z4, by omega, by intro b _; rw [zero_has]; simp, by simp only [go_sem, Nat.reduceSub, reduceIte, Nat.reduceEqDiff, Nat.reduceLT, Nat.reduceMul, Nat.reduceAdd, Nat.reduceBEq, Nat.reduceLeDiff, Int.reduceLT, Int.reduceLE, Int.reduceNeg, Int.reduceBEq, Int.reduceBNe, Int.reduceToNat] <;> rfl⟩
  rintro m σ ⟨i, s, hi, hs, rfl⟩
  by_cases hi2 : i < 256
  · have hlt : i < l.length := by omega
    have ht : ((i : Int) < 256) = True := eq_true (by omega)
    have ht2 : ((i : Int) < ((256 : Nat) : Int)) = True := eq_true (by omega)
    have hmod : ((i : Int)).tmod 64 = ((i % 64 : Nat) : Int) := by rw [Int.tmod_eq_emod_of_nonneg (by omega)]; omega
    have hwm : IntKind.u64.wrap ((i % 64 : Nat) : Int) = ((i % 64 : Nat) : Int) := wrap_u64 _ (by omega)
    have hr64 : i % 64 < 64 := Nat.mod_lt _ (by decide)
    have hbit := hs i hi2
    simp only [Nat.lt_irrefl, decide_false, Bool.false_and] at hbit
    have hget : l.getD i false = l[i] := by simp [hlt]
    have hdiv : ∀ q : Nat, i / 64 = q → IntKind.i64.wrap ((i : Int).tdiv 64) = (q : Int) := by
      intro q hq
      rw [Int.tdiv_eq_ediv_of_nonneg (by omega), wrap_small] <;> omega
    have hsplit : i / 64 = 0 ∨ i / 64 = 1 ∨ i / 64 = 2 ∨ i / 64 = 3 := by omega
    have fin : ∀ s' : S4, s' = (if l[i] = true then s.put i else s) → ∀ b, b < 256 → s'.has b = (decide (b < i + 1) && l.getD b false) := by
      rintro s' rfl b hb
      by_cases hli : l[i] = true
      · rw [if_pos hli, put_has s i b hi2 hb, hs b hb]
        by_cases e : b = i
        · subst e; rw [hget, hli]; simp
        · have : (b < i) ↔ (b < i + 1) := by omega
          simp [e, this]
      · rw [if_neg hli, hs b hb]
        by_cases e : b = i
        · subst e; rw [hget]; simp at hli; simp [hli]
        · have : (b < i) ↔ (b < i + 1) := by omega
          simp [this]
    rcases hsplit with h | h | h | h
    · have hd := hdiv 0 h
      have hb0 : s.w0.getLsbD (i % 64) = false := by unfold S4.has at hbit; rw [h] at hbit; exact hbit
      have e : s.put i = ⟨s.w0 ||| 1#64 <<< (i % 64), s.w1, s.w2, s.w3⟩ := by simp [S4.put, h]
      repeat' first
        | refine AV.seq ?_
        | refine AV.block ?_
        | ((first | refine AV.reg ?_ | refine AV.regD mixed ?_); simp only [hN, c85R0, c85R1, c85R2, c85R3, c85R5, c85R6, c85R4, c85R7, List.length_map, hl, ht, ht2, S4.ts, hd, hmod, hwm, add_bit _ _ hr64 hb0, go_sem, Nat.reduceSub, reduceIte, Nat.reduceEqDiff, Nat.reduceLT, Nat.reduceMul, Nat.reduceAdd, Nat.reduceBEq, Nat.reduceLeDiff, Int.reduceLT, Int.reduceLE, Int.reduceNeg, Int.reduceBEq, Int.reduceBNe, Int.reduceToNat]; repeat (simp (disch := omega) only [wrap_small, getD_map_lt]; try simp only [go_sem, Nat.reduceSub, reduceIte, Nat.reduceEqDiff, Nat.reduceLT, Nat.reduceMul, Nat.reduceAdd, Nat.reduceBEq, Nat.reduceLeDiff, Int.reduceLT, Int.reduceLE, Int.reduceNeg, Int.reduceBEq, Int.reduceBNe, Int.reduceToNat, List.length_map, hl, ht, ht2, S4.ts, hd, hmod, hwm, add_bit _ _ hr64 hb0]))
        | (refine AV.cond ?_ ?_ (fun hc => ?_) (fun hc => ?_) <;> (try simp only [go_sem, Nat.reduceSub, reduceIte, Nat.reduceEqDiff, Nat.reduceLT, Nat.reduceMul, Nat.reduceAdd, Nat.reduceBEq, Nat.reduceLeDiff, Int.reduceLT, Int.reduceLE, Int.reduceNeg, Int.reduceBEq, Int.reduceBNe, Int.reduceToNat, beq_iff_eq, beq_eq_false_iff_ne] at hc) <;> (try simp only [go_sem, Nat.reduceSub, reduceIte, Nat.reduceEqDiff, Nat.reduceLT, Nat.reduceMul, Nat.reduceAdd, Nat.reduceBEq, Nat.reduceLeDiff, Int.reduceLT, Int.reduceLE, Int.reduceNeg, Int.reduceBEq, Int.reduceBNe, Int.reduceToNat]))
        | ((first | refine AV.skip ?_ | refine AV.exit ?_); simp only [go_sem, Nat.reduceSub, reduceIte, Nat.reduceEqDiff, Nat.reduceLT, Nat.reduceMul, Nat.reduceAdd, Nat.reduceBEq, Nat.reduceLeDiff, Int.reduceLT, Int.reduceLE, Int.reduceNeg, Int.reduceBEq, Int.reduceBNe, Int.reduceToNat])
        | (refine AV.ret ?_; (try simp only [go_sem, Nat.reduceSub, reduceIte, Nat.reduceEqDiff, Nat.reduceLT, Nat.reduceMul, Nat.reduceAdd, Nat.reduceBEq, Nat.reduceLeDiff, Int.reduceLT, Int.reduceLE, Int.reduceNeg, Int.reduceBEq, Int.reduceBNe, Int.reduceToNat]); first | refine atEnd_t (by simp only [go_sem, Nat.reduceSub, reduceIte, Nat.reduceEqDiff, Nat.reduceLT, Nat.reduceMul, Nat.reduceAdd, Nat.reduceBEq, Nat.reduceLeDiff, Int.reduceLT, Int.reduceLE, Int.reduceNeg, Int.reduceBEq, Int.reduceBNe, Int.reduceToNat] <;> rfl) ?_ (by first | (simp [rxT]; done) | exact leftT_tup _) | refine atEnd_c (by simp only [go_sem, Nat.reduceSub, reduceIte, Nat.reduceEqDiff, Nat.reduceLT, Nat.reduceMul, Nat.reduceAdd, Nat.reduceBEq, Nat.reduceLeDiff, Int.reduceLT, Int.reduceLE, Int.reduceNeg, Int.reduceBEq, Int.reduceBNe, Int.reduceToNat] <;> rfl) ?_ (by first | (simp [rxT]; done) | exact leftT_tup _) | refine atEnd_ct (by simp only [go_sem, Nat.reduceSub, reduceIte, Nat.reduceEqDiff, Nat.reduceLT, Nat.reduceMul, Nat.reduceAdd, Nat.reduceBEq, Nat.reduceLeDiff, Int.reduceLT, Int.reduceLE, Int.reduceNeg, Int.reduceBEq, Int.reduceBNe, Int.reduceToNat] <;> rfl) ?_ (by first | (simp; done) | exact leftT_tup _) (by simp only [go_sem, Nat.reduceSub, reduceIte, Nat.reduceEqDiff, Nat.reduceLT, Nat.reduceMul, Nat.reduceAdd, Nat.reduceBEq, Nat.reduceLeDiff, Int.reduceLT, Int.reduceLE, Int.reduceNeg, Int.reduceBEq, Int.reduceBNe, Int.reduceToNat] <;> rfl) ?_ (by simp) | refine atEnd_o (by simp only [go_sem, Nat.reduceSub, reduceIte, Nat.reduceEqDiff, Nat.reduceLT, Nat.reduceMul, Nat.reduceAdd, Nat.reduceBEq, Nat.reduceLeDiff, Int.reduceLT, Int.reduceLE, Int.reduceNeg, Int.reduceBEq, Int.reduceBNe, Int.reduceToNat] <;> rfl) ?_)
        | (refine And.intro ?_ ?_)
        | (with_reducible intro _)
      all_goals try first | exact True.intro | omega | exact ⟨_, _, rfl⟩ | exact allSolid_pcs _ | exact allSolid_one _ | exact allSolid_bool _ | rfl
      · exact ⟨m - 1, by omega, i + 1, s.put i, by omega, fin _ (by rw [if_pos hc]), by rw [e]; rfl⟩
      · exact ⟨m - 1, by omega, i + 1, s, by omega, fin _ (by rw [if_neg (by rw [hc]; simp)]), rfl⟩
    · have hd := hdiv 1 h
      have hb0 : s.w1.getLsbD (i % 64) = false := by unfold S4.has at hbit; rw [h] at hbit; exact hbit
      have e : s.put i = ⟨s.w0, s.w1 ||| 1#64 <<< (i % 64), s.w2, s.w3⟩ := by simp [S4.put, h]
      repeat' first
        | refine AV.seq ?_
        | refine AV.block ?_
        | ((first | refine AV.reg ?_ | refine AV.regD mixed ?_); simp only [hN, c85R0, c85R1, c85R2, c85R3, c85R5, c85R6, c85R4, c85R7, List.length_map, hl, ht, ht2, S4.ts, hd, hmod, hwm, add_bit _ _ hr64 hb0, go_sem, Nat.reduceSub, reduceIte, Nat.reduceEqDiff, Nat.reduceLT, Nat.reduceMul, Nat.reduceAdd, Nat.reduceBEq, Nat.reduceLeDiff, Int.reduceLT, Int.reduceLE, Int.reduceNeg, Int.reduceBEq, Int.reduceBNe, Int.reduceToNat]; repeat (simp (disch := omega) only [wrap_small, getD_map_lt]; try simp only [go_sem, Nat.reduceSub, reduceIte, Nat.reduceEqDiff, Nat.reduceLT, Nat.reduceMul, Nat.reduceAdd, Nat.reduceBEq, Nat.reduceLeDiff, Int.reduceLT, Int.reduceLE, Int.reduceNeg, Int.reduceBEq, Int.reduceBNe, Int.reduceToNat, List.length_map, hl, ht, ht2, S4.ts, hd, hmod, hwm, add_bit _ _ hr64 hb0]))
        | (refine AV.cond ?_ ?_ (fun hc => ?_) (fun hc => ?_) <;> (try simp only [go_sem, Nat.reduceSub, reduceIte, Nat.reduceEqDiff, Nat.reduceLT, Nat.reduceMul, Nat.reduceAdd, Nat.reduceBEq, Nat.reduceLeDiff, Int.reduceLT, Int.reduceLE, Int.reduceNeg, Int.reduceBEq, Int.reduceBNe, Int.reduceToNat, beq_iff_eq, beq_eq_false_iff_ne] at hc) <;> (try simp only [go_sem, Nat.reduceSub, reduceIte, Nat.reduceEqDiff, Nat.reduceLT, Nat.reduceMul, Nat.reduceAdd, Nat.reduceBEq, Nat.reduceLeDiff, Int.reduceLT, Int.reduceLE, Int.reduceNeg, Int.reduceBEq, Int.reduceBNe, Int.reduceToNat]))
        | ((first | refine AV.skip ?_ | refine AV.exit ?_); simp only [go_sem, Nat.reduceSub, reduceIte, Nat.reduceEqDiff, Nat.reduceLT, Nat.reduceMul, Nat.reduceAdd, Nat.reduceBEq, Nat.reduceLeDiff, Int.reduceLT, Int.reduceLE, Int.reduceNeg, Int.reduceBEq, Int.reduceBNe, Int.reduceToNat])
        | (refine AV.ret ?_; (try simp only [go_sem, Nat.reduceSub, reduceIte, Nat.reduceEqDiff, Nat.reduceLT, Nat.reduceMul, Nat.reduceAdd, Nat.reduceBEq, Nat.reduceLeDiff, Int.reduceLT, Int.reduceLE, Int.reduceNeg, Int.reduceBEq, Int.reduceBNe, Int.reduceToNat]); first | refine atEnd_t (by simp only [go_sem, Nat.reduceSub, reduceIte, Nat.reduceEqDiff, Nat.reduceLT, Nat.reduceMul, Nat.reduceAdd, Nat.reduceBEq, Nat.reduceLeDiff, Int.reduceLT, Int.reduceLE, Int.reduceNeg, Int.reduceBEq, Int.reduceBNe, Int.reduceToNat] <;> rfl) ?_ (by first | (simp [rxT]; done) | exact leftT_tup _) | refine atEnd_c (by simp only [go_sem, Nat.reduceSub, reduceIte, Nat.reduceEqDiff, Nat.reduceLT, Nat.reduceMul, Nat.reduceAdd, Nat.reduceBEq, Nat.reduceLeDiff, Int.reduceLT, Int.reduceLE, Int.reduceNeg, Int.reduceBEq, Int.reduceBNe, Int.reduceToNat] <;> rfl) ?_ (by first | (simp [rxT]; done) | exact leftT_tup _) | refine atEnd_ct (by simp only [go_sem, Nat.reduceSub, reduceIte, Nat.reduceEqDiff, Nat.reduceLT, Nat.reduceMul, Nat.reduceAdd, Nat.reduceBEq, Nat.reduceLeDiff, Int.reduceLT, Int.reduceLE, Int.reduceNeg, Int.reduceBEq, Int.reduceBNe, Int.reduceToNat] <;> rfl) ?_ (by first | (simp; done) | exact leftT_tup _) (by simp only [go_sem, Nat.reduceSub, reduceIte, Nat.reduceEqDiff, Nat.reduceLT, Nat.reduceMul, Nat.reduceAdd, Nat.reduceBEq, Nat.reduceLeDiff, Int.reduceLT, Int.reduceLE, Int.reduceNeg, Int.reduceBEq, Int.reduceBNe, Int.reduceToNat] <;> rfl) ?_ (by simp) | refine atEnd_o (by simp only [go_sem, Nat.reduceSub, reduceIte, Nat.reduceEqDiff, Nat.reduceLT, Nat.reduceMul, Nat.reduceAdd, Nat.reduceBEq, Nat.reduceLeDiff, Int.reduceLT, Int.reduceLE, Int.reduceNeg, Int.reduceBEq, Int.reduceBNe, Int.reduceToNat] <;> rfl) ?_)
        | (refine And.intro ?_ ?_)
        | (with_reducible intro _)
      all_goals try first | exact True.intro | omega | exact ⟨_, _, rfl⟩ | exact allSolid_pcs _ | exact allSolid_one _ | exact allSolid_bool _ | rfl
      · exact ⟨m - 1, by omega, i + 1, s.put i, by omega, fin _ (by rw [if_pos hc]), by rw [e]; rfl⟩
      · exact ⟨m - 1, by omega, i + 1, s, by omega, fin _ (by rw [if_neg (by rw [hc]; simp)]), rfl⟩
    · have hd := hdiv 2 h
      have hb0 : s.w2.getLsbD (i % 64) = false := by unfold S4.has at hbit; rw [h] at hbit; exact hbit
      have e : s.put i = ⟨s.w0, s.w1, s.w2 ||| 1#64 <<< (i % 64), s.w3⟩ := by simp [S4.put, h]
      repeat' first
        | refine AV.seq ?_
        | refine AV.block ?_
        | ((first | refine AV.reg ?_ | refine AV.regD mixed ?_); simp only [hN, c85R0, c85R1, c85R2, c85R3, c85R5, c85R6, c85R4, c85R7, List.length_map, hl, ht, ht2, S4.ts, hd, hmod, hwm, add_bit _ _ hr64 hb0, go_sem, Nat.reduceSub, reduceIte, Nat.reduceEqDiff, Nat.reduceLT, Nat.reduceMul, Nat.reduceAdd, Nat.reduceBEq, Nat.reduceLeDiff, Int.reduceLT, Int.reduceLE, Int.reduceNeg, Int.reduceBEq, Int.reduceBNe, Int.reduceToNat]; repeat (simp (disch := omega) only [wrap_small, getD_map_lt]; try simp only [go_sem, Nat.reduceSub, reduceIte, Nat.reduceEqDiff, Nat.reduceLT, Nat.reduceMul, Nat.reduceAdd, Nat.reduceBEq, Nat.reduceLeDiff, Int.reduceLT, Int.reduceLE, Int.reduceNeg, Int.reduceBEq, Int.reduceBNe, Int.reduceToNat, List.length_map, hl, ht, ht2, S4.ts, hd, hmod, hwm, add_bit _ _ hr64 hb0]))
        | (refine AV.cond ?_ ?_ (fun hc => ?_) (fun hc => ?_) <;> (try simp only [go_sem, Nat.reduceSub, reduceIte, Nat.reduceEqDiff, Nat.reduceLT, Nat.reduceMul, Nat.reduceAdd, Nat.reduceBEq, Nat.reduceLeDiff, Int.reduceLT, Int.reduceLE, Int.reduceNeg, Int.reduceBEq, Int.reduceBNe, Int.reduceToNat, beq_iff_eq, beq_eq_false_iff_ne] at hc) <;> (try simp only [go_sem, Nat.reduceSub, reduceIte, Nat.reduceEqDiff, Nat.reduceLT, Nat.reduceMul, Nat.reduceAdd, Nat.reduceBEq, Nat.reduceLeDiff, Int.reduceLT, Int.reduceLE, Int.reduceNeg, Int.reduceBEq, Int.reduceBNe, Int.reduceToNat]))
        | ((first | refine AV.skip ?_ | refine AV.exit ?_); simp only [go_sem, Nat.reduceSub, reduceIte, Nat.reduceEqDiff, Nat.reduceLT, Nat.reduceMul, Nat.reduceAdd, Nat.reduceBEq, Nat.reduceLeDiff, Int.reduceLT, Int.reduceLE, Int.reduceNeg, Int.reduceBEq, Int.reduceBNe, Int.reduceToNat])
        | (refine AV.ret ?_; (try simp only [go_sem, Nat.reduceSub, reduceIte, Nat.reduceEqDiff, Nat.reduceLT, Nat.reduceMul, Nat.reduceAdd, Nat.reduceBEq, Nat.reduceLeDiff, Int.reduceLT, Int.reduceLE, Int.reduceNeg, Int.reduceBEq, Int.reduceBNe, Int.reduceToNat]); first | refine atEnd_t (by simp only [go_sem, Nat.reduceSub, reduceIte, Nat.reduceEqDiff, Nat.reduceLT, Nat.reduceMul, Nat.reduceAdd, Nat.reduceBEq, Nat.reduceLeDiff, Int.reduceLT, Int.reduceLE, Int.reduceNeg, Int.reduceBEq, Int.reduceBNe, Int.reduceToNat] <;> rfl) ?_ (by first | (simp [rxT]; done) | exact leftT_tup _) | refine atEnd_c (by simp only [go_sem, Nat.reduceSub, reduceIte, Nat.reduceEqDiff, Nat.reduceLT, Nat.reduceMul, Nat.reduceAdd, Nat.reduceBEq, Nat.reduceLeDiff, Int.reduceLT, Int.reduceLE, Int.reduceNeg, Int.reduceBEq, Int.reduceBNe, Int.reduceToNat] <;> rfl) ?_ (by first | (simp [rxT]; done) | exact leftT_tup _) | refine atEnd_ct (by simp only [go_sem, Nat.reduceSub, reduceIte, Nat.reduceEqDiff, Nat.reduceLT, Nat.reduceMul, Nat.reduceAdd, Nat.reduceBEq, Nat.reduceLeDiff, Int.reduceLT, Int.reduceLE, Int.reduceNeg, Int.reduceBEq, Int.reduceBNe, Int.reduceToNat] <;> rfl) ?_ (by first | (simp; done) | exact leftT_tup _) (by simp only [go_sem, Nat.reduceSub, reduceIte, Nat.reduceEqDiff, Nat.reduceLT, Nat.reduceMul, Nat.reduceAdd, Nat.reduceBEq, Nat.reduceLeDiff, Int.reduceLT, Int.reduceLE, Int.reduceNeg, Int.reduceBEq, Int.reduceBNe, Int.reduceToNat] <;> rfl) ?_ (by simp) | refine atEnd_o (by simp only [go_sem, Nat.reduceSub, reduceIte, Nat.reduceEqDiff, Nat.reduceLT, Nat.reduceMul, Nat.reduceAdd, Nat.reduceBEq, Nat.reduceLeDiff, Int.reduceLT, Int.reduceLE, Int.reduceNeg, Int.reduceBEq, Int.reduceBNe, Int.reduceToNat] <;> rfl) ?_)
        | (refine And.intro ?_ ?_)
        | (with_reducible intro _)
      all_goals try first | exact True.intro | omega | exact ⟨_, _, rfl⟩ | exact allSolid_pcs _ | exact allSolid_one _ | exact allSolid_bool _ | rfl
      · exact ⟨m - 1, by omega, i + 1, s.put i, by omega, fin _ (by rw [if_pos hc]), by rw [e]; rfl⟩
      · exact ⟨m - 1, by omega, i + 1, s, by omega, fin _ (by rw [if_neg (by rw [hc]; simp)]), rfl⟩
    · have hd := hdiv 3 h
      have hb0 : s.w3.getLsbD (i % 64) = false := by unfold S4.has at hbit; rw [h] at hbit; exact hbit
      have e : s.put i = ⟨s.w0, s.w1, s.w2, s.w3 ||| 1#64 <<< (i % 64)⟩ := by simp [S4.put, h]
      repeat' first
        | refine AV.seq ?_
        | refine AV.block ?_
        | ((first | refine AV.reg ?_ | refine AV.regD mixed ?_); simp only [hN, c85R0, c85R1, c85R2, c85R3, c85R5, c85R6, c85R4, c85R7, List.length_map, hl, ht, ht2, S4.ts, hd, hmod, hwm, add_bit _ _ hr64 hb0, go_sem, Nat.reduceSub, reduceIte, Nat.reduceEqDiff, Nat.reduceLT, Nat.reduceMul, Nat.reduceAdd, Nat.reduceBEq, Nat.reduceLeDiff, Int.reduceLT, Int.reduceLE, Int.reduceNeg, Int.reduceBEq, Int.reduceBNe, Int.reduceToNat]; repeat (simp (disch := omega) only [wrap_small, getD_map_lt]; try simp only [go_sem, Nat.reduceSub, reduceIte, Nat.reduceEqDiff, Nat.reduceLT, Nat.reduceMul, Nat.reduceAdd, Nat.reduceBEq, Nat.reduceLeDiff, Int.reduceLT, Int.reduceLE, Int.reduceNeg, Int.reduceBEq, Int.reduceBNe, Int.reduceToNat, List.length_map, hl, ht, ht2, S4.ts, hd, hmod, hwm, add_bit _ _ hr64 hb0]))
        | (refine AV.cond ?_ ?_ (fun hc => ?_) (fun hc => ?_) <;> (try simp only [go_sem, Nat.reduceSub, reduceIte, Nat.reduceEqDiff, Nat.reduceLT, Nat.reduceMul, Nat.reduceAdd, Nat.reduceBEq, Nat.reduceLeDiff, Int.reduceLT, Int.reduceLE, Int.reduceNeg, Int.reduceBEq, Int.reduceBNe, Int.reduceToNat, beq_iff_eq, beq_eq_false_iff_ne] at hc) <;> (try simp only [go_sem, Nat.reduceSub, reduceIte, Nat.reduceEqDiff, Nat.reduceLT, Nat.reduceMul, Nat.reduceAdd, Nat.reduceBEq, Nat.reduceLeDiff, Int.reduceLT, Int.reduceLE, Int.reduceNeg, Int.reduceBEq, Int.reduceBNe, Int.reduceToNat]))
        | ((first | refine AV.skip ?_ | refine AV.exit ?_); simp only [go_sem, Nat.reduceSub, reduceIte, Nat.reduceEqDiff, Nat.reduceLT, Nat.reduceMul, Nat.reduceAdd, Nat.reduceBEq, Nat.reduceLeDiff, Int.reduceLT, Int.reduceLE, Int.reduceNeg, Int.reduceBEq, Int.reduceBNe, Int.reduceToNat])
        | (refine AV.ret ?_; (try simp only [go_sem, Nat.reduceSub, reduceIte, Nat.reduceEqDiff, Nat.reduceLT, Nat.reduceMul, Nat.reduceAdd, Nat.reduceBEq, Nat.reduceLeDiff, Int.reduceLT, Int.reduceLE, Int.reduceNeg, Int.reduceBEq, Int.reduceBNe, Int.reduceToNat]); first | refine atEnd_t (by simp only [go_sem, Nat.reduceSub, reduceIte, Nat.reduceEqDiff, Nat.reduceLT, Nat.reduceMul, Nat.reduceAdd, Nat.reduceBEq, Nat.reduceLeDiff, Int.reduceLT, Int.reduceLE, Int.reduceNeg, Int.reduceBEq, Int.reduceBNe, Int.reduceToNat] <;> rfl) ?_ (by first | (simp [rxT]; done) | exact leftT_tup _) | refine atEnd_c (by simp only [go_sem, Nat.reduceSub, reduceIte, Nat.reduceEqDiff, Nat.reduceLT, Nat.reduceMul, Nat.reduceAdd, Nat.reduceBEq, Nat.reduceLeDiff, Int.reduceLT, Int.reduceLE, Int.reduceNeg, Int.reduceBEq, Int.reduceBNe, Int.reduceToNat] <;> rfl) ?_ (by first | (simp [rxT]; done) | exact leftT_tup _) | refine atEnd_ct (by simp only [go_sem, Nat.reduceSub, reduceIte, Nat.reduceEqDiff, Nat.reduceLT, Nat.reduceMul, Nat.reduceAdd, Nat.reduceBEq, Nat.reduceLeDiff, Int.reduceLT, Int.reduceLE, Int.reduceNeg, Int.reduceBEq, Int.reduceBNe, Int.reduceToNat] <;> rfl) ?_ (by first | (simp; done) | exact leftT_tup _) (by simp only [go_sem, Nat.reduceSub, reduceIte, Nat.reduceEqDiff, Nat.reduceLT, Nat.reduceMul, Nat.reduceAdd, Nat.reduceBEq, Nat.reduceLeDiff, Int.reduceLT, Int.reduceLE, Int.reduceNeg, Int.reduceBEq, Int.reduceBNe, Int.reduceToNat] <;> rfl) ?_ (by simp) | refine atEnd_o (by simp only [go_sem, Nat.reduceSub, reduceIte, Nat.reduceEqDiff, Nat.reduceLT, Nat.reduceMul, Nat.reduceAdd, Nat.reduceBEq, Nat.reduceLeDiff, Int.reduceLT, Int.reduceLE, Int.reduceNeg, Int.reduceBEq, Int.reduceBNe, Int.reduceToNat] <;> rfl) ?_)
        | (refine And.intro ?_ ?_)
        | (with_reducible intro _)
      all_goals try first | exact True.intro | omega | exact ⟨_, _, rfl⟩ | exact allSolid_pcs _ | exact allSolid_one _ | exact allSolid_bool _ | rfl
      · exact ⟨m - 1, by omega, i + 1, s.put i, by omega, fin _ (by rw [if_pos hc]), by rw [e]; rfl⟩
      · exact ⟨m - 1, by omega, i + 1, s, by omega, fin _ (by rw [if_neg (by rw [hc]; simp)]), rfl⟩
  · have ht : ((i : Int) < 256) = False := eq_false (by omega)
    repeat' first
      | refine AV.seq ?_
      | refine AV.block ?_
      | ((first | refine AV.reg ?_ | refine AV.regD mixed ?_); simp only [hN, c85R0, c85R1, c85R2, c85R3, c85R5, c85R6, c85R4, c85R7, List.length_map, hl, ht, S4.ts, go_sem, Nat.reduceSub, reduceIte, Nat.reduceEqDiff, Nat.reduceLT, Nat.reduceMul, Nat.reduceAdd, Nat.reduceBEq, Nat.reduceLeDiff, Int.reduceLT, Int.reduceLE, Int.reduceNeg, Int.reduceBEq, Int.reduceBNe, Int.reduceToNat]; repeat (simp (disch := omega) only [wrap_small, getD_map_lt]; try simp only [go_sem, Nat.reduceSub, reduceIte, Nat.reduceEqDiff, Nat.reduceLT, Nat.reduceMul, Nat.reduceAdd, Nat.reduceBEq, Nat.reduceLeDiff, Int.reduceLT, Int.reduceLE, Int.reduceNeg, Int.reduceBEq, Int.reduceBNe, Int.reduceToNat, List.length_map, hl, ht, S4.ts]))
      | (refine AV.cond ?_ ?_ (fun hc => ?_) (fun hc => ?_) <;> (try simp only [go_sem, Nat.reduceSub, reduceIte, Nat.reduceEqDiff, Nat.reduceLT, Nat.reduceMul, Nat.reduceAdd, Nat.reduceBEq, Nat.reduceLeDiff, Int.reduceLT, Int.reduceLE, Int.reduceNeg, Int.reduceBEq, Int.reduceBNe, Int.reduceToNat, beq_iff_eq, beq_eq_false_iff_ne] at hc) <;> (try simp only [go_sem, Nat.reduceSub, reduceIte, Nat.reduceEqDiff, Nat.reduceLT, Nat.reduceMul, Nat.reduceAdd, Nat.reduceBEq, Nat.reduceLeDiff, Int.reduceLT, Int.reduceLE, Int.reduceNeg, Int.reduceBEq, Int.reduceBNe, Int.reduceToNat]))
      | ((first | refine AV.skip ?_ | refine AV.exit ?_); simp only [go_sem, Nat.reduceSub, reduceIte, Nat.reduceEqDiff, Nat.reduceLT, Nat.reduceMul, Nat.reduceAdd, Nat.reduceBEq, Nat.reduceLeDiff, Int.reduceLT, Int.reduceLE, Int.reduceNeg, Int.reduceBEq, Int.reduceBNe, Int.reduceToNat])
      | (refine AV.ret ?_; (try simp only [go_sem, Nat.reduceSub, reduceIte, Nat.reduceEqDiff, Nat.reduceLT, Nat.reduceMul, Nat.reduceAdd, Nat.reduceBEq, Nat.reduceLeDiff, Int.reduceLT, Int.reduceLE, Int.reduceNeg, Int.reduceBEq, Int.reduceBNe, Int.reduceToNat]); first | refine atEnd_t (by simp only [go_sem, Nat.reduceSub, reduceIte, Nat.reduceEqDiff, Nat.reduceLT, Nat.reduceMul, Nat.reduceAdd, Nat.reduceBEq, Nat.reduceLeDiff, Int.reduceLT, Int.reduceLE, Int.reduceNeg, Int.reduceBEq, Int.reduceBNe, Int.reduceToNat] <;> rfl) ?_ (by first | (simp [rxT]; done) | exact leftT_tup _) | refine atEnd_c (by simp only [go_sem, Nat.reduceSub, reduceIte, Nat.reduceEqDiff, Nat.reduceLT, Nat.reduceMul, Nat.reduceAdd, Nat.reduceBEq, Nat.reduceLeDiff, Int.reduceLT, Int.reduceLE, Int.reduceNeg, Int.reduceBEq, Int.reduceBNe, Int.reduceToNat] <;> rfl) ?_ (by first | (simp [rxT]; done) | exact leftT_tup _) | refine atEnd_ct (by simp only [go_sem, Nat.reduceSub, reduceIte, Nat.reduceEqDiff, Nat.reduceLT, Nat.reduceMul, Nat.reduceAdd, Nat.reduceBEq, Nat.reduceLeDiff, Int.reduceLT, Int.reduceLE, Int.reduceNeg, Int.reduceBEq, Int.reduceBNe, Int.reduceToNat] <;> rfl) ?_ (by first | (simp; done) | exact leftT_tup _) (by simp only [go_sem, Nat.reduceSub, reduceIte, Nat.reduceEqDiff, Nat.reduceLT, Nat.reduceMul, Nat.reduceAdd, Nat.reduceBEq, Nat.reduceLeDiff, Int.reduceLT, Int.reduceLE, Int.reduceNeg, Int.reduceBEq, Int.reduceBNe, Int.reduceToNat] <;> rfl) ?_ (by simp) | refine atEnd_o (by simp only [go_sem, Nat.reduceSub, reduceIte, Nat.reduceEqDiff, Nat.reduceLT, Nat.reduceMul, Nat.reduceAdd, Nat.reduceBEq, Nat.reduceLeDiff, Int.reduceLT, Int.reduceLE, Int.reduceNeg, Int.reduceBEq, Int.reduceBNe, Int.reduceToNat] <;> rfl) ?_)
      | (refine And.intro ?_ ?_)
      | (with_reducible intro _)
    all_goals try first | exact True.intro | omega | exact ⟨_, _, rfl⟩ | exact allSolid_pcs _ | exact allSolid_one _ | exact allSolid_bool _ | rfl
    have : s = r := s4_ext s r (fun b hb => by rw [hs b hb, hr b hb]; have : b < i := by omega
                                               simp [this])
    rw [this]
end Go.Proofs.Ytaefhdklkbohmaa
