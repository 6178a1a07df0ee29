/- Part G1 of the proof that the last part closes: the code of the functions of this seat over abstract operations. No condition. -/
import Derived.Test.YtpflinpbkifmhaaGreatDoorA4
import Derived.Test.YtpflinpbkifmhaaGreatDoorChecked
set_option linter.unusedVariables false
namespace Go.Am
open Go.Proofs
def r4_0 (b : Nat) : List qzc := [
 ⟨(some 4), .box (b + 0) (.t 1), none⟩,
 ⟨(some 5), .box (b + 1) (.t 2), none⟩,
 ⟨(some 6), .mv (.c (.bool false)), none⟩]
def r4_1 (b : Nat) : List qzc := [
 ⟨(some 18), .mv (.t 0), none⟩,
 ⟨(some 19), .load true 3 (.t 4), none⟩,
 ⟨(some 20), .callf 8 [.t 18, .t 19], none⟩,
 ⟨(some 21), .not (.t 20), none⟩,
 ⟨(some 22), .mv (.t 21), none⟩,
 ⟨(some 23), .mv (.t 0), (some (22, false))⟩,
 ⟨(some 24), .load true 3 (.t 5), (some (22, false))⟩,
 ⟨(some 25), .callf 8 [.t 23, .t 24], (some (22, false))⟩,
 ⟨(some 26), .not (.t 25), (some (22, false))⟩,
 ⟨(some 27), .pick (.t 22) (.c (.bool true)) (.t 26), none⟩,
 ⟨(some 28), .mv (.t 27), none⟩,
 ⟨(some 29), .mv (.t 0), (some (28, false))⟩,
 ⟨(some 30), .callf 16 [.t 29], (some (28, false))⟩,
 ⟨(some 31), .bin .neq false (.t 30) (.c (.int .i64 0)), (some (28, false))⟩,
 ⟨(some 32), .pick (.t 28) (.c (.bool true)) (.t 31), none⟩,
 ⟨(some 33), .mv (.t 32), none⟩,
 ⟨(some 34), .load true 3 (.t 4), (some (33, false))⟩,
 ⟨(some 35), .callf 21 [.t 34], (some (33, false))⟩,
 ⟨(some 36), .not (.t 35), (some (33, false))⟩,
 ⟨(some 37), .pick (.t 33) (.c (.bool true)) (.t 36), none⟩,
 ⟨(some 38), .mv (.t 37), none⟩,
 ⟨(some 39), .load true 3 (.t 5), (some (38, false))⟩,
 ⟨(some 40), .callf 21 [.t 39], (some (38, false))⟩,
 ⟨(some 41), .not (.t 40), (some (38, false))⟩,
 ⟨(some 42), .pick (.t 38) (.c (.bool true)) (.t 41), none⟩,
 ⟨(some 43), .mv (.t 42), none⟩,
 ⟨(some 44), .faddr 0 (.t 4), (some (43, false))⟩,
 ⟨(some 45), .load false 1 (.t 44), (some (43, false))⟩,
 ⟨(some 46), .pick (.t 43) (.c (.bool true)) (.t 45), none⟩,
 ⟨(some 47), .mv (.t 46), none⟩,
 ⟨(some 48), .faddr 0 (.t 5), (some (47, false))⟩,
 ⟨(some 49), .load false 1 (.t 48), (some (47, false))⟩,
 ⟨(some 50), .pick (.t 47) (.c (.bool true)) (.t 49), none⟩]
def r4_2 (b : Nat) : List qzc := [
 ⟨(some 51), .callf 9 [], none⟩,
 ⟨(some 6), .mv (.t 51), none⟩]
def r4_3 (b : Nat) : List qzc := [
 ⟨(some 52), .load true 3 (.t 4), none⟩,
 ⟨(some 53), .load true 3 (.t 5), none⟩,
 ⟨(some 54), .callf 22 [.t 52, .t 53], none⟩,
 ⟨(some 55), .load true 3 (.t 4), none⟩,
 ⟨(some 56), .load true 3 (.t 5), none⟩,
 ⟨(some 57), .callf 23 [.t 55, .t 56], none⟩,
 ⟨(some 7), .alloc (b + 2) [.bool false, .str [], .str []], none⟩,
 ⟨(some 8), .alloc (b + 3) [.bool false, .str [], .str []], none⟩,
 ⟨none, .store 3 (.t 7) (.t 54), none⟩,
 ⟨none, .store 3 (.t 8) (.t 57), none⟩]
def wzft : List (List Nat) := [[], [], [0, 1], [], [], [0, 1, 2, 3, 4], [], [], [0, 1, 2, 3, 4, 5, 6, 7], [0, 1, 2, 3, 4, 5, 6, 7, 8]]
def r4_4 (b : Nat) : List qzc := [
 ⟨(some 59), .mv (.t 0), none⟩,
 ⟨(some 60), .load true 3 (.t 7), none⟩,
 ⟨(some 61), .callf 12 [.t 59, .t 60], none⟩,
 ⟨(some 58), .mv (.t 61), none⟩,
 ⟨(some 62), .extract 0 (.t 58), none⟩,
 ⟨(some 63), .extract 1 (.t 58), none⟩,
 ⟨(some 9), .alloc (b + 4) [.nils, .bool false, .str [], .str []], none⟩,
 ⟨none, .store 4 (.t 9) (.t 62), none⟩,
 ⟨(some 10), .mv (.t 63), none⟩]
def r4_5 (b : Nat) : List qzc := [
 ⟨(some 65), .mv (.t 0), none⟩,
 ⟨(some 66), .load true 3 (.t 8), none⟩,
 ⟨(some 67), .callf 12 [.t 65, .t 66], none⟩,
 ⟨(some 64), .mv (.t 67), none⟩,
 ⟨(some 68), .extract 0 (.t 64), none⟩,
 ⟨(some 69), .extract 1 (.t 64), none⟩,
 ⟨(some 11), .alloc (b + 5) [.nils, .bool false, .str [], .str []], none⟩,
 ⟨none, .store 4 (.t 11) (.t 68), none⟩,
 ⟨(some 12), .mv (.t 69), none⟩]
def r4_6 (b : Nat) : List qzc := [
 ⟨(some 70), .mv (.t 10), none⟩,
 ⟨(some 71), .bin .neq false (.t 70) (.c (.int .i64 0)), none⟩,
 ⟨(some 72), .mv (.t 71), none⟩,
 ⟨(some 73), .mv (.t 12), (some (72, false))⟩,
 ⟨(some 74), .bin .neq false (.t 73) (.c (.int .i64 0)), (some (72, false))⟩,
 ⟨(some 75), .pick (.t 72) (.c (.bool true)) (.t 74), none⟩,
 ⟨(some 76), .mv (.t 75), none⟩,
 ⟨(some 77), .faddr 0 (.t 9), (some (76, false))⟩,
 ⟨(some 78), .load false 1 (.t 77), (some (76, false))⟩,
 ⟨(some 79), .len false (.t 78), (some (76, false))⟩,
 ⟨(some 80), .mv (.t 0), (some (76, false))⟩,
 ⟨(some 81), .len false (.t 80), (some (76, false))⟩,
 ⟨(some 82), .bin .neq false (.t 79) (.t 81), (some (76, false))⟩,
 ⟨(some 83), .pick (.t 76) (.c (.bool true)) (.t 82), none⟩,
 ⟨(some 84), .mv (.t 83), none⟩,
 ⟨(some 85), .faddr 0 (.t 11), (some (84, false))⟩,
 ⟨(some 86), .load false 1 (.t 85), (some (84, false))⟩,
 ⟨(some 87), .len false (.t 86), (some (84, false))⟩,
 ⟨(some 88), .mv (.t 0), (some (84, false))⟩,
 ⟨(some 89), .len false (.t 88), (some (84, false))⟩,
 ⟨(some 90), .bin .neq false (.t 87) (.t 89), (some (84, false))⟩,
 ⟨(some 91), .pick (.t 84) (.c (.bool true)) (.t 90), none⟩]
def r4_7 (b : Nat) : List qzc := [
 ⟨(some 6), .mv (.c (.bool false)), none⟩]
def r4_8 (b : Nat) : List qzc := [
 ⟨(some 92), .faddr 0 (.t 9), none⟩,
 ⟨(some 93), .load false 1 (.t 92), none⟩,
 ⟨(some 94), .callf 25 [.t 93], none⟩,
 ⟨(some 95), .faddr 1 (.t 9), none⟩,
 ⟨(some 96), .load true 3 (.t 95), none⟩,
 ⟨(some 97), .callf 24 [.t 94, .t 96], none⟩,
 ⟨(some 98), .load true 3 (.t 7), none⟩,
 ⟨(some 99), .eqagg [0, 2, 2] true (.t 97) (.t 98), none⟩,
 ⟨(some 100), .mv (.t 99), none⟩,
 ⟨(some 101), .faddr 0 (.t 11), (some (100, false))⟩,
 ⟨(some 102), .load false 1 (.t 101), (some (100, false))⟩,
 ⟨(some 103), .callf 25 [.t 102], (some (100, false))⟩,
 ⟨(some 104), .faddr 1 (.t 11), (some (100, false))⟩,
 ⟨(some 105), .load true 3 (.t 104), (some (100, false))⟩,
 ⟨(some 106), .callf 24 [.t 103, .t 105], (some (100, false))⟩,
 ⟨(some 107), .load true 3 (.t 8), (some (100, false))⟩,
 ⟨(some 108), .eqagg [0, 2, 2] true (.t 106) (.t 107), (some (100, false))⟩,
 ⟨(some 109), .pick (.t 100) (.c (.bool true)) (.t 108), none⟩,
 ⟨(some 110), .mv (.t 109), none⟩,
 ⟨(some 111), .mv (.t 0), (some (110, false))⟩,
 ⟨(some 112), .load true 3 (.t 7), (some (110, false))⟩,
 ⟨(some 113), .load true 4 (.t 9), (some (110, false))⟩,
 ⟨(some 114), .callf 19 [.t 111, .t 112, .t 113], (some (110, false))⟩,
 ⟨(some 115), .not (.t 114), (some (110, false))⟩,
 ⟨(some 116), .pick (.t 110) (.c (.bool true)) (.t 115), none⟩,
 ⟨(some 117), .mv (.t 116), none⟩,
 ⟨(some 118), .mv (.t 0), (some (117, false))⟩,
 ⟨(some 119), .load true 3 (.t 8), (some (117, false))⟩,
 ⟨(some 120), .load true 4 (.t 11), (some (117, false))⟩,
 ⟨(some 121), .callf 19 [.t 118, .t 119, .t 120], (some (117, false))⟩,
 ⟨(some 122), .not (.t 121), (some (117, false))⟩,
 ⟨(some 123), .pick (.t 117) (.c (.bool true)) (.t 122), none⟩,
 ⟨(some 124), .mv (.t 123), none⟩,
 ⟨(some 125), .faddr 1 (.t 9), (some (124, false))⟩,
 ⟨(some 126), .load true 3 (.t 125), (some (124, false))⟩,
 ⟨(some 127), .faddr 1 (.t 11), (some (124, false))⟩,
 ⟨(some 128), .load true 3 (.t 127), (some (124, false))⟩,
 ⟨(some 129), .callf 26 [.t 126, .t 128], (some (124, false))⟩,
 ⟨(some 130), .bin .gtr false (.t 129) (.c (.int .i64 0)), (some (124, false))⟩,
 ⟨(some 131), .pick (.t 124) (.c (.bool true)) (.t 130), none⟩]
def wzf2 : List (List Nat) := [[], [0], [0, 1], [], [3], [0, 1, 2, 3, 4], [], [0, 1, 2, 3, 4, 5, 6], [0, 1, 2, 3, 4, 5, 6, 7], [0, 1, 2, 3, 4, 5, 6, 7, 8], [0, 1, 2, 3, 4, 5, 6, 7, 8, 9], [0, 1, 2, 3, 4, 5, 6, 7, 8, 9, 10], [0, 1, 2, 3, 4, 5, 6, 7, 8], [0, 1, 2, 3, 4, 5, 6, 7, 8, 12], [0, 1, 2, 3, 4, 5, 6, 7, 8, 9, 10, 11, 12, 13], [0, 1, 2, 3, 4, 5, 6, 7, 8], [0, 1, 2, 3, 4, 5, 6, 7, 8, 9, 10, 11, 12, 13, 14, 15], [0, 1, 2, 3, 4, 5, 6, 7, 8, 9, 10, 11, 12, 13, 14, 15, 16], [0, 1, 2, 3, 4, 5, 6, 7, 8, 9, 10, 11, 12, 13, 14, 15, 16, 17], [0, 1, 2, 3, 4, 5, 6, 7, 8, 9, 10, 11, 12, 13, 14, 15, 16, 17, 18], [0, 1, 2, 3, 4, 5, 6, 7, 8, 9, 10, 11, 12, 13, 14, 15, 16, 17, 18], [0, 1, 2, 3, 4, 5, 6, 7, 8, 9, 10, 11, 12, 13, 14, 15, 16, 17, 18], [0, 1, 2, 3, 4, 5, 6, 7, 8, 9, 10, 11, 12, 13, 14, 15, 16, 17, 18, 19, 20, 21], [0, 1, 2, 3, 4, 5, 6, 7, 8, 9, 10, 11, 12, 13, 14, 15, 16, 17, 18, 19, 20, 21, 22], [0, 1, 2, 3, 4, 5, 6, 7, 8, 9, 10, 11, 12, 13, 14, 15, 16, 17, 18, 19, 20, 21, 22, 23], [0, 1, 2, 3, 4, 5, 6, 7, 8, 9, 10, 11, 12, 13, 14, 15, 16, 17, 18, 19, 20, 21, 22, 23, 24], [0, 1, 2, 3, 4, 5, 6, 7, 8, 9, 10, 11, 12, 13, 14, 15, 16, 17, 18, 19, 20, 21, 22, 23, 24, 25], [0, 1, 2, 3, 4, 5, 6, 7, 8, 9, 10, 11, 12, 13, 14, 15, 16, 17, 18, 19, 20, 21, 22, 23, 24, 25], [0, 1, 2, 3, 4, 5, 6, 7, 8, 9, 10, 11, 12, 13, 14, 15, 16, 17, 18, 19, 20, 21, 22, 23, 24, 25], [0, 1, 2, 3, 4, 5, 6, 7, 8, 9, 10, 11, 12, 13, 14, 15, 16, 17, 18, 19, 20, 21, 22, 23, 24, 25, 26, 27, 28], [0, 1, 2, 3, 4, 5, 6, 7, 8, 9, 10, 11, 12, 13, 14, 15, 16, 17, 18, 19, 20, 21, 22, 23, 24, 25, 26, 27, 28, 29], [0, 1, 2, 3, 4, 5, 6, 7, 8, 9, 10, 11, 12, 13, 14, 15, 16, 17, 18, 19, 20, 21, 22, 23, 24, 25, 26, 27, 28, 29, 30], [0, 1, 2, 3, 4, 5, 6, 7, 8, 9, 10, 11, 12, 13, 14, 15, 16, 17, 18, 19, 20, 21, 22, 23, 24, 25, 26, 27, 28, 29, 30, 31], [0, 1, 2, 3, 4, 5, 6, 7, 8, 9, 10, 11, 12, 13, 14, 15, 16, 17, 18, 19, 20, 21, 22, 23, 24, 25, 26, 27, 28, 29, 30, 31, 32], [0, 1, 2, 3, 4, 5, 6, 7, 8, 9, 10, 11, 12, 13, 14, 15, 16, 17, 18, 19, 20, 21, 22, 23, 24, 25, 26, 27, 28, 29, 30, 31, 32, 33], [0, 1, 2, 3, 4, 5, 6, 7, 8, 9, 10, 11, 12, 13, 14, 15, 16, 17, 18, 19, 20, 21, 22, 23, 24, 25, 26, 27, 28, 29, 30, 31, 32], [0, 1, 2, 3, 4, 5, 6, 7, 8, 9, 10, 11, 12, 13, 14, 15, 16, 17, 18, 19, 20, 21, 22, 23, 24, 25, 26, 27, 28, 29, 30, 31, 32, 35], [0, 1, 2, 3, 4, 5, 6, 7, 8, 9, 10, 11, 12, 13, 14, 15, 16, 17, 18, 19, 20, 21, 22, 23, 24, 25, 26, 27, 28, 29, 30, 31, 32, 33, 34, 35, 36], [0, 1, 2, 3, 4, 5, 6, 7, 8, 9, 10, 11, 12, 13, 14, 15, 16, 17, 18, 19, 20, 21, 22, 23, 24, 25, 26, 27, 28, 29, 30, 31, 32, 33, 34, 35, 36, 37], [0, 1, 2, 3, 4, 5, 6, 7, 8, 9, 10, 11, 12, 13, 14, 15, 16, 17, 18, 19, 20, 21, 22, 23, 24, 25, 26, 27, 28, 29, 30, 31, 32, 33, 34, 35, 36, 37, 38]]
def r4_9 (b : Nat) : List qzc := [
 ⟨(some 6), .mv (.c (.bool false)), none⟩]
def qz9u (b : Nat) : List qzc := [
 ⟨(some 132), .mv (.t 0), none⟩,
 ⟨(some 133), .len false (.t 132), none⟩,
 ⟨(some 134), .mv (.c (.int .i64 0)), none⟩]
def qz4r (b : Nat) : List qzc := [
 ⟨(some 135), .bin .lss false (.t 134) (.t 133), none⟩]
def qz5p (b : Nat) : List qzc := [
 ⟨(some 136), .mv (.t 134), none⟩,
 ⟨(some 13), .mv (.t 136), none⟩]
def qz8f (b : Nat) : List qzc := [
 ⟨(some 137), .faddr 0 (.t 9), none⟩,
 ⟨(some 138), .load false 1 (.t 137), none⟩,
 ⟨(some 139), .mv (.t 13), none⟩,
 ⟨(some 140), .iaddrS 3 (.t 138) (.t 139), none⟩,
 ⟨(some 141), .load true 3 (.t 140), none⟩,
 ⟨(some 142), .faddr 0 (.t 11), none⟩,
 ⟨(some 143), .load false 1 (.t 142), none⟩,
 ⟨(some 144), .mv (.t 13), none⟩,
 ⟨(some 145), .iaddrS 3 (.t 143) (.t 144), none⟩,
 ⟨(some 146), .load true 3 (.t 145), none⟩,
 ⟨(some 147), .callf 26 [.t 141, .t 146], none⟩,
 ⟨(some 148), .bin .gtr false (.t 147) (.c (.int .i64 0)), none⟩]
def wzek : List (List Nat) := [[], [0], [], [0, 1, 2], [0, 1, 2, 3], [], [5], [], [5, 6, 7], [5, 6, 7, 8], [0, 1, 2, 3, 4, 5, 6, 7, 8, 9], [0, 1, 2, 3, 4, 5, 6, 7, 8, 9, 10]]
def qz7y (b : Nat) : List qzc := [
 ⟨(some 6), .mv (.c (.bool false)), none⟩]
def wzbq (b : Nat) : List qzc := [
 ⟨(some 149), .bin .add false (.t 134) (.c (.int .i64 1)), none⟩,
 ⟨(some 134), .mv (.t 149), none⟩]
def l4_0 (b : Nat) : qzk := .seq (.reg false (qz4r b) []) (.seq (.cond (.t 135) (.skip) (.exit 0)) (.seq (.block 1 (.seq (.reg false (qz5p b) []) (.seq (.reg true (qz8f b) wzek) (.cond (.t 148) (.seq (.reg false (qz7y b) []) (.ret)) (.skip))))) (.reg false (wzbq b) [])))
def wzbo (b : Nat) : List qzc := [
 ⟨(some 151), .mv (.t 0), none⟩,
 ⟨(some 152), .load true 3 (.t 7), none⟩,
 ⟨(some 153), .callf 11 [.t 151, .t 152], none⟩,
 ⟨(some 150), .mv (.t 153), none⟩,
 ⟨(some 154), .extract 0 (.t 150), none⟩,
 ⟨(some 155), .extract 1 (.t 150), none⟩,
 ⟨(some 14), .alloc (b + 6) [.bool false, .str [], .str []], none⟩,
 ⟨none, .store 3 (.t 14) (.t 154), none⟩,
 ⟨(some 15), .mv (.t 155), none⟩]
def qz45 (b : Nat) : List qzc := [
 ⟨(some 157), .mv (.t 0), none⟩,
 ⟨(some 158), .load true 3 (.t 8), none⟩,
 ⟨(some 159), .callf 11 [.t 157, .t 158], none⟩,
 ⟨(some 156), .mv (.t 159), none⟩,
 ⟨(some 160), .extract 0 (.t 156), none⟩,
 ⟨(some 161), .extract 1 (.t 156), none⟩,
 ⟨(some 16), .alloc (b + 7) [.bool false, .str [], .str []], none⟩,
 ⟨none, .store 3 (.t 16) (.t 160), none⟩,
 ⟨(some 17), .mv (.t 161), none⟩]
def qz41 (b : Nat) : List qzc := [
 ⟨(some 162), .callf 9 [], none⟩,
 ⟨(some 163), .mv (.t 162), none⟩,
 ⟨(some 164), .mv (.t 15), (some (163, true))⟩,
 ⟨(some 165), .bin .eql false (.t 164) (.c (.int .i64 0)), (some (163, true))⟩,
 ⟨(some 166), .mv (.t 165), (some (163, true))⟩,
 ⟨(some 167), .mv (.t 17), (some (166, false))⟩,
 ⟨(some 168), .bin .neq false (.t 167) (.c (.int .i64 0)), (some (166, false))⟩,
 ⟨(some 169), .pick (.t 166) (.c (.bool true)) (.t 168), (some (163, true))⟩,
 ⟨(some 170), .pick (.t 163) (.t 169) (.c (.bool false)), none⟩,
 ⟨(some 171), .mv (.t 170), none⟩,
 ⟨(some 172), .mv (.t 17), (some (171, true))⟩,
 ⟨(some 173), .bin .neq false (.t 172) (.c (.int .i64 0)), (some (171, true))⟩,
 ⟨(some 174), .mv (.t 173), (some (171, true))⟩,
 ⟨(some 175), .load true 3 (.t 14), (some (174, false))⟩,
 ⟨(some 176), .load true 3 (.t 16), (some (174, false))⟩,
 ⟨(some 177), .callf 26 [.t 175, .t 176], (some (174, false))⟩,
 ⟨(some 178), .bin .leq false (.t 177) (.c (.int .i64 0)), (some (174, false))⟩,
 ⟨(some 179), .pick (.t 174) (.c (.bool true)) (.t 178), (some (171, true))⟩,
 ⟨(some 180), .pick (.t 171) (.t 179) (.c (.bool false)), none⟩,
 ⟨(some 6), .mv (.t 180), none⟩]
def c4 (b : Nat) : qzk := .seq (.reg false (r4_0 b) []) (.seq (.seq (.reg false (r4_1 b) []) (.cond (.t 50) (.seq (.reg false (r4_2 b) []) (.ret)) (.skip))) (.seq (.reg true (r4_3 b) wzft) (.seq (.reg false (r4_4 b) []) (.seq (.reg false (r4_5 b) []) (.seq (.seq (.reg false (r4_6 b) []) (.cond (.t 91) (.seq (.reg false (r4_7 b) []) (.ret)) (.skip))) (.seq (.seq (.reg true (r4_8 b) wzf2) (.cond (.t 131) (.seq (.reg false (r4_9 b) []) (.ret)) (.skip))) (.seq (.seq (.reg false (qz9u b) []) (.block 0 (.loop (l4_0 b)))) (.seq (.reg false (wzbo b) []) (.seq (.reg false (qz45 b) []) (.seq (.reg false (qz41 b) []) (.ret)))))))))))
def rs4 : List ARes := [.t 6]
theorem ck4 : ∃ c, Tryz.f4.body = some c ∧ ∀ b, qzg Tryz.prog c (c4 b) = true := ⟨_, rfl, fun b => by kernel_rfl⟩
theorem cr4 : qzi Tryz.prog Tryz.f4.results.toList rs4 = true := by kernel_rfl
def r8_0 (b : Nat) : List qzc := [
 ⟨(some 3), .box (b + 0) (.t 1), none⟩,
 ⟨(some 4), .mv (.c (.bool false)), none⟩]
def r8_1 (b : Nat) : List qzc := [
 ⟨(some 5), .mv (.t 0), none⟩,
 ⟨(some 6), .callf 30 [.t 5], none⟩,
 ⟨(some 7), .mv (.t 6), none⟩,
 ⟨(some 8), .faddr 1 (.t 3), (some (7, true))⟩,
 ⟨(some 9), .load false 1 (.t 8), (some (7, true))⟩,
 ⟨(some 10), .len true (.t 9), (some (7, true))⟩,
 ⟨(some 11), .bin .leq false (.t 10) (.c (.int .i64 20)), (some (7, true))⟩,
 ⟨(some 12), .pick (.t 7) (.t 11) (.c (.bool false)), none⟩,
 ⟨(some 13), .mv (.t 12), none⟩,
 ⟨(some 14), .faddr 2 (.t 3), (some (13, true))⟩,
 ⟨(some 15), .load false 1 (.t 14), (some (13, true))⟩,
 ⟨(some 16), .len true (.t 15), (some (13, true))⟩,
 ⟨(some 17), .bin .leq false (.t 16) (.c (.int .i64 20)), (some (13, true))⟩,
 ⟨(some 18), .pick (.t 13) (.t 17) (.c (.bool false)), none⟩,
 ⟨(some 4), .mv (.t 18), none⟩]
def c8 (b : Nat) : qzk := .seq (.reg false (r8_0 b) []) (.seq (.reg false (r8_1 b) []) (.ret))
def rs8 : List ARes := [.t 4]
theorem ck8 : ∃ c, Tryz.f8.body = some c ∧ ∀ b, qzg Tryz.prog c (c8 b) = true := ⟨_, rfl, fun b => by kernel_rfl⟩
theorem cr8 : qzi Tryz.prog Tryz.f8.results.toList rs8 = true := by kernel_rfl
def r9_0 (b : Nat) : List qzc := [
 ⟨(some 0), .mv (.c (.bool false)), none⟩]
def r9_1 (b : Nat) : List qzc := [
 ⟨(some 23), .callf 28 [.c (.int .i64 2)], none⟩,
 ⟨(some 24), .callf 28 [.c (.int .i64 4)], none⟩,
 ⟨(some 25), .build [.int .i64 0, .int .i64 0, .bool false, .str [], .str [], .bool false, .str [], .str []] [(0, 1, .c (.int .i64 0)), (1, 1, .c (.int .i64 1)), (2, 3, .t 23), (5, 3, .t 24)], none⟩,
 ⟨(some 26), .callf 28 [.c (.int .i64 10)], none⟩,
 ⟨(some 27), .build [.int .i64 0, .int .i64 0, .bool false, .str [], .str [], .bool false, .str [], .str []] [(0, 1, .c (.int .i64 1)), (1, 1, .c (.int .i64 2)), (5, 3, .t 26)], none⟩,
 ⟨(some 28), .callf 28 [.c (.int .i64 1)], none⟩,
 ⟨(some 29), .callf 28 [.c (.int .i64 3)], none⟩,
 ⟨(some 30), .build [.int .i64 0, .int .i64 0, .bool false, .str [], .str [], .bool false, .str [], .str []] [(0, 1, .c (.int .i64 2)), (1, 1, .c (.int .i64 1)), (2, 3, .t 28), (5, 3, .t 29)], none⟩,
 ⟨(some 31), .bslice (b + 0) 8 3 [.int .i64 0, .int .i64 0, .bool false, .str [], .str [], .bool false, .str [], .str [], .int .i64 0, .int .i64 0, .bool false, .str [], .str [], .bool false, .str [], .str [], .int .i64 0, .int .i64 0, .bool false, .str [], .str [], .bool false, .str [], .str []] [(0, 8, .t 25), (8, 8, .t 27), (16, 8, .t 30)], none⟩,
 ⟨(some 1), .mv (.t 31), none⟩]
def r9_2 (b : Nat) : List qzc := [
 ⟨(some 32), .callf 28 [.c (.int .i64 1)], none⟩,
 ⟨(some 33), .callf 31 [.c (.int .i64 5), .c (.int .i64 2)], none⟩,
 ⟨(some 34), .callf 28 [.c (.int .i64 9)], none⟩,
 ⟨(some 35), .bslice (b + 1) 3 3 [.bool false, .str [], .str [], .bool false, .str [], .str [], .bool false, .str [], .str []] [(0, 3, .t 32), (3, 3, .t 33), (6, 3, .t 34)], none⟩,
 ⟨(some 2), .mv (.t 35), none⟩]
def r9_3 (b : Nat) : List qzc := [
 ⟨(some 36), .bslice (b + 2) 1 3 [.int .i64 0, .int .i64 0, .int .i64 0] [(0, 1, .c (.int .i64 2)), (1, 1, .c (.int .i64 2)), (2, 1, .c (.int .i64 1))], none⟩,
 ⟨(some 37), .callf 32 [.t 36], none⟩,
 ⟨(some 38), .callf 31 [.c (.int .i64 5), .c (.int .i64 2)], none⟩,
 ⟨(some 39), .callf 28 [.c (.int .i64 5)], none⟩,
 ⟨(some 40), .callf 31 [.c (.int .i64 5), .c (.int .i64 2)], none⟩,
 ⟨(some 41), .bslice (b + 3) 3 3 [.bool false, .str [], .str [], .bool false, .str [], .str [], .bool false, .str [], .str []] [(0, 3, .t 38), (3, 3, .t 39), (6, 3, .t 40)], none⟩,
 ⟨(some 42), .bslice (b + 4) 1 3 [.int .i64 0, .int .i64 0, .int .i64 0] [(0, 1, .c (.int .i64 4)), (1, 1, .c (.int .i64 10)), (2, 1, .c (.int .i64 3))], none⟩,
 ⟨(some 43), .callf 32 [.t 42], none⟩,
 ⟨(some 44), .bslice (b + 5) 1 3 [.nils, .nils, .nils] [(0, 1, .t 37), (1, 1, .t 41), (2, 1, .t 43)], none⟩,
 ⟨(some 3), .mv (.t 44), none⟩]
def r9_4 (b : Nat) : List qzc := [
 ⟨(some 45), .mv (.t 2), none⟩,
 ⟨(some 46), .len false (.t 45), none⟩,
 ⟨(some 47), .mv (.c (.int .i64 0)), none⟩]
def r9_5 (b : Nat) : List qzc := [
 ⟨(some 48), .bin .lss false (.t 47) (.t 46), none⟩]
def r9_6 (b : Nat) : List qzc := [
 ⟨(some 49), .mv (.t 47), none⟩,
 ⟨(some 50), .iaddrS 3 (.t 45) (.t 47), none⟩,
 ⟨(some 51), .load true 3 (.t 50), none⟩,
 ⟨(some 5), .alloc (b + 6) [.bool false, .str [], .str []], none⟩,
 ⟨(some 4), .mv (.t 49), none⟩,
 ⟨none, .store 3 (.t 5) (.t 51), none⟩]
def r9_7 (b : Nat) : List qzc := [
 ⟨(some 53), .mv (.t 1), none⟩,
 ⟨(some 54), .load true 3 (.t 5), none⟩,
 ⟨(some 55), .callf 10 [.t 53, .t 54], none⟩,
 ⟨(some 52), .mv (.t 55), none⟩,
 ⟨(some 56), .extract 0 (.t 52), none⟩,
 ⟨(some 57), .extract 1 (.t 52), none⟩,
 ⟨(some 6), .mv (.t 56), none⟩,
 ⟨(some 7), .mv (.t 57), none⟩]
def r9_8 (b : Nat) : List qzc := [
 ⟨(some 58), .mv (.t 7), none⟩,
 ⟨(some 59), .bin .neq false (.t 58) (.c (.int .i64 0)), none⟩,
 ⟨(some 60), .mv (.t 59), none⟩,
 ⟨(some 61), .mv (.t 6), (some (60, false))⟩,
 ⟨(some 62), .mv (.t 3), (some (60, false))⟩,
 ⟨(some 63), .mv (.t 4), (some (60, false))⟩,
 ⟨(some 64), .iaddrS 1 (.t 62) (.t 63), (some (60, false))⟩,
 ⟨(some 65), .load false 1 (.t 64), (some (60, false))⟩,
 ⟨(some 66), .callf 18 [.t 61, .t 65], (some (60, false))⟩,
 ⟨(some 67), .not (.t 66), (some (60, false))⟩,
 ⟨(some 68), .pick (.t 60) (.c (.bool true)) (.t 67), none⟩]
def r9_9 (b : Nat) : List qzc := [
 ⟨(some 0), .mv (.c (.bool false)), none⟩]
def qz74 (b : Nat) : List qzc := [
 ⟨(some 69), .bin .add false (.t 47) (.c (.int .i64 1)), none⟩,
 ⟨(some 47), .mv (.t 69), none⟩]
def l9_0 (b : Nat) : qzk := .seq (.reg false (r9_5 b) []) (.seq (.cond (.t 48) (.skip) (.exit 0)) (.seq (.block 1 (.seq (.reg false (r9_6 b) []) (.seq (.reg false (r9_7 b) []) (.seq (.reg false (r9_8 b) []) (.cond (.t 68) (.seq (.reg false (r9_9 b) []) (.ret)) (.skip)))))) (.reg false (qz74 b) [])))
def qz6p (b : Nat) : List qzc := [
 ⟨(some 70), .build [.bool false, .str [], .str []] [], none⟩,
 ⟨(some 71), .callf 28 [.c (.int .i64 1)], none⟩,
 ⟨(some 72), .callf 31 [.c (.int .i64 5), .c (.int .i64 2)], none⟩,
 ⟨(some 73), .callf 28 [.c (.int .i64 5)], none⟩,
 ⟨(some 74), .bslice (b + 7) 3 4 [.bool false, .str [], .str [], .bool false, .str [], .str [], .bool false, .str [], .str [], .bool false, .str [], .str []] [(0, 3, .t 70), (3, 3, .t 71), (6, 3, .t 72), (9, 3, .t 73)], none⟩,
 ⟨(some 8), .mv (.t 74), none⟩]
def qz4d (b : Nat) : List qzc := [
 ⟨(some 75), .bslice (b + 8) 1 4 [.int .i64 0, .int .i64 0, .int .i64 0, .int .i64 0] [(0, 1, .c (.int .i64 3)), (1, 1, .c (.int .i64 5)), (2, 1, .c (.int .i64 10)), (3, 1, .c (.int .i64 17))], none⟩,
 ⟨(some 76), .len false (.t 75), none⟩,
 ⟨(some 77), .mv (.c (.int .i64 0)), none⟩]
def qz48 (b : Nat) : List qzc := [
 ⟨(some 78), .bin .lss false (.t 77) (.t 76), none⟩]
def wzbz (b : Nat) : List qzc := [
 ⟨(some 79), .mv (.t 77), none⟩,
 ⟨(some 80), .iaddrS 1 (.t 75) (.t 77), none⟩,
 ⟨(some 81), .load false 1 (.t 80), none⟩,
 ⟨(some 9), .mv (.t 79), none⟩,
 ⟨(some 10), .mv (.t 81), none⟩]
def qz4u (b : Nat) : List qzc := [
 ⟨(some 83), .mv (.t 1), none⟩,
 ⟨(some 84), .mv (.t 10), none⟩,
 ⟨(some 85), .callf 28 [.t 84], none⟩,
 ⟨(some 86), .callf 11 [.t 83, .t 85], none⟩,
 ⟨(some 82), .mv (.t 86), none⟩,
 ⟨(some 87), .extract 0 (.t 82), none⟩,
 ⟨(some 88), .extract 1 (.t 82), none⟩,
 ⟨(some 11), .alloc (b + 9) [.bool false, .str [], .str []], none⟩,
 ⟨none, .store 3 (.t 11) (.t 87), none⟩,
 ⟨(some 12), .mv (.t 88), none⟩]
def qzwg (b : Nat) : List qzc := [
 ⟨(some 89), .mv (.t 12), none⟩,
 ⟨(some 90), .bin .neq false (.t 89) (.c (.int .i64 0)), none⟩,
 ⟨(some 91), .mv (.t 90), none⟩,
 ⟨(some 92), .load true 3 (.t 11), (some (91, false))⟩,
 ⟨(some 93), .mv (.t 8), (some (91, false))⟩,
 ⟨(some 94), .mv (.t 9), (some (91, false))⟩,
 ⟨(some 95), .iaddrS 3 (.t 93) (.t 94), (some (91, false))⟩,
 ⟨(some 96), .load true 3 (.t 95), (some (91, false))⟩,
 ⟨(some 97), .eqagg [0, 2, 2] true (.t 92) (.t 96), (some (91, false))⟩,
 ⟨(some 98), .pick (.t 91) (.c (.bool true)) (.t 97), none⟩]
def wzfh : List (List Nat) := [[], [0], [0, 1], [0, 1, 2], [0, 1, 2], [0, 1, 2], [0, 1, 2, 4, 5], [0, 1, 2, 4, 5, 6], [0, 1, 2, 3, 4, 5, 6, 7], [0, 1, 2, 3, 4, 5, 6, 7, 8]]
def qz69 (b : Nat) : List qzc := [
 ⟨(some 0), .mv (.c (.bool false)), none⟩]
def qz7l (b : Nat) : List qzc := [
 ⟨(some 99), .bin .add false (.t 77) (.c (.int .i64 1)), none⟩,
 ⟨(some 77), .mv (.t 99), none⟩]
def l9_1 (b : Nat) : qzk := .seq (.reg false (qz48 b) []) (.seq (.cond (.t 78) (.skip) (.exit 2)) (.seq (.block 3 (.seq (.reg false (wzbz b) []) (.seq (.reg false (qz4u b) []) (.seq (.reg true (qzwg b) wzfh) (.cond (.t 98) (.seq (.reg false (qz69 b) []) (.ret)) (.skip)))))) (.reg false (qz7l b) [])))
def qz5g (b : Nat) : List qzc := [
 ⟨(some 101), .mv (.t 1), none⟩,
 ⟨(some 102), .callf 28 [.c (.int .i64 18)], none⟩,
 ⟨(some 103), .callf 11 [.t 101, .t 102], none⟩,
 ⟨(some 100), .mv (.t 103), none⟩,
 ⟨(some 104), .extract 0 (.t 100), none⟩,
 ⟨(some 105), .extract 1 (.t 100), none⟩,
 ⟨(some 13), .alloc (b + 10) [.bool false, .str [], .str []], none⟩,
 ⟨none, .store 3 (.t 13) (.t 104), none⟩,
 ⟨(some 14), .mv (.t 105), none⟩]
def wzci (b : Nat) : List qzc := [
 ⟨(some 107), .mv (.t 1), none⟩,
 ⟨(some 108), .callf 28 [.c (.int .i64 10)], none⟩,
 ⟨(some 109), .callf 12 [.t 107, .t 108], none⟩,
 ⟨(some 106), .mv (.t 109), none⟩,
 ⟨(some 110), .extract 0 (.t 106), none⟩,
 ⟨(some 111), .extract 1 (.t 106), none⟩,
 ⟨(some 15), .alloc (b + 11) [.nils, .bool false, .str [], .str []], none⟩,
 ⟨none, .store 4 (.t 15) (.t 110), none⟩,
 ⟨(some 16), .mv (.t 111), none⟩]
def qz5e (b : Nat) : List qzc := [
 ⟨(some 113), .mv (.t 1), none⟩,
 ⟨(some 114), .callf 28 [.c (.int .i64 2)], none⟩,
 ⟨(some 115), .callf 12 [.t 113, .t 114], none⟩,
 ⟨(some 112), .mv (.t 115), none⟩,
 ⟨(some 116), .extract 0 (.t 112), none⟩,
 ⟨(some 117), .extract 1 (.t 112), none⟩,
 ⟨(some 17), .alloc (b + 12) [.nils, .bool false, .str [], .str []], none⟩,
 ⟨none, .store 4 (.t 17) (.t 116), none⟩,
 ⟨(some 18), .mv (.t 117), none⟩]
def qz61 (b : Nat) : List qzc := [
 ⟨(some 119), .mv (.t 1), none⟩,
 ⟨(some 120), .callf 28 [.c (.int .i64 20)], none⟩,
 ⟨(some 121), .callf 12 [.t 119, .t 120], none⟩,
 ⟨(some 118), .mv (.t 121), none⟩,
 ⟨(some 122), .extract 0 (.t 118), none⟩,
 ⟨(some 123), .extract 1 (.t 118), none⟩,
 ⟨(some 19), .alloc (b + 13) [.nils, .bool false, .str [], .str []], none⟩,
 ⟨none, .store 4 (.t 19) (.t 122), none⟩,
 ⟨(some 20), .mv (.t 123), none⟩]
def wzay (b : Nat) : List qzc := [
 ⟨(some 124), .mv (.t 14), none⟩,
 ⟨(some 125), .bin .eql false (.t 124) (.c (.int .i64 8)), none⟩,
 ⟨(some 126), .mv (.t 125), none⟩,
 ⟨(some 127), .mv (.t 16), (some (126, true))⟩,
 ⟨(some 128), .bin .eql false (.t 127) (.c (.int .i64 0)), (some (126, true))⟩,
 ⟨(some 129), .pick (.t 126) (.t 128) (.c (.bool false)), none⟩,
 ⟨(some 130), .mv (.t 129), none⟩,
 ⟨(some 131), .mv (.t 18), (some (130, true))⟩,
 ⟨(some 132), .bin .eql false (.t 131) (.c (.int .i64 0)), (some (130, true))⟩,
 ⟨(some 133), .pick (.t 130) (.t 132) (.c (.bool false)), none⟩,
 ⟨(some 134), .mv (.t 133), none⟩,
 ⟨(some 135), .mv (.t 20), (some (134, true))⟩,
 ⟨(some 136), .bin .eql false (.t 135) (.c (.int .i64 0)), (some (134, true))⟩,
 ⟨(some 137), .pick (.t 134) (.t 136) (.c (.bool false)), none⟩,
 ⟨(some 138), .mv (.t 137), none⟩,
 ⟨(some 139), .mv (.t 1), (some (138, true))⟩,
 ⟨(some 140), .callf 16 [.t 139], (some (138, true))⟩,
 ⟨(some 141), .bin .eql false (.t 140) (.c (.int .i64 0)), (some (138, true))⟩,
 ⟨(some 142), .pick (.t 138) (.t 141) (.c (.bool false)), none⟩,
 ⟨(some 143), .mv (.t 142), none⟩,
 ⟨(some 144), .callf 16 [.c (.nils)], (some (143, true))⟩,
 ⟨(some 145), .bin .eql false (.t 144) (.c (.int .i64 2)), (some (143, true))⟩,
 ⟨(some 146), .pick (.t 143) (.t 145) (.c (.bool false)), none⟩,
 ⟨(some 21), .mv (.t 146), none⟩]
def wzbh (b : Nat) : List qzc := [
 ⟨(some 147), .faddr 0 (.t 15), none⟩,
 ⟨(some 148), .load false 1 (.t 147), none⟩,
 ⟨(some 149), .mv (.t 3), none⟩,
 ⟨(some 150), .iaddrS 1 (.t 149) (.c (.int .i64 1)), none⟩,
 ⟨(some 151), .load false 1 (.t 150), none⟩,
 ⟨(some 152), .callf 18 [.t 148, .t 151], none⟩,
 ⟨(some 153), .mv (.t 152), none⟩,
 ⟨(some 154), .faddr 1 (.t 15), (some (153, true))⟩,
 ⟨(some 155), .load true 3 (.t 154), (some (153, true))⟩,
 ⟨(some 156), .build [.bool false, .str [], .str []] [], (some (153, true))⟩,
 ⟨(some 157), .eqagg [0, 2, 2] false (.t 155) (.t 156), (some (153, true))⟩,
 ⟨(some 158), .pick (.t 153) (.t 157) (.c (.bool false)), none⟩,
 ⟨(some 159), .mv (.t 158), none⟩,
 ⟨(some 160), .faddr 0 (.t 17), (some (159, true))⟩,
 ⟨(some 161), .load false 1 (.t 160), (some (159, true))⟩,
 ⟨(some 162), .callf 31 [.c (.int .i64 4), .c (.int .i64 3)], (some (159, true))⟩,
 ⟨(some 163), .build [.bool false, .str [], .str []] [], (some (159, true))⟩,
 ⟨(some 164), .callf 31 [.c (.int .i64 2), .c (.int .i64 3)], (some (159, true))⟩,
 ⟨(some 165), .fslice (b + 14) 3 3 [.bool false, .str [], .str [], .bool false, .str [], .str [], .bool false, .str [], .str []] [(0, 3, .t 162), (3, 3, .t 163), (6, 3, .t 164)], (some (159, true))⟩,
 ⟨(some 166), .callf 18 [.t 161, .t 165], (some (159, true))⟩,
 ⟨(some 167), .pick (.t 159) (.t 166) (.c (.bool false)), none⟩,
 ⟨(some 168), .mv (.t 167), none⟩,
 ⟨(some 169), .faddr 1 (.t 17), (some (168, true))⟩,
 ⟨(some 170), .load true 3 (.t 169), (some (168, true))⟩,
 ⟨(some 171), .build [.bool false, .str [], .str []] [], (some (168, true))⟩,
 ⟨(some 172), .eqagg [0, 2, 2] false (.t 170) (.t 171), (some (168, true))⟩,
 ⟨(some 173), .pick (.t 168) (.t 172) (.c (.bool false)), none⟩,
 ⟨(some 174), .mv (.t 173), none⟩,
 ⟨(some 175), .faddr 0 (.t 19), (some (174, true))⟩,
 ⟨(some 176), .load false 1 (.t 175), (some (174, true))⟩,
 ⟨(some 177), .mv (.t 3), (some (174, true))⟩,
 ⟨(some 178), .iaddrS 1 (.t 177) (.c (.int .i64 2)), (some (174, true))⟩,
 ⟨(some 179), .load false 1 (.t 178), (some (174, true))⟩,
 ⟨(some 180), .callf 18 [.t 176, .t 179], (some (174, true))⟩,
 ⟨(some 181), .pick (.t 174) (.t 180) (.c (.bool false)), none⟩,
 ⟨(some 182), .mv (.t 181), none⟩,
 ⟨(some 183), .faddr 1 (.t 19), (some (182, true))⟩,
 ⟨(some 184), .load true 3 (.t 183), (some (182, true))⟩,
 ⟨(some 185), .callf 28 [.c (.int .i64 3)], (some (182, true))⟩,
 ⟨(some 186), .eqagg [0, 2, 2] false (.t 184) (.t 185), (some (182, true))⟩,
 ⟨(some 187), .pick (.t 182) (.t 186) (.c (.bool false)), none⟩,
 ⟨(some 22), .mv (.t 187), none⟩]
def wzfc : List (List Nat) := [[], [0], [], [2], [2, 3], [0, 1, 2, 3, 4], [0, 1, 2, 3, 4, 5], [0, 1, 2, 3, 4, 5, 6], [0, 1, 2, 3, 4, 5, 6, 7], [0, 1, 2, 3, 4, 5, 6], [0, 1, 2, 3, 4, 5, 6, 7, 8, 9], [0, 1, 2, 3, 4, 5, 6, 7, 8, 9, 10], [0, 1, 2, 3, 4, 5, 6, 7, 8, 9, 10, 11], [0, 1, 2, 3, 4, 5, 6, 7, 8, 9, 10, 11, 12], [0, 1, 2, 3, 4, 5, 6, 7, 8, 9, 10, 11, 12, 13], [0, 1, 2, 3, 4, 5, 6, 7, 8, 9, 10, 11, 12], [0, 1, 2, 3, 4, 5, 6, 7, 8, 9, 10, 11, 12], [0, 1, 2, 3, 4, 5, 6, 7, 8, 9, 10, 11, 12, 15], [0, 1, 2, 3, 4, 5, 6, 7, 8, 9, 10, 11, 12, 15, 16, 17], [0, 1, 2, 3, 4, 5, 6, 7, 8, 9, 10, 11, 12, 13, 14, 15, 16, 17, 18], [0, 1, 2, 3, 4, 5, 6, 7, 8, 9, 10, 11, 12, 13, 14, 15, 16, 17, 18, 19], [0, 1, 2, 3, 4, 5, 6, 7, 8, 9, 10, 11, 12, 13, 14, 15, 16, 17, 18, 19, 20], [0, 1, 2, 3, 4, 5, 6, 7, 8, 9, 10, 11, 12, 13, 14, 15, 16, 17, 18, 19, 20, 21], [0, 1, 2, 3, 4, 5, 6, 7, 8, 9, 10, 11, 12, 13, 14, 15, 16, 17, 18, 19, 20, 21, 22], [0, 1, 2, 3, 4, 5, 6, 7, 8, 9, 10, 11, 12, 13, 14, 15, 16, 17, 18, 19, 20, 21], [0, 1, 2, 3, 4, 5, 6, 7, 8, 9, 10, 11, 12, 13, 14, 15, 16, 17, 18, 19, 20, 21, 22, 23, 24], [0, 1, 2, 3, 4, 5, 6, 7, 8, 9, 10, 11, 12, 13, 14, 15, 16, 17, 18, 19, 20, 21, 22, 23, 24, 25], [0, 1, 2, 3, 4, 5, 6, 7, 8, 9, 10, 11, 12, 13, 14, 15, 16, 17, 18, 19, 20, 21, 22, 23, 24, 25, 26], [0, 1, 2, 3, 4, 5, 6, 7, 8, 9, 10, 11, 12, 13, 14, 15, 16, 17, 18, 19, 20, 21, 22, 23, 24, 25, 26, 27], [0, 1, 2, 3, 4, 5, 6, 7, 8, 9, 10, 11, 12, 13, 14, 15, 16, 17, 18, 19, 20, 21, 22, 23, 24, 25, 26, 27, 28], [0, 1, 2, 3, 4, 5, 6, 7, 8, 9, 10, 11, 12, 13, 14, 15, 16, 17, 18, 19, 20, 21, 22, 23, 24, 25, 26, 27], [0, 1, 2, 3, 4, 5, 6, 7, 8, 9, 10, 11, 12, 13, 14, 15, 16, 17, 18, 19, 20, 21, 22, 23, 24, 25, 26, 27, 30], [0, 1, 2, 3, 4, 5, 6, 7, 8, 9, 10, 11, 12, 13, 14, 15, 16, 17, 18, 19, 20, 21, 22, 23, 24, 25, 26, 27, 30, 31], [0, 1, 2, 3, 4, 5, 6, 7, 8, 9, 10, 11, 12, 13, 14, 15, 16, 17, 18, 19, 20, 21, 22, 23, 24, 25, 26, 27, 28, 29, 30, 31, 32], [0, 1, 2, 3, 4, 5, 6, 7, 8, 9, 10, 11, 12, 13, 14, 15, 16, 17, 18, 19, 20, 21, 22, 23, 24, 25, 26, 27, 28, 29, 30, 31, 32, 33], [0, 1, 2, 3, 4, 5, 6, 7, 8, 9, 10, 11, 12, 13, 14, 15, 16, 17, 18, 19, 20, 21, 22, 23, 24, 25, 26, 27, 28, 29, 30, 31, 32, 33, 34], [0, 1, 2, 3, 4, 5, 6, 7, 8, 9, 10, 11, 12, 13, 14, 15, 16, 17, 18, 19, 20, 21, 22, 23, 24, 25, 26, 27, 28, 29, 30, 31, 32, 33, 34, 35], [0, 1, 2, 3, 4, 5, 6, 7, 8, 9, 10, 11, 12, 13, 14, 15, 16, 17, 18, 19, 20, 21, 22, 23, 24, 25, 26, 27, 28, 29, 30, 31, 32, 33, 34, 35, 36], [0, 1, 2, 3, 4, 5, 6, 7, 8, 9, 10, 11, 12, 13, 14, 15, 16, 17, 18, 19, 20, 21, 22, 23, 24, 25, 26, 27, 28, 29, 30, 31, 32, 33, 34, 35], [0, 1, 2, 3, 4, 5, 6, 7, 8, 9, 10, 11, 12, 13, 14, 15, 16, 17, 18, 19, 20, 21, 22, 23, 24, 25, 26, 27, 28, 29, 30, 31, 32, 33, 34, 35, 36, 37, 38], [0, 1, 2, 3, 4, 5, 6, 7, 8, 9, 10, 11, 12, 13, 14, 15, 16, 17, 18, 19, 20, 21, 22, 23, 24, 25, 26, 27, 28, 29, 30, 31, 32, 33, 34, 35, 36, 37, 38, 39], [0, 1, 2, 3, 4, 5, 6, 7, 8, 9, 10, 11, 12, 13, 14, 15, 16, 17, 18, 19, 20, 21, 22, 23, 24, 25, 26, 27, 28, 29, 30, 31, 32, 33, 34, 35, 36, 37, 38, 39, 40]]
def qz87 (b : Nat) : List qzc := [
 ⟨(some 188), .mv (.t 21), none⟩,
 ⟨(some 189), .mv (.t 188), none⟩,
 ⟨(some 190), .mv (.t 22), (some (189, true))⟩,
 ⟨(some 191), .pick (.t 189) (.t 190) (.c (.bool false)), none⟩,
 ⟨(some 192), .mv (.t 191), none⟩,
 ⟨(some 193), .mv (.t 1), (some (192, true))⟩,
 ⟨(some 194), .callf 28 [.c (.int .i64 10)], (some (192, true))⟩,
 ⟨(some 195), .load true 4 (.t 15), (some (192, true))⟩,
 ⟨(some 196), .callf 19 [.t 193, .t 194, .t 195], (some (192, true))⟩,
 ⟨(some 197), .pick (.t 192) (.t 196) (.c (.bool false)), none⟩,
 ⟨(some 198), .mv (.t 197), none⟩,
 ⟨(some 199), .mv (.t 1), (some (198, true))⟩,
 ⟨(some 200), .callf 28 [.c (.int .i64 10)], (some (198, true))⟩,
 ⟨(some 201), .fslice (b + 15) 1 3 [.int .i64 0, .int .i64 0, .int .i64 0] [(0, 1, .c (.int .i64 3)), (1, 1, .c (.int .i64 5)), (2, 1, .c (.int .i64 2))], (some (198, true))⟩,
 ⟨(some 202), .callf 32 [.t 201], (some (198, true))⟩,
 ⟨(some 203), .build [.nils, .bool false, .str [], .str []] [(0, 1, .t 202)], (some (198, true))⟩,
 ⟨(some 204), .callf 19 [.t 199, .t 200, .t 203], (some (198, true))⟩,
 ⟨(some 205), .not (.t 204), (some (198, true))⟩,
 ⟨(some 206), .pick (.t 198) (.t 205) (.c (.bool false)), none⟩,
 ⟨(some 0), .mv (.t 206), none⟩]
def wzev : List (List Nat) := [[], [0], [0, 1], [0, 1, 2], [0, 1, 2, 3], [0, 1, 2, 3, 4], [0, 1, 2, 3, 4], [0, 1, 2, 3, 4], [0, 1, 2, 3, 4, 5, 6, 7], [0, 1, 2, 3, 4, 5, 6, 7, 8], [0, 1, 2, 3, 4, 5, 6, 7, 8, 9], [0, 1, 2, 3, 4, 5, 6, 7, 8, 9, 10], [0, 1, 2, 3, 4, 5, 6, 7, 8, 9, 10], [0, 1, 2, 3, 4, 5, 6, 7, 8, 9, 10], [0, 1, 2, 3, 4, 5, 6, 7, 8, 9, 10, 12, 13], [0, 1, 2, 3, 4, 5, 6, 7, 8, 9, 10, 12, 13, 14], [0, 1, 2, 3, 4, 5, 6, 7, 8, 9, 10, 11, 12, 13, 14, 15], [0, 1, 2, 3, 4, 5, 6, 7, 8, 9, 10, 11, 12, 13, 14, 15, 16], [0, 1, 2, 3, 4, 5, 6, 7, 8, 9, 10, 11, 12, 13, 14, 15, 16, 17], [0, 1, 2, 3, 4, 5, 6, 7, 8, 9, 10, 11, 12, 13, 14, 15, 16, 17, 18]]
def c9 (b : Nat) : qzk := .seq (.reg false (r9_0 b) []) (.seq (.reg false (r9_1 b) []) (.seq (.reg false (r9_2 b) []) (.seq (.reg false (r9_3 b) []) (.seq (.seq (.reg false (r9_4 b) []) (.block 0 (.loop (l9_0 b)))) (.seq (.reg false (qz6p b) []) (.seq (.seq (.reg false (qz4d b) []) (.block 2 (.loop (l9_1 b)))) (.seq (.reg false (qz5g b) []) (.seq (.reg false (wzci b) []) (.seq (.reg false (qz5e b) []) (.seq (.reg false (qz61 b) []) (.seq (.reg false (wzay b) []) (.seq (.reg true (wzbh b) wzfc) (.seq (.reg true (qz87 b) wzev) (.ret))))))))))))))
def rs9 : List ARes := [.t 0]
theorem ck9 : ∃ c, Tryz.f9.body = some c ∧ ∀ b, qzg Tryz.prog c (c9 b) = true := ⟨_, rfl, fun b => by kernel_rfl⟩
theorem cr9 : qzi Tryz.prog Tryz.f9.results.toList rs9 = true := by kernel_rfl
def wzcq (b : Nat) : List qzc := [
 ⟨(some 3), .box (b + 0) (.t 1), none⟩,
 ⟨(some 4), .mv (.c (.nils)), none⟩,
 ⟨(some 5), .mv (.c (.int .i64 0)), none⟩]
def wzbr (b : Nat) : List qzc := [
 ⟨(some 7), .mv (.t 0), none⟩,
 ⟨(some 8), .load true 3 (.t 3), none⟩,
 ⟨(some 9), .callf 33 [.t 7, .t 8], none⟩,
 ⟨(some 6), .mv (.t 9), none⟩]
def qz6z (b : Nat) : List qzc := [
 ⟨(some 10), .mv (.t 6), none⟩,
 ⟨(some 11), .bin .neq false (.t 10) (.c (.int .i64 0)), none⟩]
def wza1 (b : Nat) : List qzc := [
 ⟨(some 12), .mv (.t 6), none⟩,
 ⟨(some 4), .mv (.c (.nils)), none⟩,
 ⟨(some 5), .mv (.t 12), none⟩]
def qz7o (b : Nat) : List qzc := [
 ⟨(some 13), .mv (.t 0), none⟩,
 ⟨(some 14), .load true 3 (.t 3), none⟩,
 ⟨(some 15), .build [.bool false, .str [], .str []] [(0, 3, .t 14)], none⟩,
 ⟨(some 16), .mkfn 35 1 [.t 15], none⟩,
 ⟨(some 17), .callf 34 [.t 13, .t 16], none⟩,
 ⟨(some 4), .mv (.t 17), none⟩,
 ⟨(some 5), .mv (.c (.int .i64 0)), none⟩]
def c10 (b : Nat) : qzk := .seq (.reg false (wzcq b) []) (.seq (.seq (.reg false (wzbr b) []) (.seq (.reg false (qz6z b) []) (.cond (.t 11) (.seq (.reg false (wza1 b) []) (.ret)) (.skip)))) (.seq (.reg false (qz7o b) []) (.ret)))
def rs10 : List ARes := [.t 4, .t 5]
theorem ck10 : ∃ c, Tryz.f10.body = some c ∧ ∀ b, qzg Tryz.prog c (c10 b) = true := ⟨_, rfl, fun b => by kernel_rfl⟩
theorem cr10 : qzi Tryz.prog Tryz.f10.results.toList rs10 = true := by kernel_rfl
def qz43 (b : Nat) : List qzc := [
 ⟨(some 3), .box (b + 0) (.t 1), none⟩,
 ⟨(some 4), .alloc (b + 1) [.bool false, .str [], .str []], none⟩,
 ⟨(some 5), .mv (.c (.int .i64 0)), none⟩]
def qz6k (b : Nat) : List qzc := [
 ⟨(some 7), .mv (.t 0), none⟩,
 ⟨(some 8), .load true 3 (.t 3), none⟩,
 ⟨(some 9), .callf 33 [.t 7, .t 8], none⟩,
 ⟨(some 6), .mv (.t 9), none⟩]
def wzak (b : Nat) : List qzc := [
 ⟨(some 10), .mv (.t 6), none⟩,
 ⟨(some 11), .bin .neq false (.t 10) (.c (.int .i64 0)), none⟩]
def qz5y (b : Nat) : List qzc := [
 ⟨(some 12), .build [.bool false, .str [], .str []] [], none⟩,
 ⟨(some 13), .mv (.t 6), none⟩,
 ⟨none, .store 3 (.t 4) (.t 12), none⟩,
 ⟨(some 5), .mv (.t 13), none⟩]
def qz75 (b : Nat) : List qzc := [
 ⟨(some 14), .load true 3 (.t 3), none⟩,
 ⟨(some 15), .mv (.t 0), none⟩,
 ⟨(some 16), .callf 36 [.t 15], none⟩,
 ⟨(some 17), .callf 26 [.t 14, .t 16], none⟩,
 ⟨(some 18), .bin .gtr false (.t 17) (.c (.int .i64 0)), none⟩]
def wzec : List (List Nat) := [[], [], [1], [0, 1, 2], [0, 1, 2, 3]]
def qz8c (b : Nat) : List qzc := [
 ⟨(some 19), .build [.bool false, .str [], .str []] [], none⟩,
 ⟨none, .store 3 (.t 4) (.t 19), none⟩,
 ⟨(some 5), .mv (.c (.int .i64 8)), none⟩]
def qz9w (b : Nat) : List qzc := [
 ⟨(some 20), .mv (.t 0), none⟩,
 ⟨(some 21), .load true 3 (.t 3), none⟩,
 ⟨(some 22), .callf 37 [.t 20, .t 21], none⟩,
 ⟨none, .store 3 (.t 4) (.t 22), none⟩,
 ⟨(some 5), .mv (.c (.int .i64 0)), none⟩]
def c11 (b : Nat) : qzk := .seq (.reg false (qz43 b) []) (.seq (.seq (.reg false (qz6k b) []) (.seq (.reg false (wzak b) []) (.cond (.t 11) (.seq (.reg false (qz5y b) []) (.ret)) (.skip)))) (.seq (.seq (.reg true (qz75 b) wzec) (.cond (.t 18) (.seq (.reg false (qz8c b) []) (.ret)) (.skip))) (.seq (.reg false (qz9w b) []) (.ret))))
def rs11 : List ARes := [.c 4 true 3, .t 5]
theorem ck11 : ∃ c, Tryz.f11.body = some c ∧ ∀ b, qzg Tryz.prog c (c11 b) = true := ⟨_, rfl, fun b => by kernel_rfl⟩
theorem cr11 : qzi Tryz.prog Tryz.f11.results.toList rs11 = true := by kernel_rfl
def qz4v (b : Nat) : List qzc := [
 ⟨(some 3), .box (b + 0) (.t 1), none⟩,
 ⟨(some 4), .alloc (b + 1) [.nils, .bool false, .str [], .str []], none⟩,
 ⟨(some 5), .mv (.c (.int .i64 0)), none⟩]
def wzbe (b : Nat) : List qzc := [
 ⟨(some 11), .mv (.t 0), none⟩,
 ⟨(some 12), .load true 3 (.t 3), none⟩,
 ⟨(some 13), .callf 33 [.t 11, .t 12], none⟩,
 ⟨(some 6), .mv (.t 13), none⟩]
def qz76 (b : Nat) : List qzc := [
 ⟨(some 14), .mv (.t 6), none⟩,
 ⟨(some 15), .bin .neq false (.t 14) (.c (.int .i64 0)), none⟩]
def qz7n (b : Nat) : List qzc := [
 ⟨(some 16), .build [.nils, .bool false, .str [], .str []] [], none⟩,
 ⟨(some 17), .mv (.t 6), none⟩,
 ⟨none, .store 4 (.t 4) (.t 16), none⟩,
 ⟨(some 5), .mv (.t 17), none⟩]
def qz98 (b : Nat) : List qzc := [
 ⟨(some 18), .mv (.t 0), none⟩,
 ⟨(some 7), .mv (.t 18), none⟩]
def qz8z (b : Nat) : List qzc := [
 ⟨(some 19), .mv (.t 7), none⟩,
 ⟨(some 20), .callf 38 [.t 19], none⟩,
 ⟨(some 21), .mv (.t 7), none⟩,
 ⟨(some 22), .callf 36 [.t 21], none⟩,
 ⟨(some 8), .alloc (b + 2) [.bool false, .str [], .str []], none⟩,
 ⟨(some 9), .alloc (b + 3) [.bool false, .str [], .str []], none⟩,
 ⟨none, .store 3 (.t 8) (.t 20), none⟩,
 ⟨none, .store 3 (.t 9) (.t 22), none⟩]
def qz59 (b : Nat) : List qzc := [
 ⟨(some 24), .load true 3 (.t 3), none⟩,
 ⟨(some 25), .load true 3 (.t 8), none⟩,
 ⟨(some 26), .callf 26 [.t 24, .t 25], none⟩,
 ⟨(some 27), .bin .lss false (.t 26) (.c (.int .i64 0)), none⟩,
 ⟨(some 23), .mv (.t 27), none⟩]
def wza6 (b : Nat) : List qzc := [
 ⟨(some 28), .load true 3 (.t 3), none⟩,
 ⟨(some 29), .load true 3 (.t 8), none⟩,
 ⟨(some 30), .callf 39 [.t 28, .t 29], none⟩,
 ⟨(some 10), .alloc (b + 4) [.bool false, .str [], .str []], none⟩,
 ⟨none, .store 3 (.t 10) (.t 30), none⟩]
def qz6e (b : Nat) : List qzc := [
 ⟨(some 31), .mv (.t 7), none⟩,
 ⟨(some 32), .mkfn 40 0 [.t 10], none⟩,
 ⟨(some 33), .callf 34 [.t 31, .t 32], none⟩,
 ⟨(some 34), .build [.nils, .bool false, .str [], .str []] [(0, 1, .t 33)], none⟩,
 ⟨none, .store 4 (.t 4) (.t 34), none⟩,
 ⟨(some 5), .mv (.c (.int .i64 0)), none⟩]
def qz8o (b : Nat) : List qzc := [
 ⟨(some 36), .load true 3 (.t 3), none⟩,
 ⟨(some 37), .load true 3 (.t 9), none⟩,
 ⟨(some 38), .callf 26 [.t 36, .t 37], none⟩,
 ⟨(some 39), .bin .gtr false (.t 38) (.c (.int .i64 0)), none⟩,
 ⟨(some 35), .mv (.t 39), none⟩]
def qzz9 (b : Nat) : List qzc := [
 ⟨(some 40), .mv (.t 7), none⟩,
 ⟨(some 41), .callf 34 [.t 40, .c (.fn 41 0 [])], none⟩,
 ⟨(some 42), .load true 3 (.t 3), none⟩,
 ⟨(some 43), .load true 3 (.t 9), none⟩,
 ⟨(some 44), .callf 29 [.t 42, .t 43], none⟩,
 ⟨(some 45), .build [.nils, .bool false, .str [], .str []] [(0, 1, .t 41), (1, 3, .t 44)], none⟩,
 ⟨none, .store 4 (.t 4) (.t 45), none⟩,
 ⟨(some 5), .mv (.c (.int .i64 0)), none⟩]
def wzd6 : List (List Nat) := [[], [0], [], [], [0, 1, 2, 3], [0, 1, 2, 3, 4], [0, 1, 2, 3, 4, 5], [0, 1, 2, 3, 4, 5, 6]]
def qz0c (b : Nat) : List qzc := [
 ⟨(some 46), .mv (.t 7), none⟩,
 ⟨(some 47), .mv (.t 7), none⟩,
 ⟨(some 48), .load true 3 (.t 3), none⟩,
 ⟨(some 49), .callf 37 [.t 47, .t 48], none⟩,
 ⟨(some 50), .build [.bool false, .str [], .str []] [(0, 3, .t 49)], none⟩,
 ⟨(some 51), .mkfn 35 1 [.t 50], none⟩,
 ⟨(some 52), .callf 34 [.t 46, .t 51], none⟩,
 ⟨(some 53), .build [.nils, .bool false, .str [], .str []] [(0, 1, .t 52)], none⟩,
 ⟨none, .store 4 (.t 4) (.t 53), none⟩,
 ⟨(some 5), .mv (.c (.int .i64 0)), none⟩]
def c12 (b : Nat) : qzk := .seq (.reg false (qz4v b) []) (.seq (.seq (.reg false (wzbe b) []) (.seq (.reg false (qz76 b) []) (.cond (.t 15) (.seq (.reg false (qz7n b) []) (.ret)) (.skip)))) (.seq (.reg false (qz98 b) []) (.seq (.reg false (qz8z b) []) (.seq (.block 0 (.seq (.reg false (qz59 b) []) (.cond (.t 23) (.seq (.reg false (wza6 b) []) (.seq (.reg false (qz6e b) []) (.ret))) (.seq (.reg false (qz8o b) []) (.cond (.t 35) (.seq (.reg true (qzz9 b) wzd6) (.ret)) (.skip)))))) (.seq (.reg false (qz0c b) []) (.ret))))))
def rs12 : List ARes := [.c 4 true 4, .t 5]
theorem ck12 : ∃ c, Tryz.f12.body = some c ∧ ∀ b, qzg Tryz.prog c (c12 b) = true := ⟨_, rfl, fun b => by kernel_rfl⟩
theorem cr12 : qzi Tryz.prog Tryz.f12.results.toList rs12 = true := by kernel_rfl
def qz7h (b : Nat) : List qzc := [
 ⟨(some 2), .mv (.c (.int .i64 0)), none⟩]
def qz67 (b : Nat) : List qzc := [
 ⟨(some 6), .mv (.t 0), none⟩,
 ⟨(some 7), .len false (.t 6), none⟩,
 ⟨(some 3), .mv (.t 7), none⟩]
def wzat (b : Nat) : List qzc := [
 ⟨(some 8), .mv (.t 3), none⟩,
 ⟨(some 9), .bin .lss false (.t 8) (.c (.int .i64 1)), none⟩,
 ⟨(some 10), .mv (.t 9), none⟩,
 ⟨(some 11), .mv (.t 3), (some (10, false))⟩,
 ⟨(some 12), .bin .gtr false (.t 11) (.c (.int .i64 8)), (some (10, false))⟩,
 ⟨(some 13), .pick (.t 10) (.c (.bool true)) (.t 12), none⟩]
def qz6h (b : Nat) : List qzc := [
 ⟨(some 2), .mv (.c (.int .i64 2)), none⟩]
def qz7v (b : Nat) : List qzc := [
 ⟨(some 14), .mv (.t 0), none⟩,
 ⟨(some 15), .len false (.t 14), none⟩,
 ⟨(some 16), .mv (.c (.int .i64 0)), none⟩]
def wzaj (b : Nat) : List qzc := [
 ⟨(some 17), .bin .lss false (.t 16) (.t 15), none⟩]
def wza4 (b : Nat) : List qzc := [
 ⟨(some 18), .mv (.t 16), none⟩,
 ⟨(some 19), .iaddrS 8 (.t 14) (.t 16), none⟩,
 ⟨(some 20), .load true 8 (.t 19), none⟩,
 ⟨(some 5), .alloc (b + 0) [.int .i64 0, .int .i64 0, .bool false, .str [], .str [], .bool false, .str [], .str []], none⟩,
 ⟨(some 4), .mv (.t 18), none⟩,
 ⟨none, .store 8 (.t 5) (.t 20), none⟩]
def qz53 (b : Nat) : List qzc := [
 ⟨(some 22), .faddr 0 (.t 5), none⟩,
 ⟨(some 23), .load false 1 (.t 22), none⟩,
 ⟨(some 24), .bin .lss false (.t 23) (.c (.int .i64 0)), none⟩,
 ⟨(some 25), .mv (.t 24), none⟩,
 ⟨(some 26), .faddr 0 (.t 5), (some (25, false))⟩,
 ⟨(some 27), .load false 1 (.t 26), (some (25, false))⟩,
 ⟨(some 28), .bin .geq false (.t 27) (.c (.int .i64 8)), (some (25, false))⟩,
 ⟨(some 29), .pick (.t 25) (.c (.bool true)) (.t 28), none⟩,
 ⟨(some 30), .mv (.t 29), none⟩,
 ⟨(some 31), .faddr 1 (.t 5), (some (30, false))⟩,
 ⟨(some 32), .load false 1 (.t 31), (some (30, false))⟩,
 ⟨(some 33), .bin .lss false (.t 32) (.c (.int .i64 1)), (some (30, false))⟩,
 ⟨(some 34), .pick (.t 30) (.c (.bool true)) (.t 33), none⟩,
 ⟨(some 35), .mv (.t 34), none⟩,
 ⟨(some 36), .faddr 1 (.t 5), (some (35, false))⟩,
 ⟨(some 37), .load false 1 (.t 36), (some (35, false))⟩,
 ⟨(some 38), .bin .gtr false (.t 37) (.c (.int .i64 1000000)), (some (35, false))⟩,
 ⟨(some 39), .pick (.t 35) (.c (.bool true)) (.t 38), none⟩,
 ⟨(some 21), .mv (.t 39), none⟩]
def qz9h (b : Nat) : List qzc := [
 ⟨(some 2), .mv (.c (.int .i64 3)), none⟩]
def qz5h (b : Nat) : List qzc := [
 ⟨(some 41), .faddr 2 (.t 5), none⟩,
 ⟨(some 42), .load true 3 (.t 41), none⟩,
 ⟨(some 43), .callf 51 [.t 42], none⟩,
 ⟨(some 44), .not (.t 43), none⟩,
 ⟨(some 45), .mv (.t 44), none⟩,
 ⟨(some 46), .faddr 5 (.t 5), (some (45, false))⟩,
 ⟨(some 47), .load true 3 (.t 46), (some (45, false))⟩,
 ⟨(some 48), .callf 51 [.t 47], (some (45, false))⟩,
 ⟨(some 49), .not (.t 48), (some (45, false))⟩,
 ⟨(some 50), .pick (.t 45) (.c (.bool true)) (.t 49), none⟩,
 ⟨(some 51), .mv (.t 50), none⟩,
 ⟨(some 52), .faddr 2 (.t 5), (some (51, false))⟩,
 ⟨(some 53), .load true 3 (.t 52), (some (51, false))⟩,
 ⟨(some 54), .faddr 5 (.t 5), (some (51, false))⟩,
 ⟨(some 55), .load true 3 (.t 54), (some (51, false))⟩,
 ⟨(some 56), .callf 26 [.t 53, .t 55], (some (51, false))⟩,
 ⟨(some 57), .bin .gtr false (.t 56) (.c (.int .i64 0)), (some (51, false))⟩,
 ⟨(some 58), .pick (.t 51) (.c (.bool true)) (.t 57), none⟩,
 ⟨(some 40), .mv (.t 58), none⟩]
def qzy7 (b : Nat) : List qzc := [
 ⟨(some 2), .mv (.c (.int .i64 1)), none⟩]
def qzx6 (b : Nat) : List qzc := [
 ⟨(some 60), .mv (.t 0), none⟩,
 ⟨(some 61), .mv (.t 4), none⟩,
 ⟨(some 62), .slice false 8 (.t 60) none (some (.t 61)), none⟩,
 ⟨(some 63), .mkfn 53 0 [.t 5], none⟩,
 ⟨(some 64), .callf 52 [.t 62, .t 63], none⟩,
 ⟨(some 59), .mv (.t 64), none⟩]
def qzza (b : Nat) : List qzc := [
 ⟨(some 2), .mv (.c (.int .i64 9)), none⟩]
def qzxx (b : Nat) : List qzc := [
 ⟨(some 65), .bin .add false (.t 16) (.c (.int .i64 1)), none⟩,
 ⟨(some 16), .mv (.t 65), none⟩]
def wzbl (b : Nat) : qzk := .seq (.reg false (wzaj b) []) (.seq (.cond (.t 17) (.skip) (.exit 0)) (.seq (.block 1 (.seq (.reg false (wza4 b) []) (.block 2 (.seq (.reg false (qz53 b) []) (.cond (.t 21) (.seq (.reg false (qz9h b) []) (.ret)) (.seq (.reg false (qz5h b) []) (.cond (.t 40) (.seq (.reg false (qzy7 b) []) (.ret)) (.seq (.reg false (qzx6 b) []) (.cond (.t 59) (.seq (.reg false (qzza b) []) (.ret)) (.skip)))))))))) (.reg false (qzxx b) [])))
def qzz5 (b : Nat) : List qzc := [
 ⟨(some 2), .mv (.c (.int .i64 0)), none⟩]
def c16 (b : Nat) : qzk := .seq (.reg false (qz7h b) []) (.seq (.seq (.reg false (qz67 b) []) (.seq (.reg false (wzat b) []) (.cond (.t 13) (.seq (.reg false (qz6h b) []) (.ret)) (.skip)))) (.seq (.seq (.reg false (qz7v b) []) (.block 0 (.loop (wzbl b)))) (.seq (.reg false (qzz5 b) []) (.ret))))
def rs16 : List ARes := [.t 2]
theorem ck16 : ∃ c, Tryz.f16.body = some c ∧ ∀ b, qzg Tryz.prog c (c16 b) = true := ⟨_, rfl, fun b => by kernel_rfl⟩
theorem cr16 : qzi Tryz.prog Tryz.f16.results.toList rs16 = true := by kernel_rfl
def qz7s (b : Nat) : List qzc := [
 ⟨(some 4), .mv (.c (.bool false)), none⟩]
def wzch (b : Nat) : List qzc := [
 ⟨(some 6), .mv (.t 0), none⟩,
 ⟨(some 7), .len false (.t 6), none⟩,
 ⟨(some 8), .mv (.t 1), none⟩,
 ⟨(some 9), .len false (.t 8), none⟩,
 ⟨(some 10), .bin .neq false (.t 7) (.t 9), none⟩]
def qz8g (b : Nat) : List qzc := [
 ⟨(some 4), .mv (.c (.bool false)), none⟩]
def qz33 (b : Nat) : List qzc := [
 ⟨(some 5), .mv (.c (.int .i64 0)), none⟩]
def qz6i (b : Nat) : List qzc := [
 ⟨(some 11), .mv (.t 5), none⟩,
 ⟨(some 12), .mv (.t 0), none⟩,
 ⟨(some 13), .len false (.t 12), none⟩,
 ⟨(some 14), .bin .lss false (.t 11) (.t 13), none⟩]
def qz4a (b : Nat) : List qzc := [
 ⟨(some 17), .mv (.t 0), none⟩,
 ⟨(some 18), .mv (.t 5), none⟩,
 ⟨(some 19), .iaddrS 3 (.t 17) (.t 18), none⟩,
 ⟨(some 20), .load true 3 (.t 19), none⟩,
 ⟨(some 21), .mv (.t 1), none⟩,
 ⟨(some 22), .mv (.t 5), none⟩,
 ⟨(some 23), .iaddrS 3 (.t 21) (.t 22), none⟩,
 ⟨(some 24), .load true 3 (.t 23), none⟩,
 ⟨(some 25), .eqagg [0, 2, 2] true (.t 20) (.t 24), none⟩]
def wze4 : List (List Nat) := [[], [], [0, 1], [0, 1, 2], [], [], [4, 5], [4, 5, 6], [0, 1, 2, 3, 4, 5, 6, 7]]
def qz5z (b : Nat) : List qzc := [
 ⟨(some 4), .mv (.c (.bool false)), none⟩]
def wzb2 (b : Nat) : List qzc := [
 ⟨(some 15), .mv (.t 5), none⟩,
 ⟨(some 16), .bin .add false (.t 15) (.c (.int .i64 1)), none⟩,
 ⟨(some 5), .mv (.t 16), none⟩]
def qz7a (b : Nat) : qzk := .seq (.seq (.reg false (qz6i b) []) (.cond (.t 14) (.skip) (.exit 0))) (.seq (.block 1 (.seq (.reg true (qz4a b) wze4) (.cond (.t 25) (.seq (.reg false (qz5z b) []) (.ret)) (.skip)))) (.reg false (wzb2 b) []))
def qz7p (b : Nat) : List qzc := [
 ⟨(some 4), .mv (.c (.bool true)), none⟩]
def c18 (b : Nat) : qzk := .seq (.reg false (qz7s b) []) (.seq (.seq (.reg false (wzch b) []) (.cond (.t 10) (.seq (.reg false (qz8g b) []) (.ret)) (.skip))) (.seq (.seq (.reg false (qz33 b) []) (.block 0 (.loop (qz7a b)))) (.seq (.reg false (qz7p b) []) (.ret))))
def rs18 : List ARes := [.t 4]
theorem ck18 : ∃ c, Tryz.f18.body = some c ∧ ∀ b, qzg Tryz.prog c (c18 b) = true := ⟨_, rfl, fun b => by kernel_rfl⟩
theorem cr18 : qzi Tryz.prog Tryz.f18.results.toList rs18 = true := by kernel_rfl
def qz5q (b : Nat) : List qzc := [
 ⟨(some 4), .box (b + 0) (.t 1), none⟩,
 ⟨(some 5), .box (b + 1) (.t 2), none⟩,
 ⟨(some 6), .mv (.c (.bool false)), none⟩]
def wza7 (b : Nat) : List qzc := [
 ⟨(some 10), .mv (.t 0), none⟩,
 ⟨(some 11), .load true 3 (.t 4), none⟩,
 ⟨(some 12), .callf 12 [.t 10, .t 11], none⟩,
 ⟨(some 9), .mv (.t 12), none⟩,
 ⟨(some 13), .extract 0 (.t 9), none⟩,
 ⟨(some 14), .extract 1 (.t 9), none⟩,
 ⟨(some 7), .alloc (b + 2) [.nils, .bool false, .str [], .str []], none⟩,
 ⟨none, .store 4 (.t 7) (.t 13), none⟩,
 ⟨(some 8), .mv (.t 14), none⟩]
def qz4h (b : Nat) : List qzc := [
 ⟨(some 15), .mv (.t 8), none⟩,
 ⟨(some 16), .bin .eql false (.t 15) (.c (.int .i64 0)), none⟩,
 ⟨(some 17), .mv (.t 16), none⟩,
 ⟨(some 18), .faddr 1 (.t 5), (some (17, true))⟩,
 ⟨(some 19), .load true 3 (.t 18), (some (17, true))⟩,
 ⟨(some 20), .faddr 1 (.t 7), (some (17, true))⟩,
 ⟨(some 21), .load true 3 (.t 20), (some (17, true))⟩,
 ⟨(some 22), .eqagg [0, 2, 2] false (.t 19) (.t 21), (some (17, true))⟩,
 ⟨(some 23), .pick (.t 17) (.t 22) (.c (.bool false)), none⟩,
 ⟨(some 24), .mv (.t 23), none⟩,
 ⟨(some 25), .faddr 0 (.t 5), (some (24, true))⟩,
 ⟨(some 26), .load false 1 (.t 25), (some (24, true))⟩,
 ⟨(some 27), .faddr 0 (.t 7), (some (24, true))⟩,
 ⟨(some 28), .load false 1 (.t 27), (some (24, true))⟩,
 ⟨(some 29), .callf 55 [.t 26, .t 28], (some (24, true))⟩,
 ⟨(some 30), .pick (.t 24) (.t 29) (.c (.bool false)), none⟩,
 ⟨(some 6), .mv (.t 30), none⟩]
def c19 (b : Nat) : qzk := .seq (.reg false (qz5q b) []) (.seq (.reg false (wza7 b) []) (.seq (.reg false (qz4h b) []) (.ret)))
def rs19 : List ARes := [.t 6]
theorem ck19 : ∃ c, Tryz.f19.body = some c ∧ ∀ b, qzg Tryz.prog c (c19 b) = true := ⟨_, rfl, fun b => by kernel_rfl⟩
theorem cr19 : qzi Tryz.prog Tryz.f19.results.toList rs19 = true := by kernel_rfl
def qz7u (b : Nat) : List qzc := [
 ⟨(some 1), .box (b + 0) (.t 0), none⟩,
 ⟨(some 2), .mv (.c (.bool false)), none⟩]
def wzb4 (b : Nat) : List qzc := [
 ⟨(some 3), .load true 3 (.t 1), none⟩,
 ⟨(some 4), .build [.bool false, .str [], .str []] [], none⟩,
 ⟨(some 5), .eqagg [0, 2, 2] false (.t 3) (.t 4), none⟩]
def qz8i (b : Nat) : List qzc := [
 ⟨(some 2), .mv (.c (.bool true)), none⟩]
def qz78 (b : Nat) : List qzc := [
 ⟨(some 6), .faddr 1 (.t 1), none⟩,
 ⟨(some 7), .load false 1 (.t 6), none⟩,
 ⟨(some 8), .bin .neq false (.t 7) (.c (.str [])), none⟩,
 ⟨(some 9), .mv (.t 8), none⟩,
 ⟨(some 10), .faddr 2 (.t 1), (some (9, true))⟩,
 ⟨(some 11), .load false 1 (.t 10), (some (9, true))⟩,
 ⟨(some 12), .bin .neq false (.t 11) (.c (.str [])), (some (9, true))⟩,
 ⟨(some 13), .pick (.t 9) (.t 12) (.c (.bool false)), none⟩,
 ⟨(some 14), .mv (.t 13), none⟩,
 ⟨(some 15), .faddr 1 (.t 1), (some (14, true))⟩,
 ⟨(some 16), .load false 1 (.t 15), (some (14, true))⟩,
 ⟨(some 17), .callf 59 [.t 16], (some (14, true))⟩,
 ⟨(some 18), .pick (.t 14) (.t 17) (.c (.bool false)), none⟩,
 ⟨(some 19), .mv (.t 18), none⟩,
 ⟨(some 20), .faddr 2 (.t 1), (some (19, true))⟩,
 ⟨(some 21), .load false 1 (.t 20), (some (19, true))⟩,
 ⟨(some 22), .callf 59 [.t 21], (some (19, true))⟩,
 ⟨(some 23), .pick (.t 19) (.t 22) (.c (.bool false)), none⟩,
 ⟨(some 24), .mv (.t 23), none⟩,
 ⟨(some 25), .faddr 1 (.t 1), (some (24, true))⟩,
 ⟨(some 26), .load false 1 (.t 25), (some (24, true))⟩,
 ⟨(some 27), .faddr 2 (.t 1), (some (24, true))⟩,
 ⟨(some 28), .load false 1 (.t 27), (some (24, true))⟩,
 ⟨(some 29), .callf 60 [.t 26, .t 28], (some (24, true))⟩,
 ⟨(some 30), .bin .eql false (.t 29) (.c (.str [1])), (some (24, true))⟩,
 ⟨(some 31), .pick (.t 24) (.t 30) (.c (.bool false)), none⟩,
 ⟨(some 2), .mv (.t 31), none⟩]
def c21 (b : Nat) : qzk := .seq (.reg false (qz7u b) []) (.seq (.seq (.reg false (wzb4 b) []) (.cond (.t 5) (.seq (.reg false (qz8i b) []) (.ret)) (.skip))) (.seq (.reg false (qz78 b) []) (.ret)))
def rs21 : List ARes := [.t 2]
theorem ck21 : ∃ c, Tryz.f21.body = some c ∧ ∀ b, qzg Tryz.prog c (c21 b) = true := ⟨_, rfl, fun b => by kernel_rfl⟩
theorem cr21 : qzi Tryz.prog Tryz.f21.results.toList rs21 = true := by kernel_rfl
def qz5t (b : Nat) : List qzc := [
 ⟨(some 2), .box (b + 0) (.t 0), none⟩,
 ⟨(some 3), .box (b + 1) (.t 1), none⟩,
 ⟨(some 4), .alloc (b + 2) [.bool false, .str [], .str []], none⟩]
def qz5n (b : Nat) : List qzc := [
 ⟨(some 5), .load true 3 (.t 2), none⟩,
 ⟨(some 6), .load true 3 (.t 3), none⟩,
 ⟨(some 7), .callf 26 [.t 5, .t 6], none⟩,
 ⟨(some 8), .bin .leq false (.t 7) (.c (.int .i64 0)), none⟩]
def qz4o (b : Nat) : List qzc := [
 ⟨(some 9), .load true 3 (.t 2), none⟩,
 ⟨(some 10), .callf 61 [.t 9], none⟩,
 ⟨(some 11), .callf 62 [.t 10], none⟩,
 ⟨none, .store 3 (.t 4) (.t 11), none⟩]
def qz9m (b : Nat) : List qzc := [
 ⟨(some 12), .load true 3 (.t 3), none⟩,
 ⟨(some 13), .callf 61 [.t 12], none⟩,
 ⟨(some 14), .callf 62 [.t 13], none⟩,
 ⟨none, .store 3 (.t 4) (.t 14), none⟩]
def c22 (b : Nat) : qzk := .seq (.reg false (qz5t b) []) (.seq (.seq (.reg false (qz5n b) []) (.cond (.t 8) (.seq (.reg false (qz4o b) []) (.ret)) (.skip))) (.seq (.reg false (qz9m b) []) (.ret)))
def rs22 : List ARes := [.c 4 true 3]
theorem ck22 : ∃ c, Tryz.f22.body = some c ∧ ∀ b, qzg Tryz.prog c (c22 b) = true := ⟨_, rfl, fun b => by kernel_rfl⟩
theorem cr22 : qzi Tryz.prog Tryz.f22.results.toList rs22 = true := by kernel_rfl
def qz6v (b : Nat) : List qzc := [
 ⟨(some 2), .box (b + 0) (.t 0), none⟩,
 ⟨(some 3), .box (b + 1) (.t 1), none⟩,
 ⟨(some 4), .alloc (b + 2) [.bool false, .str [], .str []], none⟩]
def qz8p (b : Nat) : List qzc := [
 ⟨(some 5), .load true 3 (.t 2), none⟩,
 ⟨(some 6), .load true 3 (.t 3), none⟩,
 ⟨(some 7), .callf 26 [.t 5, .t 6], none⟩,
 ⟨(some 8), .bin .geq false (.t 7) (.c (.int .i64 0)), none⟩]
def qz86 (b : Nat) : List qzc := [
 ⟨(some 9), .load true 3 (.t 2), none⟩,
 ⟨(some 10), .callf 61 [.t 9], none⟩,
 ⟨(some 11), .callf 62 [.t 10], none⟩,
 ⟨none, .store 3 (.t 4) (.t 11), none⟩]
def qz8d (b : Nat) : List qzc := [
 ⟨(some 12), .load true 3 (.t 3), none⟩,
 ⟨(some 13), .callf 61 [.t 12], none⟩,
 ⟨(some 14), .callf 62 [.t 13], none⟩,
 ⟨none, .store 3 (.t 4) (.t 14), none⟩]
def c23 (b : Nat) : qzk := .seq (.reg false (qz6v b) []) (.seq (.seq (.reg false (qz8p b) []) (.cond (.t 8) (.seq (.reg false (qz86 b) []) (.ret)) (.skip))) (.seq (.reg false (qz8d b) []) (.ret)))
def rs23 : List ARes := [.c 4 true 3]
theorem ck23 : ∃ c, Tryz.f23.body = some c ∧ ∀ b, qzg Tryz.prog c (c23 b) = true := ⟨_, rfl, fun b => by kernel_rfl⟩
theorem cr23 : qzi Tryz.prog Tryz.f23.results.toList rs23 = true := by kernel_rfl
def qz99 (b : Nat) : List qzc := [
 ⟨(some 2), .box (b + 0) (.t 0), none⟩,
 ⟨(some 3), .box (b + 1) (.t 1), none⟩,
 ⟨(some 4), .alloc (b + 2) [.bool false, .str [], .str []], none⟩]
def qz4w (b : Nat) : List qzc := [
 ⟨(some 5), .load true 3 (.t 2), none⟩,
 ⟨(some 6), .callf 61 [.t 5], none⟩,
 ⟨(some 7), .mkfn 64 1 [.t 6], none⟩,
 ⟨(some 8), .load true 3 (.t 3), none⟩,
 ⟨(some 9), .callf 63 [.t 7, .t 8], none⟩,
 ⟨none, .store 3 (.t 4) (.t 9), none⟩]
def wzen : List (List Nat) := [[], [0], [0, 1], [], [0, 1, 2, 3], [0, 1, 2, 3, 4]]
def c24 (b : Nat) : qzk := .seq (.reg false (qz99 b) []) (.seq (.reg true (qz4w b) wzen) (.ret))
def rs24 : List ARes := [.c 4 true 3]
theorem ck24 : ∃ c, Tryz.f24.body = some c ∧ ∀ b, qzg Tryz.prog c (c24 b) = true := ⟨_, rfl, fun b => by kernel_rfl⟩
theorem cr24 : qzi Tryz.prog Tryz.f24.results.toList rs24 = true := by kernel_rfl
def wzan (b : Nat) : List qzc := [
 ⟨(some 2), .alloc (b + 0) [.bool false, .str [], .str []], none⟩]
def qz9e (b : Nat) : List qzc := [
 ⟨(some 3), .mv (.t 0), none⟩,
 ⟨(some 4), .callf 65 [.t 3], none⟩,
 ⟨none, .store 3 (.t 2) (.t 4), none⟩]
def c25 (b : Nat) : qzk := .seq (.reg false (wzan b) []) (.seq (.reg false (qz9e b) []) (.ret))
def rs25 : List ARes := [.c 2 true 3]
theorem ck25 : ∃ c, Tryz.f25.body = some c ∧ ∀ b, qzg Tryz.prog c (c25 b) = true := ⟨_, rfl, fun b => by kernel_rfl⟩
theorem cr25 : qzi Tryz.prog Tryz.f25.results.toList rs25 = true := by kernel_rfl
def qz8w (b : Nat) : List qzc := [
 ⟨(some 2), .box (b + 0) (.t 0), none⟩,
 ⟨(some 3), .box (b + 1) (.t 1), none⟩,
 ⟨(some 4), .mv (.c (.int .i64 0)), none⟩]
def qz5s (b : Nat) : List qzc := [
 ⟨(some 6), .load true 3 (.t 2), none⟩,
 ⟨(some 7), .callf 61 [.t 6], none⟩,
 ⟨(some 8), .load true 3 (.t 3), none⟩,
 ⟨(some 9), .callf 61 [.t 8], none⟩,
 ⟨(some 10), .callf 66 [.t 7, .t 9], none⟩,
 ⟨(some 5), .alloc (b + 2) [.bool false, .str [], .str []], none⟩,
 ⟨none, .store 3 (.t 5) (.t 10), none⟩]
def wzeh : List (List Nat) := [[], [0], [], [0, 1, 2], [0, 1, 2, 3], [], [0, 1, 2, 3, 4, 5]]
def qz7z (b : Nat) : List qzc := [
 ⟨(some 12), .faddr 1 (.t 5), none⟩,
 ⟨(some 13), .load false 1 (.t 12), none⟩,
 ⟨(some 14), .bin .eql false (.t 13) (.c (.str [])), none⟩,
 ⟨(some 11), .mv (.t 14), none⟩]
def qz6l (b : Nat) : List qzc := [
 ⟨(some 4), .mv (.c (.int .i64 0)), none⟩]
def wzb3 (b : Nat) : List qzc := [
 ⟨(some 16), .faddr 0 (.t 5), none⟩,
 ⟨(some 17), .load false 1 (.t 16), none⟩,
 ⟨(some 15), .mv (.t 17), none⟩]
def wzb0 (b : Nat) : List qzc := [
 ⟨(some 4), .mv (.c (.int .i64 (-1))), none⟩]
def qz9o (b : Nat) : List qzc := [
 ⟨(some 4), .mv (.c (.int .i64 1)), none⟩]
def c26 (b : Nat) : qzk := .seq (.reg false (qz8w b) []) (.seq (.reg true (qz5s b) wzeh) (.seq (.block 0 (.seq (.reg false (qz7z b) []) (.cond (.t 11) (.seq (.reg false (qz6l b) []) (.ret)) (.seq (.reg false (wzb3 b) []) (.cond (.t 15) (.seq (.reg false (wzb0 b) []) (.ret)) (.skip)))))) (.seq (.reg false (qz9o b) []) (.ret))))
def rs26 : List ARes := [.t 4]
theorem ck26 : ∃ c, Tryz.f26.body = some c ∧ ∀ b, qzg Tryz.prog c (c26 b) = true := ⟨_, rfl, fun b => by kernel_rfl⟩
theorem cr26 : qzi Tryz.prog Tryz.f26.results.toList rs26 = true := by kernel_rfl
def wzbu (b : Nat) : List qzc := [
 ⟨(some 2), .box (b + 0) (.t 0), none⟩,
 ⟨(some 3), .box (b + 1) (.t 1), none⟩,
 ⟨(some 4), .alloc (b + 2) [.bool false, .str [], .str []], none⟩]
def qz9i (b : Nat) : List qzc := [
 ⟨(some 5), .load true 3 (.t 2), none⟩,
 ⟨(some 6), .callf 61 [.t 5], none⟩,
 ⟨(some 7), .mkfn 67 1 [.t 6], none⟩,
 ⟨(some 8), .load true 3 (.t 3), none⟩,
 ⟨(some 9), .callf 63 [.t 7, .t 8], none⟩,
 ⟨none, .store 3 (.t 4) (.t 9), none⟩]
def wzfl : List (List Nat) := [[], [0], [0, 1], [], [0, 1, 2, 3], [0, 1, 2, 3, 4]]
def c27 (b : Nat) : qzk := .seq (.reg false (wzbu b) []) (.seq (.reg true (qz9i b) wzfl) (.ret))
def rs27 : List ARes := [.c 4 true 3]
theorem ck27 : ∃ c, Tryz.f27.body = some c ∧ ∀ b, qzg Tryz.prog c (c27 b) = true := ⟨_, rfl, fun b => by kernel_rfl⟩
theorem cr27 : qzi Tryz.prog Tryz.f27.results.toList rs27 = true := by kernel_rfl
def qz91 (b : Nat) : List qzc := [
 ⟨(some 2), .alloc (b + 0) [.bool false, .str [], .str []], none⟩]
def wzca (b : Nat) : List qzc := [
 ⟨(some 3), .mv (.t 0), none⟩,
 ⟨(some 4), .callf 68 [.t 3], none⟩,
 ⟨(some 5), .not (.t 4), none⟩]
def qz9t (b : Nat) : List qzc := [
 ⟨(some 6), .build [.bool false, .str [], .str []] [], none⟩,
 ⟨none, .store 3 (.t 2) (.t 6), none⟩]
def wzbw (b : Nat) : List qzc := [
 ⟨(some 7), .mv (.t 0), none⟩,
 ⟨(some 8), .callf 69 [.t 7], none⟩,
 ⟨(some 9), .callf 62 [.t 8], none⟩,
 ⟨none, .store 3 (.t 2) (.t 9), none⟩]
def c28 (b : Nat) : qzk := .seq (.reg false (qz91 b) []) (.seq (.seq (.reg false (wzca b) []) (.cond (.t 5) (.seq (.reg false (qz9t b) []) (.ret)) (.skip))) (.seq (.reg false (wzbw b) []) (.ret)))
def rs28 : List ARes := [.c 2 true 3]
theorem ck28 : ∃ c, Tryz.f28.body = some c ∧ ∀ b, qzg Tryz.prog c (c28 b) = true := ⟨_, rfl, fun b => by kernel_rfl⟩
theorem cr28 : qzi Tryz.prog Tryz.f28.results.toList rs28 = true := by kernel_rfl
def qz5k (b : Nat) : List qzc := [
 ⟨(some 2), .box (b + 0) (.t 0), none⟩,
 ⟨(some 3), .box (b + 1) (.t 1), none⟩,
 ⟨(some 4), .alloc (b + 2) [.bool false, .str [], .str []], none⟩]
def qz9l (b : Nat) : List qzc := [
 ⟨(some 5), .load true 3 (.t 2), none⟩,
 ⟨(some 6), .callf 61 [.t 5], none⟩,
 ⟨(some 7), .mkfn 66 1 [.t 6], none⟩,
 ⟨(some 8), .load true 3 (.t 3), none⟩,
 ⟨(some 9), .callf 63 [.t 7, .t 8], none⟩,
 ⟨none, .store 3 (.t 4) (.t 9), none⟩]
def wzeg : List (List Nat) := [[], [0], [0, 1], [], [0, 1, 2, 3], [0, 1, 2, 3, 4]]
def c29 (b : Nat) : qzk := .seq (.reg false (qz5k b) []) (.seq (.reg true (qz9l b) wzeg) (.ret))
def rs29 : List ARes := [.c 4 true 3]
theorem ck29 : ∃ c, Tryz.f29.body = some c ∧ ∀ b, qzg Tryz.prog c (c29 b) = true := ⟨_, rfl, fun b => by kernel_rfl⟩
theorem cr29 : qzi Tryz.prog Tryz.f29.results.toList rs29 = true := by kernel_rfl
def wza8 (b : Nat) : List qzc := [
 ⟨(some 2), .mv (.c (.bool false)), none⟩]
def qz73 (b : Nat) : List qzc := [
 ⟨(some 6), .mv (.t 0), none⟩,
 ⟨(some 7), .len false (.t 6), none⟩,
 ⟨(some 8), .bin .gtr false (.t 7) (.c (.int .i64 10)), none⟩]
def qz96 (b : Nat) : List qzc := [
 ⟨(some 2), .mv (.c (.bool false)), none⟩]
def qz30 (b : Nat) : List qzc := [
 ⟨(some 3), .mv (.c (.int .i64 0)), none⟩]
def qz97 (b : Nat) : List qzc := [
 ⟨(some 9), .mv (.t 3), none⟩,
 ⟨(some 10), .mv (.t 0), none⟩,
 ⟨(some 11), .len false (.t 10), none⟩,
 ⟨(some 12), .bin .lss false (.t 9) (.t 11), none⟩]
def qz32 (b : Nat) : List qzc := [
 ⟨(some 15), .mv (.t 0), none⟩,
 ⟨(some 16), .mv (.t 3), none⟩,
 ⟨(some 17), .iaddrS 8 (.t 15) (.t 16), none⟩,
 ⟨(some 18), .faddr 2 (.t 17), none⟩,
 ⟨(some 19), .load true 3 (.t 18), none⟩,
 ⟨(some 20), .callf 70 [.t 19, .c (.int .i64 20)], none⟩,
 ⟨(some 4), .mv (.t 20), none⟩]
def qz9b (b : Nat) : List qzc := [
 ⟨(some 21), .mv (.t 0), none⟩,
 ⟨(some 22), .mv (.t 3), none⟩,
 ⟨(some 23), .iaddrS 8 (.t 21) (.t 22), none⟩,
 ⟨(some 24), .faddr 5 (.t 23), none⟩,
 ⟨(some 25), .load true 3 (.t 24), none⟩,
 ⟨(some 26), .callf 70 [.t 25, .c (.int .i64 20)], none⟩,
 ⟨(some 5), .mv (.t 26), none⟩]
def qz4y (b : Nat) : List qzc := [
 ⟨(some 27), .mv (.t 4), none⟩,
 ⟨(some 28), .not (.t 27), none⟩,
 ⟨(some 29), .mv (.t 28), none⟩,
 ⟨(some 30), .mv (.t 5), (some (29, false))⟩,
 ⟨(some 31), .not (.t 30), (some (29, false))⟩,
 ⟨(some 32), .pick (.t 29) (.c (.bool true)) (.t 31), none⟩]
def qz6s (b : Nat) : List qzc := [
 ⟨(some 2), .mv (.c (.bool false)), none⟩]
def wzab (b : Nat) : List qzc := [
 ⟨(some 13), .mv (.t 3), none⟩,
 ⟨(some 14), .bin .add false (.t 13) (.c (.int .i64 1)), none⟩,
 ⟨(some 3), .mv (.t 14), none⟩]
def qz8s (b : Nat) : qzk := .seq (.seq (.reg false (qz97 b) []) (.cond (.t 12) (.skip) (.exit 0))) (.seq (.block 1 (.seq (.reg false (qz32 b) []) (.seq (.reg false (qz9b b) []) (.seq (.reg false (qz4y b) []) (.cond (.t 32) (.seq (.reg false (qz6s b) []) (.ret)) (.skip)))))) (.reg false (wzab b) []))
def qz2x (b : Nat) : List qzc := [
 ⟨(some 2), .mv (.c (.bool true)), none⟩]
def c30 (b : Nat) : qzk := .seq (.reg false (wza8 b) []) (.seq (.seq (.reg false (qz73 b) []) (.cond (.t 8) (.seq (.reg false (qz96 b) []) (.ret)) (.skip))) (.seq (.seq (.reg false (qz30 b) []) (.block 0 (.loop (qz8s b)))) (.seq (.reg false (qz2x b) []) (.ret))))
def rs30 : List ARes := [.t 2]
theorem ck30 : ∃ c, Tryz.f30.body = some c ∧ ∀ b, qzg Tryz.prog c (c30 b) = true := ⟨_, rfl, fun b => by kernel_rfl⟩
theorem cr30 : qzi Tryz.prog Tryz.f30.results.toList rs30 = true := by kernel_rfl
def wzcp (b : Nat) : List qzc := [
 ⟨(some 4), .alloc (b + 0) [.bool false, .str [], .str []], none⟩]
def wzbb (b : Nat) : List qzc := [
 ⟨(some 8), .mv (.t 0), none⟩,
 ⟨(some 9), .mv (.t 1), none⟩,
 ⟨(some 10), .callf 71 [.t 8, .t 9], none⟩,
 ⟨(some 7), .mv (.t 10), none⟩,
 ⟨(some 11), .extract 0 (.t 7), none⟩,
 ⟨(some 12), .extract 1 (.t 7), none⟩,
 ⟨(some 5), .alloc (b + 1) [.bool false, .str [], .str []], none⟩,
 ⟨none, .store 3 (.t 5) (.t 11), none⟩,
 ⟨(some 6), .mv (.t 12), none⟩]
def qz9g (b : Nat) : List qzc := [
 ⟨(some 13), .load true 3 (.t 5), none⟩,
 ⟨none, .store 3 (.t 4) (.t 13), none⟩]
def c31 (b : Nat) : qzk := .seq (.reg false (wzcp b) []) (.seq (.reg false (wzbb b) []) (.seq (.reg false (qz9g b) []) (.ret)))
def rs31 : List ARes := [.c 4 true 3]
theorem ck31 : ∃ c, Tryz.f31.body = some c ∧ ∀ b, qzg Tryz.prog c (c31 b) = true := ⟨_, rfl, fun b => by kernel_rfl⟩
theorem cr31 : qzi Tryz.prog Tryz.f31.results.toList rs31 = true := by kernel_rfl
def qz5b (b : Nat) : List qzc := [
 ⟨(some 2), .mv (.c (.nils)), none⟩]
def wzbt (b : Nat) : List qzc := [
 ⟨(some 3), .mv (.c (.nils)), none⟩]
def wzam (b : Nat) : List qzc := [
 ⟨(some 6), .mv (.t 0), none⟩,
 ⟨(some 7), .len false (.t 6), none⟩,
 ⟨(some 8), .mv (.c (.int .i64 0)), none⟩]
def qz5r (b : Nat) : List qzc := [
 ⟨(some 9), .bin .lss false (.t 8) (.t 7), none⟩]
def qz81 (b : Nat) : List qzc := [
 ⟨(some 10), .iaddrS 1 (.t 6) (.t 8), none⟩,
 ⟨(some 11), .load false 1 (.t 10), none⟩,
 ⟨(some 5), .mv (.t 11), none⟩]
def qzwf (b : Nat) : List qzc := [
 ⟨(some 12), .mv (.t 3), none⟩,
 ⟨(some 13), .mv (.t 5), none⟩,
 ⟨(some 14), .callf 28 [.t 13], none⟩,
 ⟨(some 15), .bslice (b + 0) 3 1 [.bool false, .str [], .str []] [(0, 3, .t 14)], none⟩,
 ⟨(some 16), .append (b + 1) 3 40 (.t 12) (.t 15), none⟩,
 ⟨(some 3), .mv (.t 16), none⟩]
def qz6n (b : Nat) : List qzc := [
 ⟨(some 17), .bin .add false (.t 8) (.c (.int .i64 1)), none⟩,
 ⟨(some 8), .mv (.t 17), none⟩]
def qz4p (b : Nat) : qzk := .seq (.reg false (qz5r b) []) (.seq (.cond (.t 9) (.skip) (.exit 0)) (.seq (.block 1 (.seq (.reg false (qz81 b) []) (.reg false (qzwf b) []))) (.reg false (qz6n b) [])))
def qz63 (b : Nat) : List qzc := [
 ⟨(some 18), .mv (.t 3), none⟩,
 ⟨(some 2), .mv (.t 18), none⟩]
def c32 (b : Nat) : qzk := .seq (.reg false (qz5b b) []) (.seq (.reg false (wzbt b) []) (.seq (.seq (.reg false (wzam b) []) (.block 0 (.loop (qz4p b)))) (.seq (.reg false (qz63 b) []) (.ret))))
def rs32 : List ARes := [.t 2]
theorem ck32 : ∃ c, Tryz.f32.body = some c ∧ ∀ b, qzg Tryz.prog c (c32 b) = true := ⟨_, rfl, fun b => by kernel_rfl⟩
theorem cr32 : qzi Tryz.prog Tryz.f32.results.toList rs32 = true := by kernel_rfl
def qz6w (b : Nat) : List qzc := [
 ⟨(some 3), .box (b + 0) (.t 1), none⟩,
 ⟨(some 4), .mv (.c (.int .i64 0)), none⟩]
def qz4z (b : Nat) : List qzc := [
 ⟨(some 6), .mv (.t 0), none⟩,
 ⟨(some 7), .callf 16 [.t 6], none⟩,
 ⟨(some 5), .mv (.t 7), none⟩]
def qz31 (b : Nat) : List qzc := [
 ⟨(some 8), .mv (.t 5), none⟩,
 ⟨(some 9), .bin .neq false (.t 8) (.c (.int .i64 0)), none⟩]
def qz6u (b : Nat) : List qzc := [
 ⟨(some 10), .mv (.t 5), none⟩,
 ⟨(some 4), .mv (.t 10), none⟩]
def qz4c (b : Nat) : List qzc := [
 ⟨(some 11), .load true 3 (.t 3), none⟩,
 ⟨(some 12), .callf 51 [.t 11], none⟩,
 ⟨(some 13), .not (.t 12), none⟩]
def wzcl (b : Nat) : List qzc := [
 ⟨(some 4), .mv (.c (.int .i64 1)), none⟩]
def qz5c (b : Nat) : List qzc := [
 ⟨(some 4), .mv (.c (.int .i64 0)), none⟩]
def c33 (b : Nat) : qzk := .seq (.reg false (qz6w b) []) (.seq (.seq (.reg false (qz4z b) []) (.seq (.reg false (qz31 b) []) (.cond (.t 9) (.seq (.reg false (qz6u b) []) (.ret)) (.skip)))) (.seq (.seq (.reg false (qz4c b) []) (.cond (.t 13) (.seq (.reg false (wzcl b) []) (.ret)) (.skip))) (.seq (.reg false (qz5c b) []) (.ret))))
def rs33 : List ARes := [.t 4]
theorem ck33 : ∃ c, Tryz.f33.body = some c ∧ ∀ b, qzg Tryz.prog c (c33 b) = true := ⟨_, rfl, fun b => by kernel_rfl⟩
theorem cr33 : qzi Tryz.prog Tryz.f33.results.toList rs33 = true := by kernel_rfl
def qz49 (b : Nat) : List qzc := [
 ⟨(some 4), .mv (.c (.nils)), none⟩]
def wzah (b : Nat) : List qzc := [
 ⟨(some 5), .mv (.c (.nils)), none⟩]
def qz5f (b : Nat) : List qzc := [
 ⟨(some 8), .mv (.t 0), none⟩,
 ⟨(some 9), .len false (.t 8), none⟩,
 ⟨(some 10), .mv (.c (.int .i64 0)), none⟩]
def wzap (b : Nat) : List qzc := [
 ⟨(some 11), .bin .lss false (.t 10) (.t 9), none⟩]
def qz6o (b : Nat) : List qzc := [
 ⟨(some 12), .iaddrS 8 (.t 8) (.t 10), none⟩,
 ⟨(some 13), .load true 8 (.t 12), none⟩,
 ⟨(some 7), .alloc (b + 0) [.int .i64 0, .int .i64 0, .bool false, .str [], .str [], .bool false, .str [], .str []], none⟩,
 ⟨none, .store 8 (.t 7) (.t 13), none⟩]
def qzwp (b : Nat) : List qzc := [
 ⟨(some 14), .mv (.t 5), none⟩,
 ⟨(some 15), .mv (.t 1), none⟩,
 ⟨(some 16), .load true 8 (.t 7), none⟩,
 ⟨(some 17), .callv (.t 15) [.t 16], none⟩,
 ⟨(some 18), .bslice (b + 1) 3 1 [.bool false, .str [], .str []] [(0, 3, .t 17)], none⟩,
 ⟨(some 19), .append (b + 2) 3 40 (.t 14) (.t 18), none⟩,
 ⟨(some 5), .mv (.t 19), none⟩]
def wzcr (b : Nat) : List qzc := [
 ⟨(some 20), .bin .add false (.t 10) (.c (.int .i64 1)), none⟩,
 ⟨(some 10), .mv (.t 20), none⟩]
def qz9x (b : Nat) : qzk := .seq (.reg false (wzap b) []) (.seq (.cond (.t 11) (.skip) (.exit 0)) (.seq (.block 1 (.seq (.reg false (qz6o b) []) (.reg false (qzwp b) []))) (.reg false (wzcr b) [])))
def qz44 (b : Nat) : List qzc := [
 ⟨(some 21), .mv (.t 5), none⟩,
 ⟨(some 4), .mv (.t 21), none⟩]
def c34 (b : Nat) : qzk := .seq (.reg false (qz49 b) []) (.seq (.reg false (wzah b) []) (.seq (.seq (.reg false (qz5f b) []) (.block 0 (.loop (qz9x b)))) (.seq (.reg false (qz44 b) []) (.ret))))
def rs34 : List ARes := [.t 4]
theorem ck34 : ∃ c, Tryz.f34.body = some c ∧ ∀ b, qzg Tryz.prog c (c34 b) = true := ⟨_, rfl, fun b => by kernel_rfl⟩
theorem cr34 : qzi Tryz.prog Tryz.f34.results.toList rs34 = true := by kernel_rfl
def qz8h (b : Nat) : List qzc := [
 ⟨(some 2), .box (b + 0) (.t 0), none⟩,
 ⟨(some 3), .box (b + 1) (.t 1), none⟩,
 ⟨(some 4), .alloc (b + 2) [.bool false, .str [], .str []], none⟩]
def qz6q (b : Nat) : List qzc := [
 ⟨(some 5), .faddr 0 (.t 2), none⟩,
 ⟨(some 6), .load true 3 (.t 5), none⟩,
 ⟨(some 7), .faddr 1 (.t 3), none⟩,
 ⟨(some 8), .load false 1 (.t 7), none⟩,
 ⟨(some 9), .callf 28 [.t 8], none⟩,
 ⟨(some 10), .callf 27 [.t 6, .t 9], none⟩,
 ⟨(some 11), .faddr 2 (.t 3), none⟩,
 ⟨(some 12), .load true 3 (.t 11), none⟩,
 ⟨(some 13), .callf 23 [.t 10, .t 12], none⟩,
 ⟨(some 14), .faddr 5 (.t 3), none⟩,
 ⟨(some 15), .load true 3 (.t 14), none⟩,
 ⟨(some 16), .callf 22 [.t 13, .t 15], none⟩,
 ⟨none, .store 3 (.t 4) (.t 16), none⟩]
def wzee : List (List Nat) := [[], [0], [], [2], [2, 3], [0, 1, 2, 3, 4], [], [6], [0, 1, 2, 3, 4, 5, 6, 7], [], [9], [0, 1, 2, 3, 4, 5, 6, 7, 8, 9, 10], [0, 1, 2, 3, 4, 5, 6, 7, 8, 9, 10, 11]]
def c35 (b : Nat) : qzk := .seq (.reg false (qz8h b) []) (.seq (.reg true (qz6q b) wzee) (.ret))
def rs35 : List ARes := [.c 4 true 3]
theorem ck35 : ∃ c, Tryz.f35.body = some c ∧ ∀ b, qzg Tryz.prog c (c35 b) = true := ⟨_, rfl, fun b => by kernel_rfl⟩
theorem cr35 : qzi Tryz.prog Tryz.f35.results.toList rs35 = true := by kernel_rfl
def qz8l (b : Nat) : List qzc := [
 ⟨(some 2), .alloc (b + 0) [.bool false, .str [], .str []], none⟩]
def qz71 (b : Nat) : List qzc := [
 ⟨(some 3), .mv (.t 0), none⟩,
 ⟨(some 4), .callf 34 [.t 3, .c (.fn 72 0 [])], none⟩,
 ⟨(some 5), .callf 25 [.t 4], none⟩,
 ⟨none, .store 3 (.t 2) (.t 5), none⟩]
def c36 (b : Nat) : qzk := .seq (.reg false (qz8l b) []) (.seq (.reg false (qz71 b) []) (.ret))
def rs36 : List ARes := [.c 2 true 3]
theorem ck36 : ∃ c, Tryz.f36.body = some c ∧ ∀ b, qzg Tryz.prog c (c36 b) = true := ⟨_, rfl, fun b => by kernel_rfl⟩
theorem cr36 : qzi Tryz.prog Tryz.f36.results.toList rs36 = true := by kernel_rfl
def wzbj (b : Nat) : List qzc := [
 ⟨(some 3), .box (b + 0) (.t 1), none⟩,
 ⟨(some 4), .alloc (b + 1) [.bool false, .str [], .str []], none⟩]
def qz7m (b : Nat) : List qzc := [
 ⟨(some 5), .mv (.c (.nils)), none⟩]
def qz4m (b : Nat) : List qzc := [
 ⟨(some 14), .mv (.t 0), none⟩,
 ⟨(some 15), .len false (.t 14), none⟩,
 ⟨(some 16), .mv (.c (.int .i64 0)), none⟩]
def qz8r (b : Nat) : List qzc := [
 ⟨(some 17), .bin .lss false (.t 16) (.t 15), none⟩]
def qz34 (b : Nat) : List qzc := [
 ⟨(some 18), .iaddrS 8 (.t 14) (.t 16), none⟩,
 ⟨(some 19), .load true 8 (.t 18), none⟩,
 ⟨(some 7), .alloc (b + 2) [.int .i64 0, .int .i64 0, .bool false, .str [], .str [], .bool false, .str [], .str []], none⟩,
 ⟨none, .store 8 (.t 7) (.t 19), none⟩]
def qz4j (b : Nat) : List qzc := [
 ⟨(some 20), .faddr 1 (.t 7), none⟩,
 ⟨(some 21), .load false 1 (.t 20), none⟩,
 ⟨(some 22), .callf 28 [.t 21], none⟩,
 ⟨(some 8), .alloc (b + 3) [.bool false, .str [], .str []], none⟩,
 ⟨none, .store 3 (.t 8) (.t 22), none⟩]
def qzwt (b : Nat) : List qzc := [
 ⟨(some 23), .mv (.t 5), none⟩,
 ⟨(some 24), .faddr 2 (.t 7), none⟩,
 ⟨(some 25), .load true 3 (.t 24), none⟩,
 ⟨(some 26), .load true 3 (.t 8), none⟩,
 ⟨(some 27), .callf 39 [.t 25, .t 26], none⟩,
 ⟨(some 28), .faddr 5 (.t 7), none⟩,
 ⟨(some 29), .load true 3 (.t 28), none⟩,
 ⟨(some 30), .load true 3 (.t 8), none⟩,
 ⟨(some 31), .callf 39 [.t 29, .t 30], none⟩,
 ⟨(some 32), .bslice (b + 4) 3 2 [.bool false, .str [], .str [], .bool false, .str [], .str []] [(0, 3, .t 27), (3, 3, .t 31)], none⟩,
 ⟨(some 33), .append (b + 5) 3 40 (.t 23) (.t 32), none⟩,
 ⟨(some 5), .mv (.t 33), none⟩]
def wzei : List (List Nat) := [[], [], [1], [], [1, 2, 3], [], [5], [], [1, 2, 3, 4, 5, 6, 7], [1, 2, 3, 4, 5, 6, 7, 8], [0, 1, 2, 3, 4, 5, 6, 7, 8, 9], [0, 1, 2, 3, 4, 5, 6, 7, 8, 9, 10]]
def qz40 (b : Nat) : List qzc := [
 ⟨(some 34), .bin .add false (.t 16) (.c (.int .i64 1)), none⟩,
 ⟨(some 16), .mv (.t 34), none⟩]
def qz4n (b : Nat) : qzk := .seq (.reg false (qz8r b) []) (.seq (.cond (.t 17) (.skip) (.exit 0)) (.seq (.block 1 (.seq (.reg false (qz34 b) []) (.seq (.reg false (qz4j b) []) (.reg true (qzwt b) wzei)))) (.reg false (qz40 b) [])))
def qz9z (b : Nat) : List qzc := [
 ⟨(some 35), .mv (.t 5), none⟩,
 ⟨(some 36), .callf 73 [.t 35, .c (.fn 74 0 [])], none⟩]
def qz7w (b : Nat) : List qzc := [
 ⟨(some 9), .alloc (b + 6) [.bool false, .str [], .str []], none⟩]
def qz03 (b : Nat) : List qzc := [
 ⟨(some 37), .mv (.t 5), none⟩,
 ⟨(some 38), .len false (.t 37), none⟩,
 ⟨(some 39), .mv (.c (.int .i64 0)), none⟩]
def qz2f (b : Nat) : List qzc := [
 ⟨(some 40), .bin .lss false (.t 39) (.t 38), none⟩]
def qz2b (b : Nat) : List qzc := [
 ⟨(some 41), .iaddrS 3 (.t 37) (.t 39), none⟩,
 ⟨(some 42), .load true 3 (.t 41), none⟩,
 ⟨(some 11), .alloc (b + 7) [.bool false, .str [], .str []], none⟩,
 ⟨none, .store 3 (.t 11) (.t 42), none⟩]
def qz12 (b : Nat) : List qzc := [
 ⟨(some 43), .mv (.t 0), none⟩,
 ⟨(some 44), .load true 3 (.t 9), none⟩,
 ⟨(some 45), .build [.bool false, .str [], .str []] [(0, 3, .t 44)], none⟩,
 ⟨(some 46), .mkfn 35 1 [.t 45], none⟩,
 ⟨(some 47), .callf 34 [.t 43, .t 46], none⟩,
 ⟨(some 48), .callf 25 [.t 47], none⟩,
 ⟨(some 49), .mv (.t 0), none⟩,
 ⟨(some 50), .load true 3 (.t 11), none⟩,
 ⟨(some 51), .build [.bool false, .str [], .str []] [(0, 3, .t 50)], none⟩,
 ⟨(some 52), .mkfn 35 1 [.t 51], none⟩,
 ⟨(some 53), .callf 34 [.t 49, .t 52], none⟩,
 ⟨(some 54), .callf 25 [.t 53], none⟩,
 ⟨(some 12), .alloc (b + 8) [.bool false, .str [], .str []], none⟩,
 ⟨(some 13), .alloc (b + 9) [.bool false, .str [], .str []], none⟩,
 ⟨none, .store 3 (.t 12) (.t 48), none⟩,
 ⟨none, .store 3 (.t 13) (.t 54), none⟩]
def wzdt : List (List Nat) := [[], [], [1], [1, 2], [0, 1, 2, 3], [0, 1, 2, 3, 4], [], [], [7], [7, 8], [0, 1, 2, 3, 4, 5, 6, 7, 8, 9], [0, 1, 2, 3, 4, 5, 6, 7, 8, 9, 10], [], [], [0, 1, 2, 3, 4, 5, 6, 7, 8, 9, 10, 11, 12, 13], [0, 1, 2, 3, 4, 5, 6, 7, 8, 9, 10, 11, 12, 13, 14]]
def qzyf (b : Nat) : List qzc := [
 ⟨(some 55), .load true 3 (.t 3), none⟩,
 ⟨(some 56), .load true 3 (.t 12), none⟩,
 ⟨(some 57), .callf 26 [.t 55, .t 56], none⟩,
 ⟨(some 58), .bin .leq false (.t 57) (.c (.int .i64 0)), none⟩]
def qz0r (b : Nat) : List qzc := [
 ⟨(some 59), .load true 3 (.t 3), none⟩,
 ⟨(some 60), .load true 3 (.t 13), none⟩,
 ⟨(some 61), .callf 26 [.t 59, .t 60], none⟩,
 ⟨(some 62), .bin .leq false (.t 61) (.c (.int .i64 0)), none⟩]
def qz2k (b : Nat) : List qzc := [
 ⟨(some 63), .load true 3 (.t 9), none⟩,
 ⟨(some 64), .load true 3 (.t 3), none⟩,
 ⟨(some 65), .load true 3 (.t 12), none⟩,
 ⟨(some 66), .callf 29 [.t 64, .t 65], none⟩,
 ⟨(some 67), .load true 3 (.t 13), none⟩,
 ⟨(some 68), .load true 3 (.t 12), none⟩,
 ⟨(some 69), .callf 29 [.t 67, .t 68], none⟩,
 ⟨(some 70), .callf 39 [.t 66, .t 69], none⟩,
 ⟨(some 71), .load true 3 (.t 11), none⟩,
 ⟨(some 72), .load true 3 (.t 9), none⟩,
 ⟨(some 73), .callf 29 [.t 71, .t 72], none⟩,
 ⟨(some 74), .callf 27 [.t 70, .t 73], none⟩,
 ⟨(some 75), .callf 24 [.t 63, .t 74], none⟩,
 ⟨none, .store 3 (.t 4) (.t 75), none⟩]
def wzdr : List (List Nat) := [[], [], [], [1, 2], [], [], [1, 2, 3, 4, 5], [1, 2, 3, 4, 5, 6], [], [], [1, 2, 3, 4, 5, 6, 7, 8, 9], [1, 2, 3, 4, 5, 6, 7, 8, 9, 10], [0, 1, 2, 3, 4, 5, 6, 7, 8, 9, 10, 11], [0, 1, 2, 3, 4, 5, 6, 7, 8, 9, 10, 11, 12]]
def qzyp (b : Nat) : List qzc := [
 ⟨(some 76), .load true 3 (.t 11), none⟩,
 ⟨none, .store 3 (.t 9) (.t 76), none⟩]
def qz2r (b : Nat) : List qzc := [
 ⟨(some 77), .bin .add false (.t 39) (.c (.int .i64 1)), none⟩,
 ⟨(some 39), .mv (.t 77), none⟩]
def wzbp (b : Nat) : qzk := .seq (.reg false (qz2f b) []) (.seq (.cond (.t 40) (.skip) (.exit 2)) (.seq (.block 3 (.seq (.reg false (qz2b b) []) (.seq (.reg true (qz12 b) wzdt) (.seq (.seq (.reg false (qzyf b) []) (.cond (.t 58) (.exit 2) (.skip))) (.seq (.seq (.reg false (qz0r b) []) (.cond (.t 62) (.seq (.reg true (qz2k b) wzdr) (.ret)) (.skip))) (.reg false (qzyp b) [])))))) (.reg false (qz2r b) [])))
def qz2u (b : Nat) : List qzc := [
 ⟨(some 78), .load true 3 (.t 9), none⟩,
 ⟨none, .store 3 (.t 4) (.t 78), none⟩]
def c37 (b : Nat) : qzk := .seq (.reg false (wzbj b) []) (.seq (.reg false (qz7m b) []) (.seq (.seq (.reg false (qz4m b) []) (.block 0 (.loop (qz4n b)))) (.seq (.reg false (qz9z b) []) (.seq (.reg false (qz7w b) []) (.seq (.seq (.reg false (qz03 b) []) (.block 2 (.loop (wzbp b)))) (.seq (.reg false (qz2u b) []) (.ret)))))))
def rs37 : List ARes := [.c 4 true 3]
theorem ck37 : ∃ c, Tryz.f37.body = some c ∧ ∀ b, qzg Tryz.prog c (c37 b) = true := ⟨_, rfl, fun b => by kernel_rfl⟩
theorem cr37 : qzi Tryz.prog Tryz.f37.results.toList rs37 = true := by kernel_rfl
def wzae (b : Nat) : List qzc := [
 ⟨(some 2), .alloc (b + 0) [.bool false, .str [], .str []], none⟩]
def qz7e (b : Nat) : List qzc := [
 ⟨(some 3), .mv (.t 0), none⟩,
 ⟨(some 4), .callf 34 [.t 3, .c (.fn 75 0 [])], none⟩,
 ⟨(some 5), .callf 25 [.t 4], none⟩,
 ⟨none, .store 3 (.t 2) (.t 5), none⟩]
def c38 (b : Nat) : qzk := .seq (.reg false (wzae b) []) (.seq (.reg false (qz7e b) []) (.ret))
def rs38 : List ARes := [.c 2 true 3]
theorem ck38 : ∃ c, Tryz.f38.body = some c ∧ ∀ b, qzg Tryz.prog c (c38 b) = true := ⟨_, rfl, fun b => by kernel_rfl⟩
theorem cr38 : qzi Tryz.prog Tryz.f38.results.toList rs38 = true := by kernel_rfl
def qz6f (b : Nat) : List qzc := [
 ⟨(some 2), .box (b + 0) (.t 0), none⟩,
 ⟨(some 3), .box (b + 1) (.t 1), none⟩,
 ⟨(some 4), .alloc (b + 2) [.bool false, .str [], .str []], none⟩]
def qz8u (b : Nat) : List qzc := [
 ⟨(some 8), .load true 3 (.t 2), none⟩,
 ⟨(some 9), .load true 3 (.t 3), none⟩,
 ⟨(some 10), .callf 76 [.t 8, .t 9], none⟩,
 ⟨(some 7), .mv (.t 10), none⟩,
 ⟨(some 11), .extract 0 (.t 7), none⟩,
 ⟨(some 12), .extract 1 (.t 7), none⟩,
 ⟨(some 5), .alloc (b + 3) [.bool false, .str [], .str []], none⟩,
 ⟨none, .store 3 (.t 5) (.t 11), none⟩,
 ⟨(some 6), .mv (.t 12), none⟩]
def wza2 (b : Nat) : List qzc := [
 ⟨(some 13), .load true 3 (.t 5), none⟩,
 ⟨none, .store 3 (.t 4) (.t 13), none⟩]
def c39 (b : Nat) : qzk := .seq (.reg false (qz6f b) []) (.seq (.reg false (qz8u b) []) (.seq (.reg false (wza2 b) []) (.ret)))
def rs39 : List ARes := [.c 4 true 3]
theorem ck39 : ∃ c, Tryz.f39.body = some c ∧ ∀ b, qzg Tryz.prog c (c39 b) = true := ⟨_, rfl, fun b => by kernel_rfl⟩
theorem cr39 : qzi Tryz.prog Tryz.f39.results.toList rs39 = true := by kernel_rfl
def qz4e (b : Nat) : List qzc := [
 ⟨(some 2), .box (b + 0) (.t 0), none⟩,
 ⟨(some 3), .alloc (b + 1) [.bool false, .str [], .str []], none⟩]
def qz7c (b : Nat) : List qzc := [
 ⟨(some 4), .faddr 2 (.t 2), none⟩,
 ⟨(some 5), .load true 3 (.t 4), none⟩,
 ⟨(some 6), .load true 3 (.t 1), none⟩,
 ⟨(some 7), .callf 27 [.t 5, .t 6], none⟩,
 ⟨none, .store 3 (.t 3) (.t 7), none⟩]
def c40 (b : Nat) : qzk := .seq (.reg false (qz4e b) []) (.seq (.reg false (qz7c b) []) (.ret))
def rs40 : List ARes := [.c 3 true 3]
theorem ck40 : ∃ c, Tryz.f40.body = some c ∧ ∀ b, qzg Tryz.prog c (c40 b) = true := ⟨_, rfl, fun b => by kernel_rfl⟩
theorem cr40 : qzi Tryz.prog Tryz.f40.results.toList rs40 = true := by kernel_rfl
def qz84 (b : Nat) : List qzc := [
 ⟨(some 1), .box (b + 0) (.t 0), none⟩,
 ⟨(some 2), .alloc (b + 1) [.bool false, .str [], .str []], none⟩]
def qz60 (b : Nat) : List qzc := [
 ⟨(some 3), .faddr 5 (.t 1), none⟩,
 ⟨(some 4), .load true 3 (.t 3), none⟩,
 ⟨none, .store 3 (.t 2) (.t 4), none⟩]
def c41 (b : Nat) : qzk := .seq (.reg false (qz84 b) []) (.seq (.reg false (qz60 b) []) (.ret))
def rs41 : List ARes := [.c 2 true 3]
theorem ck41 : ∃ c, Tryz.f41.body = some c ∧ ∀ b, qzg Tryz.prog c (c41 b) = true := ⟨_, rfl, fun b => by kernel_rfl⟩
theorem cr41 : qzi Tryz.prog Tryz.f41.results.toList rs41 = true := by kernel_rfl
def qz52 (b : Nat) : List qzc := [
 ⟨(some 1), .box (b + 0) (.t 0), none⟩,
 ⟨(some 2), .mv (.c (.bool false)), none⟩]
def qz8k (b : Nat) : List qzc := [
 ⟨(some 3), .load true 3 (.t 1), none⟩,
 ⟨(some 4), .callf 21 [.t 3], none⟩,
 ⟨(some 5), .mv (.t 4), none⟩,
 ⟨(some 6), .faddr 0 (.t 1), (some (5, true))⟩,
 ⟨(some 7), .load false 1 (.t 6), (some (5, true))⟩,
 ⟨(some 8), .not (.t 7), (some (5, true))⟩,
 ⟨(some 9), .pick (.t 5) (.t 8) (.c (.bool false)), none⟩,
 ⟨(some 2), .mv (.t 9), none⟩]
def c51 (b : Nat) : qzk := .seq (.reg false (qz52 b) []) (.seq (.reg false (qz8k b) []) (.ret))
def rs51 : List ARes := [.t 2]
theorem ck51 : ∃ c, Tryz.f51.body = some c ∧ ∀ b, qzg Tryz.prog c (c51 b) = true := ⟨_, rfl, fun b => by kernel_rfl⟩
theorem cr51 : qzi Tryz.prog Tryz.f51.results.toList rs51 = true := by kernel_rfl
def qz5d (b : Nat) : List qzc := [
 ⟨(some 4), .mv (.c (.bool false)), none⟩]
def qz46 (b : Nat) : List qzc := [
 ⟨(some 5), .mv (.t 0), none⟩,
 ⟨(some 6), .mv (.t 1), none⟩,
 ⟨(some 7), .callf 87 [.t 5, .t 6], none⟩,
 ⟨(some 8), .bin .geq false (.t 7) (.c (.int .i64 0)), none⟩,
 ⟨(some 4), .mv (.t 8), none⟩]
def c52 (b : Nat) : qzk := .seq (.reg false (qz5d b) []) (.seq (.reg false (qz46 b) []) (.ret))
def rs52 : List ARes := [.t 4]
theorem ck52 : ∃ c, Tryz.f52.body = some c ∧ ∀ b, qzg Tryz.prog c (c52 b) = true := ⟨_, rfl, fun b => by kernel_rfl⟩
theorem cr52 : qzi Tryz.prog Tryz.f52.results.toList rs52 = true := by kernel_rfl
def qz62 (b : Nat) : List qzc := [
 ⟨(some 2), .box (b + 0) (.t 0), none⟩,
 ⟨(some 3), .mv (.c (.bool false)), none⟩]
def wzby (b : Nat) : List qzc := [
 ⟨(some 4), .faddr 0 (.t 2), none⟩,
 ⟨(some 5), .load false 1 (.t 4), none⟩,
 ⟨(some 6), .faddr 0 (.t 1), none⟩,
 ⟨(some 7), .load false 1 (.t 6), none⟩,
 ⟨(some 8), .bin .eql false (.t 5) (.t 7), none⟩,
 ⟨(some 3), .mv (.t 8), none⟩]
def c53 (b : Nat) : qzk := .seq (.reg false (qz62 b) []) (.seq (.reg false (wzby b) []) (.ret))
def rs53 : List ARes := [.t 3]
theorem ck53 : ∃ c, Tryz.f53.body = some c ∧ ∀ b, qzg Tryz.prog c (c53 b) = true := ⟨_, rfl, fun b => by kernel_rfl⟩
theorem cr53 : qzi Tryz.prog Tryz.f53.results.toList rs53 = true := by kernel_rfl
def wzac (b : Nat) : List qzc := [
 ⟨(some 4), .mv (.c (.bool false)), none⟩]
def wzbd (b : Nat) : List qzc := [
 ⟨(some 6), .mv (.t 0), none⟩,
 ⟨(some 7), .len false (.t 6), none⟩,
 ⟨(some 8), .mv (.t 1), none⟩,
 ⟨(some 9), .len false (.t 8), none⟩,
 ⟨(some 10), .bin .neq false (.t 7) (.t 9), none⟩]
def wzb5 (b : Nat) : List qzc := [
 ⟨(some 4), .mv (.c (.bool false)), none⟩]
def qz57 (b : Nat) : List qzc := [
 ⟨(some 11), .mv (.t 0), none⟩,
 ⟨(some 12), .len false (.t 11), none⟩,
 ⟨(some 13), .mv (.c (.int .i64 0)), none⟩]
def qz6g (b : Nat) : List qzc := [
 ⟨(some 14), .bin .lss false (.t 13) (.t 12), none⟩]
def wzbx (b : Nat) : List qzc := [
 ⟨(some 15), .mv (.t 13), none⟩,
 ⟨(some 5), .mv (.t 15), none⟩]
def qz8t (b : Nat) : List qzc := [
 ⟨(some 16), .mv (.t 0), none⟩,
 ⟨(some 17), .mv (.t 5), none⟩,
 ⟨(some 18), .iaddrS 3 (.t 16) (.t 17), none⟩,
 ⟨(some 19), .load true 3 (.t 18), none⟩,
 ⟨(some 20), .mv (.t 1), none⟩,
 ⟨(some 21), .mv (.t 5), none⟩,
 ⟨(some 22), .iaddrS 3 (.t 20) (.t 21), none⟩,
 ⟨(some 23), .load true 3 (.t 22), none⟩,
 ⟨(some 24), .eqagg [0, 2, 2] true (.t 19) (.t 23), none⟩]
def wze1 : List (List Nat) := [[], [], [0, 1], [0, 1, 2], [], [], [4, 5], [4, 5, 6], [0, 1, 2, 3, 4, 5, 6, 7]]
def qz4q (b : Nat) : List qzc := [
 ⟨(some 4), .mv (.c (.bool false)), none⟩]
def qz66 (b : Nat) : List qzc := [
 ⟨(some 25), .bin .add false (.t 13) (.c (.int .i64 1)), none⟩,
 ⟨(some 13), .mv (.t 25), none⟩]
def wzbc (b : Nat) : qzk := .seq (.reg false (qz6g b) []) (.seq (.cond (.t 14) (.skip) (.exit 0)) (.seq (.block 1 (.seq (.reg false (wzbx b) []) (.seq (.reg true (qz8t b) wze1) (.cond (.t 24) (.seq (.reg false (qz4q b) []) (.ret)) (.skip))))) (.reg false (qz66 b) [])))
def qz89 (b : Nat) : List qzc := [
 ⟨(some 4), .mv (.c (.bool true)), none⟩]
def c55 (b : Nat) : qzk := .seq (.reg false (wzac b) []) (.seq (.seq (.reg false (wzbd b) []) (.cond (.t 10) (.seq (.reg false (wzb5 b) []) (.ret)) (.skip))) (.seq (.seq (.reg false (qz57 b) []) (.block 0 (.loop (wzbc b)))) (.seq (.reg false (qz89 b) []) (.ret))))
def rs55 : List ARes := [.t 4]
theorem ck55 : ∃ c, Tryz.f55.body = some c ∧ ∀ b, qzg Tryz.prog c (c55 b) = true := ⟨_, rfl, fun b => by kernel_rfl⟩
theorem cr55 : qzi Tryz.prog Tryz.f55.results.toList rs55 = true := by kernel_rfl
def qz88 (b : Nat) : List qzc := [
 ⟨(some 2), .mv (.c (.bool false)), none⟩]
def qzww (b : Nat) : List qzc := [
 ⟨(some 3), .mv (.t 0), none⟩,
 ⟨(some 4), .bin .eql false (.t 3) (.c (.str [])), none⟩,
 ⟨(some 5), .mv (.t 4), none⟩,
 ⟨(some 6), .mv (.t 0), (some (5, false))⟩,
 ⟨(some 7), .sidx (.t 6) (.c (.int .i64 0)), (some (5, false))⟩,
 ⟨(some 8), .bin .neq false (.t 7) (.c (.int .u8 0)), (some (5, false))⟩,
 ⟨(some 9), .pick (.t 5) (.c (.bool true)) (.t 8), none⟩,
 ⟨(some 2), .mv (.t 9), none⟩]
def c59 (b : Nat) : qzk := .seq (.reg false (qz88 b) []) (.seq (.reg false (qzww b) []) (.ret))
def rs59 : List ARes := [.t 2]
theorem ck59 : ∃ c, Tryz.f59.body = some c ∧ ∀ b, qzg Tryz.prog c (c59 b) = true := ⟨_, rfl, fun b => by kernel_rfl⟩
theorem cr59 : qzi Tryz.prog Tryz.f59.results.toList rs59 = true := by kernel_rfl
def qz6d (b : Nat) : List qzc := [
 ⟨(some 4), .mv (.c (.str [])), none⟩]
def qz83 (b : Nat) : List qzc := [
 ⟨(some 5), .alloc (b + 0) [.nilfn], none⟩]
def wzao (b : Nat) : List qzc := [
 ⟨(some 6), .mkfn 92 0 [.t 5], none⟩,
 ⟨none, .store 1 (.t 5) (.t 6), none⟩]
def qz5o (b : Nat) : List qzc := [
 ⟨(some 7), .load false 1 (.t 5), none⟩,
 ⟨(some 8), .mv (.t 0), none⟩,
 ⟨(some 9), .callf 94 [.t 8], none⟩,
 ⟨(some 10), .mv (.t 1), none⟩,
 ⟨(some 11), .callf 94 [.t 10], none⟩,
 ⟨(some 12), .callv (.t 7) [.t 9, .t 11], none⟩,
 ⟨(some 13), .callf 95 [.t 12], none⟩,
 ⟨(some 4), .mv (.t 13), none⟩]
def wzet : List (List Nat) := [[], [], [1], [], [1, 2, 3], [0, 1, 2, 3, 4], [0, 1, 2, 3, 4, 5], [0, 1, 2, 3, 4, 5, 6]]
def c60 (b : Nat) : qzk := .seq (.reg false (qz6d b) []) (.seq (.reg false (qz83 b) []) (.seq (.reg false (wzao b) []) (.seq (.reg true (qz5o b) wzet) (.ret))))
def rs60 : List ARes := [.t 4]
theorem ck60 : ∃ c, Tryz.f60.body = some c ∧ ∀ b, qzg Tryz.prog c (c60 b) = true := ⟨_, rfl, fun b => by kernel_rfl⟩
theorem cr60 : qzi Tryz.prog Tryz.f60.results.toList rs60 = true := by kernel_rfl
def qz56 (b : Nat) : List qzc := [
 ⟨(some 1), .box (b + 0) (.t 0), none⟩,
 ⟨(some 2), .alloc (b + 1) [.bool false, .str [], .str []], none⟩]
def qz77 (b : Nat) : List qzc := [
 ⟨(some 3), .faddr 1 (.t 1), none⟩,
 ⟨(some 4), .load false 1 (.t 3), none⟩,
 ⟨(some 5), .bin .eql false (.t 4) (.c (.str [])), none⟩,
 ⟨(some 6), .mv (.t 5), none⟩,
 ⟨(some 7), .load true 3 (.t 1), (some (6, false))⟩,
 ⟨(some 8), .callf 21 [.t 7], (some (6, false))⟩,
 ⟨(some 9), .not (.t 8), (some (6, false))⟩,
 ⟨(some 10), .pick (.t 6) (.c (.bool true)) (.t 9), none⟩]
def wzbg (b : Nat) : List qzc := [
 ⟨(some 11), .build [.bool false, .str [], .str []] [(0, 1, .c (.bool false)), (1, 1, .c (.str [])), (2, 1, .c (.str [1]))], none⟩,
 ⟨none, .store 3 (.t 2) (.t 11), none⟩]
def qz9k (b : Nat) : List qzc := [
 ⟨(some 12), .faddr 0 (.t 1), none⟩,
 ⟨(some 13), .load false 1 (.t 12), none⟩,
 ⟨(some 14), .faddr 1 (.t 1), none⟩,
 ⟨(some 15), .load false 1 (.t 14), none⟩,
 ⟨(some 16), .faddr 2 (.t 1), none⟩,
 ⟨(some 17), .load false 1 (.t 16), none⟩,
 ⟨(some 18), .build [.bool false, .str [], .str []] [(0, 1, .t 13), (1, 1, .t 15), (2, 1, .t 17)], none⟩,
 ⟨none, .store 3 (.t 2) (.t 18), none⟩]
def c61 (b : Nat) : qzk := .seq (.reg false (qz56 b) []) (.seq (.seq (.reg false (qz77 b) []) (.cond (.t 10) (.seq (.reg false (wzbg b) []) (.ret)) (.skip))) (.seq (.reg false (qz9k b) []) (.ret)))
def rs61 : List ARes := [.c 2 true 3]
theorem ck61 : ∃ c, Tryz.f61.body = some c ∧ ∀ b, qzg Tryz.prog c (c61 b) = true := ⟨_, rfl, fun b => by kernel_rfl⟩
theorem cr61 : qzi Tryz.prog Tryz.f61.results.toList rs61 = true := by kernel_rfl
def wzcf (b : Nat) : List qzc := [
 ⟨(some 1), .box (b + 0) (.t 0), none⟩,
 ⟨(some 2), .alloc (b + 1) [.bool false, .str [], .str []], none⟩]
def qz9f (b : Nat) : List qzc := [
 ⟨(some 10), .faddr 1 (.t 1), none⟩,
 ⟨(some 11), .load false 1 (.t 10), none⟩,
 ⟨(some 12), .bin .eql false (.t 11) (.c (.str [])), none⟩]
def qz7j (b : Nat) : List qzc := [
 ⟨(some 13), .build [.bool false, .str [], .str []] [], none⟩,
 ⟨none, .store 3 (.t 2) (.t 13), none⟩]
def qz8n (b : Nat) : List qzc := [
 ⟨(some 14), .faddr 1 (.t 1), none⟩,
 ⟨(some 15), .load false 1 (.t 14), none⟩,
 ⟨(some 16), .faddr 2 (.t 1), none⟩,
 ⟨(some 17), .load false 1 (.t 16), none⟩,
 ⟨(some 18), .callf 60 [.t 15, .t 17], none⟩,
 ⟨(some 3), .mv (.t 18), none⟩]
def qz7f (b : Nat) : List qzc := [
 ⟨(some 20), .faddr 1 (.t 1), none⟩,
 ⟨(some 21), .load false 1 (.t 20), none⟩,
 ⟨(some 22), .mv (.t 3), none⟩,
 ⟨(some 23), .callf 96 [.t 21, .t 22], none⟩,
 ⟨(some 19), .mv (.t 23), none⟩,
 ⟨(some 24), .extract 0 (.t 19), none⟩,
 ⟨(some 25), .extract 1 (.t 19), none⟩,
 ⟨(some 26), .extract 2 (.t 19), none⟩,
 ⟨(some 4), .mv (.t 24), none⟩,
 ⟨(some 5), .mv (.t 25), none⟩,
 ⟨(some 6), .mv (.t 26), none⟩]
def qz7t (b : Nat) : List qzc := [
 ⟨(some 28), .faddr 2 (.t 1), none⟩,
 ⟨(some 29), .load false 1 (.t 28), none⟩,
 ⟨(some 30), .mv (.t 3), none⟩,
 ⟨(some 31), .callf 96 [.t 29, .t 30], none⟩,
 ⟨(some 27), .mv (.t 31), none⟩,
 ⟨(some 32), .extract 0 (.t 27), none⟩,
 ⟨(some 33), .extract 1 (.t 27), none⟩,
 ⟨(some 34), .extract 2 (.t 27), none⟩,
 ⟨(some 7), .mv (.t 32), none⟩,
 ⟨(some 8), .mv (.t 33), none⟩,
 ⟨(some 9), .mv (.t 34), none⟩]
def qz8y (b : Nat) : List qzc := [
 ⟨(some 35), .faddr 0 (.t 1), none⟩,
 ⟨(some 36), .load false 1 (.t 35), none⟩,
 ⟨(some 37), .mv (.t 4), none⟩,
 ⟨(some 38), .mv (.t 7), none⟩,
 ⟨(some 39), .build [.bool false, .str [], .str []] [(0, 1, .t 36), (1, 1, .t 37), (2, 1, .t 38)], none⟩,
 ⟨none, .store 3 (.t 2) (.t 39), none⟩]
def c62 (b : Nat) : qzk := .seq (.reg false (wzcf b) []) (.seq (.seq (.reg false (qz9f b) []) (.cond (.t 12) (.seq (.reg false (qz7j b) []) (.ret)) (.skip))) (.seq (.reg false (qz8n b) []) (.seq (.reg false (qz7f b) []) (.seq (.reg false (qz7t b) []) (.seq (.reg false (qz8y b) []) (.ret))))))
def rs62 : List ARes := [.c 2 true 3]
theorem ck62 : ∃ c, Tryz.f62.body = some c ∧ ∀ b, qzg Tryz.prog c (c62 b) = true := ⟨_, rfl, fun b => by kernel_rfl⟩
theorem cr62 : qzi Tryz.prog Tryz.f62.results.toList rs62 = true := by kernel_rfl
def qz9v (b : Nat) : List qzc := [
 ⟨(some 3), .box (b + 0) (.t 1), none⟩,
 ⟨(some 4), .alloc (b + 1) [.bool false, .str [], .str []], none⟩]
def qz9r (b : Nat) : List qzc := [
 ⟨(some 5), .mv (.t 0), none⟩,
 ⟨(some 6), .load true 3 (.t 3), none⟩,
 ⟨(some 7), .callf 61 [.t 6], none⟩,
 ⟨(some 8), .callv (.t 5) [.t 7], none⟩,
 ⟨(some 9), .callf 62 [.t 8], none⟩,
 ⟨none, .store 3 (.t 4) (.t 9), none⟩]
def c63 (b : Nat) : qzk := .seq (.reg false (qz9v b) []) (.seq (.reg false (qz9r b) []) (.ret))
def rs63 : List ARes := [.c 4 true 3]
theorem ck63 : ∃ c, Tryz.f63.body = some c ∧ ∀ b, qzg Tryz.prog c (c63 b) = true := ⟨_, rfl, fun b => by kernel_rfl⟩
theorem cr63 : qzi Tryz.prog Tryz.f63.results.toList rs63 = true := by kernel_rfl
def wzau (b : Nat) : List qzc := [
 ⟨(some 2), .box (b + 0) (.t 0), none⟩,
 ⟨(some 3), .box (b + 1) (.t 1), none⟩,
 ⟨(some 4), .alloc (b + 2) [.bool false, .str [], .str []], none⟩]
def qz7d (b : Nat) : List qzc := [
 ⟨(some 10), .faddr 1 (.t 2), none⟩,
 ⟨(some 11), .load false 1 (.t 10), none⟩,
 ⟨(some 12), .faddr 2 (.t 3), none⟩,
 ⟨(some 13), .load false 1 (.t 12), none⟩,
 ⟨(some 14), .callf 97 [.t 11, .t 13], none⟩,
 ⟨(some 15), .faddr 1 (.t 3), none⟩,
 ⟨(some 16), .load false 1 (.t 15), none⟩,
 ⟨(some 17), .faddr 2 (.t 2), none⟩,
 ⟨(some 18), .load false 1 (.t 17), none⟩,
 ⟨(some 19), .callf 97 [.t 16, .t 18], none⟩,
 ⟨(some 20), .faddr 2 (.t 2), none⟩,
 ⟨(some 21), .load false 1 (.t 20), none⟩,
 ⟨(some 22), .faddr 2 (.t 3), none⟩,
 ⟨(some 23), .load false 1 (.t 22), none⟩,
 ⟨(some 24), .callf 97 [.t 21, .t 23], none⟩,
 ⟨(some 5), .mv (.t 14), none⟩,
 ⟨(some 6), .mv (.t 19), none⟩,
 ⟨(some 7), .mv (.t 24), none⟩]
def wzew : List (List Nat) := [[], [0], [], [2], [0, 1, 2, 3], [], [5], [], [7], [0, 1, 2, 3, 4, 5, 6, 7, 8], [], [10], [], [12], [0, 1, 2, 3, 4, 5, 6, 7, 8, 9, 10, 11, 12, 13], [0, 1, 2, 3, 4, 5, 6, 7, 8, 9, 10, 11, 12, 13, 14], [0, 1, 2, 3, 4, 5, 6, 7, 8, 9, 10, 11, 12, 13, 14, 15], [0, 1, 2, 3, 4, 5, 6, 7, 8, 9, 10, 11, 12, 13, 14, 15, 16]]
def qz8x (b : Nat) : List qzc := [
 ⟨(some 25), .faddr 0 (.t 2), none⟩,
 ⟨(some 26), .load false 1 (.t 25), none⟩,
 ⟨(some 27), .faddr 0 (.t 3), none⟩,
 ⟨(some 28), .load false 1 (.t 27), none⟩,
 ⟨(some 29), .bin .eql true (.t 26) (.t 28), none⟩]
def qz6j (b : Nat) : List qzc := [
 ⟨(some 30), .faddr 0 (.t 2), none⟩,
 ⟨(some 31), .load false 1 (.t 30), none⟩,
 ⟨(some 32), .mv (.t 5), none⟩,
 ⟨(some 33), .mv (.t 6), none⟩,
 ⟨(some 34), .callf 98 [.t 32, .t 33], none⟩,
 ⟨(some 35), .mv (.t 7), none⟩,
 ⟨(some 36), .build [.bool false, .str [], .str []] [(0, 1, .t 31), (1, 1, .t 34), (2, 1, .t 35)], none⟩,
 ⟨none, .store 3 (.t 4) (.t 36), none⟩]
def wzfj : List (List Nat) := [[], [0], [], [], [2, 3], [], [0, 1, 2, 3, 4, 5], [0, 1, 2, 3, 4, 5, 6]]
def wzaz (b : Nat) : List qzc := [
 ⟨(some 37), .mv (.t 5), none⟩,
 ⟨(some 38), .mv (.t 6), none⟩,
 ⟨(some 39), .callf 99 [.t 37, .t 38], none⟩,
 ⟨(some 40), .bin .lss false (.t 39) (.c (.int .i64 0)), none⟩]
def wzcc (b : Nat) : List qzc := [
 ⟨(some 41), .mv (.t 6), none⟩,
 ⟨(some 42), .mv (.t 5), none⟩,
 ⟨(some 43), .faddr 0 (.t 3), none⟩,
 ⟨(some 44), .load false 1 (.t 43), none⟩,
 ⟨(some 5), .mv (.t 41), none⟩,
 ⟨(some 6), .mv (.t 42), none⟩,
 ⟨(some 45), .faddr 0 (.t 2), none⟩,
 ⟨none, .store 1 (.t 45) (.t 44), none⟩]
def wze7 : List (List Nat) := [[], [], [], [2], [0, 1], [0, 1, 4], [0, 1, 2, 3, 4, 5], [0, 1, 2, 3, 4, 5, 6]]
def qz6r (b : Nat) : List qzc := [
 ⟨(some 47), .mv (.t 5), none⟩,
 ⟨(some 48), .mv (.t 6), none⟩,
 ⟨(some 49), .callf 100 [.t 47, .t 48], none⟩,
 ⟨(some 46), .mv (.t 49), none⟩,
 ⟨(some 50), .extract 0 (.t 46), none⟩,
 ⟨(some 51), .extract 1 (.t 46), none⟩,
 ⟨(some 8), .mv (.t 50), none⟩,
 ⟨(some 9), .mv (.t 51), none⟩]
def qz5i (b : Nat) : List qzc := [
 ⟨(some 52), .faddr 0 (.t 2), none⟩,
 ⟨(some 53), .load false 1 (.t 52), none⟩,
 ⟨(some 54), .mv (.t 8), none⟩,
 ⟨(some 55), .mv (.t 7), none⟩,
 ⟨(some 56), .build [.bool false, .str [], .str []] [(0, 1, .t 53), (1, 1, .t 54), (2, 1, .t 55)], none⟩,
 ⟨none, .store 3 (.t 4) (.t 56), none⟩]
def c64 (b : Nat) : qzk := .seq (.reg false (wzau b) []) (.seq (.reg true (qz7d b) wzew) (.seq (.seq (.reg false (qz8x b) []) (.cond (.t 29) (.seq (.reg true (qz6j b) wzfj) (.ret)) (.skip))) (.seq (.seq (.reg false (wzaz b) []) (.cond (.t 40) (.reg true (wzcc b) wze7) (.skip))) (.seq (.reg false (qz6r b) []) (.seq (.reg false (qz5i b) []) (.ret))))))
def rs64 : List ARes := [.c 4 true 3]
theorem ck64 : ∃ c, Tryz.f64.body = some c ∧ ∀ b, qzg Tryz.prog c (c64 b) = true := ⟨_, rfl, fun b => by kernel_rfl⟩
theorem cr64 : qzi Tryz.prog Tryz.f64.results.toList rs64 = true := by kernel_rfl
def qz55 (b : Nat) : List qzc := [
 ⟨(some 2), .alloc (b + 0) [.bool false, .str [], .str []], none⟩]
def qz9q (b : Nat) : List qzc := [
 ⟨(some 3), .alloc (b + 1) [.bool false, .str [], .str []], none⟩]
def wzb7 (b : Nat) : List qzc := [
 ⟨(some 6), .mv (.t 0), none⟩,
 ⟨(some 7), .len false (.t 6), none⟩,
 ⟨(some 8), .mv (.c (.int .i64 0)), none⟩]
def wzco (b : Nat) : List qzc := [
 ⟨(some 9), .bin .lss false (.t 8) (.t 7), none⟩]
def wzag (b : Nat) : List qzc := [
 ⟨(some 10), .iaddrS 3 (.t 6) (.t 8), none⟩,
 ⟨(some 11), .load true 3 (.t 10), none⟩,
 ⟨(some 5), .alloc (b + 2) [.bool false, .str [], .str []], none⟩,
 ⟨none, .store 3 (.t 5) (.t 11), none⟩]
def qz93 (b : Nat) : List qzc := [
 ⟨(some 12), .load true 3 (.t 3), none⟩,
 ⟨(some 13), .load true 3 (.t 5), none⟩,
 ⟨(some 14), .callf 24 [.t 12, .t 13], none⟩,
 ⟨none, .store 3 (.t 3) (.t 14), none⟩]
def wzcb (b : Nat) : List qzc := [
 ⟨(some 15), .bin .add false (.t 8) (.c (.int .i64 1)), none⟩,
 ⟨(some 8), .mv (.t 15), none⟩]
def qz4b (b : Nat) : qzk := .seq (.reg false (wzco b) []) (.seq (.cond (.t 9) (.skip) (.exit 0)) (.seq (.block 1 (.seq (.reg false (wzag b) []) (.reg false (qz93 b) []))) (.reg false (wzcb b) [])))
def qz38 (b : Nat) : List qzc := [
 ⟨(some 16), .load true 3 (.t 3), none⟩,
 ⟨none, .store 3 (.t 2) (.t 16), none⟩]
def c65 (b : Nat) : qzk := .seq (.reg false (qz55 b) []) (.seq (.reg false (qz9q b) []) (.seq (.seq (.reg false (wzb7 b) []) (.block 0 (.loop (qz4b b)))) (.seq (.reg false (qz38 b) []) (.ret))))
def rs65 : List ARes := [.c 2 true 3]
theorem ck65 : ∃ c, Tryz.f65.body = some c ∧ ∀ b, qzg Tryz.prog c (c65 b) = true := ⟨_, rfl, fun b => by kernel_rfl⟩
theorem cr65 : qzi Tryz.prog Tryz.f65.results.toList rs65 = true := by kernel_rfl
def wzb6 (b : Nat) : List qzc := [
 ⟨(some 2), .box (b + 0) (.t 0), none⟩,
 ⟨(some 3), .box (b + 1) (.t 1), none⟩,
 ⟨(some 4), .alloc (b + 2) [.bool false, .str [], .str []], none⟩]
def qz6m (b : Nat) : List qzc := [
 ⟨(some 5), .faddr 0 (.t 3), none⟩,
 ⟨(some 6), .load false 1 (.t 5), none⟩,
 ⟨(some 7), .not (.t 6), none⟩,
 ⟨(some 8), .faddr 0 (.t 3), none⟩,
 ⟨none, .store 1 (.t 8) (.t 7), none⟩]
def qz6c (b : Nat) : List qzc := [
 ⟨(some 9), .load true 3 (.t 2), none⟩,
 ⟨(some 10), .load true 3 (.t 3), none⟩,
 ⟨(some 11), .callf 64 [.t 9, .t 10], none⟩,
 ⟨none, .store 3 (.t 4) (.t 11), none⟩]
def c66 (b : Nat) : qzk := .seq (.reg false (wzb6 b) []) (.seq (.reg false (qz6m b) []) (.seq (.reg false (qz6c b) []) (.ret)))
def rs66 : List ARes := [.c 4 true 3]
theorem ck66 : ∃ c, Tryz.f66.body = some c ∧ ∀ b, qzg Tryz.prog c (c66 b) = true := ⟨_, rfl, fun b => by kernel_rfl⟩
theorem cr66 : qzi Tryz.prog Tryz.f66.results.toList rs66 = true := by kernel_rfl
def wzav (b : Nat) : List qzc := [
 ⟨(some 2), .box (b + 0) (.t 0), none⟩,
 ⟨(some 3), .box (b + 1) (.t 1), none⟩,
 ⟨(some 4), .alloc (b + 2) [.bool false, .str [], .str []], none⟩]
def qz5v (b : Nat) : List qzc := [
 ⟨(some 5), .faddr 0 (.t 2), none⟩,
 ⟨(some 6), .load false 1 (.t 5), none⟩,
 ⟨(some 7), .faddr 0 (.t 3), none⟩,
 ⟨(some 8), .load false 1 (.t 7), none⟩,
 ⟨(some 9), .bin .neq true (.t 6) (.t 8), none⟩,
 ⟨(some 10), .faddr 1 (.t 2), none⟩,
 ⟨(some 11), .load false 1 (.t 10), none⟩,
 ⟨(some 12), .faddr 1 (.t 3), none⟩,
 ⟨(some 13), .load false 1 (.t 12), none⟩,
 ⟨(some 14), .callf 97 [.t 11, .t 13], none⟩,
 ⟨(some 15), .faddr 2 (.t 2), none⟩,
 ⟨(some 16), .load false 1 (.t 15), none⟩,
 ⟨(some 17), .faddr 2 (.t 3), none⟩,
 ⟨(some 18), .load false 1 (.t 17), none⟩,
 ⟨(some 19), .callf 97 [.t 16, .t 18], none⟩,
 ⟨(some 20), .build [.bool false, .str [], .str []] [(0, 1, .t 9), (1, 1, .t 14), (2, 1, .t 19)], none⟩,
 ⟨none, .store 3 (.t 4) (.t 20), none⟩]
def wze5 : List (List Nat) := [[], [0], [], [2], [0, 1, 2, 3], [], [5], [], [7], [5, 6, 7, 8], [], [10], [], [12], [5, 6, 7, 8, 9, 10, 11, 12, 13], [0, 1, 2, 3, 4, 5, 6, 7, 8, 9, 10, 11, 12, 13, 14], [0, 1, 2, 3, 4, 5, 6, 7, 8, 9, 10, 11, 12, 13, 14, 15]]
def c67 (b : Nat) : qzk := .seq (.reg false (wzav b) []) (.seq (.reg true (qz5v b) wze5) (.ret))
def rs67 : List ARes := [.c 4 true 3]
theorem ck67 : ∃ c, Tryz.f67.body = some c ∧ ∀ b, qzg Tryz.prog c (c67 b) = true := ⟨_, rfl, fun b => by kernel_rfl⟩
theorem cr67 : qzi Tryz.prog Tryz.f67.results.toList rs67 = true := by kernel_rfl
def qz39 (b : Nat) : List qzc := [
 ⟨(some 2), .mv (.c (.bool false)), none⟩]
def qz4x (b : Nat) : List qzc := [
 ⟨(some 3), .mv (.t 0), none⟩,
 ⟨(some 4), .bin .geq false (.t 3) (.c (.int .i64 (-999999999999999))), none⟩,
 ⟨(some 5), .mv (.t 4), none⟩,
 ⟨(some 6), .mv (.t 0), (some (5, true))⟩,
 ⟨(some 7), .bin .leq false (.t 6) (.c (.int .i64 999999999999999)), (some (5, true))⟩,
 ⟨(some 8), .pick (.t 5) (.t 7) (.c (.bool false)), none⟩,
 ⟨(some 2), .mv (.t 8), none⟩]
def c68 (b : Nat) : qzk := .seq (.reg false (qz39 b) []) (.seq (.reg false (qz4x b) []) (.ret))
def rs68 : List ARes := [.t 2]
theorem ck68 : ∃ c, Tryz.f68.body = some c ∧ ∀ b, qzg Tryz.prog c (c68 b) = true := ⟨_, rfl, fun b => by kernel_rfl⟩
theorem cr68 : qzi Tryz.prog Tryz.f68.results.toList rs68 = true := by kernel_rfl
def wzcm (b : Nat) : List qzc := [
 ⟨(some 2), .alloc (b + 0) [.bool false, .str [], .str []], none⟩]
def qz64 (b : Nat) : List qzc := [
 ⟨(some 6), .mv (.t 0), none⟩,
 ⟨(some 7), .mv (.t 0), none⟩,
 ⟨(some 8), .neg (.t 7), none⟩,
 ⟨(some 9), .max (.t 6) (.t 8), none⟩,
 ⟨(some 10), .callf 101 [.t 9], none⟩,
 ⟨(some 5), .mv (.t 10), none⟩,
 ⟨(some 11), .extract 0 (.t 5), none⟩,
 ⟨(some 12), .extract 1 (.t 5), none⟩,
 ⟨(some 3), .mv (.t 11), none⟩,
 ⟨(some 4), .mv (.t 12), none⟩]
def qz54 (b : Nat) : List qzc := [
 ⟨(some 13), .mv (.t 0), none⟩,
 ⟨(some 14), .bin .lss false (.t 13) (.c (.int .i64 0)), none⟩,
 ⟨(some 15), .mv (.t 3), none⟩,
 ⟨(some 16), .build [.bool false, .str [], .str []] [(0, 1, .t 14), (1, 1, .t 15), (2, 1, .c (.str [1]))], none⟩,
 ⟨none, .store 3 (.t 2) (.t 16), none⟩]
def c69 (b : Nat) : qzk := .seq (.reg false (wzcm b) []) (.seq (.reg false (qz64 b) []) (.seq (.reg false (qz54 b) []) (.ret)))
def rs69 : List ARes := [.c 2 true 3]
theorem ck69 : ∃ c, Tryz.f69.body = some c ∧ ∀ b, qzg Tryz.prog c (c69 b) = true := ⟨_, rfl, fun b => by kernel_rfl⟩
theorem cr69 : qzi Tryz.prog Tryz.f69.results.toList rs69 = true := by kernel_rfl
def qz7b (b : Nat) : List qzc := [
 ⟨(some 2), .box (b + 0) (.t 0), none⟩,
 ⟨(some 4), .mv (.c (.bool false)), none⟩]
def wzcg (b : Nat) : List qzc := [
 ⟨(some 5), .faddr 1 (.t 2), none⟩,
 ⟨(some 6), .load false 1 (.t 5), none⟩,
 ⟨(some 7), .len true (.t 6), none⟩,
 ⟨(some 8), .mv (.t 1), none⟩,
 ⟨(some 9), .bin .leq false (.t 7) (.t 8), none⟩,
 ⟨(some 10), .mv (.t 9), none⟩,
 ⟨(some 11), .faddr 2 (.t 2), (some (10, true))⟩,
 ⟨(some 12), .load false 1 (.t 11), (some (10, true))⟩,
 ⟨(some 13), .len true (.t 12), (some (10, true))⟩,
 ⟨(some 14), .mv (.t 1), (some (10, true))⟩,
 ⟨(some 15), .bin .leq false (.t 13) (.t 14), (some (10, true))⟩,
 ⟨(some 16), .pick (.t 10) (.t 15) (.c (.bool false)), none⟩,
 ⟨(some 4), .mv (.t 16), none⟩]
def c70 (b : Nat) : qzk := .seq (.reg false (qz7b b) []) (.seq (.reg false (wzcg b) []) (.ret))
def rs70 : List ARes := [.t 4]
theorem ck70 : ∃ c, Tryz.f70.body = some c ∧ ∀ b, qzg Tryz.prog c (c70 b) = true := ⟨_, rfl, fun b => by kernel_rfl⟩
theorem cr70 : qzi Tryz.prog Tryz.f70.results.toList rs70 = true := by kernel_rfl
def qz4t (b : Nat) : List qzc := [
 ⟨(some 4), .alloc (b + 0) [.bool false, .str [], .str []], none⟩,
 ⟨(some 5), .mv (.c (.int .i64 0)), none⟩]
def qz37 (b : Nat) : List qzc := [
 ⟨(some 6), .mv (.t 0), none⟩,
 ⟨(some 7), .callf 68 [.t 6], none⟩,
 ⟨(some 8), .not (.t 7), none⟩,
 ⟨(some 9), .mv (.t 8), none⟩,
 ⟨(some 10), .mv (.t 1), (some (9, false))⟩,
 ⟨(some 11), .callf 68 [.t 10], (some (9, false))⟩,
 ⟨(some 12), .not (.t 11), (some (9, false))⟩,
 ⟨(some 13), .pick (.t 9) (.c (.bool true)) (.t 12), none⟩]
def qz6t (b : Nat) : List qzc := [
 ⟨(some 14), .build [.bool false, .str [], .str []] [], none⟩,
 ⟨none, .store 3 (.t 4) (.t 14), none⟩,
 ⟨(some 5), .mv (.c (.int .i64 3)), none⟩]
def wza5 (b : Nat) : List qzc := [
 ⟨(some 15), .mv (.t 1), none⟩,
 ⟨(some 16), .bin .eql false (.t 15) (.c (.int .i64 0)), none⟩]
def qz7g (b : Nat) : List qzc := [
 ⟨(some 17), .build [.bool false, .str [], .str []] [], none⟩,
 ⟨none, .store 3 (.t 4) (.t 17), none⟩,
 ⟨(some 5), .mv (.c (.int .i64 1)), none⟩]
def qz42 (b : Nat) : List qzc := [
 ⟨(some 18), .mv (.t 0), none⟩,
 ⟨(some 19), .callf 69 [.t 18], none⟩,
 ⟨(some 20), .mv (.t 1), none⟩,
 ⟨(some 21), .callf 69 [.t 20], none⟩,
 ⟨(some 22), .callf 102 [.t 19, .t 21], none⟩,
 ⟨(some 23), .callf 62 [.t 22], none⟩,
 ⟨none, .store 3 (.t 4) (.t 23), none⟩,
 ⟨(some 5), .mv (.c (.int .i64 0)), none⟩]
def c71 (b : Nat) : qzk := .seq (.reg false (qz4t b) []) (.seq (.seq (.reg false (qz37 b) []) (.cond (.t 13) (.seq (.reg false (qz6t b) []) (.ret)) (.skip))) (.seq (.seq (.reg false (wza5 b) []) (.cond (.t 16) (.seq (.reg false (qz7g b) []) (.ret)) (.skip))) (.seq (.reg false (qz42 b) []) (.ret))))
def rs71 : List ARes := [.c 4 true 3, .t 5]
theorem ck71 : ∃ c, Tryz.f71.body = some c ∧ ∀ b, qzg Tryz.prog c (c71 b) = true := ⟨_, rfl, fun b => by kernel_rfl⟩
theorem cr71 : qzi Tryz.prog Tryz.f71.results.toList rs71 = true := by kernel_rfl
def qz6y (b : Nat) : List qzc := [
 ⟨(some 1), .box (b + 0) (.t 0), none⟩,
 ⟨(some 2), .alloc (b + 1) [.bool false, .str [], .str []], none⟩]
def wzb9 (b : Nat) : List qzc := [
 ⟨(some 3), .faddr 5 (.t 1), none⟩,
 ⟨(some 4), .load true 3 (.t 3), none⟩,
 ⟨none, .store 3 (.t 2) (.t 4), none⟩]
def c72 (b : Nat) : qzk := .seq (.reg false (qz6y b) []) (.seq (.reg false (wzb9 b) []) (.ret))
def rs72 : List ARes := [.c 2 true 3]
theorem ck72 : ∃ c, Tryz.f72.body = some c ∧ ∀ b, qzg Tryz.prog c (c72 b) = true := ⟨_, rfl, fun b => by kernel_rfl⟩
theorem cr72 : qzi Tryz.prog Tryz.f72.results.toList rs72 = true := by kernel_rfl
def wzfw (b : Nat) : List qzc := [
 ⟨(some 5), .mv (.t 0), none⟩,
 ⟨(some 6), .len false (.t 5), none⟩,
 ⟨(some 4), .mv (.t 6), none⟩]
def wzgc (b : Nat) : List qzc := [
 ⟨(some 7), .mv (.t 0), none⟩,
 ⟨(some 8), .mv (.t 4), none⟩,
 ⟨(some 9), .mv (.t 4), none⟩,
 ⟨(some 10), .conv .u64 (.t 9), none⟩,
 ⟨(some 11), .callf 104 [.t 10], none⟩,
 ⟨(some 12), .mv (.t 1), none⟩,
 ⟨(some 13), .callf 103 [.t 7, .c (.int .i64 0), .t 8, .t 11, .t 12], none⟩]
def c73 (b : Nat) : qzk := .seq (.reg false (wzfw b) []) (.reg false (wzgc b) [])
def rs73 : List ARes := []
theorem ck73 : ∃ c, Tryz.f73.body = some c ∧ ∀ b, qzg Tryz.prog c (c73 b) = true := ⟨_, rfl, fun b => by kernel_rfl⟩
theorem cr73 : qzi Tryz.prog Tryz.f73.results.toList rs73 = true := by kernel_rfl
def wzhc (b : Nat) : List qzc := [
 ⟨(some 2), .box (b + 0) (.t 0), none⟩,
 ⟨(some 3), .box (b + 1) (.t 1), none⟩,
 ⟨(some 4), .mv (.c (.int .i64 0)), none⟩]
def wzhd (b : Nat) : List qzc := [
 ⟨(some 5), .load true 3 (.t 2), none⟩,
 ⟨(some 6), .load true 3 (.t 3), none⟩,
 ⟨(some 7), .callf 26 [.t 5, .t 6], none⟩,
 ⟨(some 4), .mv (.t 7), none⟩]
def c74 (b : Nat) : qzk := .seq (.reg false (wzhc b) []) (.seq (.reg false (wzhd b) []) (.ret))
def rs74 : List ARes := [.t 4]
theorem ck74 : ∃ c, Tryz.f74.body = some c ∧ ∀ b, qzg Tryz.prog c (c74 b) = true := ⟨_, rfl, fun b => by kernel_rfl⟩
theorem cr74 : qzi Tryz.prog Tryz.f74.results.toList rs74 = true := by kernel_rfl
def wzck (b : Nat) : List qzc := [
 ⟨(some 1), .box (b + 0) (.t 0), none⟩,
 ⟨(some 2), .alloc (b + 1) [.bool false, .str [], .str []], none⟩]
def wzai (b : Nat) : List qzc := [
 ⟨(some 3), .faddr 2 (.t 1), none⟩,
 ⟨(some 4), .load true 3 (.t 3), none⟩,
 ⟨none, .store 3 (.t 2) (.t 4), none⟩]
def c75 (b : Nat) : qzk := .seq (.reg false (wzck b) []) (.seq (.reg false (wzai b) []) (.ret))
def rs75 : List ARes := [.c 2 true 3]
theorem ck75 : ∃ c, Tryz.f75.body = some c ∧ ∀ b, qzg Tryz.prog c (c75 b) = true := ⟨_, rfl, fun b => by kernel_rfl⟩
theorem cr75 : qzi Tryz.prog Tryz.f75.results.toList rs75 = true := by kernel_rfl
def qz9s (b : Nat) : List qzc := [
 ⟨(some 2), .box (b + 0) (.t 0), none⟩,
 ⟨(some 3), .box (b + 1) (.t 1), none⟩,
 ⟨(some 4), .alloc (b + 2) [.bool false, .str [], .str []], none⟩,
 ⟨(some 5), .mv (.c (.int .i64 0)), none⟩]
def qz4l (b : Nat) : List qzc := [
 ⟨(some 6), .load true 3 (.t 3), none⟩,
 ⟨(some 7), .callf 61 [.t 6], none⟩,
 ⟨(some 8), .field false 1 1 (.t 7), none⟩,
 ⟨(some 9), .bin .eql false (.t 8) (.c (.str [])), none⟩]
def wzcs (b : Nat) : List qzc := [
 ⟨(some 10), .build [.bool false, .str [], .str []] [], none⟩,
 ⟨none, .store 3 (.t 4) (.t 10), none⟩,
 ⟨(some 5), .mv (.c (.int .i64 1)), none⟩]
def qz9d (b : Nat) : List qzc := [
 ⟨(some 11), .load true 3 (.t 2), none⟩,
 ⟨(some 12), .callf 61 [.t 11], none⟩,
 ⟨(some 13), .mkfn 102 1 [.t 12], none⟩,
 ⟨(some 14), .load true 3 (.t 3), none⟩,
 ⟨(some 15), .callf 63 [.t 13, .t 14], none⟩,
 ⟨none, .store 3 (.t 4) (.t 15), none⟩,
 ⟨(some 5), .mv (.c (.int .i64 0)), none⟩]
def wzer : List (List Nat) := [[], [0], [0, 1], [], [0, 1, 2, 3], [0, 1, 2, 3, 4], [0, 1, 2, 3, 4, 5]]
def c76 (b : Nat) : qzk := .seq (.reg false (qz9s b) []) (.seq (.seq (.reg false (qz4l b) []) (.cond (.t 9) (.seq (.reg false (wzcs b) []) (.ret)) (.skip))) (.seq (.reg true (qz9d b) wzer) (.ret)))
def rs76 : List ARes := [.c 4 true 3, .t 5]
theorem ck76 : ∃ c, Tryz.f76.body = some c ∧ ∀ b, qzg Tryz.prog c (c76 b) = true := ⟨_, rfl, fun b => by kernel_rfl⟩
theorem cr76 : qzi Tryz.prog Tryz.f76.results.toList rs76 = true := by kernel_rfl
def qz94 (b : Nat) : List qzc := [
 ⟨(some 4), .mv (.c (.int .i64 0)), none⟩]
def qz35 (b : Nat) : List qzc := [
 ⟨(some 6), .mv (.t 0), none⟩,
 ⟨(some 7), .len false (.t 6), none⟩,
 ⟨(some 8), .mv (.c (.int .i64 0)), none⟩]
def qz9y (b : Nat) : List qzc := [
 ⟨(some 9), .bin .lss false (.t 8) (.t 7), none⟩]
def qz70 (b : Nat) : List qzc := [
 ⟨(some 10), .mv (.t 8), none⟩,
 ⟨(some 5), .mv (.t 10), none⟩]
def qz5l (b : Nat) : List qzc := [
 ⟨(some 11), .mv (.t 1), none⟩,
 ⟨(some 12), .mv (.t 0), none⟩,
 ⟨(some 13), .mv (.t 5), none⟩,
 ⟨(some 14), .iaddrS 8 (.t 12) (.t 13), none⟩,
 ⟨(some 15), .load true 8 (.t 14), none⟩,
 ⟨(some 16), .callv (.t 11) [.t 15], none⟩]
def qz7q (b : Nat) : List qzc := [
 ⟨(some 17), .mv (.t 5), none⟩,
 ⟨(some 4), .mv (.t 17), none⟩]
def qz5m (b : Nat) : List qzc := [
 ⟨(some 18), .bin .add false (.t 8) (.c (.int .i64 1)), none⟩,
 ⟨(some 8), .mv (.t 18), none⟩]
def qz8v (b : Nat) : qzk := .seq (.reg false (qz9y b) []) (.seq (.cond (.t 9) (.skip) (.exit 0)) (.seq (.block 1 (.seq (.reg false (qz70 b) []) (.seq (.reg false (qz5l b) []) (.cond (.t 16) (.seq (.reg false (qz7q b) []) (.ret)) (.skip))))) (.reg false (qz5m b) [])))
def qz80 (b : Nat) : List qzc := [
 ⟨(some 4), .mv (.c (.int .i64 (-1))), none⟩]
def c87 (b : Nat) : qzk := .seq (.reg false (qz94 b) []) (.seq (.seq (.reg false (qz35 b) []) (.block 0 (.loop (qz8v b)))) (.seq (.reg false (qz80 b) []) (.ret)))
def rs87 : List ARes := [.t 4]
theorem ck87 : ∃ c, Tryz.f87.body = some c ∧ ∀ b, qzg Tryz.prog c (c87 b) = true := ⟨_, rfl, fun b => by kernel_rfl⟩
theorem cr87 : qzi Tryz.prog Tryz.f87.results.toList rs87 = true := by kernel_rfl
def qz36 (b : Nat) : List qzc := [
 ⟨(some 5), .mv (.c (.nils)), none⟩]
def qz9c (b : Nat) : List qzc := [
 ⟨(some 8), .mv (.t 1), none⟩,
 ⟨(some 9), .len false (.t 8), none⟩,
 ⟨(some 10), .bin .eql false (.t 9) (.c (.int .i64 0)), none⟩]
def qz7i (b : Nat) : List qzc := [
 ⟨(some 11), .mv (.t 0), none⟩,
 ⟨(some 5), .mv (.t 11), none⟩]
def wzax (b : Nat) : List qzc := [
 ⟨(some 13), .mv (.t 0), none⟩,
 ⟨(some 14), .mv (.t 1), none⟩,
 ⟨(some 15), .callf 93 [.t 13, .t 14], none⟩,
 ⟨(some 12), .mv (.t 15), none⟩,
 ⟨(some 16), .extract 0 (.t 12), none⟩,
 ⟨(some 17), .extract 1 (.t 12), none⟩,
 ⟨(some 6), .mv (.t 16), none⟩,
 ⟨(some 7), .mv (.t 17), none⟩]
def qz6x (b : Nat) : List qzc := [
 ⟨(some 18), .load false 1 (.t 2), none⟩,
 ⟨(some 19), .mv (.t 1), none⟩,
 ⟨(some 20), .mv (.t 7), none⟩,
 ⟨(some 21), .callv (.t 18) [.t 19, .t 20], none⟩,
 ⟨(some 5), .mv (.t 21), none⟩]
def c92 (b : Nat) : qzk := .seq (.reg false (qz36 b) []) (.seq (.seq (.reg false (qz9c b) []) (.cond (.t 10) (.seq (.reg false (qz7i b) []) (.ret)) (.skip))) (.seq (.reg false (wzax b) []) (.seq (.reg false (qz6x b) []) (.ret))))
def rs92 : List ARes := [.t 5]
theorem ck92 : ∃ c, Tryz.f92.body = some c ∧ ∀ b, qzg Tryz.prog c (c92 b) = true := ⟨_, rfl, fun b => by kernel_rfl⟩
theorem cr92 : qzi Tryz.prog Tryz.f92.results.toList rs92 = true := by kernel_rfl
def qz90 (b : Nat) : List qzc := [
 ⟨(some 4), .mv (.c (.nils)), none⟩,
 ⟨(some 5), .mv (.c (.nils)), none⟩]
def wzbv (b : Nat) : List qzc := [
 ⟨(some 20), .mv (.t 0), none⟩,
 ⟨(some 21), .mv (.t 1), none⟩,
 ⟨(some 22), .callf 112 [.t 20, .t 21], none⟩,
 ⟨(some 23), .bin .lss false (.t 22) (.c (.int .i64 0)), none⟩]
def wzaa (b : Nat) : List qzc := [
 ⟨(some 24), .mv (.t 0), none⟩,
 ⟨(some 4), .mv (.c (.nils)), none⟩,
 ⟨(some 5), .mv (.t 24), none⟩]
def qz9p (b : Nat) : List qzc := [
 ⟨(some 25), .mv (.t 1), none⟩,
 ⟨(some 26), .len false (.t 25), none⟩,
 ⟨(some 27), .bin .eql false (.t 26) (.c (.int .i64 1)), none⟩]
def qz8e (b : Nat) : List qzc := [
 ⟨(some 29), .mv (.t 0), none⟩,
 ⟨(some 30), .mv (.t 1), none⟩,
 ⟨(some 31), .iaddrS 1 (.t 30) (.c (.int .i64 0)), none⟩,
 ⟨(some 32), .load false 1 (.t 31), none⟩,
 ⟨(some 33), .callf 113 [.t 29, .t 32], none⟩,
 ⟨(some 28), .mv (.t 33), none⟩,
 ⟨(some 34), .extract 0 (.t 28), none⟩,
 ⟨(some 35), .extract 1 (.t 28), none⟩,
 ⟨(some 6), .mv (.t 34), none⟩,
 ⟨(some 7), .mv (.t 35), none⟩]
def qzwe (b : Nat) : List qzc := [
 ⟨(some 36), .mv (.t 6), none⟩,
 ⟨(some 37), .mv (.t 7), none⟩,
 ⟨(some 38), .bslice (b + 0) 1 1 [.int .u32 0] [(0, 1, .t 37)], none⟩,
 ⟨(some 39), .callf 114 [.t 38], none⟩,
 ⟨(some 4), .mv (.t 36), none⟩,
 ⟨(some 5), .mv (.t 39), none⟩]
def wzal (b : Nat) : List qzc := [
 ⟨(some 8), .mv (.c (.int .i64 0)), none⟩]
def qz4s (b : Nat) : List qzc := [
 ⟨(some 40), .mv (.t 1), none⟩,
 ⟨(some 41), .mv (.t 1), none⟩,
 ⟨(some 42), .len false (.t 41), none⟩,
 ⟨(some 43), .bin .sub false (.t 42) (.c (.int .i64 1)), none⟩,
 ⟨(some 44), .iaddrS 1 (.t 40) (.t 43), none⟩,
 ⟨(some 45), .load false 1 (.t 44), none⟩,
 ⟨(some 46), .mv (.t 8), none⟩,
 ⟨(some 47), .bin .shl false (.t 45) (.t 46), none⟩,
 ⟨(some 48), .bin .lss false (.t 47) (.c (.int .u32 2147483648)), none⟩]
def wzaf (b : Nat) : List qzc := [
 ⟨(some 49), .mv (.t 8), none⟩,
 ⟨(some 50), .bin .add false (.t 49) (.c (.int .i64 1)), none⟩,
 ⟨(some 8), .mv (.t 50), none⟩]
def qz7x (b : Nat) : qzk := .seq (.seq (.reg false (qz4s b) []) (.cond (.t 48) (.skip) (.exit 0))) (.block 1 (.reg false (wzaf b) []))
def wzce (b : Nat) : List qzc := [
 ⟨(some 51), .mv (.t 1), none⟩,
 ⟨(some 52), .mv (.t 8), none⟩,
 ⟨(some 53), .callf 115 [.t 51, .t 52], none⟩,
 ⟨(some 9), .mv (.t 53), none⟩]
def qz2e (b : Nat) : List qzc := [
 ⟨(some 54), .mv (.t 0), none⟩,
 ⟨(some 55), .mv (.t 8), none⟩,
 ⟨(some 56), .callf 115 [.t 54, .t 55], none⟩,
 ⟨(some 57), .callf 116 [.t 56], none⟩,
 ⟨(some 58), .bslice (b + 3) 1 2 [.int .u32 0, .int .u32 0] [(0, 1, .c (.int .u32 0)), (1, 1, .c (.int .u32 0))], none⟩,
 ⟨(some 59), .append (b + 4) 1 4 (.t 57) (.t 58), none⟩,
 ⟨(some 10), .mv (.t 59), none⟩]
def qzx7 (b : Nat) : List qzc := [
 ⟨(some 60), .mv (.t 9), none⟩,
 ⟨(some 61), .len false (.t 60), none⟩,
 ⟨(some 11), .mv (.t 61), none⟩]
def qzxy (b : Nat) : List qzc := [
 ⟨(some 62), .mv (.t 0), none⟩,
 ⟨(some 63), .len false (.t 62), none⟩,
 ⟨(some 64), .mv (.t 11), none⟩,
 ⟨(some 65), .bin .sub false (.t 63) (.t 64), none⟩,
 ⟨(some 66), .bin .add false (.t 65) (.c (.int .i64 2)), none⟩,
 ⟨(some 67), .mks (b + 5) 1 4 [.int .u32 0] (.t 66), none⟩,
 ⟨(some 12), .mv (.t 67), none⟩]
def qz1e (b : Nat) : List qzc := [
 ⟨(some 68), .mv (.t 10), none⟩,
 ⟨(some 69), .len false (.t 68), none⟩,
 ⟨(some 70), .mv (.t 11), none⟩,
 ⟨(some 71), .bin .sub false (.t 69) (.t 70), none⟩,
 ⟨(some 72), .bin .sub false (.t 71) (.c (.int .i64 1)), none⟩,
 ⟨(some 13), .mv (.t 72), none⟩]
def qzyu (b : Nat) : List qzc := [
 ⟨(some 73), .mv (.t 13), none⟩,
 ⟨(some 74), .bin .geq false (.t 73) (.c (.int .i64 0)), none⟩]
def qzyt (b : Nat) : List qzc := [
 ⟨(some 77), .mv (.t 10), none⟩,
 ⟨(some 78), .mv (.t 13), none⟩,
 ⟨(some 79), .mv (.t 11), none⟩,
 ⟨(some 80), .bin .add false (.t 78) (.t 79), none⟩,
 ⟨(some 81), .iaddrS 1 (.t 77) (.t 80), none⟩,
 ⟨(some 82), .load false 1 (.t 81), none⟩,
 ⟨(some 83), .conv .u64 (.t 82), none⟩,
 ⟨(some 84), .bin .shl false (.t 83) (.c (.int .u64 32)), none⟩,
 ⟨(some 85), .mv (.t 10), none⟩,
 ⟨(some 86), .mv (.t 13), none⟩,
 ⟨(some 87), .mv (.t 11), none⟩,
 ⟨(some 88), .bin .add false (.t 86) (.t 87), none⟩,
 ⟨(some 89), .bin .sub false (.t 88) (.c (.int .i64 1)), none⟩,
 ⟨(some 90), .iaddrS 1 (.t 85) (.t 89), none⟩,
 ⟨(some 91), .load false 1 (.t 90), none⟩,
 ⟨(some 92), .conv .u64 (.t 91), none⟩,
 ⟨(some 93), .bin .or false (.t 84) (.t 92), none⟩,
 ⟨(some 14), .mv (.t 93), none⟩]
def wzcz : List (List Nat) := [[], [], [], [1, 2], [0, 1, 2, 3], [0, 1, 2, 3, 4], [0, 1, 2, 3, 4, 5], [0, 1, 2, 3, 4, 5, 6], [], [], [], [9, 10], [9, 10, 11], [8, 9, 10, 11, 12], [8, 9, 10, 11, 12, 13], [8, 9, 10, 11, 12, 13, 14], [0, 1, 2, 3, 4, 5, 6, 7, 8, 9, 10, 11, 12, 13, 14, 15], [0, 1, 2, 3, 4, 5, 6, 7, 8, 9, 10, 11, 12, 13, 14, 15, 16]]
def qz1o (b : Nat) : List qzc := [
 ⟨(some 94), .mv (.t 14), none⟩,
 ⟨(some 95), .mv (.t 9), none⟩,
 ⟨(some 96), .mv (.t 11), none⟩,
 ⟨(some 97), .bin .sub false (.t 96) (.c (.int .i64 1)), none⟩,
 ⟨(some 98), .iaddrS 1 (.t 95) (.t 97), none⟩,
 ⟨(some 99), .load false 1 (.t 98), none⟩,
 ⟨(some 100), .conv .u64 (.t 99), none⟩,
 ⟨(some 101), .bin .quo false (.t 94) (.t 100), none⟩,
 ⟨(some 102), .min (.t 101) (.c (.int .u64 4294967295)), none⟩,
 ⟨(some 15), .mv (.t 102), none⟩,
 ⟨(some 16), .mv (.c (.int .u64 0)), none⟩]
def qzzm (b : Nat) : List qzc := [
 ⟨(some 103), .mv (.t 14), none⟩,
 ⟨(some 104), .mv (.t 15), none⟩,
 ⟨(some 105), .mv (.t 9), none⟩,
 ⟨(some 106), .mv (.t 11), none⟩,
 ⟨(some 107), .bin .sub false (.t 106) (.c (.int .i64 1)), none⟩,
 ⟨(some 108), .iaddrS 1 (.t 105) (.t 107), none⟩,
 ⟨(some 109), .load false 1 (.t 108), none⟩,
 ⟨(some 110), .conv .u64 (.t 109), none⟩,
 ⟨(some 111), .bin .mul false (.t 104) (.t 110), none⟩,
 ⟨(some 112), .bin .sub false (.t 103) (.t 111), none⟩,
 ⟨(some 16), .mv (.t 112), none⟩]
def qzsv (b : Nat) : List qzc := [
 ⟨(some 113), .mv (.t 16), none⟩,
 ⟨(some 114), .bin .lss false (.t 113) (.c (.int .u64 4294967296)), none⟩,
 ⟨(some 115), .mv (.t 114), none⟩,
 ⟨(some 116), .mv (.t 15), (some (115, true))⟩,
 ⟨(some 117), .mv (.t 9), (some (115, true))⟩,
 ⟨(some 118), .mv (.t 11), (some (115, true))⟩,
 ⟨(some 119), .bin .sub false (.t 118) (.c (.int .i64 2)), (some (115, true))⟩,
 ⟨(some 120), .iaddrS 1 (.t 117) (.t 119), (some (115, true))⟩,
 ⟨(some 121), .load false 1 (.t 120), (some (115, true))⟩,
 ⟨(some 122), .conv .u64 (.t 121), (some (115, true))⟩,
 ⟨(some 123), .bin .mul false (.t 116) (.t 122), (some (115, true))⟩,
 ⟨(some 124), .mv (.t 16), (some (115, true))⟩,
 ⟨(some 125), .bin .shl false (.t 124) (.c (.int .u64 32)), (some (115, true))⟩,
 ⟨(some 126), .mv (.t 10), (some (115, true))⟩,
 ⟨(some 127), .mv (.t 13), (some (115, true))⟩,
 ⟨(some 128), .mv (.t 11), (some (115, true))⟩,
 ⟨(some 129), .bin .add false (.t 127) (.t 128), (some (115, true))⟩,
 ⟨(some 130), .bin .sub false (.t 129) (.c (.int .i64 2)), (some (115, true))⟩,
 ⟨(some 131), .iaddrS 1 (.t 126) (.t 130), (some (115, true))⟩,
 ⟨(some 132), .load false 1 (.t 131), (some (115, true))⟩,
 ⟨(some 133), .conv .u64 (.t 132), (some (115, true))⟩,
 ⟨(some 134), .bin .or false (.t 125) (.t 133), (some (115, true))⟩,
 ⟨(some 135), .bin .gtr false (.t 123) (.t 134), (some (115, true))⟩,
 ⟨(some 136), .pick (.t 115) (.t 135) (.c (.bool false)), none⟩]
def wzdf : List (List Nat) := [[], [0], [0, 1], [0, 1, 2], [0, 1, 2], [0, 1, 2], [0, 1, 2, 5], [0, 1, 2, 4, 5, 6], [0, 1, 2, 4, 5, 6, 7], [0, 1, 2, 4, 5, 6, 7, 8], [0, 1, 2, 3, 4, 5, 6, 7, 8, 9], [0, 1, 2], [0, 1, 2, 11], [0, 1, 2], [0, 1, 2], [0, 1, 2], [0, 1, 2, 14, 15], [0, 1, 2, 14, 15, 16], [0, 1, 2, 13, 14, 15, 16, 17], [0, 1, 2, 13, 14, 15, 16, 17, 18], [0, 1, 2, 13, 14, 15, 16, 17, 18, 19], [0, 1, 2, 11, 12, 13, 14, 15, 16, 17, 18, 19, 20], [0, 1, 2, 3, 4, 5, 6, 7, 8, 9, 10, 11, 12, 13, 14, 15, 16, 17, 18, 19, 20, 21], [0, 1, 2, 3, 4, 5, 6, 7, 8, 9, 10, 11, 12, 13, 14, 15, 16, 17, 18, 19, 20, 21, 22]]
def qzzd (b : Nat) : List qzc := [
 ⟨(some 137), .mv (.t 15), none⟩,
 ⟨(some 138), .bin .sub false (.t 137) (.c (.int .u64 1)), none⟩,
 ⟨(some 15), .mv (.t 138), none⟩]
def qz0g (b : Nat) : List qzc := [
 ⟨(some 139), .mv (.t 16), none⟩,
 ⟨(some 140), .mv (.t 9), none⟩,
 ⟨(some 141), .mv (.t 11), none⟩,
 ⟨(some 142), .bin .sub false (.t 141) (.c (.int .i64 1)), none⟩,
 ⟨(some 143), .iaddrS 1 (.t 140) (.t 142), none⟩,
 ⟨(some 144), .load false 1 (.t 143), none⟩,
 ⟨(some 145), .conv .u64 (.t 144), none⟩,
 ⟨(some 146), .bin .add false (.t 139) (.t 145), none⟩,
 ⟨(some 16), .mv (.t 146), none⟩]
def wzas (b : Nat) : qzk := .seq (.seq (.reg true (qzsv b) wzdf) (.cond (.t 136) (.skip) (.exit 4))) (.block 5 (.seq (.reg false (qzzd b) []) (.reg false (qz0g b) [])))
def qz00 (b : Nat) : List qzc := [
 ⟨(some 147), .mv (.t 15), none⟩,
 ⟨(some 148), .bin .eql false (.t 147) (.c (.int .u64 0)), none⟩]
def qzy5 (b : Nat) : List qzc := [
 ⟨(some 149), .mv (.t 10), none⟩,
 ⟨(some 150), .mv (.t 13), none⟩,
 ⟨(some 151), .mv (.t 13), none⟩,
 ⟨(some 152), .mv (.t 11), none⟩,
 ⟨(some 153), .bin .add false (.t 151) (.t 152), none⟩,
 ⟨(some 154), .bin .add false (.t 153) (.c (.int .i64 1)), none⟩,
 ⟨(some 155), .slice false 1 (.t 149) (some (.t 150)) (some (.t 154)), none⟩,
 ⟨(some 17), .mv (.t 155), none⟩]
def qzsw (b : Nat) : List qzc := [
 ⟨(some 156), .mv (.t 9), none⟩,
 ⟨(some 157), .mv (.t 15), none⟩,
 ⟨(some 158), .conv .u32 (.t 157), none⟩,
 ⟨(some 159), .bslice (b + 6) 1 1 [.int .u32 0] [(0, 1, .t 158)], none⟩,
 ⟨(some 160), .callf 117 [.t 156, .t 159], none⟩,
 ⟨(some 18), .mv (.t 160), none⟩]
def qzuc (b : Nat) : List qzc := [
 ⟨(some 161), .mv (.t 17), none⟩,
 ⟨(some 162), .callf 116 [.t 161], none⟩,
 ⟨(some 163), .callf 114 [.t 162], none⟩,
 ⟨(some 164), .mv (.t 18), none⟩,
 ⟨(some 165), .callf 112 [.t 163, .t 164], none⟩,
 ⟨(some 166), .bin .lss false (.t 165) (.c (.int .i64 0)), none⟩]
def qz1j (b : Nat) : List qzc := [
 ⟨(some 167), .mv (.t 15), none⟩,
 ⟨(some 168), .bin .sub false (.t 167) (.c (.int .u64 1)), none⟩,
 ⟨(some 15), .mv (.t 168), none⟩]
def qz11 (b : Nat) : List qzc := [
 ⟨(some 169), .mv (.t 18), none⟩,
 ⟨(some 170), .mv (.t 9), none⟩,
 ⟨(some 171), .callf 118 [.t 169, .t 170], none⟩,
 ⟨(some 18), .mv (.t 171), none⟩]
def qz8b (b : Nat) : qzk := .seq (.seq (.reg false (qzuc b) []) (.cond (.t 166) (.skip) (.exit 6))) (.block 7 (.seq (.reg false (qz1j b) []) (.reg false (qz11 b) [])))
def qzs3 (b : Nat) : List qzc := [
 ⟨(some 172), .mv (.t 17), none⟩,
 ⟨(some 173), .callf 116 [.t 172], none⟩,
 ⟨(some 174), .callf 114 [.t 173], none⟩,
 ⟨(some 175), .mv (.t 18), none⟩,
 ⟨(some 176), .callf 118 [.t 174, .t 175], none⟩,
 ⟨(some 19), .mv (.t 176), none⟩]
def qz22 (b : Nat) : List qzc := [
 ⟨(some 177), .mv (.t 17), none⟩,
 ⟨none, .clear [.int .u32 0] (.t 177), none⟩]
def qz0b (b : Nat) : List qzc := [
 ⟨(some 178), .mv (.t 17), none⟩,
 ⟨(some 179), .mv (.t 19), none⟩,
 ⟨(some 180), .copy 1 (.t 178) (.t 179), none⟩]
def qz1t (b : Nat) : List qzc := [
 ⟨(some 181), .mv (.t 12), none⟩,
 ⟨(some 182), .mv (.t 13), none⟩,
 ⟨(some 183), .mv (.t 15), none⟩,
 ⟨(some 184), .conv .u32 (.t 183), none⟩,
 ⟨(some 185), .iaddrS 1 (.t 181) (.t 182), none⟩,
 ⟨none, .store 1 (.t 185) (.t 184), none⟩]
def qzsz (b : Nat) : List qzc := [
 ⟨(some 75), .mv (.t 13), none⟩,
 ⟨(some 76), .bin .sub false (.t 75) (.c (.int .i64 1)), none⟩,
 ⟨(some 13), .mv (.t 76), none⟩]
def qz9a (b : Nat) : qzk := .seq (.seq (.reg false (qzyu b) []) (.cond (.t 74) (.skip) (.exit 2))) (.seq (.block 3 (.seq (.reg true (qzyt b) wzcz) (.seq (.reg false (qz1o b) []) (.seq (.reg false (qzzm b) []) (.seq (.block 4 (.loop (wzas b))) (.seq (.seq (.reg false (qz00 b) []) (.cond (.t 148) (.exit 3) (.skip))) (.seq (.reg false (qzy5 b) []) (.seq (.reg false (qzsw b) []) (.seq (.block 6 (.loop (qz8b b))) (.seq (.reg false (qzs3 b) []) (.seq (.reg false (qz22 b) []) (.seq (.reg false (qz0b b) []) (.reg false (qz1t b) []))))))))))))) (.reg false (qzsz b) []))
def qz2d (b : Nat) : List qzc := [
 ⟨(some 186), .mv (.t 12), none⟩,
 ⟨(some 187), .callf 114 [.t 186], none⟩,
 ⟨(some 188), .mv (.t 10), none⟩,
 ⟨(some 189), .callf 114 [.t 188], none⟩,
 ⟨(some 190), .mv (.t 8), none⟩,
 ⟨(some 191), .neg (.t 190), none⟩,
 ⟨(some 192), .callf 115 [.t 189, .t 191], none⟩,
 ⟨(some 4), .mv (.t 187), none⟩,
 ⟨(some 5), .mv (.t 192), none⟩]
def c93 (b : Nat) : qzk := .seq (.reg false (qz90 b) []) (.scope (.seq (.seq (.reg false (wzbv b) []) (.cond (.t 23) (.seq (.reg false (wzaa b) []) (.ret)) (.skip))) (.seq (.seq (.reg false (qz9p b) []) (.cond (.t 27) (.seq (.reg false (qz8e b) []) (.seq (.reg false (qzwe b) []) (.ret))) (.skip))) (.seq (.reg false (wzal b) []) (.seq (.block 0 (.loop (qz7x b))) (.seq (.reg false (wzce b) []) (.seq (.reg false (qz2e b) []) (.seq (.reg false (qzx7 b) []) (.seq (.reg false (qzxy b) []) (.seq (.label 0) (.seq (.seq (.reg false (qz1e b) []) (.block 2 (.loop (qz9a b)))) (.seq (.reg false (qz2d b) []) (.ret)))))))))))))
def rs93 : List ARes := [.t 4, .t 5]
theorem ck93 : ∃ c, Tryz.f93.body = some c ∧ ∀ b, qzg Tryz.prog c (c93 b) = true := ⟨_, rfl, fun b => by kernel_rfl⟩
theorem cr93 : qzi Tryz.prog Tryz.f93.results.toList rs93 = true := by kernel_rfl
def qz9n (b : Nat) : List qzc := [
 ⟨(some 2), .mv (.c (.nils)), none⟩]
def qz95 (b : Nat) : List qzc := [
 ⟨(some 3), .mv (.c (.nils)), none⟩]
def wzbf (b : Nat) : List qzc := [
 ⟨(some 8), .mv (.t 0), none⟩,
 ⟨(some 9), .len true (.t 8), none⟩,
 ⟨(some 4), .mv (.t 9), none⟩]
def wzba (b : Nat) : List qzc := [
 ⟨(some 10), .mv (.t 4), none⟩,
 ⟨(some 11), .bin .gtr false (.t 10) (.c (.int .i64 0)), none⟩]
def wzaq (b : Nat) : List qzc := [
 ⟨(some 5), .mv (.c (.int .u32 0)), none⟩]
def qz4g (b : Nat) : List qzc := [
 ⟨(some 14), .mv (.t 0), none⟩,
 ⟨(some 15), .mv (.t 4), none⟩,
 ⟨(some 16), .bin .sub false (.t 15) (.c (.int .i64 4)), none⟩,
 ⟨(some 17), .max (.c (.int .i64 0)) (.t 16), none⟩,
 ⟨(some 18), .mv (.t 4), none⟩,
 ⟨(some 19), .slice true 0 (.t 14) (some (.t 17)) (some (.t 18)), none⟩,
 ⟨(some 20), .s2b (b + 0) (.t 19), none⟩,
 ⟨(some 21), .len false (.t 20), none⟩,
 ⟨(some 22), .mv (.c (.int .i64 0)), none⟩]
def qz8a (b : Nat) : List qzc := [
 ⟨(some 23), .bin .lss false (.t 22) (.t 21), none⟩]
def qz5a (b : Nat) : List qzc := [
 ⟨(some 24), .iaddrS 1 (.t 20) (.t 22), none⟩,
 ⟨(some 25), .load false 1 (.t 24), none⟩,
 ⟨(some 7), .mv (.t 25), none⟩]
def qz68 (b : Nat) : List qzc := [
 ⟨(some 26), .mv (.t 5), none⟩,
 ⟨(some 27), .bin .shl false (.t 26) (.c (.int .u64 8)), none⟩,
 ⟨(some 28), .mv (.t 7), none⟩,
 ⟨(some 29), .conv .u32 (.t 28), none⟩,
 ⟨(some 30), .bin .or false (.t 27) (.t 29), none⟩,
 ⟨(some 5), .mv (.t 30), none⟩]
def qz0j (b : Nat) : List qzc := [
 ⟨(some 31), .bin .add false (.t 22) (.c (.int .i64 1)), none⟩,
 ⟨(some 22), .mv (.t 31), none⟩]
def qz4i (b : Nat) : qzk := .seq (.reg false (qz8a b) []) (.seq (.cond (.t 23) (.skip) (.exit 2)) (.seq (.block 3 (.seq (.reg false (qz5a b) []) (.reg false (qz68 b) []))) (.reg false (qz0j b) [])))
def qzte (b : Nat) : List qzc := [
 ⟨(some 32), .mv (.t 3), none⟩,
 ⟨(some 33), .mv (.t 5), none⟩,
 ⟨(some 34), .bslice (b + 1) 1 1 [.int .u32 0] [(0, 1, .t 33)], none⟩,
 ⟨(some 35), .append (b + 2) 1 4 (.t 32) (.t 34), none⟩,
 ⟨(some 3), .mv (.t 35), none⟩]
def wzbn (b : Nat) : List qzc := [
 ⟨(some 12), .mv (.t 4), none⟩,
 ⟨(some 13), .bin .sub false (.t 12) (.c (.int .i64 4)), none⟩,
 ⟨(some 4), .mv (.t 13), none⟩]
def qz5j (b : Nat) : qzk := .seq (.seq (.reg false (wzba b) []) (.cond (.t 11) (.skip) (.exit 0))) (.seq (.block 1 (.seq (.reg false (wzaq b) []) (.seq (.seq (.reg false (qz4g b) []) (.block 2 (.loop (qz4i b)))) (.reg false (qzte b) [])))) (.reg false (wzbn b) []))
def qzzs (b : Nat) : List qzc := [
 ⟨(some 36), .mv (.t 3), none⟩,
 ⟨(some 37), .callf 114 [.t 36], none⟩,
 ⟨(some 2), .mv (.t 37), none⟩]
def c94 (b : Nat) : qzk := .seq (.reg false (qz9n b) []) (.seq (.reg false (qz95 b) []) (.seq (.seq (.reg false (wzbf b) []) (.block 0 (.loop (qz5j b)))) (.seq (.reg false (qzzs b) []) (.ret))))
def rs94 : List ARes := [.t 2]
theorem ck94 : ∃ c, Tryz.f94.body = some c ∧ ∀ b, qzg Tryz.prog c (c94 b) = true := ⟨_, rfl, fun b => by kernel_rfl⟩
theorem cr94 : qzi Tryz.prog Tryz.f94.results.toList rs94 = true := by kernel_rfl
def qz50 (b : Nat) : List qzc := [
 ⟨(some 2), .mv (.c (.str [])), none⟩]
def wzad (b : Nat) : List qzc := [
 ⟨(some 3), .mv (.c (.nils)), none⟩]
def wza9 (b : Nat) : List qzc := [
 ⟨(some 6), .mv (.t 0), none⟩,
 ⟨(some 7), .len false (.t 6), none⟩,
 ⟨(some 8), .mv (.c (.int .i64 0)), none⟩]
def wzb1 (b : Nat) : List qzc := [
 ⟨(some 9), .bin .lss false (.t 8) (.t 7), none⟩]
def wzb8 (b : Nat) : List qzc := [
 ⟨(some 10), .iaddrS 1 (.t 6) (.t 8), none⟩,
 ⟨(some 11), .load false 1 (.t 10), none⟩,
 ⟨(some 5), .mv (.t 11), none⟩]
def qzxa (b : Nat) : List qzc := [
 ⟨(some 12), .mv (.t 3), none⟩,
 ⟨(some 13), .mv (.t 5), none⟩,
 ⟨(some 14), .conv .u8 (.t 13), none⟩,
 ⟨(some 15), .mv (.t 5), none⟩,
 ⟨(some 16), .bin .shr false (.t 15) (.c (.int .u64 8)), none⟩,
 ⟨(some 17), .conv .u8 (.t 16), none⟩,
 ⟨(some 18), .mv (.t 5), none⟩,
 ⟨(some 19), .bin .shr false (.t 18) (.c (.int .u64 16)), none⟩,
 ⟨(some 20), .conv .u8 (.t 19), none⟩,
 ⟨(some 21), .mv (.t 5), none⟩,
 ⟨(some 22), .bin .shr false (.t 21) (.c (.int .u64 24)), none⟩,
 ⟨(some 23), .conv .u8 (.t 22), none⟩,
 ⟨(some 24), .bslice (b + 0) 1 4 [.int .u8 0, .int .u8 0, .int .u8 0, .int .u8 0] [(0, 1, .t 14), (1, 1, .t 17), (2, 1, .t 20), (3, 1, .t 23)], none⟩,
 ⟨(some 25), .append (b + 1) 1 1 (.t 12) (.t 24), none⟩,
 ⟨(some 3), .mv (.t 25), none⟩]
def qz47 (b : Nat) : List qzc := [
 ⟨(some 26), .bin .add false (.t 8) (.c (.int .i64 1)), none⟩,
 ⟨(some 8), .mv (.t 26), none⟩]
def wzcd (b : Nat) : qzk := .seq (.reg false (wzb1 b) []) (.seq (.cond (.t 9) (.skip) (.exit 0)) (.seq (.block 1 (.seq (.reg false (wzb8 b) []) (.reg false (qzxa b) []))) (.reg false (qz47 b) [])))
def qz92 (b : Nat) : List qzc := [
 ⟨(some 27), .mv (.t 3), none⟩,
 ⟨(some 28), .callf 119 [.t 27], none⟩]
def qz65 (b : Nat) : List qzc := [
 ⟨(some 29), .mv (.t 3), none⟩,
 ⟨(some 30), .b2s (.t 29), none⟩,
 ⟨(some 31), .callf 120 [.t 30], none⟩,
 ⟨(some 2), .mv (.t 31), none⟩]
def c95 (b : Nat) : qzk := .seq (.reg false (qz50 b) []) (.seq (.reg false (wzad b) []) (.seq (.seq (.reg false (wza9 b) []) (.block 0 (.loop (wzcd b)))) (.seq (.reg false (qz92 b) []) (.seq (.reg false (qz65 b) []) (.ret)))))
def rs95 : List ARes := [.t 2]
theorem ck95 : ∃ c, Tryz.f95.body = some c ∧ ∀ b, qzg Tryz.prog c (c95 b) = true := ⟨_, rfl, fun b => by kernel_rfl⟩
theorem cr95 : qzi Tryz.prog Tryz.f95.results.toList rs95 = true := by kernel_rfl
def qz51 (b : Nat) : List qzc := [
 ⟨(some 4), .mv (.c (.str [])), none⟩,
 ⟨(some 5), .mv (.c (.str [])), none⟩,
 ⟨(some 6), .mv (.c (.int .i64 0)), none⟩]
def qz85 (b : Nat) : List qzc := [
 ⟨(some 11), .mv (.t 0), none⟩,
 ⟨(some 12), .callf 94 [.t 11], none⟩,
 ⟨(some 13), .mv (.t 1), none⟩,
 ⟨(some 14), .callf 94 [.t 13], none⟩,
 ⟨(some 7), .mv (.t 12), none⟩,
 ⟨(some 8), .mv (.t 14), none⟩]
def qz79 (b : Nat) : List qzc := [
 ⟨(some 15), .mv (.t 8), none⟩,
 ⟨(some 16), .len false (.t 15), none⟩,
 ⟨(some 17), .bin .eql false (.t 16) (.c (.int .i64 0)), none⟩]
def qz4f (b : Nat) : List qzc := [
 ⟨(some 4), .mv (.c (.str [])), none⟩,
 ⟨(some 5), .mv (.c (.str [])), none⟩,
 ⟨(some 6), .mv (.c (.int .i64 1)), none⟩]
def qz82 (b : Nat) : List qzc := [
 ⟨(some 19), .mv (.t 7), none⟩,
 ⟨(some 20), .mv (.t 8), none⟩,
 ⟨(some 21), .callf 93 [.t 19, .t 20], none⟩,
 ⟨(some 18), .mv (.t 21), none⟩,
 ⟨(some 22), .extract 0 (.t 18), none⟩,
 ⟨(some 23), .extract 1 (.t 18), none⟩,
 ⟨(some 9), .mv (.t 22), none⟩,
 ⟨(some 10), .mv (.t 23), none⟩]
def qz72 (b : Nat) : List qzc := [
 ⟨(some 24), .mv (.t 9), none⟩,
 ⟨(some 25), .callf 95 [.t 24], none⟩,
 ⟨(some 26), .mv (.t 10), none⟩,
 ⟨(some 27), .callf 95 [.t 26], none⟩,
 ⟨(some 4), .mv (.t 25), none⟩,
 ⟨(some 5), .mv (.t 27), none⟩,
 ⟨(some 6), .mv (.c (.int .i64 0)), none⟩]
def c96 (b : Nat) : qzk := .seq (.reg false (qz51 b) []) (.seq (.reg false (qz85 b) []) (.seq (.seq (.reg false (qz79 b) []) (.cond (.t 17) (.seq (.reg false (qz4f b) []) (.ret)) (.skip))) (.seq (.reg false (qz82 b) []) (.seq (.reg false (qz72 b) []) (.ret)))))
def rs96 : List ARes := [.t 4, .t 5, .t 6]
theorem ck96 : ∃ c, Tryz.f96.body = some c ∧ ∀ b, qzg Tryz.prog c (c96 b) = true := ⟨_, rfl, fun b => by kernel_rfl⟩
theorem cr96 : qzi Tryz.prog Tryz.f96.results.toList rs96 = true := by kernel_rfl
def wzar (b : Nat) : List qzc := [
 ⟨(some 4), .mv (.c (.str [])), none⟩]
def qz5x (b : Nat) : List qzc := [
 ⟨(some 5), .mv (.t 0), none⟩,
 ⟨(some 6), .callf 94 [.t 5], none⟩,
 ⟨(some 7), .mv (.t 1), none⟩,
 ⟨(some 8), .callf 94 [.t 7], none⟩,
 ⟨(some 9), .callf 117 [.t 6, .t 8], none⟩,
 ⟨(some 10), .callf 95 [.t 9], none⟩,
 ⟨(some 4), .mv (.t 10), none⟩]
def c97 (b : Nat) : qzk := .seq (.reg false (wzar b) []) (.seq (.reg false (qz5x b) []) (.ret))
def rs97 : List ARes := [.t 4]
theorem ck97 : ∃ c, Tryz.f97.body = some c ∧ ∀ b, qzg Tryz.prog c (c97 b) = true := ⟨_, rfl, fun b => by kernel_rfl⟩
theorem cr97 : qzi Tryz.prog Tryz.f97.results.toList rs97 = true := by kernel_rfl
def wzaw (b : Nat) : List qzc := [
 ⟨(some 4), .mv (.c (.str [])), none⟩]
def wza3 (b : Nat) : List qzc := [
 ⟨(some 5), .mv (.t 0), none⟩,
 ⟨(some 6), .callf 94 [.t 5], none⟩,
 ⟨(some 7), .mv (.t 1), none⟩,
 ⟨(some 8), .callf 94 [.t 7], none⟩,
 ⟨(some 9), .callf 121 [.t 6, .t 8], none⟩,
 ⟨(some 10), .callf 95 [.t 9], none⟩,
 ⟨(some 4), .mv (.t 10), none⟩]
def c98 (b : Nat) : qzk := .seq (.reg false (wzaw b) []) (.seq (.reg false (wza3 b) []) (.ret))
def rs98 : List ARes := [.t 4]
theorem ck98 : ∃ c, Tryz.f98.body = some c ∧ ∀ b, qzg Tryz.prog c (c98 b) = true := ⟨_, rfl, fun b => by kernel_rfl⟩
theorem cr98 : qzi Tryz.prog Tryz.f98.results.toList rs98 = true := by kernel_rfl
def qz7r (b : Nat) : List qzc := [
 ⟨(some 4), .mv (.c (.int .i64 0)), none⟩]
def qz58 (b : Nat) : List qzc := [
 ⟨(some 5), .mv (.t 0), none⟩,
 ⟨(some 6), .callf 94 [.t 5], none⟩,
 ⟨(some 7), .mv (.t 1), none⟩,
 ⟨(some 8), .callf 94 [.t 7], none⟩,
 ⟨(some 9), .callf 112 [.t 6, .t 8], none⟩,
 ⟨(some 4), .mv (.t 9), none⟩]
def c99 (b : Nat) : qzk := .seq (.reg false (qz7r b) []) (.seq (.reg false (qz58 b) []) (.ret))
def rs99 : List ARes := [.t 4]
theorem ck99 : ∃ c, Tryz.f99.body = some c ∧ ∀ b, qzg Tryz.prog c (c99 b) = true := ⟨_, rfl, fun b => by kernel_rfl⟩
theorem cr99 : qzi Tryz.prog Tryz.f99.results.toList rs99 = true := by kernel_rfl
def qz20 (b : Nat) : List qzc := [
 ⟨(some 4), .mv (.c (.str [])), none⟩,
 ⟨(some 5), .mv (.c (.int .i64 0)), none⟩]
def qzyi (b : Nat) : List qzc := [
 ⟨(some 8), .mv (.t 0), none⟩,
 ⟨(some 9), .callf 94 [.t 8], none⟩,
 ⟨(some 10), .mv (.t 1), none⟩,
 ⟨(some 11), .callf 94 [.t 10], none⟩,
 ⟨(some 6), .mv (.t 9), none⟩,
 ⟨(some 7), .mv (.t 11), none⟩]
def qzxv (b : Nat) : List qzc := [
 ⟨(some 12), .mv (.t 6), none⟩,
 ⟨(some 13), .mv (.t 7), none⟩,
 ⟨(some 14), .callf 112 [.t 12, .t 13], none⟩,
 ⟨(some 15), .bin .lss false (.t 14) (.c (.int .i64 0)), none⟩]
def qzzp (b : Nat) : List qzc := [
 ⟨(some 4), .mv (.c (.str [])), none⟩,
 ⟨(some 5), .mv (.c (.int .i64 3)), none⟩]
def qzzo (b : Nat) : List qzc := [
 ⟨(some 16), .mv (.t 6), none⟩,
 ⟨(some 17), .mv (.t 7), none⟩,
 ⟨(some 18), .callf 118 [.t 16, .t 17], none⟩,
 ⟨(some 19), .callf 95 [.t 18], none⟩,
 ⟨(some 4), .mv (.t 19), none⟩,
 ⟨(some 5), .mv (.c (.int .i64 0)), none⟩]
def c100 (b : Nat) : qzk := .seq (.reg false (qz20 b) []) (.seq (.reg false (qzyi b) []) (.seq (.seq (.reg false (qzxv b) []) (.cond (.t 15) (.seq (.reg false (qzzp b) []) (.ret)) (.skip))) (.seq (.reg false (qzzo b) []) (.ret))))
def qzln : List ARes := [.t 4, .t 5]
theorem wzgp : ∃ c, Tryz.f100.body = some c ∧ ∀ b, qzg Tryz.prog c (c100 b) = true := ⟨_, rfl, fun b => by kernel_rfl⟩
theorem wzgk : qzi Tryz.prog Tryz.f100.results.toList qzln = true := by kernel_rfl
def qz1n (b : Nat) : List qzc := [
 ⟨(some 2), .mv (.c (.str [])), none⟩,
 ⟨(some 3), .mv (.c (.int .i64 0)), none⟩]
def qzyr (b : Nat) : List qzc := [
 ⟨(some 4), .mv (.t 0), none⟩,
 ⟨(some 5), .bin .lss false (.t 4) (.c (.int .i64 0)), none⟩]
def qzyq (b : Nat) : List qzc := [
 ⟨(some 2), .mv (.c (.str [])), none⟩,
 ⟨(some 3), .mv (.c (.int .i64 3)), none⟩]
def qzsr (b : Nat) : List qzc := [
 ⟨(some 6), .mv (.t 0), none⟩,
 ⟨(some 7), .conv .u32 (.t 6), none⟩,
 ⟨(some 8), .mv (.t 0), none⟩,
 ⟨(some 9), .bin .shr false (.t 8) (.c (.int .u64 32)), none⟩,
 ⟨(some 10), .conv .u32 (.t 9), none⟩,
 ⟨(some 11), .bslice (b + 0) 1 2 [.int .u32 0, .int .u32 0] [(0, 1, .t 7), (1, 1, .t 10)], none⟩,
 ⟨(some 12), .callf 114 [.t 11], none⟩,
 ⟨(some 13), .callf 95 [.t 12], none⟩,
 ⟨(some 2), .mv (.t 13), none⟩,
 ⟨(some 3), .mv (.c (.int .i64 0)), none⟩]
def c101 (b : Nat) : qzk := .seq (.reg false (qz1n b) []) (.seq (.seq (.reg false (qzyr b) []) (.cond (.t 5) (.seq (.reg false (qzyq b) []) (.ret)) (.skip))) (.seq (.reg false (qzsr b) []) (.ret)))
def qzll : List ARes := [.t 2, .t 3]
theorem wzfs : ∃ c, Tryz.f101.body = some c ∧ ∀ b, qzg Tryz.prog c (c101 b) = true := ⟨_, rfl, fun b => by kernel_rfl⟩
theorem wzg0 : qzi Tryz.prog Tryz.f101.results.toList qzll = true := by kernel_rfl
def qzz3 (b : Nat) : List qzc := [
 ⟨(some 2), .box (b + 0) (.t 0), none⟩,
 ⟨(some 3), .box (b + 1) (.t 1), none⟩,
 ⟨(some 4), .alloc (b + 2) [.bool false, .str [], .str []], none⟩]
def qz2t (b : Nat) : List qzc := [
 ⟨(some 5), .load true 3 (.t 2), none⟩,
 ⟨(some 6), .faddr 0 (.t 3), none⟩,
 ⟨(some 7), .load false 1 (.t 6), none⟩,
 ⟨(some 8), .faddr 2 (.t 3), none⟩,
 ⟨(some 9), .load false 1 (.t 8), none⟩,
 ⟨(some 10), .faddr 1 (.t 3), none⟩,
 ⟨(some 11), .load false 1 (.t 10), none⟩,
 ⟨(some 12), .build [.bool false, .str [], .str []] [(0, 1, .t 7), (1, 1, .t 9), (2, 1, .t 11)], none⟩,
 ⟨(some 13), .callf 67 [.t 5, .t 12], none⟩,
 ⟨none, .store 3 (.t 4) (.t 13), none⟩]
def c102 (b : Nat) : qzk := .seq (.reg false (qzz3 b) []) (.seq (.reg false (qz2t b) []) (.ret))
def qzse : List ARes := [.c 4 true 3]
theorem wzf5 : ∃ c, Tryz.f102.body = some c ∧ ∀ b, qzg Tryz.prog c (c102 b) = true := ⟨_, rfl, fun b => by kernel_rfl⟩
theorem wzge : qzi Tryz.prog Tryz.f102.results.toList qzse = true := by kernel_rfl
def qzx1 (b : Nat) : List qzc := [
 ⟨(some 4), .mv (.c (.int .i64 0)), none⟩]
def qz0i (b : Nat) : List qzc := [
 ⟨(some 8), .mv (.t 0), none⟩,
 ⟨(some 9), .len false (.t 8), none⟩,
 ⟨(some 10), .mv (.t 1), none⟩,
 ⟨(some 11), .len false (.t 10), none⟩,
 ⟨(some 12), .callf 134 [.t 9, .t 11], none⟩,
 ⟨(some 5), .mv (.t 12), none⟩]
def qz2g (b : Nat) : List qzc := [
 ⟨(some 13), .mv (.t 5), none⟩,
 ⟨(some 14), .bin .neq false (.t 13) (.c (.int .i64 0)), none⟩]
def qzzr (b : Nat) : List qzc := [
 ⟨(some 15), .mv (.t 5), none⟩,
 ⟨(some 4), .mv (.t 15), none⟩]
def qz1r (b : Nat) : List qzc := [
 ⟨(some 16), .mv (.t 0), none⟩,
 ⟨(some 17), .len false (.t 16), none⟩,
 ⟨(some 18), .bin .sub false (.t 17) (.c (.int .i64 1)), none⟩,
 ⟨(some 6), .mv (.t 18), none⟩]
def qzxq (b : Nat) : List qzc := [
 ⟨(some 19), .mv (.t 6), none⟩,
 ⟨(some 20), .bin .geq false (.t 19) (.c (.int .i64 0)), none⟩]
def qz13 (b : Nat) : List qzc := [
 ⟨(some 23), .mv (.t 0), none⟩,
 ⟨(some 24), .mv (.t 6), none⟩,
 ⟨(some 25), .iaddrS 1 (.t 23) (.t 24), none⟩,
 ⟨(some 26), .load false 1 (.t 25), none⟩,
 ⟨(some 27), .mv (.t 1), none⟩,
 ⟨(some 28), .mv (.t 6), none⟩,
 ⟨(some 29), .iaddrS 1 (.t 27) (.t 28), none⟩,
 ⟨(some 30), .load false 1 (.t 29), none⟩,
 ⟨(some 31), .callf 135 [.t 26, .t 30], none⟩,
 ⟨(some 7), .mv (.t 31), none⟩]
def wzdj : List (List Nat) := [[], [], [0, 1], [0, 1, 2], [], [], [4, 5], [4, 5, 6], [0, 1, 2, 3, 4, 5, 6, 7], [0, 1, 2, 3, 4, 5, 6, 7, 8]]
def qzxm (b : Nat) : List qzc := [
 ⟨(some 32), .mv (.t 7), none⟩,
 ⟨(some 33), .bin .neq false (.t 32) (.c (.int .i64 0)), none⟩]
def qz1b (b : Nat) : List qzc := [
 ⟨(some 34), .mv (.t 7), none⟩,
 ⟨(some 4), .mv (.t 34), none⟩]
def qz0y (b : Nat) : List qzc := [
 ⟨(some 21), .mv (.t 6), none⟩,
 ⟨(some 22), .bin .sub false (.t 21) (.c (.int .i64 1)), none⟩,
 ⟨(some 6), .mv (.t 22), none⟩]
def qz2l (b : Nat) : qzk := .seq (.seq (.reg false (qzxq b) []) (.cond (.t 20) (.skip) (.exit 0))) (.seq (.block 1 (.seq (.reg true (qz13 b) wzdj) (.seq (.reg false (qzxm b) []) (.cond (.t 33) (.seq (.reg false (qz1b b) []) (.ret)) (.skip))))) (.reg false (qz0y b) []))
def qzv6 (b : Nat) : List qzc := [
 ⟨(some 4), .mv (.c (.int .i64 0)), none⟩]
def c112 (b : Nat) : qzk := .seq (.reg false (qzx1 b) []) (.seq (.seq (.reg false (qz0i b) []) (.seq (.reg false (qz2g b) []) (.cond (.t 14) (.seq (.reg false (qzzr b) []) (.ret)) (.skip)))) (.seq (.seq (.reg false (qz1r b) []) (.block 0 (.loop (qz2l b)))) (.seq (.reg false (qzv6 b) []) (.ret))))
def qzex : List ARes := [.t 4]
theorem wzgi : ∃ c, Tryz.f112.body = some c ∧ ∀ b, qzg Tryz.prog c (c112 b) = true := ⟨_, rfl, fun b => by kernel_rfl⟩
theorem wzgb : qzi Tryz.prog Tryz.f112.results.toList qzex = true := by kernel_rfl
def qz01 (b : Nat) : List qzc := [
 ⟨(some 4), .mv (.c (.nils)), none⟩,
 ⟨(some 5), .mv (.c (.int .u32 0)), none⟩]
def qz0q (b : Nat) : List qzc := [
 ⟨(some 9), .mv (.t 0), none⟩,
 ⟨(some 10), .len false (.t 9), none⟩,
 ⟨(some 11), .mks (b + 0) 1 4 [.int .u32 0] (.t 10), none⟩,
 ⟨(some 6), .mv (.t 11), none⟩,
 ⟨(some 7), .mv (.c (.int .u64 0)), none⟩]
def qz1l (b : Nat) : List qzc := [
 ⟨(some 12), .mv (.t 0), none⟩,
 ⟨(some 13), .len false (.t 12), none⟩,
 ⟨(some 14), .bin .sub false (.t 13) (.c (.int .i64 1)), none⟩,
 ⟨(some 8), .mv (.t 14), none⟩]
def qz0t (b : Nat) : List qzc := [
 ⟨(some 15), .mv (.t 8), none⟩,
 ⟨(some 16), .bin .geq false (.t 15) (.c (.int .i64 0)), none⟩]
def qz1u (b : Nat) : List qzc := [
 ⟨(some 19), .mv (.t 7), none⟩,
 ⟨(some 20), .bin .shl false (.t 19) (.c (.int .u64 32)), none⟩,
 ⟨(some 21), .mv (.t 0), none⟩,
 ⟨(some 22), .mv (.t 8), none⟩,
 ⟨(some 23), .iaddrS 1 (.t 21) (.t 22), none⟩,
 ⟨(some 24), .load false 1 (.t 23), none⟩,
 ⟨(some 25), .conv .u64 (.t 24), none⟩,
 ⟨(some 26), .bin .or false (.t 20) (.t 25), none⟩,
 ⟨(some 7), .mv (.t 26), none⟩]
def qz0a (b : Nat) : List qzc := [
 ⟨(some 27), .mv (.t 6), none⟩,
 ⟨(some 28), .mv (.t 8), none⟩,
 ⟨(some 29), .mv (.t 7), none⟩,
 ⟨(some 30), .mv (.t 1), none⟩,
 ⟨(some 31), .conv .u64 (.t 30), none⟩,
 ⟨(some 32), .bin .quo false (.t 29) (.t 31), none⟩,
 ⟨(some 33), .conv .u32 (.t 32), none⟩,
 ⟨(some 34), .mv (.t 7), none⟩,
 ⟨(some 35), .mv (.t 1), none⟩,
 ⟨(some 36), .conv .u64 (.t 35), none⟩,
 ⟨(some 37), .bin .rem false (.t 34) (.t 36), none⟩,
 ⟨(some 38), .iaddrS 1 (.t 27) (.t 28), none⟩,
 ⟨none, .store 1 (.t 38) (.t 33), none⟩,
 ⟨(some 7), .mv (.t 37), none⟩]
def wzdv : List (List Nat) := [[], [], [], [], [3], [2, 3, 4], [2, 3, 4, 5], [], [], [8], [7, 8, 9], [0, 1, 2, 3, 4, 5, 6], [0, 1, 2, 3, 4, 5, 6, 11], [0, 1, 2, 3, 4, 5, 6, 7, 8, 9, 10, 11, 12]]
def qz17 (b : Nat) : List qzc := [
 ⟨(some 17), .mv (.t 8), none⟩,
 ⟨(some 18), .bin .sub false (.t 17) (.c (.int .i64 1)), none⟩,
 ⟨(some 8), .mv (.t 18), none⟩]
def qz0e (b : Nat) : qzk := .seq (.seq (.reg false (qz0t b) []) (.cond (.t 16) (.skip) (.exit 0))) (.seq (.block 1 (.seq (.reg false (qz1u b) []) (.reg true (qz0a b) wzdv))) (.reg false (qz17 b) []))
def qzxr (b : Nat) : List qzc := [
 ⟨(some 39), .mv (.t 6), none⟩,
 ⟨(some 40), .callf 114 [.t 39], none⟩,
 ⟨(some 41), .mv (.t 7), none⟩,
 ⟨(some 42), .conv .u32 (.t 41), none⟩,
 ⟨(some 4), .mv (.t 40), none⟩,
 ⟨(some 5), .mv (.t 42), none⟩]
def c113 (b : Nat) : qzk := .seq (.reg false (qz01 b) []) (.seq (.reg false (qz0q b) []) (.seq (.seq (.reg false (qz1l b) []) (.block 0 (.loop (qz0e b)))) (.seq (.reg false (qzxr b) []) (.ret))))
def qzr8 : List ARes := [.t 4, .t 5]
theorem wzf9 : ∃ c, Tryz.f113.body = some c ∧ ∀ b, qzg Tryz.prog c (c113 b) = true := ⟨_, rfl, fun b => by kernel_rfl⟩
theorem wzgm : qzi Tryz.prog Tryz.f113.results.toList qzr8 = true := by kernel_rfl
def qzzy (b : Nat) : List qzc := [
 ⟨(some 2), .mv (.c (.nils)), none⟩]
def qztx (b : Nat) : List qzc := [
 ⟨(some 3), .mv (.t 0), none⟩,
 ⟨(some 4), .len false (.t 3), none⟩,
 ⟨(some 5), .bin .gtr false (.t 4) (.c (.int .i64 0)), none⟩,
 ⟨(some 6), .mv (.t 5), none⟩,
 ⟨(some 7), .mv (.t 0), (some (6, true))⟩,
 ⟨(some 8), .mv (.t 0), (some (6, true))⟩,
 ⟨(some 9), .len false (.t 8), (some (6, true))⟩,
 ⟨(some 10), .bin .sub false (.t 9) (.c (.int .i64 1)), (some (6, true))⟩,
 ⟨(some 11), .iaddrS 1 (.t 7) (.t 10), (some (6, true))⟩,
 ⟨(some 12), .load false 1 (.t 11), (some (6, true))⟩,
 ⟨(some 13), .bin .eql false (.t 12) (.c (.int .u32 0)), (some (6, true))⟩,
 ⟨(some 14), .pick (.t 6) (.t 13) (.c (.bool false)), none⟩]
def qz2i (b : Nat) : List qzc := [
 ⟨(some 15), .mv (.t 0), none⟩,
 ⟨(some 16), .mv (.t 0), none⟩,
 ⟨(some 17), .len false (.t 16), none⟩,
 ⟨(some 18), .bin .sub false (.t 17) (.c (.int .i64 1)), none⟩,
 ⟨(some 19), .slice false 1 (.t 15) none (some (.t 18)), none⟩,
 ⟨(some 0), .mv (.t 19), none⟩]
def qz2v (b : Nat) : qzk := .seq (.seq (.reg false (qztx b) []) (.cond (.t 14) (.skip) (.exit 0))) (.block 1 (.reg false (qz2i b) []))
def qz1k (b : Nat) : List qzc := [
 ⟨(some 20), .mv (.t 0), none⟩,
 ⟨(some 2), .mv (.t 20), none⟩]
def c114 (b : Nat) : qzk := .seq (.reg false (qzzy b) []) (.seq (.block 0 (.loop (qz2v b))) (.seq (.reg false (qz1k b) []) (.ret)))
def qzr7 : List ARes := [.t 2]
theorem wzgd : ∃ c, Tryz.f114.body = some c ∧ ∀ b, qzg Tryz.prog c (c114 b) = true := ⟨_, rfl, fun b => by kernel_rfl⟩
theorem wzfr : qzi Tryz.prog Tryz.f114.results.toList qzr7 = true := by kernel_rfl
def qz0k (b : Nat) : List qzc := [
 ⟨(some 4), .mv (.c (.nils)), none⟩]
def qzzb (b : Nat) : List qzc := [
 ⟨(some 7), .mv (.t 1), none⟩,
 ⟨(some 8), .bin .lss false (.t 7) (.c (.int .i64 0)), none⟩]
def qzz6 (b : Nat) : List qzc := [
 ⟨(some 10), .mv (.t 0), none⟩,
 ⟨(some 11), .mv (.t 1), none⟩,
 ⟨(some 12), .neg (.t 11), none⟩,
 ⟨(some 13), .bin .shl false (.c (.int .u32 1)) (.t 12), none⟩,
 ⟨(some 14), .callf 113 [.t 10, .t 13], none⟩,
 ⟨(some 9), .mv (.t 14), none⟩,
 ⟨(some 15), .extract 0 (.t 9), none⟩,
 ⟨(some 16), .extract 1 (.t 9), none⟩,
 ⟨(some 5), .mv (.t 15), none⟩,
 ⟨(some 6), .mv (.t 16), none⟩]
def qzzi (b : Nat) : List qzc := [
 ⟨(some 17), .mv (.t 5), none⟩,
 ⟨(some 4), .mv (.t 17), none⟩]
def qzub (b : Nat) : List qzc := [
 ⟨(some 18), .mv (.t 0), none⟩,
 ⟨(some 19), .mv (.t 1), none⟩,
 ⟨(some 20), .bin .shl false (.c (.int .u32 1)) (.t 19), none⟩,
 ⟨(some 21), .bslice (b + 0) 1 1 [.int .u32 0] [(0, 1, .t 20)], none⟩,
 ⟨(some 22), .callf 117 [.t 18, .t 21], none⟩,
 ⟨(some 4), .mv (.t 22), none⟩]
def c115 (b : Nat) : qzk := .seq (.reg false (qz0k b) []) (.seq (.seq (.reg false (qzzb b) []) (.cond (.t 8) (.seq (.reg false (qzz6 b) []) (.seq (.reg false (qzzi b) []) (.ret))) (.skip))) (.seq (.reg false (qzub b) []) (.ret)))
def qzlx : List ARes := [.t 4]
theorem wzga : ∃ c, Tryz.f115.body = some c ∧ ∀ b, qzg Tryz.prog c (c115 b) = true := ⟨_, rfl, fun b => by kernel_rfl⟩
theorem wzf0 : qzi Tryz.prog Tryz.f115.results.toList qzlx = true := by kernel_rfl
def qzz0 (b : Nat) : List qzc := [
 ⟨(some 2), .mv (.c (.nils)), none⟩]
def qzsp (b : Nat) : List qzc := [
 ⟨(some 3), .mv (.t 0), none⟩,
 ⟨(some 4), .isnil false (.t 3), none⟩]
def wzfp (b : Nat) : List qzc := [
 ⟨(some 2), .mv (.c (.nils)), none⟩]
def qzso (b : Nat) : List qzc := [
 ⟨(some 5), .bslice (b + 0) 1 0 [] [], none⟩,
 ⟨(some 6), .mv (.t 0), none⟩,
 ⟨(some 7), .append (b + 1) 1 4 (.t 5) (.t 6), none⟩,
 ⟨(some 2), .mv (.t 7), none⟩]
def c116 (b : Nat) : qzk := .seq (.reg false (qzz0 b) []) (.seq (.seq (.reg false (qzsp b) []) (.cond (.t 4) (.seq (.reg false (wzfp b) []) (.ret)) (.skip))) (.seq (.reg false (qzso b) []) (.ret)))
def qzpj : List ARes := [.t 2]
theorem wzf8 : ∃ c, Tryz.f116.body = some c ∧ ∀ b, qzg Tryz.prog c (c116 b) = true := ⟨_, rfl, fun b => by kernel_rfl⟩
theorem wzfv : qzi Tryz.prog Tryz.f116.results.toList qzpj = true := by kernel_rfl
def qzyx (b : Nat) : List qzc := [
 ⟨(some 4), .mv (.c (.nils)), none⟩]
def qzym (b : Nat) : List qzc := [
 ⟨(some 11), .mv (.t 0), none⟩,
 ⟨(some 12), .len false (.t 11), none⟩,
 ⟨(some 13), .mv (.t 1), none⟩,
 ⟨(some 14), .len false (.t 13), none⟩,
 ⟨(some 15), .bin .add false (.t 12) (.t 14), none⟩,
 ⟨(some 16), .bin .add false (.t 15) (.c (.int .i64 1)), none⟩,
 ⟨(some 17), .mks (b + 0) 1 4 [.int .u32 0] (.t 16), none⟩,
 ⟨(some 5), .mv (.t 17), none⟩]
def qzxp (b : Nat) : List qzc := [
 ⟨(some 18), .mv (.t 0), none⟩,
 ⟨(some 19), .len false (.t 18), none⟩,
 ⟨(some 20), .mv (.c (.int .i64 0)), none⟩]
def qz1f (b : Nat) : List qzc := [
 ⟨(some 21), .bin .lss false (.t 20) (.t 19), none⟩]
def qz1w (b : Nat) : List qzc := [
 ⟨(some 22), .mv (.t 20), none⟩,
 ⟨(some 23), .iaddrS 1 (.t 18) (.t 20), none⟩,
 ⟨(some 24), .load false 1 (.t 23), none⟩,
 ⟨(some 6), .mv (.t 22), none⟩,
 ⟨(some 7), .mv (.t 24), none⟩]
def qz0x (b : Nat) : List qzc := [
 ⟨(some 8), .mv (.c (.int .u64 0)), none⟩]
def qzyy (b : Nat) : List qzc := [
 ⟨(some 9), .mv (.c (.int .i64 0)), none⟩]
def qzzv (b : Nat) : List qzc := [
 ⟨(some 25), .mv (.t 9), none⟩,
 ⟨(some 26), .mv (.t 1), none⟩,
 ⟨(some 27), .len false (.t 26), none⟩,
 ⟨(some 28), .bin .lss false (.t 25) (.t 27), none⟩,
 ⟨(some 29), .mv (.t 28), none⟩,
 ⟨(some 30), .mv (.t 8), (some (29, false))⟩,
 ⟨(some 31), .bin .gtr false (.t 30) (.c (.int .u64 0)), (some (29, false))⟩,
 ⟨(some 32), .pick (.t 29) (.c (.bool true)) (.t 31), none⟩]
def qzzk (b : Nat) : List qzc := [
 ⟨(some 35), .mv (.t 7), none⟩,
 ⟨(some 36), .conv .u64 (.t 35), none⟩,
 ⟨(some 37), .mv (.t 1), none⟩,
 ⟨(some 38), .mv (.t 9), none⟩,
 ⟨(some 39), .callf 136 [.t 37, .t 38], none⟩,
 ⟨(some 40), .bin .mul false (.t 36) (.t 39), none⟩,
 ⟨(some 41), .mv (.t 5), none⟩,
 ⟨(some 42), .mv (.t 6), none⟩,
 ⟨(some 43), .mv (.t 9), none⟩,
 ⟨(some 44), .bin .add false (.t 42) (.t 43), none⟩,
 ⟨(some 45), .iaddrS 1 (.t 41) (.t 44), none⟩,
 ⟨(some 46), .load false 1 (.t 45), none⟩,
 ⟨(some 47), .conv .u64 (.t 46), none⟩,
 ⟨(some 48), .bin .add false (.t 40) (.t 47), none⟩,
 ⟨(some 49), .mv (.t 8), none⟩,
 ⟨(some 50), .bin .add false (.t 48) (.t 49), none⟩,
 ⟨(some 10), .mv (.t 50), none⟩]
def wzdq : List (List Nat) := [[], [0], [], [], [2, 3], [0, 1, 2, 3, 4], [], [], [], [7, 8], [6, 7, 8, 9], [6, 7, 8, 9, 10], [6, 7, 8, 9, 10, 11], [0, 1, 2, 3, 4, 5, 6, 7, 8, 9, 10, 11, 12], [], [0, 1, 2, 3, 4, 5, 6, 7, 8, 9, 10, 11, 12, 13, 14], [0, 1, 2, 3, 4, 5, 6, 7, 8, 9, 10, 11, 12, 13, 14, 15]]
def qzv3 (b : Nat) : List qzc := [
 ⟨(some 51), .mv (.t 5), none⟩,
 ⟨(some 52), .mv (.t 6), none⟩,
 ⟨(some 53), .mv (.t 9), none⟩,
 ⟨(some 54), .bin .add false (.t 52) (.t 53), none⟩,
 ⟨(some 55), .mv (.t 10), none⟩,
 ⟨(some 56), .conv .u32 (.t 55), none⟩,
 ⟨(some 57), .mv (.t 10), none⟩,
 ⟨(some 58), .bin .shr false (.t 57) (.c (.int .u64 32)), none⟩,
 ⟨(some 59), .iaddrS 1 (.t 51) (.t 54), none⟩,
 ⟨none, .store 1 (.t 59) (.t 56), none⟩,
 ⟨(some 8), .mv (.t 58), none⟩]
def qzyz (b : Nat) : List qzc := [
 ⟨(some 33), .mv (.t 9), none⟩,
 ⟨(some 34), .bin .add false (.t 33) (.c (.int .i64 1)), none⟩,
 ⟨(some 9), .mv (.t 34), none⟩]
def qzy3 (b : Nat) : qzk := .seq (.seq (.reg false (qzzv b) []) (.cond (.t 32) (.skip) (.exit 2))) (.seq (.block 3 (.seq (.reg true (qzzk b) wzdq) (.reg false (qzv3 b) []))) (.reg false (qzyz b) []))
def qzv5 (b : Nat) : List qzc := [
 ⟨(some 60), .bin .add false (.t 20) (.c (.int .i64 1)), none⟩,
 ⟨(some 20), .mv (.t 60), none⟩]
def qz05 (b : Nat) : qzk := .seq (.reg false (qz1f b) []) (.seq (.cond (.t 21) (.skip) (.exit 0)) (.seq (.block 1 (.seq (.reg false (qz1w b) []) (.seq (.reg false (qz0x b) []) (.seq (.reg false (qzyy b) []) (.block 2 (.loop (qzy3 b))))))) (.reg false (qzv5 b) [])))
def qzv1 (b : Nat) : List qzc := [
 ⟨(some 61), .mv (.t 5), none⟩,
 ⟨(some 62), .callf 114 [.t 61], none⟩,
 ⟨(some 4), .mv (.t 62), none⟩]
def c117 (b : Nat) : qzk := .seq (.reg false (qzyx b) []) (.seq (.reg false (qzym b) []) (.seq (.seq (.reg false (qzxp b) []) (.block 0 (.loop (qz05 b)))) (.seq (.reg false (qzv1 b) []) (.ret))))
def qzsb : List ARes := [.t 4]
theorem wzf6 : ∃ c, Tryz.f117.body = some c ∧ ∀ b, qzg Tryz.prog c (c117 b) = true := ⟨_, rfl, fun b => by kernel_rfl⟩
theorem wzgo : qzi Tryz.prog Tryz.f117.results.toList qzsb = true := by kernel_rfl
def qzxg (b : Nat) : List qzc := [
 ⟨(some 4), .mv (.c (.nils)), none⟩]
def qzz2 (b : Nat) : List qzc := [
 ⟨(some 5), .mv (.c (.nils)), none⟩]
def qz0v (b : Nat) : List qzc := [
 ⟨(some 6), .mv (.c (.int .u64 0)), none⟩]
def qzy8 (b : Nat) : List qzc := [
 ⟨(some 9), .mv (.t 0), none⟩,
 ⟨(some 10), .len false (.t 9), none⟩,
 ⟨(some 11), .mv (.c (.int .i64 0)), none⟩]
def qzz1 (b : Nat) : List qzc := [
 ⟨(some 12), .bin .lss false (.t 11) (.t 10), none⟩]
def qzx5 (b : Nat) : List qzc := [
 ⟨(some 13), .mv (.t 11), none⟩,
 ⟨(some 7), .mv (.t 13), none⟩]
def qzx4 (b : Nat) : List qzc := [
 ⟨(some 14), .mv (.t 0), none⟩,
 ⟨(some 15), .mv (.t 7), none⟩,
 ⟨(some 16), .iaddrS 1 (.t 14) (.t 15), none⟩,
 ⟨(some 17), .load false 1 (.t 16), none⟩,
 ⟨(some 18), .conv .u64 (.t 17), none⟩,
 ⟨(some 19), .mv (.t 1), none⟩,
 ⟨(some 20), .mv (.t 7), none⟩,
 ⟨(some 21), .callf 136 [.t 19, .t 20], none⟩,
 ⟨(some 22), .bin .sub false (.t 18) (.t 21), none⟩,
 ⟨(some 23), .mv (.t 6), none⟩,
 ⟨(some 24), .bin .sub false (.t 22) (.t 23), none⟩,
 ⟨(some 8), .mv (.t 24), none⟩]
def wzcy : List (List Nat) := [[], [], [0, 1], [0, 1, 2], [0, 1, 2, 3], [], [], [5, 6], [0, 1, 2, 3, 4, 5, 6, 7], [], [0, 1, 2, 3, 4, 5, 6, 7, 8, 9], [0, 1, 2, 3, 4, 5, 6, 7, 8, 9, 10]]
def qzty (b : Nat) : List qzc := [
 ⟨(some 25), .mv (.t 5), none⟩,
 ⟨(some 26), .mv (.t 8), none⟩,
 ⟨(some 27), .conv .u32 (.t 26), none⟩,
 ⟨(some 28), .bslice (b + 0) 1 1 [.int .u32 0] [(0, 1, .t 27)], none⟩,
 ⟨(some 29), .append (b + 1) 1 4 (.t 25) (.t 28), none⟩,
 ⟨(some 30), .mv (.t 8), none⟩,
 ⟨(some 31), .bin .shr false (.t 30) (.c (.int .u64 63)), none⟩,
 ⟨(some 5), .mv (.t 29), none⟩,
 ⟨(some 6), .mv (.t 31), none⟩]
def qzzn (b : Nat) : List qzc := [
 ⟨(some 32), .bin .add false (.t 11) (.c (.int .i64 1)), none⟩,
 ⟨(some 11), .mv (.t 32), none⟩]
def qz1z (b : Nat) : qzk := .seq (.reg false (qzz1 b) []) (.seq (.cond (.t 12) (.skip) (.exit 0)) (.seq (.block 1 (.seq (.reg false (qzx5 b) []) (.seq (.reg true (qzx4 b) wzcy) (.reg false (qzty b) [])))) (.reg false (qzzn b) [])))
def qzx3 (b : Nat) : List qzc := [
 ⟨(some 33), .mv (.t 5), none⟩,
 ⟨(some 34), .callf 114 [.t 33], none⟩,
 ⟨(some 4), .mv (.t 34), none⟩]
def c118 (b : Nat) : qzk := .seq (.reg false (qzxg b) []) (.seq (.reg false (qzz2 b) []) (.seq (.reg false (qz0v b) []) (.seq (.seq (.reg false (qzy8 b) []) (.block 0 (.loop (qz1z b)))) (.seq (.reg false (qzx3 b) []) (.ret)))))
def qzsl : List ARes := [.t 4]
theorem wzgf : ∃ c, Tryz.f118.body = some c ∧ ∀ b, qzg Tryz.prog c (c118 b) = true := ⟨_, rfl, fun b => by kernel_rfl⟩
theorem wzf7 : qzi Tryz.prog Tryz.f118.results.toList qzsl = true := by kernel_rfl
def wzfb (b : Nat) : List qzc := [
 ⟨(some 4), .mv (.t 0), none⟩,
 ⟨(some 5), .len false (.t 4), none⟩,
 ⟨(some 6), .bin .sub false (.t 5) (.c (.int .i64 1)), none⟩,
 ⟨(some 2), .mv (.c (.int .i64 0)), none⟩,
 ⟨(some 3), .mv (.t 6), none⟩]
def wzfn (b : Nat) : List qzc := [
 ⟨(some 7), .mv (.t 2), none⟩,
 ⟨(some 8), .mv (.t 3), none⟩,
 ⟨(some 9), .bin .lss false (.t 7) (.t 8), none⟩]
def wzfi (b : Nat) : List qzc := [
 ⟨(some 14), .mv (.t 0), none⟩,
 ⟨(some 15), .mv (.t 2), none⟩,
 ⟨(some 16), .mv (.t 0), none⟩,
 ⟨(some 17), .mv (.t 3), none⟩,
 ⟨(some 18), .mv (.t 0), none⟩,
 ⟨(some 19), .mv (.t 3), none⟩,
 ⟨(some 20), .iaddrS 1 (.t 18) (.t 19), none⟩,
 ⟨(some 21), .load false 1 (.t 20), none⟩,
 ⟨(some 22), .mv (.t 0), none⟩,
 ⟨(some 23), .mv (.t 2), none⟩,
 ⟨(some 24), .iaddrS 1 (.t 22) (.t 23), none⟩,
 ⟨(some 25), .load false 1 (.t 24), none⟩,
 ⟨(some 26), .iaddrS 1 (.t 14) (.t 15), none⟩,
 ⟨none, .store 1 (.t 26) (.t 21), none⟩,
 ⟨(some 27), .iaddrS 1 (.t 16) (.t 17), none⟩,
 ⟨none, .store 1 (.t 27) (.t 25), none⟩]
def wzcx : List (List Nat) := [[], [], [], [], [], [], [4, 5], [4, 5, 6], [], [], [8, 9], [8, 9, 10], [0, 1, 4, 5, 6, 7, 8, 9, 10, 11], [0, 1, 4, 5, 6, 7, 8, 9, 10, 11, 12], [0, 1, 2, 3, 4, 5, 6, 7, 8, 9, 10, 11, 12, 13], [0, 1, 2, 3, 4, 5, 6, 7, 8, 9, 10, 11, 12, 13, 14]]
def wzfk (b : Nat) : List qzc := [
 ⟨(some 10), .mv (.t 2), none⟩,
 ⟨(some 11), .bin .add false (.t 10) (.c (.int .i64 1)), none⟩,
 ⟨(some 12), .mv (.t 3), none⟩,
 ⟨(some 13), .bin .sub false (.t 12) (.c (.int .i64 1)), none⟩,
 ⟨(some 2), .mv (.t 11), none⟩,
 ⟨(some 3), .mv (.t 13), none⟩]
def wzem (b : Nat) : qzk := .seq (.seq (.reg false (wzfn b) []) (.cond (.t 9) (.skip) (.exit 0))) (.seq (.block 1 (.reg true (wzfi b) wzcx)) (.reg false (wzfk b) []))
def c119 (b : Nat) : qzk := .seq (.reg false (wzfb b) []) (.block 0 (.loop (wzem b)))
def wzgt : List ARes := []
theorem wzg9 : ∃ c, Tryz.f119.body = some c ∧ ∀ b, qzg Tryz.prog c (c119 b) = true := ⟨_, rfl, fun b => by kernel_rfl⟩
theorem wzg8 : qzi Tryz.prog Tryz.f119.results.toList wzgt = true := by kernel_rfl
def qzyc (b : Nat) : List qzc := [
 ⟨(some 2), .mv (.c (.str [])), none⟩]
def qz21 (b : Nat) : List qzc := [
 ⟨(some 3), .mv (.t 0), none⟩,
 ⟨(some 4), .callf 137 [.t 3, .c (.str [0])], none⟩,
 ⟨(some 2), .mv (.t 4), none⟩]
def c120 (b : Nat) : qzk := .seq (.reg false (qzyc b) []) (.seq (.reg false (qz21 b) []) (.ret))
def qzsk : List ARes := [.t 2]
theorem wzf4 : ∃ c, Tryz.f120.body = some c ∧ ∀ b, qzg Tryz.prog c (c120 b) = true := ⟨_, rfl, fun b => by kernel_rfl⟩
theorem wzgg : qzi Tryz.prog Tryz.f120.results.toList qzsk = true := by kernel_rfl
def qz1d (b : Nat) : List qzc := [
 ⟨(some 4), .mv (.c (.nils)), none⟩]
def qzzj (b : Nat) : List qzc := [
 ⟨(some 5), .mv (.c (.nils)), none⟩]
def qzzw (b : Nat) : List qzc := [
 ⟨(some 6), .mv (.c (.int .u64 0)), none⟩]
def qzz4 (b : Nat) : List qzc := [
 ⟨(some 9), .mv (.t 0), none⟩,
 ⟨(some 10), .len false (.t 9), none⟩,
 ⟨(some 11), .mv (.t 1), none⟩,
 ⟨(some 12), .len false (.t 11), none⟩,
 ⟨(some 13), .max (.t 10) (.t 12), none⟩,
 ⟨(some 14), .bin .add false (.t 13) (.c (.int .i64 1)), none⟩,
 ⟨(some 15), .mv (.c (.int .i64 0)), none⟩]
def qz0n (b : Nat) : List qzc := [
 ⟨(some 16), .bin .lss false (.t 15) (.t 14), none⟩]
def qz16 (b : Nat) : List qzc := [
 ⟨(some 17), .mv (.t 15), none⟩,
 ⟨(some 7), .mv (.t 17), none⟩]
def qzxi (b : Nat) : List qzc := [
 ⟨(some 18), .mv (.t 0), none⟩,
 ⟨(some 19), .mv (.t 7), none⟩,
 ⟨(some 20), .callf 136 [.t 18, .t 19], none⟩,
 ⟨(some 21), .mv (.t 1), none⟩,
 ⟨(some 22), .mv (.t 7), none⟩,
 ⟨(some 23), .callf 136 [.t 21, .t 22], none⟩,
 ⟨(some 24), .bin .add false (.t 20) (.t 23), none⟩,
 ⟨(some 25), .mv (.t 6), none⟩,
 ⟨(some 26), .bin .add false (.t 24) (.t 25), none⟩,
 ⟨(some 8), .mv (.t 26), none⟩]
def qzsu (b : Nat) : List qzc := [
 ⟨(some 27), .mv (.t 5), none⟩,
 ⟨(some 28), .mv (.t 8), none⟩,
 ⟨(some 29), .conv .u32 (.t 28), none⟩,
 ⟨(some 30), .bslice (b + 0) 1 1 [.int .u32 0] [(0, 1, .t 29)], none⟩,
 ⟨(some 31), .append (b + 1) 1 4 (.t 27) (.t 30), none⟩,
 ⟨(some 32), .mv (.t 8), none⟩,
 ⟨(some 33), .bin .shr false (.t 32) (.c (.int .u64 32)), none⟩,
 ⟨(some 5), .mv (.t 31), none⟩,
 ⟨(some 6), .mv (.t 33), none⟩]
def qzyn (b : Nat) : List qzc := [
 ⟨(some 34), .bin .add false (.t 15) (.c (.int .i64 1)), none⟩,
 ⟨(some 15), .mv (.t 34), none⟩]
def qz18 (b : Nat) : qzk := .seq (.reg false (qz0n b) []) (.seq (.cond (.t 16) (.skip) (.exit 0)) (.seq (.block 1 (.seq (.reg false (qz16 b) []) (.seq (.reg false (qzxi b) []) (.reg false (qzsu b) [])))) (.reg false (qzyn b) [])))
def qz14 (b : Nat) : List qzc := [
 ⟨(some 35), .mv (.t 5), none⟩,
 ⟨(some 36), .callf 114 [.t 35], none⟩,
 ⟨(some 4), .mv (.t 36), none⟩]
def c121 (b : Nat) : qzk := .seq (.reg false (qz1d b) []) (.seq (.reg false (qzzj b) []) (.seq (.reg false (qzzw b) []) (.seq (.seq (.reg false (qzz4 b) []) (.block 0 (.loop (qz18 b)))) (.seq (.reg false (qz14 b) []) (.ret)))))
def qzsd : List ARes := [.t 4]
theorem wzf3 : ∃ c, Tryz.f121.body = some c ∧ ∀ b, qzg Tryz.prog c (c121 b) = true := ⟨_, rfl, fun b => by kernel_rfl⟩
theorem wzgv : qzi Tryz.prog Tryz.f121.results.toList qzsd = true := by kernel_rfl
def qzyk (b : Nat) : List qzc := [
 ⟨(some 4), .mv (.c (.int .i64 0)), none⟩]
def qzxe (b : Nat) : List qzc := [
 ⟨(some 7), .mv (.t 0), none⟩,
 ⟨(some 8), .callf 144 [.t 7], none⟩,
 ⟨(some 5), .mv (.t 8), none⟩]
def qzxn (b : Nat) : List qzc := [
 ⟨(some 9), .mv (.t 1), none⟩,
 ⟨(some 10), .callf 144 [.t 9], none⟩,
 ⟨(some 6), .mv (.t 10), none⟩]
def qzyw (b : Nat) : List qzc := [
 ⟨(some 11), .mv (.t 5), none⟩]
def qz10 (b : Nat) : List qzc := [
 ⟨(some 12), .mv (.t 6), none⟩]
def qz2j (b : Nat) : List qzc := [
 ⟨(some 4), .mv (.c (.int .i64 0)), none⟩]
def qz0f (b : Nat) : List qzc := [
 ⟨(some 4), .mv (.c (.int .i64 (-1))), none⟩]
def qzx0 (b : Nat) : List qzc := [
 ⟨(some 13), .mv (.t 6), none⟩]
def qzxo (b : Nat) : List qzc := [
 ⟨(some 4), .mv (.c (.int .i64 1)), none⟩]
def qz0s (b : Nat) : List qzc := [
 ⟨(some 14), .mv (.t 0), none⟩,
 ⟨(some 15), .mv (.t 1), none⟩,
 ⟨(some 16), .bin .lss false (.t 14) (.t 15), none⟩]
def qzv4 (b : Nat) : List qzc := [
 ⟨(some 4), .mv (.c (.int .i64 (-1))), none⟩]
def qzvm (b : Nat) : List qzc := [
 ⟨(some 17), .mv (.t 0), none⟩,
 ⟨(some 18), .mv (.t 1), none⟩,
 ⟨(some 19), .bin .gtr false (.t 17) (.t 18), none⟩]
def qzvw (b : Nat) : List qzc := [
 ⟨(some 4), .mv (.c (.int .i64 1)), none⟩]
def qzvc (b : Nat) : List qzc := [
 ⟨(some 4), .mv (.c (.int .i64 0)), none⟩]
def c134 (b : Nat) : qzk := .seq (.reg false (qzyk b) []) (.seq (.reg false (qzxe b) []) (.seq (.reg false (qzxn b) []) (.seq (.seq (.reg false (qzyw b) []) (.cond (.t 11) (.seq (.seq (.reg false (qz10 b) []) (.cond (.t 12) (.seq (.reg false (qz2j b) []) (.ret)) (.skip))) (.seq (.reg false (qz0f b) []) (.ret))) (.skip))) (.seq (.seq (.reg false (qzx0 b) []) (.cond (.t 13) (.seq (.reg false (qzxo b) []) (.ret)) (.skip))) (.seq (.seq (.reg false (qz0s b) []) (.cond (.t 16) (.seq (.reg false (qzv4 b) []) (.ret)) (.skip))) (.seq (.seq (.reg false (qzvm b) []) (.cond (.t 19) (.seq (.reg false (qzvw b) []) (.ret)) (.skip))) (.seq (.reg false (qzvc b) []) (.ret))))))))
def yzn : List ARes := [.t 4]
theorem wzfx : ∃ c, Tryz.f134.body = some c ∧ ∀ b, qzg Tryz.prog c (c134 b) = true := ⟨_, rfl, fun b => by kernel_rfl⟩
theorem wzgs : qzi Tryz.prog Tryz.f134.results.toList yzn = true := by kernel_rfl
def qz15 (b : Nat) : List qzc := [
 ⟨(some 4), .mv (.c (.int .i64 0)), none⟩]
def qzyj (b : Nat) : List qzc := [
 ⟨(some 7), .mv (.t 0), none⟩,
 ⟨(some 8), .callf 145 [.t 7], none⟩,
 ⟨(some 5), .mv (.t 8), none⟩]
def qzyl (b : Nat) : List qzc := [
 ⟨(some 9), .mv (.t 1), none⟩,
 ⟨(some 10), .callf 145 [.t 9], none⟩,
 ⟨(some 6), .mv (.t 10), none⟩]
def qzy2 (b : Nat) : List qzc := [
 ⟨(some 11), .mv (.t 5), none⟩]
def qzxz (b : Nat) : List qzc := [
 ⟨(some 12), .mv (.t 6), none⟩]
def qzxf (b : Nat) : List qzc := [
 ⟨(some 4), .mv (.c (.int .i64 0)), none⟩]
def qzy4 (b : Nat) : List qzc := [
 ⟨(some 4), .mv (.c (.int .i64 (-1))), none⟩]
def qz2z (b : Nat) : List qzc := [
 ⟨(some 13), .mv (.t 6), none⟩]
def qz19 (b : Nat) : List qzc := [
 ⟨(some 4), .mv (.c (.int .i64 1)), none⟩]
def qz1q (b : Nat) : List qzc := [
 ⟨(some 14), .mv (.t 0), none⟩,
 ⟨(some 15), .mv (.t 1), none⟩,
 ⟨(some 16), .bin .lss false (.t 14) (.t 15), none⟩]
def qzvg (b : Nat) : List qzc := [
 ⟨(some 4), .mv (.c (.int .i64 (-1))), none⟩]
def qzvx (b : Nat) : List qzc := [
 ⟨(some 17), .mv (.t 0), none⟩,
 ⟨(some 18), .mv (.t 1), none⟩,
 ⟨(some 19), .bin .gtr false (.t 17) (.t 18), none⟩]
def qzvq (b : Nat) : List qzc := [
 ⟨(some 4), .mv (.c (.int .i64 1)), none⟩]
def qzv2 (b : Nat) : List qzc := [
 ⟨(some 4), .mv (.c (.int .i64 0)), none⟩]
def c135 (b : Nat) : qzk := .seq (.reg false (qz15 b) []) (.seq (.reg false (qzyj b) []) (.seq (.reg false (qzyl b) []) (.seq (.seq (.reg false (qzy2 b) []) (.cond (.t 11) (.seq (.seq (.reg false (qzxz b) []) (.cond (.t 12) (.seq (.reg false (qzxf b) []) (.ret)) (.skip))) (.seq (.reg false (qzy4 b) []) (.ret))) (.skip))) (.seq (.seq (.reg false (qz2z b) []) (.cond (.t 13) (.seq (.reg false (qz19 b) []) (.ret)) (.skip))) (.seq (.seq (.reg false (qz1q b) []) (.cond (.t 16) (.seq (.reg false (qzvg b) []) (.ret)) (.skip))) (.seq (.seq (.reg false (qzvx b) []) (.cond (.t 19) (.seq (.reg false (qzvq b) []) (.ret)) (.skip))) (.seq (.reg false (qzv2 b) []) (.ret))))))))
def yzp : List ARes := [.t 4]
theorem wzgw : ∃ c, Tryz.f135.body = some c ∧ ∀ b, qzg Tryz.prog c (c135 b) = true := ⟨_, rfl, fun b => by kernel_rfl⟩
theorem wzg6 : qzi Tryz.prog Tryz.f135.results.toList yzp = true := by kernel_rfl
def qz1s (b : Nat) : List qzc := [
 ⟨(some 4), .mv (.c (.int .u64 0)), none⟩]
def qz23 (b : Nat) : List qzc := [
 ⟨(some 5), .mv (.t 1), none⟩,
 ⟨(some 6), .mv (.t 0), none⟩,
 ⟨(some 7), .len false (.t 6), none⟩,
 ⟨(some 8), .bin .lss false (.t 5) (.t 7), none⟩]
def qz0w (b : Nat) : List qzc := [
 ⟨(some 9), .mv (.t 0), none⟩,
 ⟨(some 10), .mv (.t 1), none⟩,
 ⟨(some 11), .iaddrS 1 (.t 9) (.t 10), none⟩,
 ⟨(some 12), .load false 1 (.t 11), none⟩,
 ⟨(some 13), .conv .u64 (.t 12), none⟩,
 ⟨(some 4), .mv (.t 13), none⟩]
def qz0m (b : Nat) : List qzc := [
 ⟨(some 4), .mv (.c (.int .u64 0)), none⟩]
def c136 (b : Nat) : qzk := .seq (.reg false (qz1s b) []) (.seq (.seq (.reg false (qz23 b) []) (.cond (.t 8) (.seq (.reg false (qz0w b) []) (.ret)) (.skip))) (.seq (.reg false (qz0m b) []) (.ret)))
def qzk6 : List ARes := [.t 4]
theorem wzgq : ∃ c, Tryz.f136.body = some c ∧ ∀ b, qzg Tryz.prog c (c136 b) = true := ⟨_, rfl, fun b => by kernel_rfl⟩
theorem wzgx : qzi Tryz.prog Tryz.f136.results.toList qzk6 = true := by kernel_rfl
def qzz7 (b : Nat) : List qzc := [
 ⟨(some 4), .mv (.c (.str [])), none⟩]
def qz0z (b : Nat) : List qzc := [
 ⟨(some 7), .mv (.t 0), none⟩,
 ⟨(some 8), .bin .eql false (.t 7) (.c (.str [])), none⟩,
 ⟨(some 9), .mv (.t 8), none⟩,
 ⟨(some 10), .mv (.t 1), (some (9, false))⟩,
 ⟨(some 11), .bin .eql false (.t 10) (.c (.str [])), (some (9, false))⟩,
 ⟨(some 12), .pick (.t 9) (.c (.bool true)) (.t 11), none⟩]
def qz2o (b : Nat) : List qzc := [
 ⟨(some 13), .mv (.t 0), none⟩,
 ⟨(some 4), .mv (.t 13), none⟩]
def qzt6 (b : Nat) : List qzc := [
 ⟨(some 14), .mv (.t 1), none⟩,
 ⟨(some 15), .len true (.t 14), none⟩,
 ⟨(some 16), .bin .eql false (.t 15) (.c (.int .i64 1)), none⟩,
 ⟨(some 17), .mv (.t 16), none⟩,
 ⟨(some 18), .mv (.t 1), (some (17, true))⟩,
 ⟨(some 19), .sidx (.t 18) (.c (.int .i64 0)), (some (17, true))⟩,
 ⟨(some 20), .bin .lss false (.t 19) (.c (.int .u8 128)), (some (17, true))⟩,
 ⟨(some 21), .pick (.t 17) (.t 20) (.c (.bool false)), none⟩]
def qz2m (b : Nat) : List qzc := [
 ⟨(some 22), .mv (.t 0), none⟩,
 ⟨(some 23), .mv (.t 1), none⟩,
 ⟨(some 24), .sidx (.t 23) (.c (.int .i64 0)), none⟩,
 ⟨(some 25), .callf 146 [.t 22, .t 24], none⟩,
 ⟨(some 4), .mv (.t 25), none⟩]
def wzff (b : Nat) : List qzc := [
 ⟨(some 27), .mv (.t 1), none⟩,
 ⟨(some 28), .callf 147 [.t 27], none⟩,
 ⟨(some 26), .mv (.t 28), none⟩,
 ⟨(some 29), .extract 0 (.t 26), none⟩,
 ⟨(some 30), .extract 1 (.t 26), none⟩,
 ⟨(some 5), .alloc (b + 0) [.bool false, .bool false, .bool false, .bool false, .bool false, .bool false, .bool false, .bool false, .bool false, .bool false, .bool false, .bool false, .bool false, .bool false, .bool false, .bool false, .bool false, .bool false, .bool false, .bool false, .bool false, .bool false, .bool false, .bool false, .bool false, .bool false, .bool false, .bool false, .bool false, .bool false, .bool false, .bool false, .bool false, .bool false, .bool false, .bool false, .bool false, .bool false, .bool false, .bool false, .bool false, .bool false, .bool false, .bool false, .bool false, .bool false, .bool false, .bool false, .bool false, .bool false, .bool false, .bool false, .bool false, .bool false, .bool false, .bool false, .bool false, .bool false, .bool false, .bool false, .bool false, .bool false, .bool false, .bool false, .bool false, .bool false, .bool false, .bool false, .bool false, .bool false, .bool false, .bool false, .bool false, .bool false, .bool false, .bool false, .bool false, .bool false, .bool false, .bool false, .bool false, .bool false, .bool false, .bool false, .bool false, .bool false, .bool false, .bool false, .bool false, .bool false, .bool false, .bool false, .bool false, .bool false, .bool false, .bool false, .bool false, .bool false, .bool false, .bool false, .bool false, .bool false, .bool false, .bool false, .bool false, .bool false, .bool false, .bool false, .bool false, .bool false, .bool false, .bool false, .bool false, .bool false, .bool false, .bool false, .bool false, .bool false, .bool false, .bool false, .bool false, .bool false, .bool false, .bool false, .bool false, .bool false, .bool false, .bool false, .bool false, .bool false, .bool false, .bool false, .bool false, .bool false, .bool false, .bool false, .bool false, .bool false, .bool false, .bool false, .bool false, .bool false, .bool false, .bool false, .bool false, .bool false, .bool false, .bool false, .bool false, .bool false, .bool false, .bool false, .bool false, .bool false, .bool false, .bool false, .bool false, .bool false, .bool false, .bool false, .bool false, .bool false, .bool false, .bool false, .bool false, .bool false, .bool false, .bool false, .bool false, .bool false, .bool false, .bool false, .bool false, .bool false, .bool false, .bool false, .bool false, .bool false, .bool false, .bool false, .bool false, .bool false, .bool false, .bool false, .bool false, .bool false, .bool false, .bool false, .bool false, .bool false, .bool false, .bool false, .bool false, .bool false, .bool false, .bool false, .bool false, .bool false, .bool false, .bool false, .bool false, .bool false, .bool false, .bool false, .bool false, .bool false, .bool false, .bool false, .bool false, .bool false, .bool false, .bool false, .bool false, .bool false, .bool false, .bool false, .bool false, .bool false, .bool false, .bool false, .bool false, .bool false, .bool false, .bool false, .bool false, .bool false, .bool false, .bool false, .bool false, .bool false, .bool false, .bool false, .bool false, .bool false, .bool false, .bool false, .bool false, .bool false, .bool false, .bool false, .bool false, .bool false, .bool false, .bool false, .bool false, .bool false, .bool false, .bool false, .bool false, .bool false, .bool false, .bool false, .bool false, .bool false, .bool false, .bool false], none⟩,
 ⟨none, .store 256 (.t 5) (.t 29), none⟩,
 ⟨(some 6), .mv (.t 30), none⟩]
def wzeb (b : Nat) : List qzc := [
 ⟨(some 31), .mv (.t 6), none⟩]
def wzep (b : Nat) : List qzc := [
 ⟨(some 32), .mv (.t 0), none⟩,
 ⟨(some 33), .callf 148 [.t 32, .t 5], none⟩,
 ⟨(some 4), .mv (.t 33), none⟩]
def wzes (b : Nat) : List qzc := [
 ⟨(some 34), .mv (.t 0), none⟩,
 ⟨(some 35), .mv (.t 1), none⟩,
 ⟨(some 36), .callf 149 [.t 34, .t 35], none⟩,
 ⟨(some 4), .mv (.t 36), none⟩]
def c137 (b : Nat) : qzk := .seq (.reg false (qzz7 b) []) (.seq (.seq (.reg false (qz0z b) []) (.cond (.t 12) (.seq (.reg false (qz2o b) []) (.ret)) (.skip))) (.seq (.seq (.reg false (qzt6 b) []) (.cond (.t 21) (.seq (.reg false (qz2m b) []) (.ret)) (.skip))) (.seq (.seq (.reg false (wzff b) []) (.seq (.reg false (wzeb b) []) (.cond (.t 31) (.seq (.reg false (wzep b) []) (.ret)) (.skip)))) (.seq (.reg false (wzes b) []) (.ret)))))
def qzlw : List ARes := [.t 4]
theorem wzg4 : ∃ c, Tryz.f137.body = some c ∧ ∀ b, qzg Tryz.prog c (c137 b) = true := ⟨_, rfl, fun b => by kernel_rfl⟩
theorem wzgr : qzi Tryz.prog Tryz.f137.results.toList qzlw = true := by kernel_rfl
def qz06 (b : Nat) : List qzc := [
 ⟨(some 2), .mv (.c (.bool false)), none⟩]
def qzy0 (b : Nat) : List qzc := [
 ⟨(some 3), .mv (.t 0), none⟩,
 ⟨(some 4), .mv (.t 0), none⟩,
 ⟨(some 5), .bin .neq false (.t 3) (.t 4), none⟩,
 ⟨(some 2), .mv (.t 5), none⟩]
def c144 (b : Nat) : qzk := .seq (.reg false (qz06 b) []) (.seq (.reg false (qzy0 b) []) (.ret))
def qzsa : List ARes := [.t 2]
theorem wzgn : ∃ c, Tryz.f144.body = some c ∧ ∀ b, qzg Tryz.prog c (c144 b) = true := ⟨_, rfl, fun b => by kernel_rfl⟩
theorem wzgy : qzi Tryz.prog Tryz.f144.results.toList qzsa = true := by kernel_rfl
def qz1c (b : Nat) : List qzc := [
 ⟨(some 2), .mv (.c (.bool false)), none⟩]
def qzyv (b : Nat) : List qzc := [
 ⟨(some 3), .mv (.t 0), none⟩,
 ⟨(some 4), .mv (.t 0), none⟩,
 ⟨(some 5), .bin .neq false (.t 3) (.t 4), none⟩,
 ⟨(some 2), .mv (.t 5), none⟩]
def c145 (b : Nat) : qzk := .seq (.reg false (qz1c b) []) (.seq (.reg false (qzyv b) []) (.ret))
def qzsc : List ARes := [.t 2]
theorem wzgh : ∃ c, Tryz.f145.body = some c ∧ ∀ b, qzg Tryz.prog c (c145 b) = true := ⟨_, rfl, fun b => by kernel_rfl⟩
theorem wzg7 : qzi Tryz.prog Tryz.f145.results.toList qzsc = true := by kernel_rfl
def qzxu (b : Nat) : List qzc := [
 ⟨(some 4), .mv (.c (.str [])), none⟩]
def qzui (b : Nat) : List qzc := [
 ⟨(some 5), .mv (.t 0), none⟩,
 ⟨(some 6), .len true (.t 5), none⟩,
 ⟨(some 7), .bin .gtr false (.t 6) (.c (.int .i64 0)), none⟩,
 ⟨(some 8), .mv (.t 7), none⟩,
 ⟨(some 9), .mv (.t 0), (some (8, true))⟩,
 ⟨(some 10), .sidx (.t 9) (.c (.int .i64 0)), (some (8, true))⟩,
 ⟨(some 11), .mv (.t 1), (some (8, true))⟩,
 ⟨(some 12), .bin .eql false (.t 10) (.t 11), (some (8, true))⟩,
 ⟨(some 13), .pick (.t 8) (.t 12) (.c (.bool false)), none⟩]
def qz2a (b : Nat) : List qzc := [
 ⟨(some 14), .mv (.t 0), none⟩,
 ⟨(some 15), .slice true 0 (.t 14) (some (.c (.int .i64 1))) none, none⟩,
 ⟨(some 0), .mv (.t 15), none⟩]
def qzxw (b : Nat) : qzk := .seq (.seq (.reg false (qzui b) []) (.cond (.t 13) (.skip) (.exit 0))) (.block 1 (.reg false (qz2a b) []))
def qz1g (b : Nat) : List qzc := [
 ⟨(some 16), .mv (.t 0), none⟩,
 ⟨(some 4), .mv (.t 16), none⟩]
def c146 (b : Nat) : qzk := .seq (.reg false (qzxu b) []) (.seq (.block 0 (.loop (qzxw b))) (.seq (.reg false (qz1g b) []) (.ret)))
def qzsi : List ARes := [.t 4]
theorem wzg5 : ∃ c, Tryz.f146.body = some c ∧ ∀ b, qzg Tryz.prog c (c146 b) = true := ⟨_, rfl, fun b => by kernel_rfl⟩
theorem wzg2 : qzi Tryz.prog Tryz.f146.results.toList qzsi = true := by kernel_rfl
end Go.Am

