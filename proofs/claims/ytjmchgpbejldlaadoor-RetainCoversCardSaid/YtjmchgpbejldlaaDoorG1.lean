/- Part G1 of the proof that the last part closes: the code of the functions of this seat over abstract operations. No condition. -/
import Derived.Test.YtjmchgpbejldlaaDoorA4
import Derived.Test.YtjmchgpbejldlaaDoorChecked
set_option linter.unusedVariables false
namespace Go.Am
open Go.Proofs
def r3_0 (b : Nat) : List AOper := [
    ⟨(some 3), .box (b + 0) (.t 0), none⟩,
    ⟨(some 5), .box (b + 1) (.t 2), none⟩,
    ⟨(some 6), .mv (.c (.bool false)), none⟩]
def r3_1 (b : Nat) : List AOper := [
    ⟨(some 18), .faddr 2 (.t 5), none⟩,
    ⟨(some 19), .load true 2 (.t 18), none⟩,
    ⟨(some 20), .callf 5 [.t 19, .c (.int .i64 500)], none⟩,
    ⟨(some 7), .mv (.t 20), none⟩]
def r3_2 (b : Nat) : List AOper := [
    ⟨(some 21), .mv (.t 7), none⟩,
    ⟨(some 22), .not (.t 21), none⟩,
    ⟨(some 23), .mv (.t 22), none⟩,
    ⟨(some 24), .mv (.t 1), (some (23, false))⟩,
    ⟨(some 25), .len false (.t 24), (some (23, false))⟩,
    ⟨(some 26), .bin .gtr false (.t 25) (.c (.int .i64 12)), (some (23, false))⟩,
    ⟨(some 27), .mv (.t 26), (some (23, false))⟩,
    ⟨(some 28), .mv (.t 1), (some (27, true))⟩,
    ⟨(some 29), .len false (.t 28), (some (27, true))⟩,
    ⟨(some 30), .bin .leq false (.t 29) (.c (.int .i64 100)), (some (27, true))⟩,
    ⟨(some 31), .pick (.t 27) (.t 30) (.c (.bool false)), (some (23, false))⟩,
    ⟨(some 32), .pick (.t 23) (.c (.bool true)) (.t 31), none⟩,
    ⟨(some 33), .mv (.t 32), none⟩,
    ⟨(some 34), .mv (.t 1), (some (33, false))⟩,
    ⟨(some 35), .len false (.t 34), (some (33, false))⟩,
    ⟨(some 36), .bin .gtr false (.t 35) (.c (.int .i64 105)), (some (33, false))⟩,
    ⟨(some 37), .pick (.t 33) (.c (.bool true)) (.t 36), none⟩]
def r3_3 (b : Nat) : List AOper := [
    ⟨(some 38), .callf 6 [], none⟩,
    ⟨(some 6), .mv (.t 38), none⟩]
def r3_4 (b : Nat) : List AOper := [
    ⟨(some 40), .load true 4 (.t 3), none⟩,
    ⟨(some 41), .mv (.t 1), none⟩,
    ⟨(some 42), .faddr 0 (.t 5), none⟩,
    ⟨(some 43), .load false 1 (.t 42), none⟩,
    ⟨(some 44), .faddr 1 (.t 5), none⟩,
    ⟨(some 45), .load false 1 (.t 44), none⟩,
    ⟨(some 46), .faddr 5 (.t 5), none⟩,
    ⟨(some 47), .load false 1 (.t 46), none⟩,
    ⟨(some 48), .callf 7 [.t 40, .t 41, .t 43, .t 45, .t 47], none⟩,
    ⟨(some 39), .mv (.t 48), none⟩,
    ⟨(some 49), .extract 0 (.t 39), none⟩,
    ⟨(some 50), .extract 1 (.t 39), none⟩,
    ⟨(some 8), .mv (.t 49), none⟩,
    ⟨(some 9), .mv (.t 50), none⟩]
def r3_5 (b : Nat) : List AOper := [
    ⟨(some 52), .load true 4 (.t 3), none⟩,
    ⟨(some 53), .mv (.t 1), none⟩,
    ⟨(some 54), .faddr 0 (.t 5), none⟩,
    ⟨(some 55), .load false 1 (.t 54), none⟩,
    ⟨(some 56), .faddr 2 (.t 5), none⟩,
    ⟨(some 57), .load true 2 (.t 56), none⟩,
    ⟨(some 58), .faddr 5 (.t 5), none⟩,
    ⟨(some 59), .load false 1 (.t 58), none⟩,
    ⟨(some 60), .callf 8 [.t 52, .t 53, .t 55, .t 57, .t 59], none⟩,
    ⟨(some 51), .mv (.t 60), none⟩,
    ⟨(some 61), .extract 0 (.t 51), none⟩,
    ⟨(some 62), .extract 1 (.t 51), none⟩,
    ⟨(some 10), .mv (.t 61), none⟩,
    ⟨(some 11), .mv (.t 62), none⟩]
def r3_6 (b : Nat) : List AOper := [
    ⟨(some 64), .load true 4 (.t 3), none⟩,
    ⟨(some 65), .mv (.t 1), none⟩,
    ⟨(some 66), .faddr 0 (.t 5), none⟩,
    ⟨(some 67), .load false 1 (.t 66), none⟩,
    ⟨(some 68), .faddr 2 (.t 5), none⟩,
    ⟨(some 69), .load true 2 (.t 68), none⟩,
    ⟨(some 70), .faddr 4 (.t 5), none⟩,
    ⟨(some 71), .load false 1 (.t 70), none⟩,
    ⟨(some 72), .faddr 5 (.t 5), none⟩,
    ⟨(some 73), .load false 1 (.t 72), none⟩,
    ⟨(some 74), .callf 9 [.t 64, .t 65, .t 67, .t 69, .t 71, .t 73], none⟩,
    ⟨(some 63), .mv (.t 74), none⟩,
    ⟨(some 75), .extract 0 (.t 63), none⟩,
    ⟨(some 76), .extract 1 (.t 63), none⟩,
    ⟨(some 12), .mv (.t 75), none⟩,
    ⟨(some 13), .mv (.t 76), none⟩]
def r3_7 (b : Nat) : List AOper := [
    ⟨(some 77), .load true 4 (.t 3), none⟩,
    ⟨(some 78), .mv (.t 1), none⟩,
    ⟨(some 79), .faddr 0 (.t 5), none⟩,
    ⟨(some 80), .load false 1 (.t 79), none⟩,
    ⟨(some 81), .faddr 1 (.t 5), none⟩,
    ⟨(some 82), .load false 1 (.t 81), none⟩,
    ⟨(some 83), .faddr 5 (.t 5), none⟩,
    ⟨(some 84), .load false 1 (.t 83), none⟩,
    ⟨(some 85), .callf 10 [.t 77, .t 78, .t 80, .t 82, .t 84], none⟩,
    ⟨(some 14), .alloc (b + 2) [.int .i64 0, .int .i64 0], none⟩,
    ⟨none, .store 2 (.t 14) (.t 85), none⟩]
def r3_8 (b : Nat) : List AOper := [
    ⟨(some 86), .load true 4 (.t 3), none⟩,
    ⟨(some 87), .mv (.t 1), none⟩,
    ⟨(some 88), .faddr 0 (.t 5), none⟩,
    ⟨(some 89), .load false 1 (.t 88), none⟩,
    ⟨(some 90), .faddr 2 (.t 5), none⟩,
    ⟨(some 91), .load true 2 (.t 90), none⟩,
    ⟨(some 92), .faddr 5 (.t 5), none⟩,
    ⟨(some 93), .load false 1 (.t 92), none⟩,
    ⟨(some 94), .callf 11 [.t 86, .t 87, .t 89, .t 91, .t 93], none⟩,
    ⟨(some 15), .alloc (b + 3) [.nils, .int .i64 0], none⟩,
    ⟨none, .store 2 (.t 15) (.t 94), none⟩]
def r3_9 (b : Nat) : List AOper := [
    ⟨(some 95), .load true 4 (.t 3), none⟩,
    ⟨(some 96), .mv (.t 1), none⟩,
    ⟨(some 97), .faddr 0 (.t 5), none⟩,
    ⟨(some 98), .load false 1 (.t 97), none⟩,
    ⟨(some 99), .faddr 2 (.t 5), none⟩,
    ⟨(some 100), .load true 2 (.t 99), none⟩,
    ⟨(some 101), .faddr 4 (.t 5), none⟩,
    ⟨(some 102), .load false 1 (.t 101), none⟩,
    ⟨(some 103), .faddr 5 (.t 5), none⟩,
    ⟨(some 104), .load false 1 (.t 103), none⟩,
    ⟨(some 105), .callf 12 [.t 95, .t 96, .t 98, .t 100, .t 102, .t 104], none⟩,
    ⟨(some 16), .alloc (b + 4) [.nils, .int .i64 0], none⟩,
    ⟨none, .store 2 (.t 16) (.t 105), none⟩]
def r3_10 (b : Nat) : List AOper := [
    ⟨(some 106), .load true 4 (.t 3), none⟩,
    ⟨(some 107), .mv (.t 1), none⟩,
    ⟨(some 108), .callf 13 [.t 106, .t 107], none⟩,
    ⟨(some 109), .load true 4 (.t 3), none⟩,
    ⟨(some 110), .mv (.t 1), none⟩,
    ⟨(some 111), .callf 14 [.t 109, .t 110], none⟩,
    ⟨(some 112), .bin .eql false (.t 108) (.t 111), none⟩,
    ⟨(some 113), .mv (.t 112), none⟩,
    ⟨(some 114), .mv (.t 8), (some (113, true))⟩,
    ⟨(some 115), .faddr 0 (.t 14), (some (113, true))⟩,
    ⟨(some 116), .load false 1 (.t 115), (some (113, true))⟩,
    ⟨(some 117), .bin .eql false (.t 114) (.t 116), (some (113, true))⟩,
    ⟨(some 118), .pick (.t 113) (.t 117) (.c (.bool false)), none⟩,
    ⟨(some 119), .mv (.t 118), none⟩,
    ⟨(some 120), .mv (.t 9), (some (119, true))⟩,
    ⟨(some 121), .faddr 1 (.t 14), (some (119, true))⟩,
    ⟨(some 122), .load false 1 (.t 121), (some (119, true))⟩,
    ⟨(some 123), .bin .eql false (.t 120) (.t 122), (some (119, true))⟩,
    ⟨(some 124), .pick (.t 119) (.t 123) (.c (.bool false)), none⟩,
    ⟨(some 125), .mv (.t 124), none⟩,
    ⟨(some 126), .mv (.t 10), (some (125, true))⟩,
    ⟨(some 127), .faddr 0 (.t 15), (some (125, true))⟩,
    ⟨(some 128), .load false 1 (.t 127), (some (125, true))⟩,
    ⟨(some 129), .callf 15 [.t 126, .t 128], (some (125, true))⟩,
    ⟨(some 130), .pick (.t 125) (.t 129) (.c (.bool false)), none⟩,
    ⟨(some 131), .mv (.t 130), none⟩,
    ⟨(some 132), .mv (.t 11), (some (131, true))⟩,
    ⟨(some 133), .faddr 1 (.t 15), (some (131, true))⟩,
    ⟨(some 134), .load false 1 (.t 133), (some (131, true))⟩,
    ⟨(some 135), .bin .eql false (.t 132) (.t 134), (some (131, true))⟩,
    ⟨(some 136), .pick (.t 131) (.t 135) (.c (.bool false)), none⟩,
    ⟨(some 17), .mv (.t 136), none⟩]
def r3_10p : List (List Nat) := [[], [], [0, 1], [], [], [0, 1, 2, 3, 4], [0, 1, 2, 3, 4, 5], [0, 1, 2, 3, 4, 5, 6], [0, 1, 2, 3, 4, 5, 6, 7], [0, 1, 2, 3, 4, 5, 6, 7], [0, 1, 2, 3, 4, 5, 6, 7, 9], [0, 1, 2, 3, 4, 5, 6, 7, 8, 9, 10], [0, 1, 2, 3, 4, 5, 6, 7, 8, 9, 10, 11], [0, 1, 2, 3, 4, 5, 6, 7, 8, 9, 10, 11, 12], [0, 1, 2, 3, 4, 5, 6, 7, 8, 9, 10, 11, 12, 13], [0, 1, 2, 3, 4, 5, 6, 7, 8, 9, 10, 11, 12, 13], [0, 1, 2, 3, 4, 5, 6, 7, 8, 9, 10, 11, 12, 13, 15], [0, 1, 2, 3, 4, 5, 6, 7, 8, 9, 10, 11, 12, 13, 14, 15, 16], [0, 1, 2, 3, 4, 5, 6, 7, 8, 9, 10, 11, 12, 13, 14, 15, 16, 17], [0, 1, 2, 3, 4, 5, 6, 7, 8, 9, 10, 11, 12, 13, 14, 15, 16, 17, 18], [0, 1, 2, 3, 4, 5, 6, 7, 8, 9, 10, 11, 12, 13, 14, 15, 16, 17, 18, 19], [0, 1, 2, 3, 4, 5, 6, 7, 8, 9, 10, 11, 12, 13, 14, 15, 16, 17, 18, 19], [0, 1, 2, 3, 4, 5, 6, 7, 8, 9, 10, 11, 12, 13, 14, 15, 16, 17, 18, 19, 21], [0, 1, 2, 3, 4, 5, 6, 7, 8, 9, 10, 11, 12, 13, 14, 15, 16, 17, 18, 19, 20, 21, 22], [0, 1, 2, 3, 4, 5, 6, 7, 8, 9, 10, 11, 12, 13, 14, 15, 16, 17, 18, 19, 20, 21, 22, 23], [0, 1, 2, 3, 4, 5, 6, 7, 8, 9, 10, 11, 12, 13, 14, 15, 16, 17, 18, 19, 20, 21, 22, 23, 24], [0, 1, 2, 3, 4, 5, 6, 7, 8, 9, 10, 11, 12, 13, 14, 15, 16, 17, 18, 19, 20, 21, 22, 23, 24, 25], [0, 1, 2, 3, 4, 5, 6, 7, 8, 9, 10, 11, 12, 13, 14, 15, 16, 17, 18, 19, 20, 21, 22, 23, 24, 25], [0, 1, 2, 3, 4, 5, 6, 7, 8, 9, 10, 11, 12, 13, 14, 15, 16, 17, 18, 19, 20, 21, 22, 23, 24, 25, 27], [0, 1, 2, 3, 4, 5, 6, 7, 8, 9, 10, 11, 12, 13, 14, 15, 16, 17, 18, 19, 20, 21, 22, 23, 24, 25, 26, 27, 28], [0, 1, 2, 3, 4, 5, 6, 7, 8, 9, 10, 11, 12, 13, 14, 15, 16, 17, 18, 19, 20, 21, 22, 23, 24, 25, 26, 27, 28, 29], [0, 1, 2, 3, 4, 5, 6, 7, 8, 9, 10, 11, 12, 13, 14, 15, 16, 17, 18, 19, 20, 21, 22, 23, 24, 25, 26, 27, 28, 29, 30]]
def r3_11 (b : Nat) : List AOper := [
    ⟨(some 137), .callf 6 [], none⟩,
    ⟨(some 138), .mv (.t 137), none⟩,
    ⟨(some 139), .mv (.t 17), (some (138, true))⟩,
    ⟨(some 140), .pick (.t 138) (.t 139) (.c (.bool false)), none⟩,
    ⟨(some 141), .mv (.t 140), none⟩,
    ⟨(some 142), .mv (.t 12), (some (141, true))⟩,
    ⟨(some 143), .faddr 0 (.t 16), (some (141, true))⟩,
    ⟨(some 144), .load false 1 (.t 143), (some (141, true))⟩,
    ⟨(some 145), .callf 15 [.t 142, .t 144], (some (141, true))⟩,
    ⟨(some 146), .pick (.t 141) (.t 145) (.c (.bool false)), none⟩,
    ⟨(some 147), .mv (.t 146), none⟩,
    ⟨(some 148), .mv (.t 13), (some (147, true))⟩,
    ⟨(some 149), .faddr 1 (.t 16), (some (147, true))⟩,
    ⟨(some 150), .load false 1 (.t 149), (some (147, true))⟩,
    ⟨(some 151), .bin .eql false (.t 148) (.t 150), (some (147, true))⟩,
    ⟨(some 152), .pick (.t 147) (.t 151) (.c (.bool false)), none⟩,
    ⟨(some 6), .mv (.t 152), none⟩]
def c3 (b : Nat) : ACode := .seq (.reg false (r3_0 b) []) (.seq (.reg false (r3_1 b) []) (.seq (.seq (.reg false (r3_2 b) []) (.cond (.t 37) (.seq (.reg false (r3_3 b) []) (.ret)) (.skip))) (.seq (.reg false (r3_4 b) []) (.seq (.reg false (r3_5 b) []) (.seq (.reg false (r3_6 b) []) (.seq (.reg false (r3_7 b) []) (.seq (.reg false (r3_8 b) []) (.seq (.reg false (r3_9 b) []) (.seq (.reg true (r3_10 b) r3_10p) (.seq (.reg false (r3_11 b) []) (.ret)))))))))))
def rs3 : List ARes := [.t 6]
theorem ck3 : ∃ c, Tryd.f3.body = some c ∧ ∀ b, checkCode Tryd.prog c (c3 b) = true := ⟨_, rfl, fun b => by kernel_rfl⟩
theorem cr3 : checkRess Tryd.prog Tryd.f3.results.toList rs3 = true := by kernel_rfl
def r4_0 (b : Nat) : List AOper := [
    ⟨(some 3), .box (b + 0) (.t 0), none⟩,
    ⟨(some 5), .box (b + 1) (.t 2), none⟩,
    ⟨(some 6), .mv (.c (.bool false)), none⟩]
def r4_1 (b : Nat) : List AOper := [
    ⟨(some 28), .faddr 2 (.t 5), none⟩,
    ⟨(some 29), .load true 2 (.t 28), none⟩,
    ⟨(some 30), .callf 5 [.t 29, .c (.int .i64 500)], none⟩,
    ⟨(some 7), .mv (.t 30), none⟩]
def r4_2 (b : Nat) : List AOper := [
    ⟨(some 31), .mv (.t 7), none⟩,
    ⟨(some 32), .not (.t 31), none⟩,
    ⟨(some 33), .mv (.t 32), none⟩,
    ⟨(some 34), .mv (.t 1), (some (33, false))⟩,
    ⟨(some 35), .len false (.t 34), (some (33, false))⟩,
    ⟨(some 36), .bin .gtr false (.t 35) (.c (.int .i64 12)), (some (33, false))⟩,
    ⟨(some 37), .pick (.t 33) (.c (.bool true)) (.t 36), none⟩,
    ⟨(some 38), .mv (.t 37), none⟩,
    ⟨(some 39), .faddr 4 (.t 5), (some (38, false))⟩,
    ⟨(some 40), .load false 1 (.t 39), (some (38, false))⟩,
    ⟨(some 41), .faddr 5 (.t 5), (some (38, false))⟩,
    ⟨(some 42), .load false 1 (.t 41), (some (38, false))⟩,
    ⟨(some 43), .bin .gtr false (.t 40) (.t 42), (some (38, false))⟩,
    ⟨(some 44), .pick (.t 38) (.c (.bool true)) (.t 43), none⟩]
def r4_3 (b : Nat) : List AOper := [
    ⟨(some 45), .callf 6 [], none⟩,
    ⟨(some 6), .mv (.t 45), none⟩]
def r4_4 (b : Nat) : List AOper := [
    ⟨(some 47), .load true 4 (.t 3), none⟩,
    ⟨(some 48), .mv (.t 1), none⟩,
    ⟨(some 49), .faddr 0 (.t 5), none⟩,
    ⟨(some 50), .load false 1 (.t 49), none⟩,
    ⟨(some 51), .faddr 2 (.t 5), none⟩,
    ⟨(some 52), .load true 2 (.t 51), none⟩,
    ⟨(some 53), .faddr 4 (.t 5), none⟩,
    ⟨(some 54), .load false 1 (.t 53), none⟩,
    ⟨(some 55), .callf 8 [.t 47, .t 48, .t 50, .t 52, .t 54], none⟩,
    ⟨(some 46), .mv (.t 55), none⟩,
    ⟨(some 56), .extract 0 (.t 46), none⟩,
    ⟨(some 57), .extract 1 (.t 46), none⟩,
    ⟨(some 8), .mv (.t 56), none⟩,
    ⟨(some 9), .mv (.t 57), none⟩]
def r4_5 (b : Nat) : List AOper := [
    ⟨(some 59), .load true 4 (.t 3), none⟩,
    ⟨(some 60), .mv (.t 1), none⟩,
    ⟨(some 61), .faddr 0 (.t 5), none⟩,
    ⟨(some 62), .load false 1 (.t 61), none⟩,
    ⟨(some 63), .faddr 2 (.t 5), none⟩,
    ⟨(some 64), .load true 2 (.t 63), none⟩,
    ⟨(some 65), .faddr 5 (.t 5), none⟩,
    ⟨(some 66), .load false 1 (.t 65), none⟩,
    ⟨(some 67), .callf 8 [.t 59, .t 60, .t 62, .t 64, .t 66], none⟩,
    ⟨(some 58), .mv (.t 67), none⟩,
    ⟨(some 68), .extract 0 (.t 58), none⟩,
    ⟨(some 69), .extract 1 (.t 58), none⟩,
    ⟨(some 10), .mv (.t 68), none⟩,
    ⟨(some 11), .mv (.t 69), none⟩]
def r4_6 (b : Nat) : List AOper := [
    ⟨(some 70), .mv (.t 9), none⟩,
    ⟨(some 71), .mv (.t 11), none⟩,
    ⟨(some 72), .bin .neq false (.t 70) (.t 71), none⟩,
    ⟨(some 73), .mv (.t 72), none⟩,
    ⟨(some 74), .mv (.t 9), (some (73, false))⟩,
    ⟨(some 75), .bin .neq false (.t 74) (.c (.int .i64 0)), (some (73, false))⟩,
    ⟨(some 76), .pick (.t 73) (.c (.bool true)) (.t 75), none⟩]
def r4_7 (b : Nat) : List AOper := [
    ⟨(some 77), .callf 6 [], none⟩,
    ⟨(some 78), .mv (.t 77), none⟩,
    ⟨(some 79), .mv (.t 9), (some (78, true))⟩,
    ⟨(some 80), .mv (.t 11), (some (78, true))⟩,
    ⟨(some 81), .bin .eql false (.t 79) (.t 80), (some (78, true))⟩,
    ⟨(some 82), .mv (.t 81), (some (78, true))⟩,
    ⟨(some 83), .mv (.t 9), (some (82, false))⟩,
    ⟨(some 84), .bin .eql false (.t 83) (.c (.int .i64 3)), (some (82, false))⟩,
    ⟨(some 85), .pick (.t 82) (.c (.bool true)) (.t 84), (some (78, true))⟩,
    ⟨(some 86), .mv (.t 85), (some (78, true))⟩,
    ⟨(some 87), .mv (.t 11), (some (86, false))⟩,
    ⟨(some 88), .bin .eql false (.t 87) (.c (.int .i64 3)), (some (86, false))⟩,
    ⟨(some 89), .pick (.t 86) (.c (.bool true)) (.t 88), (some (78, true))⟩,
    ⟨(some 90), .pick (.t 78) (.t 89) (.c (.bool false)), none⟩,
    ⟨(some 6), .mv (.t 90), none⟩]
def r4_8 (b : Nat) : List AOper := [
    ⟨(some 91), .mv (.t 8), none⟩,
    ⟨(some 92), .mv (.t 10), none⟩,
    ⟨(some 93), .bslice (b + 2) 1 2 [.nils, .nils] [(0, 1, .t 91), (1, 1, .t 92)], none⟩,
    ⟨(some 94), .len false (.t 93), none⟩,
    ⟨(some 95), .mv (.c (.int .i64 0)), none⟩]
def r4_9 (b : Nat) : List AOper := [
    ⟨(some 96), .bin .lss false (.t 95) (.t 94), none⟩]
def r4_10 (b : Nat) : List AOper := [
    ⟨(some 97), .iaddrS 1 (.t 93) (.t 95), none⟩,
    ⟨(some 98), .load false 1 (.t 97), none⟩,
    ⟨(some 13), .mv (.t 98), none⟩]
def r4_11 (b : Nat) : List AOper := [
    ⟨(some 99), .mv (.t 13), none⟩,
    ⟨(some 100), .len false (.t 99), none⟩,
    ⟨(some 101), .mv (.c (.int .i64 0)), none⟩]
def r4_12 (b : Nat) : List AOper := [
    ⟨(some 102), .bin .lss false (.t 101) (.t 100), none⟩]
def r4_13 (b : Nat) : List AOper := [
    ⟨(some 103), .mv (.t 101), none⟩,
    ⟨(some 104), .iaddrS 3 (.t 99) (.t 101), none⟩,
    ⟨(some 105), .load true 3 (.t 104), none⟩,
    ⟨(some 15), .alloc (b + 3) [.int .i64 0, .int .i64 0, .int .i64 0], none⟩,
    ⟨(some 14), .mv (.t 103), none⟩,
    ⟨none, .store 3 (.t 15) (.t 105), none⟩]
def r4_14 (b : Nat) : List AOper := [
    ⟨(some 106), .faddr 1 (.t 15), none⟩,
    ⟨(some 107), .load false 1 (.t 106), none⟩,
    ⟨(some 108), .faddr 2 (.t 15), none⟩,
    ⟨(some 109), .load false 1 (.t 108), none⟩,
    ⟨(some 110), .bin .geq false (.t 107) (.t 109), none⟩,
    ⟨(some 111), .mv (.t 110), none⟩,
    ⟨(some 112), .mv (.t 14), (some (111, false))⟩,
    ⟨(some 113), .bin .gtr false (.t 112) (.c (.int .i64 0)), (some (111, false))⟩,
    ⟨(some 114), .mv (.t 113), (some (111, false))⟩,
    ⟨(some 115), .faddr 1 (.t 15), (some (114, true))⟩,
    ⟨(some 116), .load false 1 (.t 115), (some (114, true))⟩,
    ⟨(some 117), .mv (.t 13), (some (114, true))⟩,
    ⟨(some 118), .mv (.t 14), (some (114, true))⟩,
    ⟨(some 119), .bin .sub false (.t 118) (.c (.int .i64 1)), (some (114, true))⟩,
    ⟨(some 120), .iaddrS 3 (.t 117) (.t 119), (some (114, true))⟩,
    ⟨(some 121), .faddr 2 (.t 120), (some (114, true))⟩,
    ⟨(some 122), .load false 1 (.t 121), (some (114, true))⟩,
    ⟨(some 123), .bin .neq false (.t 116) (.t 122), (some (114, true))⟩,
    ⟨(some 124), .pick (.t 114) (.t 123) (.c (.bool false)), (some (111, false))⟩,
    ⟨(some 125), .pick (.t 111) (.c (.bool true)) (.t 124), none⟩,
    ⟨(some 126), .mv (.t 125), none⟩,
    ⟨(some 127), .mv (.t 14), (some (126, false))⟩,
    ⟨(some 128), .bin .eql false (.t 127) (.c (.int .i64 0)), (some (126, false))⟩,
    ⟨(some 129), .mv (.t 128), (some (126, false))⟩,
    ⟨(some 130), .faddr 1 (.t 15), (some (129, true))⟩,
    ⟨(some 131), .load false 1 (.t 130), (some (129, true))⟩,
    ⟨(some 132), .faddr 2 (.t 5), (some (129, true))⟩,
    ⟨(some 133), .faddr 0 (.t 132), (some (129, true))⟩,
    ⟨(some 134), .load false 1 (.t 133), (some (129, true))⟩,
    ⟨(some 135), .bin .gtr false (.t 131) (.t 134), (some (129, true))⟩,
    ⟨(some 136), .pick (.t 129) (.t 135) (.c (.bool false)), (some (126, false))⟩,
    ⟨(some 137), .pick (.t 126) (.c (.bool true)) (.t 136), none⟩,
    ⟨(some 138), .mv (.t 137), none⟩,
    ⟨(some 139), .mv (.t 14), (some (138, false))⟩,
    ⟨(some 140), .bin .gtr false (.t 139) (.c (.int .i64 0)), (some (138, false))⟩,
    ⟨(some 141), .mv (.t 140), (some (138, false))⟩,
    ⟨(some 142), .faddr 0 (.t 15), (some (141, true))⟩,
    ⟨(some 143), .load false 1 (.t 142), (some (141, true))⟩,
    ⟨(some 144), .bin .eql false (.t 143) (.c (.int .i64 0)), (some (141, true))⟩,
    ⟨(some 145), .pick (.t 141) (.t 144) (.c (.bool false)), (some (138, false))⟩,
    ⟨(some 146), .mv (.t 145), (some (138, false))⟩,
    ⟨(some 147), .mv (.t 13), (some (146, true))⟩,
    ⟨(some 148), .mv (.t 14), (some (146, true))⟩,
    ⟨(some 149), .bin .sub false (.t 148) (.c (.int .i64 1)), (some (146, true))⟩,
    ⟨(some 150), .iaddrS 3 (.t 147) (.t 149), (some (146, true))⟩,
    ⟨(some 151), .faddr 0 (.t 150), (some (146, true))⟩,
    ⟨(some 152), .load false 1 (.t 151), (some (146, true))⟩,
    ⟨(some 153), .bin .eql false (.t 152) (.c (.int .i64 0)), (some (146, true))⟩,
    ⟨(some 154), .pick (.t 146) (.t 153) (.c (.bool false)), (some (138, false))⟩,
    ⟨(some 155), .pick (.t 138) (.c (.bool true)) (.t 154), none⟩]
def r4_14p : List (List Nat) := [[], [0], [], [2], [0, 1, 2, 3], [0, 1, 2, 3, 4], [0, 1, 2, 3, 4, 5], [0, 1, 2, 3, 4, 5, 6], [0, 1, 2, 3, 4, 5, 6, 7], [0, 1, 2, 3, 4, 5, 6, 7, 8], [0, 1, 2, 3, 4, 5, 6, 7, 8, 9], [0, 1, 2, 3, 4, 5, 6, 7, 8], [0, 1, 2, 3, 4, 5, 6, 7, 8], [0, 1, 2, 3, 4, 5, 6, 7, 8, 12], [0, 1, 2, 3, 4, 5, 6, 7, 8, 11, 12, 13], [0, 1, 2, 3, 4, 5, 6, 7, 8, 11, 12, 13, 14], [0, 1, 2, 3, 4, 5, 6, 7, 8, 11, 12, 13, 14, 15], [0, 1, 2, 3, 4, 5, 6, 7, 8, 9, 10, 11, 12, 13, 14, 15, 16], [0, 1, 2, 3, 4, 5, 6, 7, 8, 9, 10, 11, 12, 13, 14, 15, 16, 17], [0, 1, 2, 3, 4, 5, 6, 7, 8, 9, 10, 11, 12, 13, 14, 15, 16, 17, 18], [0, 1, 2, 3, 4, 5, 6, 7, 8, 9, 10, 11, 12, 13, 14, 15, 16, 17, 18, 19], [0, 1, 2, 3, 4, 5, 6, 7, 8, 9, 10, 11, 12, 13, 14, 15, 16, 17, 18, 19, 20], [0, 1, 2, 3, 4, 5, 6, 7, 8, 9, 10, 11, 12, 13, 14, 15, 16, 17, 18, 19, 20, 21], [0, 1, 2, 3, 4, 5, 6, 7, 8, 9, 10, 11, 12, 13, 14, 15, 16, 17, 18, 19, 20, 21, 22], [0, 1, 2, 3, 4, 5, 6, 7, 8, 9, 10, 11, 12, 13, 14, 15, 16, 17, 18, 19, 20, 21, 22, 23], [0, 1, 2, 3, 4, 5, 6, 7, 8, 9, 10, 11, 12, 13, 14, 15, 16, 17, 18, 19, 20, 21, 22, 23, 24], [0, 1, 2, 3, 4, 5, 6, 7, 8, 9, 10, 11, 12, 13, 14, 15, 16, 17, 18, 19, 20, 21, 22, 23], [0, 1, 2, 3, 4, 5, 6, 7, 8, 9, 10, 11, 12, 13, 14, 15, 16, 17, 18, 19, 20, 21, 22, 23, 26], [0, 1, 2, 3, 4, 5, 6, 7, 8, 9, 10, 11, 12, 13, 14, 15, 16, 17, 18, 19, 20, 21, 22, 23, 26, 27], [0, 1, 2, 3, 4, 5, 6, 7, 8, 9, 10, 11, 12, 13, 14, 15, 16, 17, 18, 19, 20, 21, 22, 23, 24, 25, 26, 27, 28], [0, 1, 2, 3, 4, 5, 6, 7, 8, 9, 10, 11, 12, 13, 14, 15, 16, 17, 18, 19, 20, 21, 22, 23, 24, 25, 26, 27, 28, 29], [0, 1, 2, 3, 4, 5, 6, 7, 8, 9, 10, 11, 12, 13, 14, 15, 16, 17, 18, 19, 20, 21, 22, 23, 24, 25, 26, 27, 28, 29, 30], [0, 1, 2, 3, 4, 5, 6, 7, 8, 9, 10, 11, 12, 13, 14, 15, 16, 17, 18, 19, 20, 21, 22, 23, 24, 25, 26, 27, 28, 29, 30, 31], [0, 1, 2, 3, 4, 5, 6, 7, 8, 9, 10, 11, 12, 13, 14, 15, 16, 17, 18, 19, 20, 21, 22, 23, 24, 25, 26, 27, 28, 29, 30, 31, 32], [0, 1, 2, 3, 4, 5, 6, 7, 8, 9, 10, 11, 12, 13, 14, 15, 16, 17, 18, 19, 20, 21, 22, 23, 24, 25, 26, 27, 28, 29, 30, 31, 32, 33], [0, 1, 2, 3, 4, 5, 6, 7, 8, 9, 10, 11, 12, 13, 14, 15, 16, 17, 18, 19, 20, 21, 22, 23, 24, 25, 26, 27, 28, 29, 30, 31, 32, 33, 34], [0, 1, 2, 3, 4, 5, 6, 7, 8, 9, 10, 11, 12, 13, 14, 15, 16, 17, 18, 19, 20, 21, 22, 23, 24, 25, 26, 27, 28, 29, 30, 31, 32, 33, 34, 35], [0, 1, 2, 3, 4, 5, 6, 7, 8, 9, 10, 11, 12, 13, 14, 15, 16, 17, 18, 19, 20, 21, 22, 23, 24, 25, 26, 27, 28, 29, 30, 31, 32, 33, 34, 35, 36], [0, 1, 2, 3, 4, 5, 6, 7, 8, 9, 10, 11, 12, 13, 14, 15, 16, 17, 18, 19, 20, 21, 22, 23, 24, 25, 26, 27, 28, 29, 30, 31, 32, 33, 34, 35, 36, 37], [0, 1, 2, 3, 4, 5, 6, 7, 8, 9, 10, 11, 12, 13, 14, 15, 16, 17, 18, 19, 20, 21, 22, 23, 24, 25, 26, 27, 28, 29, 30, 31, 32, 33, 34, 35, 36, 37, 38], [0, 1, 2, 3, 4, 5, 6, 7, 8, 9, 10, 11, 12, 13, 14, 15, 16, 17, 18, 19, 20, 21, 22, 23, 24, 25, 26, 27, 28, 29, 30, 31, 32, 33, 34, 35, 36, 37, 38, 39], [0, 1, 2, 3, 4, 5, 6, 7, 8, 9, 10, 11, 12, 13, 14, 15, 16, 17, 18, 19, 20, 21, 22, 23, 24, 25, 26, 27, 28, 29, 30, 31, 32, 33, 34, 35, 36, 37, 38, 39, 40], [0, 1, 2, 3, 4, 5, 6, 7, 8, 9, 10, 11, 12, 13, 14, 15, 16, 17, 18, 19, 20, 21, 22, 23, 24, 25, 26, 27, 28, 29, 30, 31, 32, 33, 34, 35, 36, 37, 38, 39, 40], [0, 1, 2, 3, 4, 5, 6, 7, 8, 9, 10, 11, 12, 13, 14, 15, 16, 17, 18, 19, 20, 21, 22, 23, 24, 25, 26, 27, 28, 29, 30, 31, 32, 33, 34, 35, 36, 37, 38, 39, 40, 42], [0, 1, 2, 3, 4, 5, 6, 7, 8, 9, 10, 11, 12, 13, 14, 15, 16, 17, 18, 19, 20, 21, 22, 23, 24, 25, 26, 27, 28, 29, 30, 31, 32, 33, 34, 35, 36, 37, 38, 39, 40, 41, 42, 43], [0, 1, 2, 3, 4, 5, 6, 7, 8, 9, 10, 11, 12, 13, 14, 15, 16, 17, 18, 19, 20, 21, 22, 23, 24, 25, 26, 27, 28, 29, 30, 31, 32, 33, 34, 35, 36, 37, 38, 39, 40, 41, 42, 43, 44], [0, 1, 2, 3, 4, 5, 6, 7, 8, 9, 10, 11, 12, 13, 14, 15, 16, 17, 18, 19, 20, 21, 22, 23, 24, 25, 26, 27, 28, 29, 30, 31, 32, 33, 34, 35, 36, 37, 38, 39, 40, 41, 42, 43, 44, 45], [0, 1, 2, 3, 4, 5, 6, 7, 8, 9, 10, 11, 12, 13, 14, 15, 16, 17, 18, 19, 20, 21, 22, 23, 24, 25, 26, 27, 28, 29, 30, 31, 32, 33, 34, 35, 36, 37, 38, 39, 40, 41, 42, 43, 44, 45, 46], [0, 1, 2, 3, 4, 5, 6, 7, 8, 9, 10, 11, 12, 13, 14, 15, 16, 17, 18, 19, 20, 21, 22, 23, 24, 25, 26, 27, 28, 29, 30, 31, 32, 33, 34, 35, 36, 37, 38, 39, 40, 41, 42, 43, 44, 45, 46, 47], [0, 1, 2, 3, 4, 5, 6, 7, 8, 9, 10, 11, 12, 13, 14, 15, 16, 17, 18, 19, 20, 21, 22, 23, 24, 25, 26, 27, 28, 29, 30, 31, 32, 33, 34, 35, 36, 37, 38, 39, 40, 41, 42, 43, 44, 45, 46, 47, 48]]
def r4_15 (b : Nat) : List AOper := [
    ⟨(some 6), .mv (.c (.bool false)), none⟩]
def r4_16 (b : Nat) : List AOper := [
    ⟨(some 156), .bin .add false (.t 101) (.c (.int .i64 1)), none⟩,
    ⟨(some 101), .mv (.t 156), none⟩]
def l4_1 (b : Nat) : ACode := .seq (.reg false (r4_12 b) []) (.seq (.cond (.t 102) (.skip) (.exit 2)) (.seq (.block 3 (.seq (.reg false (r4_13 b) []) (.seq (.reg true (r4_14 b) r4_14p) (.cond (.t 155) (.seq (.reg false (r4_15 b) []) (.ret)) (.skip))))) (.reg false (r4_16 b) [])))
def r4_17 (b : Nat) : List AOper := [
    ⟨(some 157), .mv (.t 13), none⟩,
    ⟨(some 158), .len false (.t 157), none⟩,
    ⟨(some 16), .mv (.t 158), none⟩]
def r4_18 (b : Nat) : List AOper := [
    ⟨(some 159), .mv (.t 16), none⟩,
    ⟨(some 160), .bin .eql false (.t 159) (.c (.int .i64 0)), none⟩,
    ⟨(some 161), .faddr 2 (.t 5), none⟩,
    ⟨(some 162), .faddr 0 (.t 161), none⟩,
    ⟨(some 163), .load false 1 (.t 162), none⟩,
    ⟨(some 164), .faddr 2 (.t 5), none⟩,
    ⟨(some 165), .faddr 1 (.t 164), none⟩,
    ⟨(some 166), .load false 1 (.t 165), none⟩,
    ⟨(some 167), .bin .eql false (.t 163) (.t 166), none⟩,
    ⟨(some 168), .bin .neq true (.t 160) (.t 167), none⟩,
    ⟨(some 169), .mv (.t 168), none⟩,
    ⟨(some 170), .mv (.t 16), (some (169, false))⟩,
    ⟨(some 171), .bin .gtr false (.t 170) (.c (.int .i64 0)), (some (169, false))⟩,
    ⟨(some 172), .mv (.t 171), (some (169, false))⟩,
    ⟨(some 173), .mv (.t 13), (some (172, true))⟩,
    ⟨(some 174), .mv (.t 16), (some (172, true))⟩,
    ⟨(some 175), .bin .sub false (.t 174) (.c (.int .i64 1)), (some (172, true))⟩,
    ⟨(some 176), .iaddrS 3 (.t 173) (.t 175), (some (172, true))⟩,
    ⟨(some 177), .faddr 2 (.t 176), (some (172, true))⟩,
    ⟨(some 178), .load false 1 (.t 177), (some (172, true))⟩,
    ⟨(some 179), .faddr 2 (.t 5), (some (172, true))⟩,
    ⟨(some 180), .faddr 1 (.t 179), (some (172, true))⟩,
    ⟨(some 181), .load false 1 (.t 180), (some (172, true))⟩,
    ⟨(some 182), .bin .lss false (.t 178) (.t 181), (some (172, true))⟩,
    ⟨(some 183), .pick (.t 172) (.t 182) (.c (.bool false)), (some (169, false))⟩,
    ⟨(some 184), .pick (.t 169) (.c (.bool true)) (.t 183), none⟩]
def r4_18p : List (List Nat) := [[], [0], [], [2], [2, 3], [], [5], [5, 6], [2, 3, 4, 5, 6, 7], [0, 1, 2, 3, 4, 5, 6, 7, 8], [0, 1, 2, 3, 4, 5, 6, 7, 8, 9], [0, 1, 2, 3, 4, 5, 6, 7, 8, 9, 10], [0, 1, 2, 3, 4, 5, 6, 7, 8, 9, 10, 11], [0, 1, 2, 3, 4, 5, 6, 7, 8, 9, 10, 11, 12], [0, 1, 2, 3, 4, 5, 6, 7, 8, 9, 10, 11, 12, 13], [0, 1, 2, 3, 4, 5, 6, 7, 8, 9, 10, 11, 12, 13], [0, 1, 2, 3, 4, 5, 6, 7, 8, 9, 10, 11, 12, 13, 15], [0, 1, 2, 3, 4, 5, 6, 7, 8, 9, 10, 11, 12, 13, 14, 15, 16], [0, 1, 2, 3, 4, 5, 6, 7, 8, 9, 10, 11, 12, 13, 14, 15, 16, 17], [0, 1, 2, 3, 4, 5, 6, 7, 8, 9, 10, 11, 12, 13, 14, 15, 16, 17, 18], [0, 1, 2, 3, 4, 5, 6, 7, 8, 9, 10, 11, 12, 13], [0, 1, 2, 3, 4, 5, 6, 7, 8, 9, 10, 11, 12, 13, 20], [0, 1, 2, 3, 4, 5, 6, 7, 8, 9, 10, 11, 12, 13, 20, 21], [0, 1, 2, 3, 4, 5, 6, 7, 8, 9, 10, 11, 12, 13, 14, 15, 16, 17, 18, 19, 20, 21, 22], [0, 1, 2, 3, 4, 5, 6, 7, 8, 9, 10, 11, 12, 13, 14, 15, 16, 17, 18, 19, 20, 21, 22, 23], [0, 1, 2, 3, 4, 5, 6, 7, 8, 9, 10, 11, 12, 13, 14, 15, 16, 17, 18, 19, 20, 21, 22, 23, 24]]
def r4_19 (b : Nat) : List AOper := [
    ⟨(some 6), .mv (.c (.bool false)), none⟩]
def r4_20 (b : Nat) : List AOper := [
    ⟨(some 185), .bin .add false (.t 95) (.c (.int .i64 1)), none⟩,
    ⟨(some 95), .mv (.t 185), none⟩]
def l4_0 (b : Nat) : ACode := .seq (.reg false (r4_9 b) []) (.seq (.cond (.t 96) (.skip) (.exit 0)) (.seq (.block 1 (.seq (.reg false (r4_10 b) []) (.seq (.seq (.reg false (r4_11 b) []) (.block 2 (.loop (l4_1 b)))) (.seq (.reg false (r4_17 b) []) (.seq (.reg true (r4_18 b) r4_18p) (.cond (.t 184) (.seq (.reg false (r4_19 b) []) (.ret)) (.skip))))))) (.reg false (r4_20 b) [])))
def r4_21 (b : Nat) : List AOper := [
    ⟨(some 17), .mv (.c (.int .i64 0)), none⟩]
def r4_22 (b : Nat) : List AOper := [
    ⟨(some 186), .mv (.t 8), none⟩,
    ⟨(some 187), .len false (.t 186), none⟩,
    ⟨(some 188), .mv (.c (.int .i64 0)), none⟩]
def r4_23 (b : Nat) : List AOper := [
    ⟨(some 189), .bin .lss false (.t 188) (.t 187), none⟩]
def r4_24 (b : Nat) : List AOper := [
    ⟨(some 190), .iaddrS 3 (.t 186) (.t 188), none⟩,
    ⟨(some 191), .load true 3 (.t 190), none⟩,
    ⟨(some 19), .alloc (b + 4) [.int .i64 0, .int .i64 0, .int .i64 0], none⟩,
    ⟨none, .store 3 (.t 19) (.t 191), none⟩]
def r4_25 (b : Nat) : List AOper := [
    ⟨(some 192), .mv (.t 17), none⟩,
    ⟨(some 193), .mv (.t 10), none⟩,
    ⟨(some 194), .len false (.t 193), none⟩,
    ⟨(some 195), .bin .lss false (.t 192) (.t 194), none⟩,
    ⟨(some 196), .mv (.t 195), none⟩,
    ⟨(some 197), .mv (.t 10), (some (196, true))⟩,
    ⟨(some 198), .mv (.t 17), (some (196, true))⟩,
    ⟨(some 199), .iaddrS 3 (.t 197) (.t 198), (some (196, true))⟩,
    ⟨(some 200), .faddr 2 (.t 199), (some (196, true))⟩,
    ⟨(some 201), .load false 1 (.t 200), (some (196, true))⟩,
    ⟨(some 202), .faddr 1 (.t 19), (some (196, true))⟩,
    ⟨(some 203), .load false 1 (.t 202), (some (196, true))⟩,
    ⟨(some 204), .bin .leq false (.t 201) (.t 203), (some (196, true))⟩,
    ⟨(some 205), .pick (.t 196) (.t 204) (.c (.bool false)), none⟩]
def r4_25p : List (List Nat) := [[], [], [1], [0, 1, 2], [0, 1, 2, 3], [0, 1, 2, 3, 4], [0, 1, 2, 3, 4], [0, 1, 2, 3, 4, 5, 6], [0, 1, 2, 3, 4, 5, 6, 7], [0, 1, 2, 3, 4, 5, 6, 7, 8], [0, 1, 2, 3, 4], [0, 1, 2, 3, 4, 10], [0, 1, 2, 3, 4, 5, 6, 7, 8, 9, 10, 11], [0, 1, 2, 3, 4, 5, 6, 7, 8, 9, 10, 11, 12]]
def r4_26 (b : Nat) : List AOper := [
    ⟨(some 206), .mv (.t 17), none⟩,
    ⟨(some 207), .bin .add false (.t 206) (.c (.int .i64 1)), none⟩,
    ⟨(some 17), .mv (.t 207), none⟩]
def l4_3 (b : Nat) : ACode := .seq (.seq (.reg true (r4_25 b) r4_25p) (.cond (.t 205) (.skip) (.exit 6))) (.block 7 (.reg false (r4_26 b) []))
def r4_27 (b : Nat) : List AOper := [
    ⟨(some 208), .mv (.t 17), none⟩,
    ⟨(some 209), .mv (.t 10), none⟩,
    ⟨(some 210), .len false (.t 209), none⟩,
    ⟨(some 211), .bin .eql false (.t 208) (.t 210), none⟩]
def r4_28 (b : Nat) : List AOper := [
    ⟨(some 6), .mv (.c (.bool false)), none⟩]
def r4_29 (b : Nat) : List AOper := [
    ⟨(some 212), .mv (.t 10), none⟩,
    ⟨(some 213), .mv (.t 17), none⟩,
    ⟨(some 214), .iaddrS 3 (.t 212) (.t 213), none⟩,
    ⟨(some 215), .faddr 1 (.t 214), none⟩,
    ⟨(some 216), .load false 1 (.t 215), none⟩,
    ⟨(some 217), .faddr 1 (.t 19), none⟩,
    ⟨(some 218), .load false 1 (.t 217), none⟩,
    ⟨(some 219), .bin .leq false (.t 216) (.t 218), none⟩,
    ⟨(some 220), .mv (.t 219), none⟩,
    ⟨(some 221), .faddr 2 (.t 19), (some (220, true))⟩,
    ⟨(some 222), .load false 1 (.t 221), (some (220, true))⟩,
    ⟨(some 223), .mv (.t 10), (some (220, true))⟩,
    ⟨(some 224), .mv (.t 17), (some (220, true))⟩,
    ⟨(some 225), .iaddrS 3 (.t 223) (.t 224), (some (220, true))⟩,
    ⟨(some 226), .faddr 2 (.t 225), (some (220, true))⟩,
    ⟨(some 227), .load false 1 (.t 226), (some (220, true))⟩,
    ⟨(some 228), .bin .leq false (.t 222) (.t 227), (some (220, true))⟩,
    ⟨(some 229), .pick (.t 220) (.t 228) (.c (.bool false)), none⟩,
    ⟨(some 230), .mv (.t 229), none⟩,
    ⟨(some 231), .mv (.t 10), (some (230, true))⟩,
    ⟨(some 232), .mv (.t 17), (some (230, true))⟩,
    ⟨(some 233), .iaddrS 3 (.t 231) (.t 232), (some (230, true))⟩,
    ⟨(some 234), .faddr 0 (.t 233), (some (230, true))⟩,
    ⟨(some 235), .load false 1 (.t 234), (some (230, true))⟩,
    ⟨(some 236), .faddr 0 (.t 19), (some (230, true))⟩,
    ⟨(some 237), .load false 1 (.t 236), (some (230, true))⟩,
    ⟨(some 238), .bin .geq false (.t 235) (.t 237), (some (230, true))⟩,
    ⟨(some 239), .pick (.t 230) (.t 238) (.c (.bool false)), none⟩,
    ⟨(some 20), .mv (.t 239), none⟩]
def r4_29p : List (List Nat) := [[], [], [0, 1], [0, 1, 2], [0, 1, 2, 3], [], [5], [0, 1, 2, 3, 4, 5, 6], [0, 1, 2, 3, 4, 5, 6, 7], [0, 1, 2, 3, 4, 5, 6, 7, 8], [0, 1, 2, 3, 4, 5, 6, 7, 8, 9], [0, 1, 2, 3, 4, 5, 6, 7, 8], [0, 1, 2, 3, 4, 5, 6, 7, 8], [0, 1, 2, 3, 4, 5, 6, 7, 8, 11, 12], [0, 1, 2, 3, 4, 5, 6, 7, 8, 11, 12, 13], [0, 1, 2, 3, 4, 5, 6, 7, 8, 11, 12, 13, 14], [0, 1, 2, 3, 4, 5, 6, 7, 8, 9, 10, 11, 12, 13, 14, 15], [0, 1, 2, 3, 4, 5, 6, 7, 8, 9, 10, 11, 12, 13, 14, 15, 16], [0, 1, 2, 3, 4, 5, 6, 7, 8, 9, 10, 11, 12, 13, 14, 15, 16, 17], [0, 1, 2, 3, 4, 5, 6, 7, 8, 9, 10, 11, 12, 13, 14, 15, 16, 17, 18], [0, 1, 2, 3, 4, 5, 6, 7, 8, 9, 10, 11, 12, 13, 14, 15, 16, 17, 18], [0, 1, 2, 3, 4, 5, 6, 7, 8, 9, 10, 11, 12, 13, 14, 15, 16, 17, 18, 19, 20], [0, 1, 2, 3, 4, 5, 6, 7, 8, 9, 10, 11, 12, 13, 14, 15, 16, 17, 18, 19, 20, 21], [0, 1, 2, 3, 4, 5, 6, 7, 8, 9, 10, 11, 12, 13, 14, 15, 16, 17, 18, 19, 20, 21, 22], [0, 1, 2, 3, 4, 5, 6, 7, 8, 9, 10, 11, 12, 13, 14, 15, 16, 17, 18], [0, 1, 2, 3, 4, 5, 6, 7, 8, 9, 10, 11, 12, 13, 14, 15, 16, 17, 18, 24], [0, 1, 2, 3, 4, 5, 6, 7, 8, 9, 10, 11, 12, 13, 14, 15, 16, 17, 18, 19, 20, 21, 22, 23, 24, 25], [0, 1, 2, 3, 4, 5, 6, 7, 8, 9, 10, 11, 12, 13, 14, 15, 16, 17, 18, 19, 20, 21, 22, 23, 24, 25, 26], [0, 1, 2, 3, 4, 5, 6, 7, 8, 9, 10, 11, 12, 13, 14, 15, 16, 17, 18, 19, 20, 21, 22, 23, 24, 25, 26, 27]]
def r4_30 (b : Nat) : List AOper := [
    ⟨(some 240), .faddr 0 (.t 19), none⟩,
    ⟨(some 241), .load false 1 (.t 240), none⟩,
    ⟨(some 242), .bin .neq false (.t 241) (.c (.int .i64 0)), none⟩,
    ⟨(some 243), .mv (.t 242), none⟩,
    ⟨(some 244), .mv (.t 20), (some (243, true))⟩,
    ⟨(some 245), .not (.t 244), (some (243, true))⟩,
    ⟨(some 246), .pick (.t 243) (.t 245) (.c (.bool false)), none⟩]
def r4_31 (b : Nat) : List AOper := [
    ⟨(some 6), .mv (.c (.bool false)), none⟩]
def r4_32 (b : Nat) : List AOper := [
    ⟨(some 247), .bin .add false (.t 188) (.c (.int .i64 1)), none⟩,
    ⟨(some 188), .mv (.t 247), none⟩]
def l4_2 (b : Nat) : ACode := .seq (.reg false (r4_23 b) []) (.seq (.cond (.t 189) (.skip) (.exit 4)) (.seq (.block 5 (.seq (.reg false (r4_24 b) []) (.seq (.block 6 (.loop (l4_3 b))) (.seq (.seq (.reg false (r4_27 b) []) (.cond (.t 211) (.seq (.reg false (r4_28 b) []) (.ret)) (.skip))) (.seq (.reg true (r4_29 b) r4_29p) (.seq (.reg false (r4_30 b) []) (.cond (.t 246) (.seq (.reg false (r4_31 b) []) (.ret)) (.skip)))))))) (.reg false (r4_32 b) [])))
def r4_33 (b : Nat) : List AOper := [
    ⟨(some 248), .mv (.t 10), none⟩,
    ⟨(some 249), .len false (.t 248), none⟩,
    ⟨(some 250), .mv (.c (.int .i64 0)), none⟩]
def r4_34 (b : Nat) : List AOper := [
    ⟨(some 251), .bin .lss false (.t 250) (.t 249), none⟩]
def r4_35 (b : Nat) : List AOper := [
    ⟨(some 252), .iaddrS 3 (.t 248) (.t 250), none⟩,
    ⟨(some 253), .load true 3 (.t 252), none⟩,
    ⟨(some 22), .alloc (b + 5) [.int .i64 0, .int .i64 0, .int .i64 0], none⟩,
    ⟨none, .store 3 (.t 22) (.t 253), none⟩]
def r4_36 (b : Nat) : List AOper := [
    ⟨(some 254), .faddr 1 (.t 22), none⟩,
    ⟨(some 255), .load false 1 (.t 254), none⟩,
    ⟨(some 256), .faddr 2 (.t 5), none⟩,
    ⟨(some 257), .faddr 0 (.t 256), none⟩,
    ⟨(some 258), .load false 1 (.t 257), none⟩,
    ⟨(some 259), .max (.t 255) (.t 258), none⟩,
    ⟨(some 23), .mv (.t 259), none⟩]
def r4_37 (b : Nat) : List AOper := [
    ⟨(some 260), .mv (.t 23), none⟩,
    ⟨(some 261), .faddr 2 (.t 22), none⟩,
    ⟨(some 262), .load false 1 (.t 261), none⟩,
    ⟨(some 263), .faddr 2 (.t 5), none⟩,
    ⟨(some 264), .faddr 1 (.t 263), none⟩,
    ⟨(some 265), .load false 1 (.t 264), none⟩,
    ⟨(some 266), .min (.t 262) (.t 265), none⟩,
    ⟨(some 267), .bin .lss false (.t 260) (.t 266), none⟩]
def r4_39 (b : Nat) : List AOper := [
    ⟨(some 271), .load true 4 (.t 3), none⟩,
    ⟨(some 272), .mv (.t 1), none⟩,
    ⟨(some 273), .faddr 0 (.t 5), none⟩,
    ⟨(some 274), .load false 1 (.t 273), none⟩,
    ⟨(some 275), .mv (.t 23), none⟩,
    ⟨(some 276), .faddr 5 (.t 5), none⟩,
    ⟨(some 277), .load false 1 (.t 276), none⟩,
    ⟨(some 278), .callf 7 [.t 271, .t 272, .t 274, .t 275, .t 277], none⟩,
    ⟨(some 270), .mv (.t 278), none⟩,
    ⟨(some 279), .extract 0 (.t 270), none⟩,
    ⟨(some 280), .extract 1 (.t 270), none⟩,
    ⟨(some 24), .mv (.t 279), none⟩,
    ⟨(some 25), .mv (.t 280), none⟩]
def r4_40 (b : Nat) : List AOper := [
    ⟨(some 281), .mv (.t 25), none⟩,
    ⟨(some 282), .bin .neq false (.t 281) (.c (.int .i64 0)), none⟩,
    ⟨(some 283), .mv (.t 282), none⟩,
    ⟨(some 284), .mv (.t 24), (some (283, false))⟩,
    ⟨(some 285), .faddr 0 (.t 22), (some (283, false))⟩,
    ⟨(some 286), .load false 1 (.t 285), (some (283, false))⟩,
    ⟨(some 287), .bin .neq false (.t 284) (.t 286), (some (283, false))⟩,
    ⟨(some 288), .pick (.t 283) (.c (.bool true)) (.t 287), none⟩]
def r4_41 (b : Nat) : List AOper := [
    ⟨(some 6), .mv (.c (.bool false)), none⟩]
def r4_42 (b : Nat) : List AOper := [
    ⟨(some 289), .mv (.t 1), none⟩,
    ⟨(some 290), .len false (.t 289), none⟩,
    ⟨(some 291), .mv (.c (.int .i64 0)), none⟩]
def r4_43 (b : Nat) : List AOper := [
    ⟨(some 292), .bin .lss false (.t 291) (.t 290), none⟩]
def r4_44 (b : Nat) : List AOper := [
    ⟨(some 293), .iaddrS 3 (.t 289) (.t 291), none⟩,
    ⟨(some 294), .load true 3 (.t 293), none⟩,
    ⟨(some 27), .alloc (b + 6) [.int .i64 0, .int .i64 0, .int .i64 0], none⟩,
    ⟨none, .store 3 (.t 27) (.t 294), none⟩]
def r4_45 (b : Nat) : List AOper := [
    ⟨(some 295), .faddr 0 (.t 27), none⟩,
    ⟨(some 296), .load false 1 (.t 295), none⟩,
    ⟨(some 297), .faddr 0 (.t 5), none⟩,
    ⟨(some 298), .load false 1 (.t 297), none⟩,
    ⟨(some 299), .bin .eql false (.t 296) (.t 298), none⟩,
    ⟨(some 300), .mv (.t 299), none⟩,
    ⟨(some 301), .faddr 1 (.t 27), (some (300, true))⟩,
    ⟨(some 302), .load false 1 (.t 301), (some (300, true))⟩,
    ⟨(some 303), .mv (.t 23), (some (300, true))⟩,
    ⟨(some 304), .bin .leq false (.t 302) (.t 303), (some (300, true))⟩,
    ⟨(some 305), .pick (.t 300) (.t 304) (.c (.bool false)), none⟩,
    ⟨(some 306), .mv (.t 305), none⟩,
    ⟨(some 307), .mv (.t 23), (some (306, true))⟩,
    ⟨(some 308), .faddr 2 (.t 27), (some (306, true))⟩,
    ⟨(some 309), .load false 1 (.t 308), (some (306, true))⟩,
    ⟨(some 310), .bin .lss false (.t 307) (.t 309), (some (306, true))⟩,
    ⟨(some 311), .pick (.t 306) (.t 310) (.c (.bool false)), none⟩,
    ⟨(some 312), .mv (.t 311), none⟩,
    ⟨(some 313), .mv (.t 24), (some (312, true))⟩,
    ⟨(some 314), .bin .neq false (.t 313) (.c (.int .i64 0)), (some (312, true))⟩,
    ⟨(some 315), .pick (.t 312) (.t 314) (.c (.bool false)), none⟩]
def r4_46 (b : Nat) : List AOper := [
    ⟨(some 6), .mv (.c (.bool false)), none⟩]
def r4_47 (b : Nat) : List AOper := [
    ⟨(some 316), .bin .add false (.t 291) (.c (.int .i64 1)), none⟩,
    ⟨(some 291), .mv (.t 316), none⟩]
def l4_6 (b : Nat) : ACode := .seq (.reg false (r4_43 b) []) (.seq (.cond (.t 292) (.skip) (.exit 12)) (.seq (.block 13 (.seq (.reg false (r4_44 b) []) (.seq (.reg false (r4_45 b) []) (.cond (.t 315) (.seq (.reg false (r4_46 b) []) (.ret)) (.skip))))) (.reg false (r4_47 b) [])))
def r4_38 (b : Nat) : List AOper := [
    ⟨(some 268), .mv (.t 23), none⟩,
    ⟨(some 269), .bin .add false (.t 268) (.c (.int .i64 1)), none⟩,
    ⟨(some 23), .mv (.t 269), none⟩]
def l4_5 (b : Nat) : ACode := .seq (.seq (.reg false (r4_37 b) []) (.cond (.t 267) (.skip) (.exit 10))) (.seq (.block 11 (.seq (.reg false (r4_39 b) []) (.seq (.seq (.reg false (r4_40 b) []) (.cond (.t 288) (.seq (.reg false (r4_41 b) []) (.ret)) (.skip))) (.seq (.reg false (r4_42 b) []) (.block 12 (.loop (l4_6 b))))))) (.reg false (r4_38 b) []))
def r4_48 (b : Nat) : List AOper := [
    ⟨(some 317), .bin .add false (.t 250) (.c (.int .i64 1)), none⟩,
    ⟨(some 250), .mv (.t 317), none⟩]
def l4_4 (b : Nat) : ACode := .seq (.reg false (r4_34 b) []) (.seq (.cond (.t 251) (.skip) (.exit 8)) (.seq (.block 9 (.seq (.reg false (r4_35 b) []) (.seq (.reg false (r4_36 b) []) (.block 10 (.loop (l4_5 b)))))) (.reg false (r4_48 b) [])))
def r4_49 (b : Nat) : List AOper := [
    ⟨(some 318), .callf 6 [], none⟩,
    ⟨(some 6), .mv (.t 318), none⟩]
def c4 (b : Nat) : ACode := .seq (.reg false (r4_0 b) []) (.seq (.reg false (r4_1 b) []) (.seq (.seq (.reg false (r4_2 b) []) (.cond (.t 44) (.seq (.reg false (r4_3 b) []) (.ret)) (.skip))) (.seq (.reg false (r4_4 b) []) (.seq (.reg false (r4_5 b) []) (.seq (.seq (.reg false (r4_6 b) []) (.cond (.t 76) (.seq (.reg false (r4_7 b) []) (.ret)) (.skip))) (.seq (.seq (.reg false (r4_8 b) []) (.block 0 (.loop (l4_0 b)))) (.seq (.reg false (r4_21 b) []) (.seq (.seq (.reg false (r4_22 b) []) (.block 4 (.loop (l4_2 b)))) (.seq (.seq (.reg false (r4_33 b) []) (.block 8 (.loop (l4_4 b)))) (.seq (.reg false (r4_49 b) []) (.ret)))))))))))
def rs4 : List ARes := [.t 6]
theorem ck4 : ∃ c, Tryd.f4.body = some c ∧ ∀ b, checkCode Tryd.prog c (c4 b) = true := ⟨_, rfl, fun b => by kernel_rfl⟩
theorem cr4 : checkRess Tryd.prog Tryd.f4.results.toList rs4 = true := by kernel_rfl
def r5_0 (b : Nat) : List AOper := [
    ⟨(some 2), .box (b + 0) (.t 0), none⟩,
    ⟨(some 4), .mv (.c (.bool false)), none⟩]
def r5_1 (b : Nat) : List AOper := [
    ⟨(some 5), .faddr 0 (.t 2), none⟩,
    ⟨(some 6), .load false 1 (.t 5), none⟩,
    ⟨(some 7), .bin .lss false (.t 6) (.c (.int .i64 0)), none⟩,
    ⟨(some 8), .mv (.t 7), none⟩,
    ⟨(some 9), .faddr 1 (.t 2), (some (8, false))⟩,
    ⟨(some 10), .load false 1 (.t 9), (some (8, false))⟩,
    ⟨(some 11), .bin .gtr false (.t 10) (.c (.int .i64 1402560)), (some (8, false))⟩,
    ⟨(some 12), .pick (.t 8) (.c (.bool true)) (.t 11), none⟩,
    ⟨(some 13), .mv (.t 12), none⟩,
    ⟨(some 14), .faddr 0 (.t 2), (some (13, false))⟩,
    ⟨(some 15), .load false 1 (.t 14), (some (13, false))⟩,
    ⟨(some 16), .faddr 1 (.t 2), (some (13, false))⟩,
    ⟨(some 17), .load false 1 (.t 16), (some (13, false))⟩,
    ⟨(some 18), .bin .gtr false (.t 15) (.t 17), (some (13, false))⟩,
    ⟨(some 19), .pick (.t 13) (.c (.bool true)) (.t 18), none⟩,
    ⟨(some 20), .mv (.t 19), none⟩,
    ⟨(some 21), .faddr 1 (.t 2), (some (20, false))⟩,
    ⟨(some 22), .load false 1 (.t 21), (some (20, false))⟩,
    ⟨(some 23), .faddr 0 (.t 2), (some (20, false))⟩,
    ⟨(some 24), .load false 1 (.t 23), (some (20, false))⟩,
    ⟨(some 25), .bin .sub false (.t 22) (.t 24), (some (20, false))⟩,
    ⟨(some 26), .mv (.t 1), (some (20, false))⟩,
    ⟨(some 27), .bin .leq false (.t 25) (.t 26), (some (20, false))⟩,
    ⟨(some 28), .pick (.t 20) (.c (.bool true)) (.t 27), none⟩,
    ⟨(some 4), .mv (.t 28), none⟩]
def c5 (b : Nat) : ACode := .seq (.reg false (r5_0 b) []) (.seq (.reg false (r5_1 b) []) (.ret))
def rs5 : List ARes := [.t 4]
theorem ck5 : ∃ c, Tryd.f5.body = some c ∧ ∀ b, checkCode Tryd.prog c (c5 b) = true := ⟨_, rfl, fun b => by kernel_rfl⟩
theorem cr5 : checkRess Tryd.prog Tryd.f5.results.toList rs5 = true := by kernel_rfl
def r6_0 (b : Nat) : List AOper := [
    ⟨(some 0), .mv (.c (.bool false)), none⟩]
def r6_1 (b : Nat) : List AOper := [
    ⟨(some 21), .build [.int .i64 0, .int .i64 0, .int .i64 0, .int .i64 0] [(0, 1, .c (.int .i64 1)), (1, 1, .c (.int .i64 2)), (2, 1, .c (.int .i64 40)), (3, 1, .c (.int .i64 400))], none⟩,
    ⟨(some 1), .alloc (b + 0) [.int .i64 0, .int .i64 0, .int .i64 0, .int .i64 0], none⟩,
    ⟨none, .store 4 (.t 1) (.t 21), none⟩]
def r6_2 (b : Nat) : List AOper := [
    ⟨(some 22), .build [.int .i64 0, .int .i64 0, .int .i64 0] [(0, 1, .c (.int .i64 3)), (1, 1, .c (.int .i64 100)), (2, 1, .c (.int .i64 101))], none⟩,
    ⟨(some 23), .bslice (b + 1) 3 1 [.int .i64 0, .int .i64 0, .int .i64 0] [(0, 3, .t 22)], none⟩,
    ⟨(some 2), .mv (.t 23), none⟩]
def r6_3 (b : Nat) : List AOper := [
    ⟨(some 24), .build [.int .i64 0, .int .i64 0, .int .i64 0, .int .i64 0] [(0, 1, .c (.int .i64 3)), (1, 1, .c (.int .i64 50)), (2, 1, .c (.int .i64 1)), (3, 1, .c (.int .i64 0))], none⟩,
    ⟨(some 25), .build [.int .i64 0, .int .i64 0, .int .i64 0, .int .i64 0] [(0, 1, .c (.int .i64 3)), (1, 1, .c (.int .i64 50)), (2, 1, .c (.int .i64 2)), (3, 1, .c (.int .i64 1))], none⟩,
    ⟨(some 26), .build [.int .i64 0, .int .i64 0, .int .i64 0, .int .i64 0] [(0, 1, .c (.int .i64 3)), (1, 1, .c (.int .i64 50)), (2, 1, .c (.int .i64 3)), (3, 1, .c (.int .i64 2))], none⟩,
    ⟨(some 27), .build [.int .i64 0, .int .i64 0, .int .i64 0, .int .i64 0] [(0, 1, .c (.int .i64 3)), (1, 1, .c (.int .i64 50)), (2, 1, .c (.int .i64 40)), (3, 1, .c (.int .i64 2))], none⟩,
    ⟨(some 28), .build [.int .i64 0, .int .i64 0, .int .i64 0, .int .i64 0] [(0, 1, .c (.int .i64 3)), (1, 1, .c (.int .i64 50)), (2, 1, .c (.int .i64 73)), (3, 1, .c (.int .i64 2))], none⟩,
    ⟨(some 29), .build [.int .i64 0, .int .i64 0, .int .i64 0, .int .i64 0] [(0, 1, .c (.int .i64 3)), (1, 1, .c (.int .i64 50)), (2, 1, .c (.int .i64 800)), (3, 1, .c (.int .i64 2))], none⟩,
    ⟨(some 30), .build [.int .i64 0, .int .i64 0, .int .i64 0, .int .i64 0] [(0, 1, .c (.int .i64 4)), (1, 1, .c (.int .i64 50)), (2, 1, .c (.int .i64 70)), (3, 1, .c (.int .i64 2))], none⟩,
    ⟨(some 31), .build [.int .i64 0, .int .i64 0, .int .i64 0, .int .i64 0] [(0, 1, .c (.int .i64 4)), (1, 1, .c (.int .i64 50)), (2, 1, .c (.int .i64 71)), (3, 1, .c (.int .i64 3))], none⟩,
    ⟨(some 32), .build [.int .i64 0, .int .i64 0, .int .i64 0, .int .i64 0] [(0, 1, .c (.int .i64 4)), (1, 1, .c (.int .i64 50)), (2, 1, .c (.int .i64 765)), (3, 1, .c (.int .i64 3))], none⟩,
    ⟨(some 33), .build [.int .i64 0, .int .i64 0, .int .i64 0, .int .i64 0] [(0, 1, .c (.int .i64 4)), (1, 1, .c (.int .i64 50)), (2, 1, .c (.int .i64 766)), (3, 1, .c (.int .i64 4))], none⟩,
    ⟨(some 34), .build [.int .i64 0, .int .i64 0, .int .i64 0, .int .i64 0] [(0, 1, .c (.int .i64 3)), (1, 1, .c (.int .i64 100)), (2, 1, .c (.int .i64 4)), (3, 1, .c (.int .i64 0))], none⟩,
    ⟨(some 35), .build [.int .i64 0, .int .i64 0, .int .i64 0, .int .i64 0] [(0, 1, .c (.int .i64 3)), (1, 1, .c (.int .i64 104)), (2, 1, .c (.int .i64 4)), (3, 1, .c (.int .i64 1))], none⟩,
    ⟨(some 36), .bslice (b + 2) 4 12 [.int .i64 0, .int .i64 0, .int .i64 0, .int .i64 0, .int .i64 0, .int .i64 0, .int .i64 0, .int .i64 0, .int .i64 0, .int .i64 0, .int .i64 0, .int .i64 0, .int .i64 0, .int .i64 0, .int .i64 0, .int .i64 0, .int .i64 0, .int .i64 0, .int .i64 0, .int .i64 0, .int .i64 0, .int .i64 0, .int .i64 0, .int .i64 0, .int .i64 0, .int .i64 0, .int .i64 0, .int .i64 0, .int .i64 0, .int .i64 0, .int .i64 0, .int .i64 0, .int .i64 0, .int .i64 0, .int .i64 0, .int .i64 0, .int .i64 0, .int .i64 0, .int .i64 0, .int .i64 0, .int .i64 0, .int .i64 0, .int .i64 0, .int .i64 0, .int .i64 0, .int .i64 0, .int .i64 0, .int .i64 0] [(0, 4, .t 24), (4, 4, .t 25), (8, 4, .t 26), (12, 4, .t 27), (16, 4, .t 28), (20, 4, .t 29), (24, 4, .t 30), (28, 4, .t 31), (32, 4, .t 32), (36, 4, .t 33), (40, 4, .t 34), (44, 4, .t 35)], none⟩,
    ⟨(some 3), .mv (.t 36), none⟩]
def r6_4 (b : Nat) : List AOper := [
    ⟨(some 37), .mv (.t 3), none⟩,
    ⟨(some 38), .len false (.t 37), none⟩,
    ⟨(some 39), .mv (.c (.int .i64 0)), none⟩]
def r6_5 (b : Nat) : List AOper := [
    ⟨(some 40), .bin .lss false (.t 39) (.t 38), none⟩]
def r6_6 (b : Nat) : List AOper := [
    ⟨(some 41), .iaddrS 4 (.t 37) (.t 39), none⟩,
    ⟨(some 42), .load true 4 (.t 41), none⟩,
    ⟨(some 5), .alloc (b + 3) [.int .i64 0, .int .i64 0, .int .i64 0, .int .i64 0], none⟩,
    ⟨none, .store 4 (.t 5) (.t 42), none⟩]
def r6_7 (b : Nat) : List AOper := [
    ⟨(some 44), .load true 4 (.t 1), none⟩,
    ⟨(some 45), .mv (.t 2), none⟩,
    ⟨(some 46), .iaddrA 4 1 (.t 5) (.c (.int .i64 0)), none⟩,
    ⟨(some 47), .load false 1 (.t 46), none⟩,
    ⟨(some 48), .iaddrA 4 1 (.t 5) (.c (.int .i64 1)), none⟩,
    ⟨(some 49), .load false 1 (.t 48), none⟩,
    ⟨(some 50), .iaddrA 4 1 (.t 5) (.c (.int .i64 2)), none⟩,
    ⟨(some 51), .load false 1 (.t 50), none⟩,
    ⟨(some 52), .callf 7 [.t 44, .t 45, .t 47, .t 49, .t 51], none⟩,
    ⟨(some 43), .mv (.t 52), none⟩,
    ⟨(some 53), .extract 0 (.t 43), none⟩,
    ⟨(some 54), .extract 1 (.t 43), none⟩,
    ⟨(some 6), .mv (.t 53), none⟩,
    ⟨(some 7), .mv (.t 54), none⟩]
def r6_8 (b : Nat) : List AOper := [
    ⟨(some 55), .mv (.t 6), none⟩,
    ⟨(some 56), .iaddrA 4 1 (.t 5) (.c (.int .i64 3)), none⟩,
    ⟨(some 57), .load false 1 (.t 56), none⟩,
    ⟨(some 58), .bin .neq false (.t 55) (.t 57), none⟩,
    ⟨(some 59), .mv (.t 58), none⟩,
    ⟨(some 60), .mv (.t 7), (some (59, false))⟩,
    ⟨(some 61), .bin .neq false (.t 60) (.c (.int .i64 0)), (some (59, false))⟩,
    ⟨(some 62), .pick (.t 59) (.c (.bool true)) (.t 61), none⟩]
def r6_9 (b : Nat) : List AOper := [
    ⟨(some 0), .mv (.c (.bool false)), none⟩]
def r6_10 (b : Nat) : List AOper := [
    ⟨(some 63), .bin .add false (.t 39) (.c (.int .i64 1)), none⟩,
    ⟨(some 39), .mv (.t 63), none⟩]
def l6_0 (b : Nat) : ACode := .seq (.reg false (r6_5 b) []) (.seq (.cond (.t 40) (.skip) (.exit 0)) (.seq (.block 1 (.seq (.reg false (r6_6 b) []) (.seq (.reg false (r6_7 b) []) (.seq (.reg false (r6_8 b) []) (.cond (.t 62) (.seq (.reg false (r6_9 b) []) (.ret)) (.skip)))))) (.reg false (r6_10 b) [])))
def r6_11 (b : Nat) : List AOper := [
    ⟨(some 65), .load true 4 (.t 1), none⟩,
    ⟨(some 66), .mv (.t 2), none⟩,
    ⟨(some 67), .build [.int .i64 0, .int .i64 0] [(0, 1, .c (.int .i64 90)), (1, 1, .c (.int .i64 200))], none⟩,
    ⟨(some 68), .callf 8 [.t 65, .t 66, .c (.int .i64 4), .t 67, .c (.int .i64 3)], none⟩,
    ⟨(some 64), .mv (.t 68), none⟩,
    ⟨(some 69), .extract 0 (.t 64), none⟩,
    ⟨(some 70), .extract 1 (.t 64), none⟩,
    ⟨(some 8), .mv (.t 69), none⟩,
    ⟨(some 9), .mv (.t 70), none⟩]
def r6_12 (b : Nat) : List AOper := [
    ⟨(some 72), .load true 4 (.t 1), none⟩,
    ⟨(some 73), .mv (.t 2), none⟩,
    ⟨(some 74), .build [.int .i64 0, .int .i64 0] [(1, 1, .c (.int .i64 300))], none⟩,
    ⟨(some 75), .callf 9 [.t 72, .t 73, .c (.int .i64 4), .t 74, .c (.int .i64 2), .c (.int .i64 3)], none⟩,
    ⟨(some 71), .mv (.t 75), none⟩,
    ⟨(some 76), .extract 0 (.t 71), none⟩,
    ⟨(some 77), .extract 1 (.t 71), none⟩,
    ⟨(some 10), .mv (.t 76), none⟩,
    ⟨(some 11), .mv (.t 77), none⟩]
def r6_13 (b : Nat) : List AOper := [
    ⟨(some 78), .mv (.t 9), none⟩,
    ⟨(some 79), .bin .neq false (.t 78) (.c (.int .i64 0)), none⟩,
    ⟨(some 80), .mv (.t 79), none⟩,
    ⟨(some 81), .mv (.t 11), (some (80, false))⟩,
    ⟨(some 82), .bin .neq false (.t 81) (.c (.int .i64 0)), (some (80, false))⟩,
    ⟨(some 83), .pick (.t 80) (.c (.bool true)) (.t 82), none⟩,
    ⟨(some 84), .mv (.t 83), none⟩,
    ⟨(some 85), .mv (.t 8), (some (84, false))⟩,
    ⟨(some 86), .len false (.t 85), (some (84, false))⟩,
    ⟨(some 87), .bin .neq false (.t 86) (.c (.int .i64 26)), (some (84, false))⟩,
    ⟨(some 88), .pick (.t 84) (.c (.bool true)) (.t 87), none⟩,
    ⟨(some 89), .mv (.t 88), none⟩,
    ⟨(some 90), .mv (.t 10), (some (89, false))⟩,
    ⟨(some 91), .len false (.t 90), (some (89, false))⟩,
    ⟨(some 92), .bin .neq false (.t 91) (.c (.int .i64 25)), (some (89, false))⟩,
    ⟨(some 93), .pick (.t 89) (.c (.bool true)) (.t 92), none⟩]
def r6_14 (b : Nat) : List AOper := [
    ⟨(some 0), .mv (.c (.bool false)), none⟩]
def r6_15 (b : Nat) : List AOper := [
    ⟨(some 94), .mv (.t 8), none⟩,
    ⟨(some 95), .iaddrS 3 (.t 94) (.c (.int .i64 0)), none⟩,
    ⟨(some 96), .load true 3 (.t 95), none⟩,
    ⟨(some 97), .build [.int .i64 0, .int .i64 0, .int .i64 0] [(0, 1, .c (.int .i64 2)), (2, 1, .c (.int .i64 96))], none⟩,
    ⟨(some 98), .eqagg [1, 1, 1] false (.t 96) (.t 97), none⟩,
    ⟨(some 99), .mv (.t 98), none⟩,
    ⟨(some 100), .mv (.t 8), (some (99, true))⟩,
    ⟨(some 101), .iaddrS 3 (.t 100) (.c (.int .i64 1)), (some (99, true))⟩,
    ⟨(some 102), .load true 3 (.t 101), (some (99, true))⟩,
    ⟨(some 103), .build [.int .i64 0, .int .i64 0, .int .i64 0] [(0, 1, .c (.int .i64 1)), (1, 1, .c (.int .i64 96)), (2, 1, .c (.int .i64 100))], (some (99, true))⟩,
    ⟨(some 104), .eqagg [1, 1, 1] false (.t 102) (.t 103), (some (99, true))⟩,
    ⟨(some 105), .pick (.t 99) (.t 104) (.c (.bool false)), none⟩,
    ⟨(some 106), .mv (.t 105), none⟩,
    ⟨(some 107), .mv (.t 8), (some (106, true))⟩,
    ⟨(some 108), .iaddrS 3 (.t 107) (.c (.int .i64 24)), (some (106, true))⟩,
    ⟨(some 109), .load true 3 (.t 108), (some (106, true))⟩,
    ⟨(some 110), .build [.int .i64 0, .int .i64 0, .int .i64 0] [(0, 1, .c (.int .i64 1)), (1, 1, .c (.int .i64 188)), (2, 1, .c (.int .i64 192))], (some (106, true))⟩,
    ⟨(some 111), .eqagg [1, 1, 1] false (.t 109) (.t 110), (some (106, true))⟩,
    ⟨(some 112), .pick (.t 106) (.t 111) (.c (.bool false)), none⟩,
    ⟨(some 113), .mv (.t 112), none⟩,
    ⟨(some 114), .mv (.t 8), (some (113, true))⟩,
    ⟨(some 115), .iaddrS 3 (.t 114) (.c (.int .i64 25)), (some (113, true))⟩,
    ⟨(some 116), .load true 3 (.t 115), (some (113, true))⟩,
    ⟨(some 117), .build [.int .i64 0, .int .i64 0, .int .i64 0] [(1, 1, .c (.int .i64 192)), (2, 1, .c (.int .i64 200))], (some (113, true))⟩,
    ⟨(some 118), .eqagg [1, 1, 1] false (.t 116) (.t 117), (some (113, true))⟩,
    ⟨(some 119), .pick (.t 113) (.t 118) (.c (.bool false)), none⟩,
    ⟨(some 120), .mv (.t 119), none⟩,
    ⟨(some 121), .mv (.t 10), (some (120, true))⟩,
    ⟨(some 122), .iaddrS 3 (.t 121) (.c (.int .i64 0)), (some (120, true))⟩,
    ⟨(some 123), .load true 3 (.t 122), (some (120, true))⟩,
    ⟨(some 124), .mv (.t 8), (some (120, true))⟩,
    ⟨(some 125), .iaddrS 3 (.t 124) (.c (.int .i64 0)), (some (120, true))⟩,
    ⟨(some 126), .load true 3 (.t 125), (some (120, true))⟩,
    ⟨(some 127), .eqagg [1, 1, 1] false (.t 123) (.t 126), (some (120, true))⟩,
    ⟨(some 128), .pick (.t 120) (.t 127) (.c (.bool false)), none⟩,
    ⟨(some 129), .mv (.t 128), none⟩,
    ⟨(some 130), .mv (.t 10), (some (129, true))⟩,
    ⟨(some 131), .iaddrS 3 (.t 130) (.c (.int .i64 24)), (some (129, true))⟩,
    ⟨(some 132), .load true 3 (.t 131), (some (129, true))⟩,
    ⟨(some 133), .mv (.t 8), (some (129, true))⟩,
    ⟨(some 134), .iaddrS 3 (.t 133) (.c (.int .i64 24)), (some (129, true))⟩,
    ⟨(some 135), .load true 3 (.t 134), (some (129, true))⟩,
    ⟨(some 136), .eqagg [1, 1, 1] false (.t 132) (.t 135), (some (129, true))⟩,
    ⟨(some 137), .pick (.t 129) (.t 136) (.c (.bool false)), none⟩,
    ⟨(some 12), .mv (.t 137), none⟩]
def r6_15p : List (List Nat) := [[], [0], [0, 1], [], [0, 1, 2, 3], [0, 1, 2, 3, 4], [0, 1, 2, 3, 4, 5], [0, 1, 2, 3, 4, 5, 6], [0, 1, 2, 3, 4, 5, 6, 7], [0, 1, 2, 3, 4, 5], [0, 1, 2, 3, 4, 5, 6, 7, 8, 9], [0, 1, 2, 3, 4, 5, 6, 7, 8, 9, 10], [0, 1, 2, 3, 4, 5, 6, 7, 8, 9, 10, 11], [0, 1, 2, 3, 4, 5, 6, 7, 8, 9, 10, 11, 12], [0, 1, 2, 3, 4, 5, 6, 7, 8, 9, 10, 11, 12, 13], [0, 1, 2, 3, 4, 5, 6, 7, 8, 9, 10, 11, 12, 13, 14], [0, 1, 2, 3, 4, 5, 6, 7, 8, 9, 10, 11, 12], [0, 1, 2, 3, 4, 5, 6, 7, 8, 9, 10, 11, 12, 13, 14, 15, 16], [0, 1, 2, 3, 4, 5, 6, 7, 8, 9, 10, 11, 12, 13, 14, 15, 16, 17], [0, 1, 2, 3, 4, 5, 6, 7, 8, 9, 10, 11, 12, 13, 14, 15, 16, 17, 18], [0, 1, 2, 3, 4, 5, 6, 7, 8, 9, 10, 11, 12, 13, 14, 15, 16, 17, 18, 19], [0, 1, 2, 3, 4, 5, 6, 7, 8, 9, 10, 11, 12, 13, 14, 15, 16, 17, 18, 19, 20], [0, 1, 2, 3, 4, 5, 6, 7, 8, 9, 10, 11, 12, 13, 14, 15, 16, 17, 18, 19, 20, 21], [0, 1, 2, 3, 4, 5, 6, 7, 8, 9, 10, 11, 12, 13, 14, 15, 16, 17, 18, 19], [0, 1, 2, 3, 4, 5, 6, 7, 8, 9, 10, 11, 12, 13, 14, 15, 16, 17, 18, 19, 20, 21, 22, 23], [0, 1, 2, 3, 4, 5, 6, 7, 8, 9, 10, 11, 12, 13, 14, 15, 16, 17, 18, 19, 20, 21, 22, 23, 24], [0, 1, 2, 3, 4, 5, 6, 7, 8, 9, 10, 11, 12, 13, 14, 15, 16, 17, 18, 19, 20, 21, 22, 23, 24, 25], [0, 1, 2, 3, 4, 5, 6, 7, 8, 9, 10, 11, 12, 13, 14, 15, 16, 17, 18, 19, 20, 21, 22, 23, 24, 25, 26], [0, 1, 2, 3, 4, 5, 6, 7, 8, 9, 10, 11, 12, 13, 14, 15, 16, 17, 18, 19, 20, 21, 22, 23, 24, 25, 26, 27], [0, 1, 2, 3, 4, 5, 6, 7, 8, 9, 10, 11, 12, 13, 14, 15, 16, 17, 18, 19, 20, 21, 22, 23, 24, 25, 26, 27, 28], [0, 1, 2, 3, 4, 5, 6, 7, 8, 9, 10, 11, 12, 13, 14, 15, 16, 17, 18, 19, 20, 21, 22, 23, 24, 25, 26], [0, 1, 2, 3, 4, 5, 6, 7, 8, 9, 10, 11, 12, 13, 14, 15, 16, 17, 18, 19, 20, 21, 22, 23, 24, 25, 26, 30], [0, 1, 2, 3, 4, 5, 6, 7, 8, 9, 10, 11, 12, 13, 14, 15, 16, 17, 18, 19, 20, 21, 22, 23, 24, 25, 26, 30, 31], [0, 1, 2, 3, 4, 5, 6, 7, 8, 9, 10, 11, 12, 13, 14, 15, 16, 17, 18, 19, 20, 21, 22, 23, 24, 25, 26, 27, 28, 29, 30, 31, 32], [0, 1, 2, 3, 4, 5, 6, 7, 8, 9, 10, 11, 12, 13, 14, 15, 16, 17, 18, 19, 20, 21, 22, 23, 24, 25, 26, 27, 28, 29, 30, 31, 32, 33], [0, 1, 2, 3, 4, 5, 6, 7, 8, 9, 10, 11, 12, 13, 14, 15, 16, 17, 18, 19, 20, 21, 22, 23, 24, 25, 26, 27, 28, 29, 30, 31, 32, 33, 34], [0, 1, 2, 3, 4, 5, 6, 7, 8, 9, 10, 11, 12, 13, 14, 15, 16, 17, 18, 19, 20, 21, 22, 23, 24, 25, 26, 27, 28, 29, 30, 31, 32, 33, 34, 35], [0, 1, 2, 3, 4, 5, 6, 7, 8, 9, 10, 11, 12, 13, 14, 15, 16, 17, 18, 19, 20, 21, 22, 23, 24, 25, 26, 27, 28, 29, 30, 31, 32, 33, 34, 35, 36], [0, 1, 2, 3, 4, 5, 6, 7, 8, 9, 10, 11, 12, 13, 14, 15, 16, 17, 18, 19, 20, 21, 22, 23, 24, 25, 26, 27, 28, 29, 30, 31, 32, 33, 34, 35, 36, 37], [0, 1, 2, 3, 4, 5, 6, 7, 8, 9, 10, 11, 12, 13, 14, 15, 16, 17, 18, 19, 20, 21, 22, 23, 24, 25, 26, 27, 28, 29, 30, 31, 32, 33, 34, 35], [0, 1, 2, 3, 4, 5, 6, 7, 8, 9, 10, 11, 12, 13, 14, 15, 16, 17, 18, 19, 20, 21, 22, 23, 24, 25, 26, 27, 28, 29, 30, 31, 32, 33, 34, 35, 39], [0, 1, 2, 3, 4, 5, 6, 7, 8, 9, 10, 11, 12, 13, 14, 15, 16, 17, 18, 19, 20, 21, 22, 23, 24, 25, 26, 27, 28, 29, 30, 31, 32, 33, 34, 35, 39, 40], [0, 1, 2, 3, 4, 5, 6, 7, 8, 9, 10, 11, 12, 13, 14, 15, 16, 17, 18, 19, 20, 21, 22, 23, 24, 25, 26, 27, 28, 29, 30, 31, 32, 33, 34, 35, 36, 37, 38, 39, 40, 41], [0, 1, 2, 3, 4, 5, 6, 7, 8, 9, 10, 11, 12, 13, 14, 15, 16, 17, 18, 19, 20, 21, 22, 23, 24, 25, 26, 27, 28, 29, 30, 31, 32, 33, 34, 35, 36, 37, 38, 39, 40, 41, 42], [0, 1, 2, 3, 4, 5, 6, 7, 8, 9, 10, 11, 12, 13, 14, 15, 16, 17, 18, 19, 20, 21, 22, 23, 24, 25, 26, 27, 28, 29, 30, 31, 32, 33, 34, 35, 36, 37, 38, 39, 40, 41, 42, 43]]
def r6_16 (b : Nat) : List AOper := [
    ⟨(some 139), .bslice (b + 4) 1 6 [.int .i64 0, .int .i64 0, .int .i64 0, .int .i64 0, .int .i64 0, .int .i64 0] [(0, 1, .c (.int .i64 1)), (1, 1, .c (.int .i64 2)), (2, 1, .c (.int .i64 1)), (3, 1, .c (.int .i64 3)), (4, 1, .c (.int .i64 4)), (5, 1, .c (.int .i64 4))], none⟩,
    ⟨(some 140), .build [.int .i64 0, .nils] [(1, 1, .t 139)], none⟩,
    ⟨(some 141), .callf 16 [.t 140], none⟩,
    ⟨(some 138), .mv (.t 141), none⟩,
    ⟨(some 142), .extract 0 (.t 138), none⟩,
    ⟨(some 143), .extract 1 (.t 138), none⟩,
    ⟨(some 13), .mv (.t 142), none⟩,
    ⟨(some 14), .mv (.t 143), none⟩]
def r6_17 (b : Nat) : List AOper := [
    ⟨(some 145), .mv (.t 13), none⟩,
    ⟨(some 146), .build [.int .i64 0, .int .i64 0, .int .i64 0] [(0, 1, .c (.int .i64 1)), (2, 1, .c (.int .i64 4))], none⟩,
    ⟨(some 147), .bslice (b + 5) 3 1 [.int .i64 0, .int .i64 0, .int .i64 0] [(0, 3, .t 146)], none⟩,
    ⟨(some 148), .callf 17 [.t 145, .t 147], none⟩,
    ⟨(some 144), .mv (.t 148), none⟩,
    ⟨(some 149), .extract 0 (.t 144), none⟩,
    ⟨(some 150), .extract 1 (.t 144), none⟩,
    ⟨(some 15), .mv (.t 149), none⟩,
    ⟨(some 16), .mv (.t 150), none⟩]
def r6_18 (b : Nat) : List AOper := [
    ⟨(some 152), .mv (.t 13), none⟩,
    ⟨(some 153), .slice false 5 (.t 152) none (some (.c (.int .i64 4))), none⟩,
    ⟨(some 154), .callf 18 [.t 153], none⟩,
    ⟨(some 151), .mv (.t 154), none⟩,
    ⟨(some 155), .extract 0 (.t 151), none⟩,
    ⟨(some 156), .extract 1 (.t 151), none⟩,
    ⟨(some 17), .mv (.t 155), none⟩,
    ⟨(some 18), .mv (.t 156), none⟩]
def r6_19 (b : Nat) : List AOper := [
    ⟨(some 158), .mv (.t 17), none⟩,
    ⟨(some 159), .mv (.t 13), none⟩,
    ⟨(some 160), .slice false 5 (.t 159) (some (.c (.int .i64 4))) none, none⟩,
    ⟨(some 161), .callf 19 [.t 158, .t 160], none⟩,
    ⟨(some 157), .mv (.t 161), none⟩,
    ⟨(some 162), .extract 0 (.t 157), none⟩,
    ⟨(some 163), .extract 1 (.t 157), none⟩,
    ⟨(some 19), .mv (.t 162), none⟩,
    ⟨(some 20), .mv (.t 163), none⟩]
def r6_20 (b : Nat) : List AOper := [
    ⟨(some 164), .mv (.t 12), none⟩,
    ⟨(some 165), .mv (.t 164), none⟩,
    ⟨(some 166), .mv (.t 14), (some (165, true))⟩,
    ⟨(some 167), .bin .eql false (.t 166) (.c (.int .i64 0)), (some (165, true))⟩,
    ⟨(some 168), .pick (.t 165) (.t 167) (.c (.bool false)), none⟩,
    ⟨(some 169), .mv (.t 168), none⟩,
    ⟨(some 170), .mv (.t 16), (some (169, true))⟩,
    ⟨(some 171), .bin .eql false (.t 170) (.c (.int .i64 0)), (some (169, true))⟩,
    ⟨(some 172), .pick (.t 169) (.t 171) (.c (.bool false)), none⟩,
    ⟨(some 173), .mv (.t 172), none⟩,
    ⟨(some 174), .mv (.t 18), (some (173, true))⟩,
    ⟨(some 175), .bin .eql false (.t 174) (.c (.int .i64 0)), (some (173, true))⟩,
    ⟨(some 176), .pick (.t 173) (.t 175) (.c (.bool false)), none⟩,
    ⟨(some 177), .mv (.t 176), none⟩,
    ⟨(some 178), .mv (.t 20), (some (177, true))⟩,
    ⟨(some 179), .bin .eql false (.t 178) (.c (.int .i64 0)), (some (177, true))⟩,
    ⟨(some 180), .pick (.t 177) (.t 179) (.c (.bool false)), none⟩,
    ⟨(some 181), .mv (.t 180), none⟩,
    ⟨(some 182), .mv (.t 15), (some (181, true))⟩,
    ⟨(some 183), .mv (.t 19), (some (181, true))⟩,
    ⟨(some 184), .callf 20 [.t 182, .t 183], (some (181, true))⟩,
    ⟨(some 185), .pick (.t 181) (.t 184) (.c (.bool false)), none⟩,
    ⟨(some 186), .mv (.t 185), none⟩,
    ⟨(some 187), .mv (.t 15), (some (186, true))⟩,
    ⟨(some 188), .len false (.t 187), (some (186, true))⟩,
    ⟨(some 189), .bin .eql false (.t 188) (.c (.int .i64 4)), (some (186, true))⟩,
    ⟨(some 190), .pick (.t 186) (.t 189) (.c (.bool false)), none⟩,
    ⟨(some 191), .mv (.t 190), none⟩,
    ⟨(some 192), .load true 4 (.t 1), (some (191, true))⟩,
    ⟨(some 193), .mv (.t 2), (some (191, true))⟩,
    ⟨(some 194), .callf 13 [.t 192, .t 193], (some (191, true))⟩,
    ⟨(some 195), .bin .eql false (.t 194) (.c (.int .i64 0)), (some (191, true))⟩,
    ⟨(some 196), .pick (.t 191) (.t 195) (.c (.bool false)), none⟩,
    ⟨(some 0), .mv (.t 196), none⟩]
def c6 (b : Nat) : ACode := .seq (.reg false (r6_0 b) []) (.seq (.reg false (r6_1 b) []) (.seq (.reg false (r6_2 b) []) (.seq (.reg false (r6_3 b) []) (.seq (.seq (.reg false (r6_4 b) []) (.block 0 (.loop (l6_0 b)))) (.seq (.reg false (r6_11 b) []) (.seq (.reg false (r6_12 b) []) (.seq (.seq (.reg false (r6_13 b) []) (.cond (.t 93) (.seq (.reg false (r6_14 b) []) (.ret)) (.skip))) (.seq (.reg true (r6_15 b) r6_15p) (.seq (.reg false (r6_16 b) []) (.seq (.reg false (r6_17 b) []) (.seq (.reg false (r6_18 b) []) (.seq (.reg false (r6_19 b) []) (.seq (.reg false (r6_20 b) []) (.ret))))))))))))))
def rs6 : List ARes := [.t 0]
theorem ck6 : ∃ c, Tryd.f6.body = some c ∧ ∀ b, checkCode Tryd.prog c (c6 b) = true := ⟨_, rfl, fun b => by kernel_rfl⟩
theorem cr6 : checkRess Tryd.prog Tryd.f6.results.toList rs6 = true := by kernel_rfl
def r7_0 (b : Nat) : List AOper := [
    ⟨(some 5), .box (b + 0) (.t 0), none⟩,
    ⟨(some 10), .mv (.c (.int .i64 0)), none⟩,
    ⟨(some 11), .mv (.c (.int .i64 0)), none⟩]
def r7_1 (b : Nat) : List AOper := [
    ⟨(some 15), .load true 4 (.t 5), none⟩,
    ⟨(some 16), .mv (.t 1), none⟩,
    ⟨(some 17), .mv (.t 2), none⟩,
    ⟨(some 18), .mv (.t 4), none⟩,
    ⟨(some 19), .callf 21 [.t 15, .t 16, .t 17, .t 18], none⟩,
    ⟨(some 14), .mv (.t 19), none⟩,
    ⟨(some 20), .extract 0 (.t 14), none⟩,
    ⟨(some 21), .extract 1 (.t 14), none⟩,
    ⟨(some 12), .alloc (b + 1) [.int .i64 0, .int .i64 0, .int .i64 0, .int .i64 0, .int .i64 0, .nils, .int .i64 0], none⟩,
    ⟨none, .store 7 (.t 12) (.t 20), none⟩,
    ⟨(some 13), .mv (.t 21), none⟩]
def r7_2 (b : Nat) : List AOper := [
    ⟨(some 22), .mv (.t 13), none⟩,
    ⟨(some 23), .bin .neq false (.t 22) (.c (.int .i64 0)), none⟩]
def r7_3 (b : Nat) : List AOper := [
    ⟨(some 24), .mv (.t 13), none⟩,
    ⟨(some 10), .mv (.c (.int .i64 0)), none⟩,
    ⟨(some 11), .mv (.t 24), none⟩]
def r7_4 (b : Nat) : List AOper := [
    ⟨(some 25), .mv (.t 3), none⟩,
    ⟨(some 26), .bin .lss false (.t 25) (.c (.int .i64 0)), none⟩,
    ⟨(some 27), .mv (.t 26), none⟩,
    ⟨(some 28), .mv (.t 3), (some (27, false))⟩,
    ⟨(some 29), .bin .geq false (.t 28) (.c (.int .i64 1402560)), (some (27, false))⟩,
    ⟨(some 30), .pick (.t 27) (.c (.bool true)) (.t 29), none⟩]
def r7_5 (b : Nat) : List AOper := [
    ⟨(some 10), .mv (.c (.int .i64 0)), none⟩,
    ⟨(some 11), .mv (.c (.int .i64 3)), none⟩]
def r7_6 (b : Nat) : List AOper := [
    ⟨(some 31), .load true 7 (.t 12), none⟩,
    ⟨(some 32), .mv (.t 3), none⟩,
    ⟨(some 33), .callf 22 [.t 31, .t 32], none⟩,
    ⟨(some 34), .field false 0 1 (.t 33), none⟩,
    ⟨(some 10), .mv (.t 34), none⟩,
    ⟨(some 11), .mv (.c (.int .i64 0)), none⟩]
def c7 (b : Nat) : ACode := .seq (.reg false (r7_0 b) []) (.seq (.reg false (r7_1 b) []) (.seq (.seq (.reg false (r7_2 b) []) (.cond (.t 23) (.seq (.reg false (r7_3 b) []) (.ret)) (.skip))) (.seq (.seq (.reg false (r7_4 b) []) (.cond (.t 30) (.seq (.reg false (r7_5 b) []) (.ret)) (.skip))) (.seq (.reg false (r7_6 b) []) (.ret)))))
def rs7 : List ARes := [.t 10, .t 11]
theorem ck7 : ∃ c, Tryd.f7.body = some c ∧ ∀ b, checkCode Tryd.prog c (c7 b) = true := ⟨_, rfl, fun b => by kernel_rfl⟩
theorem cr7 : checkRess Tryd.prog Tryd.f7.results.toList rs7 = true := by kernel_rfl
def r8_0 (b : Nat) : List AOper := [
    ⟨(some 5), .box (b + 0) (.t 0), none⟩,
    ⟨(some 8), .box (b + 1) (.t 3), none⟩,
    ⟨(some 10), .alloc (b + 2) [.nils], none⟩,
    ⟨(some 11), .alloc (b + 3) [.int .i64 0], none⟩]
def r8_1 (b : Nat) : List AOper := [
    ⟨(some 17), .load true 4 (.t 5), none⟩,
    ⟨(some 18), .mv (.t 1), none⟩,
    ⟨(some 19), .mv (.t 2), none⟩,
    ⟨(some 20), .mv (.t 4), none⟩,
    ⟨(some 21), .callf 21 [.t 17, .t 18, .t 19, .t 20], none⟩,
    ⟨(some 16), .mv (.t 21), none⟩,
    ⟨(some 22), .extract 0 (.t 16), none⟩,
    ⟨(some 23), .extract 1 (.t 16), none⟩,
    ⟨(some 12), .alloc (b + 4) [.int .i64 0, .int .i64 0, .int .i64 0, .int .i64 0, .int .i64 0, .nils, .int .i64 0], none⟩,
    ⟨none, .store 7 (.t 12) (.t 22), none⟩,
    ⟨(some 13), .mv (.t 23), none⟩]
def r8_2 (b : Nat) : List AOper := [
    ⟨(some 24), .mv (.t 13), none⟩,
    ⟨(some 25), .bin .neq false (.t 24) (.c (.int .i64 0)), none⟩]
def r8_3 (b : Nat) : List AOper := [
    ⟨(some 26), .mv (.t 13), none⟩,
    ⟨none, .store 1 (.t 10) (.c (.nils)), none⟩,
    ⟨none, .store 1 (.t 11) (.t 26), none⟩]
def r8_4 (b : Nat) : List AOper := [
    ⟨(some 27), .faddr 0 (.t 8), none⟩,
    ⟨(some 28), .load false 1 (.t 27), none⟩,
    ⟨(some 29), .faddr 1 (.t 8), none⟩,
    ⟨(some 30), .load false 1 (.t 29), none⟩,
    ⟨(some 31), .callf 23 [.t 28, .t 30], none⟩,
    ⟨(some 32), .not (.t 31), none⟩]
def r8_5 (b : Nat) : List AOper := [
    ⟨none, .store 1 (.t 10) (.c (.nils)), none⟩,
    ⟨none, .store 1 (.t 11) (.c (.int .i64 3)), none⟩]
def r8_6 (b : Nat) : List AOper := [
    ⟨(some 14), .alloc (b + 5) [.nils], none⟩]
def r8_7 (b : Nat) : List AOper := [
    ⟨(some 33), .load true 7 (.t 12), none⟩,
    ⟨(some 34), .load true 2 (.t 8), none⟩,
    ⟨(some 35), .callf 24 [.t 33, .t 34], none⟩]
def r8_8 (b : Nat) : List AOper := [
    ⟨(some 15), .alloc (b + 6) [.int .i64 0, .int .i64 0, .int .i64 0], none⟩,
    ⟨none, .store 3 (.t 15) (.t 36), none⟩]
def r8_9 (b : Nat) : List AOper := [
    ⟨(some 37), .load false 1 (.t 14), none⟩,
    ⟨(some 38), .len false (.t 37), none⟩,
    ⟨(some 39), .bin .eql false (.t 38) (.c (.int .i64 4000)), none⟩]
def r8_10 (b : Nat) : List AOper := [
    ⟨none, .store 1 (.t 10) (.c (.nils)), none⟩,
    ⟨none, .store 1 (.t 11) (.c (.int .i64 2)), none⟩]
def r8_11 (b : Nat) : List AOper := [
    ⟨(some 40), .load false 1 (.t 14), none⟩,
    ⟨(some 41), .load true 3 (.t 15), none⟩,
    ⟨(some 42), .bslice (b + 7) 3 1 [.int .i64 0, .int .i64 0, .int .i64 0] [(0, 3, .t 41)], none⟩,
    ⟨(some 43), .append (b + 8) 3 24 (.t 40) (.t 42), none⟩,
    ⟨none, .store 1 (.t 14) (.t 43), none⟩]
def l8_0 (b : Nat) : ACode := .block 1 (.seq (.seq (.reg false (r8_9 b) []) (.cond (.t 39) (.seq (.reg false (r8_10 b) []) (.ret)) (.skip))) (.reg false (r8_11 b) []))
def r8_12 (b : Nat) : List AOper := [
    ⟨(some 44), .load false 1 (.t 14), none⟩,
    ⟨none, .store 1 (.t 10) (.t 44), none⟩,
    ⟨none, .store 1 (.t 11) (.c (.int .i64 0)), none⟩]
def c8 (b : Nat) : ACode := .seq (.reg false (r8_0 b) []) (.seq (.reg false (r8_1 b) []) (.seq (.seq (.reg false (r8_2 b) []) (.cond (.t 25) (.seq (.reg false (r8_3 b) []) (.ret)) (.skip))) (.seq (.seq (.reg false (r8_4 b) []) (.cond (.t 32) (.seq (.reg false (r8_5 b) []) (.ret)) (.skip))) (.seq (.reg false (r8_6 b) []) (.seq (.seq (.reg false (r8_7 b) []) (.block 0 (.rfunc (.t 35) [36] (.reg false (r8_8 b) []) (l8_0 b)))) (.seq (.reg false (r8_12 b) []) (.ret)))))))
def rs8 : List ARes := [.c 10 false 1, .c 11 false 1]
theorem ck8 : ∃ c, Tryd.f8.body = some c ∧ ∀ b, checkCode Tryd.prog c (c8 b) = true := ⟨_, rfl, fun b => by kernel_rfl⟩
theorem cr8 : checkRess Tryd.prog Tryd.f8.results.toList rs8 = true := by kernel_rfl
def r9_0 (b : Nat) : List AOper := [
    ⟨(some 6), .box (b + 0) (.t 0), none⟩,
    ⟨(some 9), .box (b + 1) (.t 3), none⟩,
    ⟨(some 12), .alloc (b + 2) [.nils], none⟩,
    ⟨(some 13), .alloc (b + 3) [.int .i64 0], none⟩]
def r9_1 (b : Nat) : List AOper := [
    ⟨(some 20), .load true 4 (.t 6), none⟩,
    ⟨(some 21), .mv (.t 1), none⟩,
    ⟨(some 22), .mv (.t 2), none⟩,
    ⟨(some 23), .mv (.t 4), none⟩,
    ⟨(some 24), .callf 21 [.t 20, .t 21, .t 22, .t 23], none⟩,
    ⟨(some 19), .mv (.t 24), none⟩,
    ⟨(some 25), .extract 0 (.t 19), none⟩,
    ⟨(some 26), .extract 1 (.t 19), none⟩,
    ⟨(some 14), .alloc (b + 4) [.int .i64 0, .int .i64 0, .int .i64 0, .int .i64 0, .int .i64 0, .nils, .int .i64 0], none⟩,
    ⟨none, .store 7 (.t 14) (.t 25), none⟩,
    ⟨(some 15), .mv (.t 26), none⟩]
def r9_2 (b : Nat) : List AOper := [
    ⟨(some 27), .mv (.t 15), none⟩,
    ⟨(some 28), .bin .neq false (.t 27) (.c (.int .i64 0)), none⟩]
def r9_3 (b : Nat) : List AOper := [
    ⟨(some 29), .mv (.t 15), none⟩,
    ⟨none, .store 1 (.t 12) (.c (.nils)), none⟩,
    ⟨none, .store 1 (.t 13) (.t 29), none⟩]
def r9_4 (b : Nat) : List AOper := [
    ⟨(some 31), .load true 4 (.t 6), none⟩,
    ⟨(some 32), .mv (.t 1), none⟩,
    ⟨(some 33), .mv (.t 2), none⟩,
    ⟨(some 34), .mv (.t 5), none⟩,
    ⟨(some 35), .callf 21 [.t 31, .t 32, .t 33, .t 34], none⟩,
    ⟨(some 30), .mv (.t 35), none⟩,
    ⟨(some 36), .extract 0 (.t 30), none⟩,
    ⟨(some 37), .extract 1 (.t 30), none⟩,
    ⟨(some 16), .alloc (b + 5) [.int .i64 0, .int .i64 0, .int .i64 0, .int .i64 0, .int .i64 0, .nils, .int .i64 0], none⟩,
    ⟨none, .store 7 (.t 16) (.t 36), none⟩,
    ⟨(some 15), .mv (.t 37), none⟩]
def r9_5 (b : Nat) : List AOper := [
    ⟨(some 38), .mv (.t 15), none⟩,
    ⟨(some 39), .bin .neq false (.t 38) (.c (.int .i64 0)), none⟩]
def r9_6 (b : Nat) : List AOper := [
    ⟨(some 40), .mv (.t 15), none⟩,
    ⟨none, .store 1 (.t 12) (.c (.nils)), none⟩,
    ⟨none, .store 1 (.t 13) (.t 40), none⟩]
def r9_7 (b : Nat) : List AOper := [
    ⟨(some 41), .faddr 0 (.t 9), none⟩,
    ⟨(some 42), .load false 1 (.t 41), none⟩,
    ⟨(some 43), .faddr 1 (.t 9), none⟩,
    ⟨(some 44), .load false 1 (.t 43), none⟩,
    ⟨(some 45), .callf 23 [.t 42, .t 44], none⟩,
    ⟨(some 46), .not (.t 45), none⟩]
def r9_8 (b : Nat) : List AOper := [
    ⟨none, .store 1 (.t 12) (.c (.nils)), none⟩,
    ⟨none, .store 1 (.t 13) (.c (.int .i64 3)), none⟩]
def r9_9 (b : Nat) : List AOper := [
    ⟨(some 17), .alloc (b + 6) [.nils], none⟩]
def r9_10 (b : Nat) : List AOper := [
    ⟨(some 47), .load true 7 (.t 16), none⟩,
    ⟨(some 48), .load true 2 (.t 9), none⟩,
    ⟨(some 49), .callf 24 [.t 47, .t 48], none⟩]
def r9_11 (b : Nat) : List AOper := [
    ⟨(some 18), .alloc (b + 7) [.int .i64 0, .int .i64 0, .int .i64 0], none⟩,
    ⟨none, .store 3 (.t 18) (.t 50), none⟩]
def r9_12 (b : Nat) : List AOper := [
    ⟨(some 51), .faddr 0 (.t 18), none⟩,
    ⟨(some 52), .load false 1 (.t 51), none⟩,
    ⟨(some 53), .bin .eql false (.t 52) (.c (.int .i64 0)), none⟩,
    ⟨(some 54), .mv (.t 53), none⟩,
    ⟨(some 55), .load true 7 (.t 14), (some (54, false))⟩,
    ⟨(some 56), .faddr 1 (.t 18), (some (54, false))⟩,
    ⟨(some 57), .load false 1 (.t 56), (some (54, false))⟩,
    ⟨(some 58), .callf 22 [.t 55, .t 57], (some (54, false))⟩,
    ⟨(some 59), .load true 3 (.t 18), (some (54, false))⟩,
    ⟨(some 60), .eqagg [1, 1, 1] false (.t 58) (.t 59), (some (54, false))⟩,
    ⟨(some 61), .pick (.t 54) (.c (.bool true)) (.t 60), none⟩]
def r9_12p : List (List Nat) := [[], [0], [0, 1], [0, 1, 2], [0, 1, 2, 3], [0, 1, 2, 3], [0, 1, 2, 3, 5], [0, 1, 2, 3, 4, 5, 6], [0, 1, 2, 3], [0, 1, 2, 3, 4, 5, 6, 7, 8], [0, 1, 2, 3, 4, 5, 6, 7, 8, 9]]
def r9_13 (b : Nat) : List AOper := [
    ⟨(some 62), .load false 1 (.t 17), none⟩,
    ⟨(some 63), .len false (.t 62), none⟩,
    ⟨(some 64), .bin .eql false (.t 63) (.c (.int .i64 4000)), none⟩]
def r9_14 (b : Nat) : List AOper := [
    ⟨none, .store 1 (.t 12) (.c (.nils)), none⟩,
    ⟨none, .store 1 (.t 13) (.c (.int .i64 2)), none⟩]
def r9_15 (b : Nat) : List AOper := [
    ⟨(some 65), .load false 1 (.t 17), none⟩,
    ⟨(some 66), .load true 3 (.t 18), none⟩,
    ⟨(some 67), .bslice (b + 8) 3 1 [.int .i64 0, .int .i64 0, .int .i64 0] [(0, 3, .t 66)], none⟩,
    ⟨(some 68), .append (b + 9) 3 24 (.t 65) (.t 67), none⟩,
    ⟨none, .store 1 (.t 17) (.t 68), none⟩]
def l9_0 (b : Nat) : ACode := .block 1 (.seq (.seq (.reg true (r9_12 b) r9_12p) (.cond (.t 61) (.exit 1) (.skip))) (.seq (.seq (.reg false (r9_13 b) []) (.cond (.t 64) (.seq (.reg false (r9_14 b) []) (.ret)) (.skip))) (.reg false (r9_15 b) [])))
def r9_16 (b : Nat) : List AOper := [
    ⟨(some 69), .load false 1 (.t 17), none⟩,
    ⟨none, .store 1 (.t 12) (.t 69), none⟩,
    ⟨none, .store 1 (.t 13) (.c (.int .i64 0)), none⟩]
def c9 (b : Nat) : ACode := .seq (.reg false (r9_0 b) []) (.seq (.reg false (r9_1 b) []) (.seq (.seq (.reg false (r9_2 b) []) (.cond (.t 28) (.seq (.reg false (r9_3 b) []) (.ret)) (.skip))) (.seq (.reg false (r9_4 b) []) (.seq (.seq (.reg false (r9_5 b) []) (.cond (.t 39) (.seq (.reg false (r9_6 b) []) (.ret)) (.skip))) (.seq (.seq (.reg false (r9_7 b) []) (.cond (.t 46) (.seq (.reg false (r9_8 b) []) (.ret)) (.skip))) (.seq (.reg false (r9_9 b) []) (.seq (.seq (.reg false (r9_10 b) []) (.block 0 (.rfunc (.t 49) [50] (.reg false (r9_11 b) []) (l9_0 b)))) (.seq (.reg false (r9_16 b) []) (.ret)))))))))
def rs9 : List ARes := [.c 12 false 1, .c 13 false 1]
theorem ck9 : ∃ c, Tryd.f9.body = some c ∧ ∀ b, checkCode Tryd.prog c (c9 b) = true := ⟨_, rfl, fun b => by kernel_rfl⟩
theorem cr9 : checkRess Tryd.prog Tryd.f9.results.toList rs9 = true := by kernel_rfl
def r10_0 (b : Nat) : List AOper := [
    ⟨(some 5), .box (b + 0) (.t 0), none⟩,
    ⟨(some 10), .alloc (b + 1) [.int .i64 0, .int .i64 0], none⟩]
def r10_1 (b : Nat) : List AOper := [
    ⟨(some 12), .load true 4 (.t 5), none⟩,
    ⟨(some 13), .mv (.t 1), none⟩,
    ⟨(some 14), .mv (.t 2), none⟩,
    ⟨(some 15), .mv (.t 4), none⟩,
    ⟨(some 16), .callf 25 [.t 12, .t 13, .t 14, .t 15], none⟩,
    ⟨(some 11), .mv (.t 16), none⟩]
def r10_2 (b : Nat) : List AOper := [
    ⟨(some 17), .mv (.t 11), none⟩,
    ⟨(some 18), .bin .neq false (.t 17) (.c (.int .i64 0)), none⟩]
def r10_3 (b : Nat) : List AOper := [
    ⟨(some 19), .mv (.t 11), none⟩,
    ⟨(some 20), .build [.int .i64 0, .int .i64 0] [(1, 1, .t 19)], none⟩,
    ⟨none, .store 2 (.t 10) (.t 20), none⟩]
def r10_4 (b : Nat) : List AOper := [
    ⟨(some 21), .mv (.t 3), none⟩,
    ⟨(some 22), .bin .lss false (.t 21) (.c (.int .i64 0)), none⟩,
    ⟨(some 23), .mv (.t 22), none⟩,
    ⟨(some 24), .mv (.t 3), (some (23, false))⟩,
    ⟨(some 25), .bin .geq false (.t 24) (.c (.int .i64 1402560)), (some (23, false))⟩,
    ⟨(some 26), .pick (.t 23) (.c (.bool true)) (.t 25), none⟩]
def r10_5 (b : Nat) : List AOper := [
    ⟨(some 27), .build [.int .i64 0, .int .i64 0] [(1, 1, .c (.int .i64 3))], none⟩,
    ⟨none, .store 2 (.t 10) (.t 27), none⟩]
def r10_6 (b : Nat) : List AOper := [
    ⟨(some 28), .load true 4 (.t 5), none⟩,
    ⟨(some 29), .mv (.t 1), none⟩,
    ⟨(some 30), .mv (.t 2), none⟩,
    ⟨(some 31), .mv (.t 3), none⟩,
    ⟨(some 32), .mv (.t 4), none⟩,
    ⟨(some 33), .callf 26 [.t 28, .t 29, .t 30, .t 31, .t 32], none⟩,
    ⟨(some 34), .field false 0 1 (.t 33), none⟩,
    ⟨(some 35), .build [.int .i64 0, .int .i64 0] [(0, 1, .t 34)], none⟩,
    ⟨none, .store 2 (.t 10) (.t 35), none⟩]
def c10 (b : Nat) : ACode := .seq (.reg false (r10_0 b) []) (.seq (.reg false (r10_1 b) []) (.seq (.seq (.reg false (r10_2 b) []) (.cond (.t 18) (.seq (.reg false (r10_3 b) []) (.ret)) (.skip))) (.seq (.seq (.reg false (r10_4 b) []) (.cond (.t 26) (.seq (.reg false (r10_5 b) []) (.ret)) (.skip))) (.seq (.reg false (r10_6 b) []) (.ret)))))
def rs10 : List ARes := [.c 10 true 2]
theorem ck10 : ∃ c, Tryd.f10.body = some c ∧ ∀ b, checkCode Tryd.prog c (c10 b) = true := ⟨_, rfl, fun b => by kernel_rfl⟩
theorem cr10 : checkRess Tryd.prog Tryd.f10.results.toList rs10 = true := by kernel_rfl
def r11_0 (b : Nat) : List AOper := [
    ⟨(some 5), .box (b + 0) (.t 0), none⟩,
    ⟨(some 8), .box (b + 1) (.t 3), none⟩,
    ⟨(some 10), .alloc (b + 2) [.nils, .int .i64 0], none⟩]
def r11_1 (b : Nat) : List AOper := [
    ⟨(some 16), .load true 4 (.t 5), none⟩,
    ⟨(some 17), .mv (.t 1), none⟩,
    ⟨(some 18), .mv (.t 2), none⟩,
    ⟨(some 19), .mv (.t 4), none⟩,
    ⟨(some 20), .callf 25 [.t 16, .t 17, .t 18, .t 19], none⟩,
    ⟨(some 11), .mv (.t 20), none⟩]
def r11_2 (b : Nat) : List AOper := [
    ⟨(some 21), .mv (.t 11), none⟩,
    ⟨(some 22), .bin .neq false (.t 21) (.c (.int .i64 0)), none⟩]
def r11_3 (b : Nat) : List AOper := [
    ⟨(some 23), .mv (.t 11), none⟩,
    ⟨(some 24), .build [.nils, .int .i64 0] [(1, 1, .t 23)], none⟩,
    ⟨none, .store 2 (.t 10) (.t 24), none⟩]
def r11_4 (b : Nat) : List AOper := [
    ⟨(some 25), .faddr 0 (.t 8), none⟩,
    ⟨(some 26), .load false 1 (.t 25), none⟩,
    ⟨(some 27), .bin .lss false (.t 26) (.c (.int .i64 0)), none⟩,
    ⟨(some 28), .mv (.t 27), none⟩,
    ⟨(some 29), .faddr 0 (.t 8), (some (28, false))⟩,
    ⟨(some 30), .load false 1 (.t 29), (some (28, false))⟩,
    ⟨(some 31), .faddr 1 (.t 8), (some (28, false))⟩,
    ⟨(some 32), .load false 1 (.t 31), (some (28, false))⟩,
    ⟨(some 33), .bin .gtr false (.t 30) (.t 32), (some (28, false))⟩,
    ⟨(some 34), .pick (.t 28) (.c (.bool true)) (.t 33), none⟩,
    ⟨(some 35), .mv (.t 34), none⟩,
    ⟨(some 36), .faddr 1 (.t 8), (some (35, false))⟩,
    ⟨(some 37), .load false 1 (.t 36), (some (35, false))⟩,
    ⟨(some 38), .bin .gtr false (.t 37) (.c (.int .i64 1402560)), (some (35, false))⟩,
    ⟨(some 39), .pick (.t 35) (.c (.bool true)) (.t 38), none⟩]
def r11_5 (b : Nat) : List AOper := [
    ⟨(some 40), .build [.nils, .int .i64 0] [(1, 1, .c (.int .i64 3))], none⟩,
    ⟨none, .store 2 (.t 10) (.t 40), none⟩]
def r11_6 (b : Nat) : List AOper := [
    ⟨(some 12), .mv (.c (.nils)), none⟩]
def r11_7 (b : Nat) : List AOper := [
    ⟨(some 41), .faddr 0 (.t 8), none⟩,
    ⟨(some 42), .load false 1 (.t 41), none⟩,
    ⟨(some 13), .mv (.t 42), none⟩]
def r11_8 (b : Nat) : List AOper := [
    ⟨(some 43), .mv (.t 13), none⟩,
    ⟨(some 44), .faddr 1 (.t 8), none⟩,
    ⟨(some 45), .load false 1 (.t 44), none⟩,
    ⟨(some 46), .bin .lss false (.t 43) (.t 45), none⟩]
def r11_10 (b : Nat) : List AOper := [
    ⟨(some 49), .load true 4 (.t 5), none⟩,
    ⟨(some 50), .mv (.t 1), none⟩,
    ⟨(some 51), .mv (.t 2), none⟩,
    ⟨(some 52), .mv (.t 13), none⟩,
    ⟨(some 53), .mv (.t 4), none⟩,
    ⟨(some 54), .callf 26 [.t 49, .t 50, .t 51, .t 52, .t 53], none⟩,
    ⟨(some 14), .alloc (b + 3) [.int .i64 0, .int .i64 0, .int .i64 0], none⟩,
    ⟨none, .store 3 (.t 14) (.t 54), none⟩]
def r11_11 (b : Nat) : List AOper := [
    ⟨(some 55), .mv (.t 12), none⟩,
    ⟨(some 56), .len false (.t 55), none⟩,
    ⟨(some 15), .mv (.t 56), none⟩]
def r11_12 (b : Nat) : List AOper := [
    ⟨(some 57), .mv (.t 15), none⟩,
    ⟨(some 58), .bin .gtr false (.t 57) (.c (.int .i64 0)), none⟩,
    ⟨(some 59), .mv (.t 58), none⟩,
    ⟨(some 60), .load true 3 (.t 14), (some (59, true))⟩,
    ⟨(some 61), .mv (.t 12), (some (59, true))⟩,
    ⟨(some 62), .mv (.t 15), (some (59, true))⟩,
    ⟨(some 63), .bin .sub false (.t 62) (.c (.int .i64 1)), (some (59, true))⟩,
    ⟨(some 64), .max (.c (.int .i64 0)) (.t 63), (some (59, true))⟩,
    ⟨(some 65), .iaddrS 3 (.t 61) (.t 64), (some (59, true))⟩,
    ⟨(some 66), .load true 3 (.t 65), (some (59, true))⟩,
    ⟨(some 67), .eqagg [1, 1, 1] false (.t 60) (.t 66), (some (59, true))⟩,
    ⟨(some 68), .pick (.t 59) (.t 67) (.c (.bool false)), none⟩]
def r11_12p : List (List Nat) := [[], [0], [0, 1], [0, 1, 2], [0, 1, 2], [0, 1, 2], [0, 1, 2, 5], [0, 1, 2, 5, 6], [0, 1, 2, 4, 5, 6, 7], [0, 1, 2, 4, 5, 6, 7, 8], [0, 1, 2, 3, 4, 5, 6, 7, 8, 9], [0, 1, 2, 3, 4, 5, 6, 7, 8, 9, 10]]
def r11_13 (b : Nat) : List AOper := [
    ⟨(some 69), .mv (.t 15), none⟩,
    ⟨(some 70), .bin .gtr false (.t 69) (.c (.int .i64 0)), none⟩,
    ⟨(some 71), .mv (.t 70), none⟩,
    ⟨(some 72), .faddr 0 (.t 14), (some (71, true))⟩,
    ⟨(some 73), .load false 1 (.t 72), (some (71, true))⟩,
    ⟨(some 74), .bin .eql false (.t 73) (.c (.int .i64 0)), (some (71, true))⟩,
    ⟨(some 75), .pick (.t 71) (.t 74) (.c (.bool false)), none⟩,
    ⟨(some 76), .mv (.t 75), none⟩,
    ⟨(some 77), .mv (.t 12), (some (76, true))⟩,
    ⟨(some 78), .mv (.t 15), (some (76, true))⟩,
    ⟨(some 79), .bin .sub false (.t 78) (.c (.int .i64 1)), (some (76, true))⟩,
    ⟨(some 80), .max (.c (.int .i64 0)) (.t 79), (some (76, true))⟩,
    ⟨(some 81), .iaddrS 3 (.t 77) (.t 80), (some (76, true))⟩,
    ⟨(some 82), .faddr 0 (.t 81), (some (76, true))⟩,
    ⟨(some 83), .load false 1 (.t 82), (some (76, true))⟩,
    ⟨(some 84), .bin .eql false (.t 83) (.c (.int .i64 0)), (some (76, true))⟩,
    ⟨(some 85), .pick (.t 76) (.t 84) (.c (.bool false)), none⟩]
def r11_14 (b : Nat) : List AOper := [
    ⟨(some 86), .mv (.t 12), none⟩,
    ⟨(some 87), .mv (.t 15), none⟩,
    ⟨(some 88), .bin .sub false (.t 87) (.c (.int .i64 1)), none⟩,
    ⟨(some 89), .mv (.t 13), none⟩,
    ⟨(some 90), .bin .add false (.t 89) (.c (.int .i64 1)), none⟩,
    ⟨(some 91), .iaddrS 3 (.t 86) (.t 88), none⟩,
    ⟨(some 92), .faddr 2 (.t 91), none⟩,
    ⟨none, .store 1 (.t 92) (.t 90), none⟩]
def r11_15 (b : Nat) : List AOper := [
    ⟨(some 93), .mv (.t 12), none⟩,
    ⟨(some 94), .load true 3 (.t 14), none⟩,
    ⟨(some 95), .bslice (b + 4) 3 1 [.int .i64 0, .int .i64 0, .int .i64 0] [(0, 3, .t 94)], none⟩,
    ⟨(some 96), .append (b + 5) 3 24 (.t 93) (.t 95), none⟩,
    ⟨(some 12), .mv (.t 96), none⟩]
def r11_9 (b : Nat) : List AOper := [
    ⟨(some 47), .mv (.t 13), none⟩,
    ⟨(some 48), .bin .add false (.t 47) (.c (.int .i64 1)), none⟩,
    ⟨(some 13), .mv (.t 48), none⟩]
def l11_0 (b : Nat) : ACode := .seq (.seq (.reg false (r11_8 b) []) (.cond (.t 46) (.skip) (.exit 0))) (.seq (.block 1 (.seq (.reg false (r11_10 b) []) (.seq (.reg false (r11_11 b) []) (.seq (.seq (.reg true (r11_12 b) r11_12p) (.cond (.t 68) (.exit 1) (.skip))) (.seq (.seq (.reg false (r11_13 b) []) (.cond (.t 85) (.seq (.reg false (r11_14 b) []) (.exit 1)) (.skip))) (.reg false (r11_15 b) [])))))) (.reg false (r11_9 b) []))
def r11_16 (b : Nat) : List AOper := [
    ⟨(some 97), .mv (.t 12), none⟩,
    ⟨(some 98), .len false (.t 97), none⟩,
    ⟨(some 99), .bin .gtr false (.t 98) (.c (.int .i64 4000)), none⟩]
def r11_17 (b : Nat) : List AOper := [
    ⟨(some 100), .build [.nils, .int .i64 0] [(1, 1, .c (.int .i64 2))], none⟩,
    ⟨none, .store 2 (.t 10) (.t 100), none⟩]
def r11_18 (b : Nat) : List AOper := [
    ⟨(some 101), .mv (.t 12), none⟩,
    ⟨(some 102), .build [.nils, .int .i64 0] [(0, 1, .t 101)], none⟩,
    ⟨none, .store 2 (.t 10) (.t 102), none⟩]
def c11 (b : Nat) : ACode := .seq (.reg false (r11_0 b) []) (.seq (.reg false (r11_1 b) []) (.seq (.seq (.reg false (r11_2 b) []) (.cond (.t 22) (.seq (.reg false (r11_3 b) []) (.ret)) (.skip))) (.seq (.seq (.reg false (r11_4 b) []) (.cond (.t 39) (.seq (.reg false (r11_5 b) []) (.ret)) (.skip))) (.seq (.reg false (r11_6 b) []) (.seq (.seq (.reg false (r11_7 b) []) (.block 0 (.loop (l11_0 b)))) (.seq (.seq (.reg false (r11_16 b) []) (.cond (.t 99) (.seq (.reg false (r11_17 b) []) (.ret)) (.skip))) (.seq (.reg false (r11_18 b) []) (.ret))))))))
def rs11 : List ARes := [.c 10 true 2]
theorem ck11 : ∃ c, Tryd.f11.body = some c ∧ ∀ b, checkCode Tryd.prog c (c11 b) = true := ⟨_, rfl, fun b => by kernel_rfl⟩
theorem cr11 : checkRess Tryd.prog Tryd.f11.results.toList rs11 = true := by kernel_rfl
def r12_0 (b : Nat) : List AOper := [
    ⟨(some 6), .box (b + 0) (.t 0), none⟩,
    ⟨(some 9), .box (b + 1) (.t 3), none⟩,
    ⟨(some 12), .alloc (b + 2) [.nils, .int .i64 0], none⟩]
def r12_1 (b : Nat) : List AOper := [
    ⟨(some 19), .load true 4 (.t 6), none⟩,
    ⟨(some 20), .mv (.t 1), none⟩,
    ⟨(some 21), .mv (.t 2), none⟩,
    ⟨(some 22), .load true 2 (.t 9), none⟩,
    ⟨(some 23), .mv (.t 4), none⟩,
    ⟨(some 24), .callf 11 [.t 19, .t 20, .t 21, .t 22, .t 23], none⟩,
    ⟨(some 13), .alloc (b + 3) [.nils, .int .i64 0], none⟩,
    ⟨none, .store 2 (.t 13) (.t 24), none⟩]
def r12_2 (b : Nat) : List AOper := [
    ⟨(some 25), .faddr 1 (.t 13), none⟩,
    ⟨(some 26), .load false 1 (.t 25), none⟩,
    ⟨(some 27), .bin .neq false (.t 26) (.c (.int .i64 0)), none⟩,
    ⟨(some 28), .mv (.t 27), none⟩,
    ⟨(some 29), .faddr 1 (.t 13), (some (28, true))⟩,
    ⟨(some 30), .load false 1 (.t 29), (some (28, true))⟩,
    ⟨(some 31), .bin .neq false (.t 30) (.c (.int .i64 2)), (some (28, true))⟩,
    ⟨(some 32), .pick (.t 28) (.t 31) (.c (.bool false)), none⟩]
def r12_3 (b : Nat) : List AOper := [
    ⟨(some 33), .load true 2 (.t 13), none⟩,
    ⟨none, .store 2 (.t 12) (.t 33), none⟩]
def r12_4 (b : Nat) : List AOper := [
    ⟨(some 34), .load true 4 (.t 6), none⟩,
    ⟨(some 35), .mv (.t 1), none⟩,
    ⟨(some 36), .mv (.t 2), none⟩,
    ⟨(some 37), .mv (.t 5), none⟩,
    ⟨(some 38), .callf 25 [.t 34, .t 35, .t 36, .t 37], none⟩,
    ⟨(some 14), .mv (.t 38), none⟩]
def r12_5 (b : Nat) : List AOper := [
    ⟨(some 39), .mv (.t 14), none⟩,
    ⟨(some 40), .bin .neq false (.t 39) (.c (.int .i64 0)), none⟩]
def r12_6 (b : Nat) : List AOper := [
    ⟨(some 41), .mv (.t 14), none⟩,
    ⟨(some 42), .build [.nils, .int .i64 0] [(1, 1, .t 41)], none⟩,
    ⟨none, .store 2 (.t 12) (.t 42), none⟩]
def r12_7 (b : Nat) : List AOper := [
    ⟨(some 15), .mv (.c (.nils)), none⟩]
def r12_8 (b : Nat) : List AOper := [
    ⟨(some 43), .faddr 0 (.t 9), none⟩,
    ⟨(some 44), .load false 1 (.t 43), none⟩,
    ⟨(some 16), .mv (.t 44), none⟩]
def r12_9 (b : Nat) : List AOper := [
    ⟨(some 45), .mv (.t 16), none⟩,
    ⟨(some 46), .faddr 1 (.t 9), none⟩,
    ⟨(some 47), .load false 1 (.t 46), none⟩,
    ⟨(some 48), .bin .lss false (.t 45) (.t 47), none⟩]
def r12_11 (b : Nat) : List AOper := [
    ⟨(some 51), .load true 4 (.t 6), none⟩,
    ⟨(some 52), .mv (.t 1), none⟩,
    ⟨(some 53), .mv (.t 2), none⟩,
    ⟨(some 54), .mv (.t 16), none⟩,
    ⟨(some 55), .mv (.t 5), none⟩,
    ⟨(some 56), .callf 26 [.t 51, .t 52, .t 53, .t 54, .t 55], none⟩,
    ⟨(some 17), .alloc (b + 4) [.int .i64 0, .int .i64 0, .int .i64 0], none⟩,
    ⟨none, .store 3 (.t 17) (.t 56), none⟩]
def r12_12 (b : Nat) : List AOper := [
    ⟨(some 57), .mv (.t 15), none⟩,
    ⟨(some 58), .len false (.t 57), none⟩,
    ⟨(some 18), .mv (.t 58), none⟩]
def r12_13 (b : Nat) : List AOper := [
    ⟨(some 59), .faddr 0 (.t 17), none⟩,
    ⟨(some 60), .load false 1 (.t 59), none⟩,
    ⟨(some 61), .bin .eql false (.t 60) (.c (.int .i64 0)), none⟩,
    ⟨(some 62), .mv (.t 61), none⟩,
    ⟨(some 63), .mv (.t 18), (some (62, false))⟩,
    ⟨(some 64), .bin .gtr false (.t 63) (.c (.int .i64 0)), (some (62, false))⟩,
    ⟨(some 65), .mv (.t 64), (some (62, false))⟩,
    ⟨(some 66), .load true 3 (.t 17), (some (65, true))⟩,
    ⟨(some 67), .mv (.t 15), (some (65, true))⟩,
    ⟨(some 68), .mv (.t 18), (some (65, true))⟩,
    ⟨(some 69), .bin .sub false (.t 68) (.c (.int .i64 1)), (some (65, true))⟩,
    ⟨(some 70), .max (.c (.int .i64 0)) (.t 69), (some (65, true))⟩,
    ⟨(some 71), .iaddrS 3 (.t 67) (.t 70), (some (65, true))⟩,
    ⟨(some 72), .load true 3 (.t 71), (some (65, true))⟩,
    ⟨(some 73), .eqagg [1, 1, 1] false (.t 66) (.t 72), (some (65, true))⟩,
    ⟨(some 74), .pick (.t 65) (.t 73) (.c (.bool false)), (some (62, false))⟩,
    ⟨(some 75), .pick (.t 62) (.c (.bool true)) (.t 74), none⟩,
    ⟨(some 76), .mv (.t 75), none⟩,
    ⟨(some 77), .load true 4 (.t 6), (some (76, false))⟩,
    ⟨(some 78), .mv (.t 1), (some (76, false))⟩,
    ⟨(some 79), .mv (.t 2), (some (76, false))⟩,
    ⟨(some 80), .mv (.t 16), (some (76, false))⟩,
    ⟨(some 81), .mv (.t 4), (some (76, false))⟩,
    ⟨(some 82), .callf 26 [.t 77, .t 78, .t 79, .t 80, .t 81], (some (76, false))⟩,
    ⟨(some 83), .load true 3 (.t 17), (some (76, false))⟩,
    ⟨(some 84), .eqagg [1, 1, 1] false (.t 82) (.t 83), (some (76, false))⟩,
    ⟨(some 85), .pick (.t 76) (.c (.bool true)) (.t 84), none⟩]
def r12_13p : List (List Nat) := [[], [0], [0, 1], [0, 1, 2], [0, 1, 2, 3], [0, 1, 2, 3, 4], [0, 1, 2, 3, 4, 5], [0, 1, 2, 3, 4, 5, 6], [0, 1, 2, 3, 4, 5, 6], [0, 1, 2, 3, 4, 5, 6], [0, 1, 2, 3, 4, 5, 6, 9], [0, 1, 2, 3, 4, 5, 6, 9, 10], [0, 1, 2, 3, 4, 5, 6, 8, 9, 10, 11], [0, 1, 2, 3, 4, 5, 6, 8, 9, 10, 11, 12], [0, 1, 2, 3, 4, 5, 6, 7, 8, 9, 10, 11, 12, 13], [0, 1, 2, 3, 4, 5, 6, 7, 8, 9, 10, 11, 12, 13, 14], [0, 1, 2, 3, 4, 5, 6, 7, 8, 9, 10, 11, 12, 13, 14, 15], [0, 1, 2, 3, 4, 5, 6, 7, 8, 9, 10, 11, 12, 13, 14, 15, 16], [0, 1, 2, 3, 4, 5, 6, 7, 8, 9, 10, 11, 12, 13, 14, 15, 16, 17], [0, 1, 2, 3, 4, 5, 6, 7, 8, 9, 10, 11, 12, 13, 14, 15, 16, 17], [0, 1, 2, 3, 4, 5, 6, 7, 8, 9, 10, 11, 12, 13, 14, 15, 16, 17], [0, 1, 2, 3, 4, 5, 6, 7, 8, 9, 10, 11, 12, 13, 14, 15, 16, 17], [0, 1, 2, 3, 4, 5, 6, 7, 8, 9, 10, 11, 12, 13, 14, 15, 16, 17], [0, 1, 2, 3, 4, 5, 6, 7, 8, 9, 10, 11, 12, 13, 14, 15, 16, 17, 18, 19, 20, 21, 22], [0, 1, 2, 3, 4, 5, 6, 7, 8, 9, 10, 11, 12, 13, 14, 15, 16, 17], [0, 1, 2, 3, 4, 5, 6, 7, 8, 9, 10, 11, 12, 13, 14, 15, 16, 17, 18, 19, 20, 21, 22, 23, 24], [0, 1, 2, 3, 4, 5, 6, 7, 8, 9, 10, 11, 12, 13, 14, 15, 16, 17, 18, 19, 20, 21, 22, 23, 24, 25]]
def r12_14 (b : Nat) : List AOper := [
    ⟨(some 86), .mv (.t 15), none⟩,
    ⟨(some 87), .load true 3 (.t 17), none⟩,
    ⟨(some 88), .bslice (b + 5) 3 1 [.int .i64 0, .int .i64 0, .int .i64 0] [(0, 3, .t 87)], none⟩,
    ⟨(some 89), .append (b + 6) 3 24 (.t 86) (.t 88), none⟩,
    ⟨(some 15), .mv (.t 89), none⟩]
def r12_10 (b : Nat) : List AOper := [
    ⟨(some 49), .mv (.t 16), none⟩,
    ⟨(some 50), .bin .add false (.t 49) (.c (.int .i64 1)), none⟩,
    ⟨(some 16), .mv (.t 50), none⟩]
def l12_0 (b : Nat) : ACode := .seq (.seq (.reg false (r12_9 b) []) (.cond (.t 48) (.skip) (.exit 0))) (.seq (.block 1 (.seq (.reg false (r12_11 b) []) (.seq (.reg false (r12_12 b) []) (.seq (.seq (.reg true (r12_13 b) r12_13p) (.cond (.t 85) (.exit 1) (.skip))) (.reg false (r12_14 b) []))))) (.reg false (r12_10 b) []))
def r12_15 (b : Nat) : List AOper := [
    ⟨(some 90), .mv (.t 15), none⟩,
    ⟨(some 91), .len false (.t 90), none⟩,
    ⟨(some 92), .bin .gtr false (.t 91) (.c (.int .i64 4000)), none⟩]
def r12_16 (b : Nat) : List AOper := [
    ⟨(some 93), .build [.nils, .int .i64 0] [(1, 1, .c (.int .i64 2))], none⟩,
    ⟨none, .store 2 (.t 12) (.t 93), none⟩]
def r12_17 (b : Nat) : List AOper := [
    ⟨(some 94), .mv (.t 15), none⟩,
    ⟨(some 95), .build [.nils, .int .i64 0] [(0, 1, .t 94)], none⟩,
    ⟨none, .store 2 (.t 12) (.t 95), none⟩]
def c12 (b : Nat) : ACode := .seq (.reg false (r12_0 b) []) (.seq (.reg false (r12_1 b) []) (.seq (.seq (.reg false (r12_2 b) []) (.cond (.t 32) (.seq (.reg false (r12_3 b) []) (.ret)) (.skip))) (.seq (.reg false (r12_4 b) []) (.seq (.seq (.reg false (r12_5 b) []) (.cond (.t 40) (.seq (.reg false (r12_6 b) []) (.ret)) (.skip))) (.seq (.reg false (r12_7 b) []) (.seq (.seq (.reg false (r12_8 b) []) (.block 0 (.loop (l12_0 b)))) (.seq (.seq (.reg false (r12_15 b) []) (.cond (.t 92) (.seq (.reg false (r12_16 b) []) (.ret)) (.skip))) (.seq (.reg false (r12_17 b) []) (.ret)))))))))
def rs12 : List ARes := [.c 12 true 2]
theorem ck12 : ∃ c, Tryd.f12.body = some c ∧ ∀ b, checkCode Tryd.prog c (c12 b) = true := ⟨_, rfl, fun b => by kernel_rfl⟩
theorem cr12 : checkRess Tryd.prog Tryd.f12.results.toList rs12 = true := by kernel_rfl
def r13_0 (b : Nat) : List AOper := [
    ⟨(some 2), .box (b + 0) (.t 0), none⟩,
    ⟨(some 4), .mv (.c (.int .i64 0)), none⟩]
def r13_1 (b : Nat) : List AOper := [
    ⟨(some 5), .faddr 0 (.t 2), none⟩,
    ⟨(some 6), .load false 1 (.t 5), none⟩,
    ⟨(some 7), .bin .lss false (.t 6) (.c (.int .i64 0)), none⟩,
    ⟨(some 8), .mv (.t 7), none⟩,
    ⟨(some 9), .faddr 1 (.t 2), (some (8, false))⟩,
    ⟨(some 10), .load false 1 (.t 9), (some (8, false))⟩,
    ⟨(some 11), .faddr 0 (.t 2), (some (8, false))⟩,
    ⟨(some 12), .load false 1 (.t 11), (some (8, false))⟩,
    ⟨(some 13), .bin .lss false (.t 10) (.t 12), (some (8, false))⟩,
    ⟨(some 14), .pick (.t 8) (.c (.bool true)) (.t 13), none⟩,
    ⟨(some 15), .mv (.t 14), none⟩,
    ⟨(some 16), .faddr 2 (.t 2), (some (15, false))⟩,
    ⟨(some 17), .load false 1 (.t 16), (some (15, false))⟩,
    ⟨(some 18), .faddr 1 (.t 2), (some (15, false))⟩,
    ⟨(some 19), .load false 1 (.t 18), (some (15, false))⟩,
    ⟨(some 20), .bin .lss false (.t 17) (.t 19), (some (15, false))⟩,
    ⟨(some 21), .pick (.t 15) (.c (.bool true)) (.t 20), none⟩,
    ⟨(some 22), .mv (.t 21), none⟩,
    ⟨(some 23), .faddr 3 (.t 2), (some (22, false))⟩,
    ⟨(some 24), .load false 1 (.t 23), (some (22, false))⟩,
    ⟨(some 25), .faddr 2 (.t 2), (some (22, false))⟩,
    ⟨(some 26), .load false 1 (.t 25), (some (22, false))⟩,
    ⟨(some 27), .bin .lss false (.t 24) (.t 26), (some (22, false))⟩,
    ⟨(some 28), .pick (.t 22) (.c (.bool true)) (.t 27), none⟩,
    ⟨(some 29), .mv (.t 28), none⟩,
    ⟨(some 30), .faddr 3 (.t 2), (some (29, false))⟩,
    ⟨(some 31), .load false 1 (.t 30), (some (29, false))⟩,
    ⟨(some 32), .bin .gtr false (.t 31) (.c (.int .i64 14609)), (some (29, false))⟩,
    ⟨(some 33), .pick (.t 29) (.c (.bool true)) (.t 32), none⟩]
def r13_2 (b : Nat) : List AOper := [
    ⟨(some 4), .mv (.c (.int .i64 3)), none⟩]
def r13_3 (b : Nat) : List AOper := [
    ⟨(some 34), .mv (.t 1), none⟩,
    ⟨(some 35), .len false (.t 34), none⟩,
    ⟨(some 36), .bin .gtr false (.t 35) (.c (.int .i64 100)), none⟩]
def r13_4 (b : Nat) : List AOper := [
    ⟨(some 4), .mv (.c (.int .i64 2)), none⟩]
def r13_5 (b : Nat) : List AOper := [
    ⟨(some 37), .mv (.t 1), none⟩,
    ⟨(some 38), .callf 27 [.t 37, .c (.fn 28 [])], none⟩]
def r13_6 (b : Nat) : List AOper := [
    ⟨(some 4), .mv (.c (.int .i64 1)), none⟩]
def r13_7 (b : Nat) : List AOper := [
    ⟨(some 4), .mv (.c (.int .i64 0)), none⟩]
def c13 (b : Nat) : ACode := .seq (.reg false (r13_0 b) []) (.seq (.seq (.reg false (r13_1 b) []) (.cond (.t 33) (.seq (.reg false (r13_2 b) []) (.ret)) (.skip))) (.seq (.seq (.reg false (r13_3 b) []) (.cond (.t 36) (.seq (.reg false (r13_4 b) []) (.ret)) (.skip))) (.seq (.seq (.reg false (r13_5 b) []) (.cond (.t 38) (.seq (.reg false (r13_6 b) []) (.ret)) (.skip))) (.seq (.reg false (r13_7 b) []) (.ret)))))
def rs13 : List ARes := [.t 4]
theorem ck13 : ∃ c, Tryd.f13.body = some c ∧ ∀ b, checkCode Tryd.prog c (c13 b) = true := ⟨_, rfl, fun b => by kernel_rfl⟩
theorem cr13 : checkRess Tryd.prog Tryd.f13.results.toList rs13 = true := by kernel_rfl
def r14_0 (b : Nat) : List AOper := [
    ⟨(some 2), .box (b + 0) (.t 0), none⟩,
    ⟨(some 4), .mv (.c (.int .i64 0)), none⟩]
def r14_1 (b : Nat) : List AOper := [
    ⟨(some 7), .faddr 0 (.t 2), none⟩,
    ⟨(some 8), .load false 1 (.t 7), none⟩,
    ⟨(some 9), .bin .lss false (.t 8) (.c (.int .i64 0)), none⟩,
    ⟨(some 10), .mv (.t 9), none⟩,
    ⟨(some 11), .faddr 1 (.t 2), (some (10, false))⟩,
    ⟨(some 12), .load false 1 (.t 11), (some (10, false))⟩,
    ⟨(some 13), .faddr 0 (.t 2), (some (10, false))⟩,
    ⟨(some 14), .load false 1 (.t 13), (some (10, false))⟩,
    ⟨(some 15), .bin .lss false (.t 12) (.t 14), (some (10, false))⟩,
    ⟨(some 16), .pick (.t 10) (.c (.bool true)) (.t 15), none⟩,
    ⟨(some 17), .mv (.t 16), none⟩,
    ⟨(some 18), .faddr 2 (.t 2), (some (17, false))⟩,
    ⟨(some 19), .load false 1 (.t 18), (some (17, false))⟩,
    ⟨(some 20), .faddr 1 (.t 2), (some (17, false))⟩,
    ⟨(some 21), .load false 1 (.t 20), (some (17, false))⟩,
    ⟨(some 22), .bin .lss false (.t 19) (.t 21), (some (17, false))⟩,
    ⟨(some 23), .pick (.t 17) (.c (.bool true)) (.t 22), none⟩,
    ⟨(some 24), .mv (.t 23), none⟩,
    ⟨(some 25), .faddr 3 (.t 2), (some (24, false))⟩,
    ⟨(some 26), .load false 1 (.t 25), (some (24, false))⟩,
    ⟨(some 27), .faddr 2 (.t 2), (some (24, false))⟩,
    ⟨(some 28), .load false 1 (.t 27), (some (24, false))⟩,
    ⟨(some 29), .bin .lss false (.t 26) (.t 28), (some (24, false))⟩,
    ⟨(some 30), .pick (.t 24) (.c (.bool true)) (.t 29), none⟩,
    ⟨(some 31), .mv (.t 30), none⟩,
    ⟨(some 32), .faddr 3 (.t 2), (some (31, false))⟩,
    ⟨(some 33), .load false 1 (.t 32), (some (31, false))⟩,
    ⟨(some 34), .bin .gtr false (.t 33) (.c (.int .i64 14609)), (some (31, false))⟩,
    ⟨(some 35), .pick (.t 31) (.c (.bool true)) (.t 34), none⟩]
def r14_2 (b : Nat) : List AOper := [
    ⟨(some 4), .mv (.c (.int .i64 3)), none⟩]
def r14_3 (b : Nat) : List AOper := [
    ⟨(some 36), .mv (.t 1), none⟩,
    ⟨(some 37), .len false (.t 36), none⟩,
    ⟨(some 38), .bin .gtr false (.t 37) (.c (.int .i64 100)), none⟩]
def r14_4 (b : Nat) : List AOper := [
    ⟨(some 4), .mv (.c (.int .i64 2)), none⟩]
def r14_5 (b : Nat) : List AOper := [
    ⟨(some 5), .mv (.c (.int .i64 0)), none⟩]
def r14_6 (b : Nat) : List AOper := [
    ⟨(some 39), .mv (.t 5), none⟩,
    ⟨(some 40), .mv (.t 1), none⟩,
    ⟨(some 41), .len false (.t 40), none⟩,
    ⟨(some 42), .bin .lss false (.t 39) (.t 41), none⟩]
def r14_8 (b : Nat) : List AOper := [
    ⟨(some 45), .mv (.t 1), none⟩,
    ⟨(some 46), .mv (.t 5), none⟩,
    ⟨(some 47), .iaddrS 3 (.t 45) (.t 46), none⟩,
    ⟨(some 48), .faddr 0 (.t 47), none⟩,
    ⟨(some 49), .load false 1 (.t 48), none⟩,
    ⟨(some 50), .callf 30 [.t 49], none⟩,
    ⟨(some 6), .mv (.t 50), none⟩]
def r14_9 (b : Nat) : List AOper := [
    ⟨(some 51), .mv (.t 6), none⟩,
    ⟨(some 52), .not (.t 51), none⟩,
    ⟨(some 53), .mv (.t 52), none⟩,
    ⟨(some 54), .mv (.t 1), (some (53, false))⟩,
    ⟨(some 55), .mv (.t 5), (some (53, false))⟩,
    ⟨(some 56), .iaddrS 3 (.t 54) (.t 55), (some (53, false))⟩,
    ⟨(some 57), .faddr 1 (.t 56), (some (53, false))⟩,
    ⟨(some 58), .load false 1 (.t 57), (some (53, false))⟩,
    ⟨(some 59), .bin .lss false (.t 58) (.c (.int .i64 0)), (some (53, false))⟩,
    ⟨(some 60), .pick (.t 53) (.c (.bool true)) (.t 59), none⟩,
    ⟨(some 61), .mv (.t 60), none⟩,
    ⟨(some 62), .mv (.t 1), (some (61, false))⟩,
    ⟨(some 63), .mv (.t 5), (some (61, false))⟩,
    ⟨(some 64), .iaddrS 3 (.t 62) (.t 63), (some (61, false))⟩,
    ⟨(some 65), .faddr 1 (.t 64), (some (61, false))⟩,
    ⟨(some 66), .load false 1 (.t 65), (some (61, false))⟩,
    ⟨(some 67), .mv (.t 1), (some (61, false))⟩,
    ⟨(some 68), .mv (.t 5), (some (61, false))⟩,
    ⟨(some 69), .iaddrS 3 (.t 67) (.t 68), (some (61, false))⟩,
    ⟨(some 70), .faddr 2 (.t 69), (some (61, false))⟩,
    ⟨(some 71), .load false 1 (.t 70), (some (61, false))⟩,
    ⟨(some 72), .bin .geq false (.t 66) (.t 71), (some (61, false))⟩,
    ⟨(some 73), .pick (.t 61) (.c (.bool true)) (.t 72), none⟩,
    ⟨(some 74), .mv (.t 73), none⟩,
    ⟨(some 75), .mv (.t 1), (some (74, false))⟩,
    ⟨(some 76), .mv (.t 5), (some (74, false))⟩,
    ⟨(some 77), .iaddrS 3 (.t 75) (.t 76), (some (74, false))⟩,
    ⟨(some 78), .faddr 2 (.t 77), (some (74, false))⟩,
    ⟨(some 79), .load false 1 (.t 78), (some (74, false))⟩,
    ⟨(some 80), .bin .gtr false (.t 79) (.c (.int .i64 1402560)), (some (74, false))⟩,
    ⟨(some 81), .pick (.t 74) (.c (.bool true)) (.t 80), none⟩]
def r14_9p : List (List Nat) := [[], [0], [0, 1], [0, 1, 2], [0, 1, 2], [0, 1, 2, 3, 4], [0, 1, 2, 3, 4, 5], [0, 1, 2, 3, 4, 5, 6], [0, 1, 2, 3, 4, 5, 6, 7], [0, 1, 2, 3, 4, 5, 6, 7, 8], [0, 1, 2, 3, 4, 5, 6, 7, 8, 9], [0, 1, 2, 3, 4, 5, 6, 7, 8, 9, 10], [0, 1, 2, 3, 4, 5, 6, 7, 8, 9, 10], [0, 1, 2, 3, 4, 5, 6, 7, 8, 9, 10, 11, 12], [0, 1, 2, 3, 4, 5, 6, 7, 8, 9, 10, 11, 12, 13], [0, 1, 2, 3, 4, 5, 6, 7, 8, 9, 10, 11, 12, 13, 14], [0, 1, 2, 3, 4, 5, 6, 7, 8, 9, 10], [0, 1, 2, 3, 4, 5, 6, 7, 8, 9, 10], [0, 1, 2, 3, 4, 5, 6, 7, 8, 9, 10, 16, 17], [0, 1, 2, 3, 4, 5, 6, 7, 8, 9, 10, 16, 17, 18], [0, 1, 2, 3, 4, 5, 6, 7, 8, 9, 10, 16, 17, 18, 19], [0, 1, 2, 3, 4, 5, 6, 7, 8, 9, 10, 11, 12, 13, 14, 15, 16, 17, 18, 19, 20], [0, 1, 2, 3, 4, 5, 6, 7, 8, 9, 10, 11, 12, 13, 14, 15, 16, 17, 18, 19, 20, 21], [0, 1, 2, 3, 4, 5, 6, 7, 8, 9, 10, 11, 12, 13, 14, 15, 16, 17, 18, 19, 20, 21, 22], [0, 1, 2, 3, 4, 5, 6, 7, 8, 9, 10, 11, 12, 13, 14, 15, 16, 17, 18, 19, 20, 21, 22, 23], [0, 1, 2, 3, 4, 5, 6, 7, 8, 9, 10, 11, 12, 13, 14, 15, 16, 17, 18, 19, 20, 21, 22, 23], [0, 1, 2, 3, 4, 5, 6, 7, 8, 9, 10, 11, 12, 13, 14, 15, 16, 17, 18, 19, 20, 21, 22, 23, 24, 25], [0, 1, 2, 3, 4, 5, 6, 7, 8, 9, 10, 11, 12, 13, 14, 15, 16, 17, 18, 19, 20, 21, 22, 23, 24, 25, 26], [0, 1, 2, 3, 4, 5, 6, 7, 8, 9, 10, 11, 12, 13, 14, 15, 16, 17, 18, 19, 20, 21, 22, 23, 24, 25, 26, 27], [0, 1, 2, 3, 4, 5, 6, 7, 8, 9, 10, 11, 12, 13, 14, 15, 16, 17, 18, 19, 20, 21, 22, 23, 24, 25, 26, 27, 28], [0, 1, 2, 3, 4, 5, 6, 7, 8, 9, 10, 11, 12, 13, 14, 15, 16, 17, 18, 19, 20, 21, 22, 23, 24, 25, 26, 27, 28, 29]]
def r14_10 (b : Nat) : List AOper := [
    ⟨(some 4), .mv (.c (.int .i64 1)), none⟩]
def r14_7 (b : Nat) : List AOper := [
    ⟨(some 43), .mv (.t 5), none⟩,
    ⟨(some 44), .bin .add false (.t 43) (.c (.int .i64 1)), none⟩,
    ⟨(some 5), .mv (.t 44), none⟩]
def l14_0 (b : Nat) : ACode := .seq (.seq (.reg false (r14_6 b) []) (.cond (.t 42) (.skip) (.exit 0))) (.seq (.block 1 (.seq (.reg false (r14_8 b) []) (.seq (.reg true (r14_9 b) r14_9p) (.cond (.t 81) (.seq (.reg false (r14_10 b) []) (.ret)) (.skip))))) (.reg false (r14_7 b) []))
def r14_11 (b : Nat) : List AOper := [
    ⟨(some 4), .mv (.c (.int .i64 0)), none⟩]
def c14 (b : Nat) : ACode := .seq (.reg false (r14_0 b) []) (.seq (.seq (.reg false (r14_1 b) []) (.cond (.t 35) (.seq (.reg false (r14_2 b) []) (.ret)) (.skip))) (.seq (.seq (.reg false (r14_3 b) []) (.cond (.t 38) (.seq (.reg false (r14_4 b) []) (.ret)) (.skip))) (.seq (.seq (.reg false (r14_5 b) []) (.block 0 (.loop (l14_0 b)))) (.seq (.reg false (r14_11 b) []) (.ret)))))
def rs14 : List ARes := [.t 4]
theorem ck14 : ∃ c, Tryd.f14.body = some c ∧ ∀ b, checkCode Tryd.prog c (c14 b) = true := ⟨_, rfl, fun b => by kernel_rfl⟩
theorem cr14 : checkRess Tryd.prog Tryd.f14.results.toList rs14 = true := by kernel_rfl
def r15_0 (b : Nat) : List AOper := [
    ⟨(some 4), .mv (.c (.bool false)), none⟩]
def r15_1 (b : Nat) : List AOper := [
    ⟨(some 6), .mv (.t 0), none⟩,
    ⟨(some 7), .len false (.t 6), none⟩,
    ⟨(some 8), .mv (.t 1), none⟩,
    ⟨(some 9), .len false (.t 8), none⟩,
    ⟨(some 10), .bin .neq false (.t 7) (.t 9), none⟩]
def r15_2 (b : Nat) : List AOper := [
    ⟨(some 4), .mv (.c (.bool false)), none⟩]
def r15_3 (b : Nat) : List AOper := [
    ⟨(some 5), .mv (.c (.int .i64 0)), none⟩]
def r15_4 (b : Nat) : List AOper := [
    ⟨(some 11), .mv (.t 5), none⟩,
    ⟨(some 12), .mv (.t 0), none⟩,
    ⟨(some 13), .len false (.t 12), none⟩,
    ⟨(some 14), .bin .lss false (.t 11) (.t 13), none⟩]
def r15_6 (b : Nat) : List AOper := [
    ⟨(some 17), .mv (.t 0), none⟩,
    ⟨(some 18), .mv (.t 5), none⟩,
    ⟨(some 19), .iaddrS 3 (.t 17) (.t 18), none⟩,
    ⟨(some 20), .load true 3 (.t 19), none⟩,
    ⟨(some 21), .mv (.t 1), none⟩,
    ⟨(some 22), .mv (.t 5), none⟩,
    ⟨(some 23), .iaddrS 3 (.t 21) (.t 22), none⟩,
    ⟨(some 24), .load true 3 (.t 23), none⟩,
    ⟨(some 25), .eqagg [1, 1, 1] true (.t 20) (.t 24), none⟩]
def r15_6p : List (List Nat) := [[], [], [0, 1], [0, 1, 2], [], [], [4, 5], [4, 5, 6], [0, 1, 2, 3, 4, 5, 6, 7]]
def r15_7 (b : Nat) : List AOper := [
    ⟨(some 4), .mv (.c (.bool false)), none⟩]
def r15_5 (b : Nat) : List AOper := [
    ⟨(some 15), .mv (.t 5), none⟩,
    ⟨(some 16), .bin .add false (.t 15) (.c (.int .i64 1)), none⟩,
    ⟨(some 5), .mv (.t 16), none⟩]
def l15_0 (b : Nat) : ACode := .seq (.seq (.reg false (r15_4 b) []) (.cond (.t 14) (.skip) (.exit 0))) (.seq (.block 1 (.seq (.reg true (r15_6 b) r15_6p) (.cond (.t 25) (.seq (.reg false (r15_7 b) []) (.ret)) (.skip)))) (.reg false (r15_5 b) []))
def r15_8 (b : Nat) : List AOper := [
    ⟨(some 4), .mv (.c (.bool true)), none⟩]
def c15 (b : Nat) : ACode := .seq (.reg false (r15_0 b) []) (.seq (.seq (.reg false (r15_1 b) []) (.cond (.t 10) (.seq (.reg false (r15_2 b) []) (.ret)) (.skip))) (.seq (.seq (.reg false (r15_3 b) []) (.block 0 (.loop (l15_0 b)))) (.seq (.reg false (r15_8 b) []) (.ret))))
def rs15 : List ARes := [.t 4]
theorem ck15 : ∃ c, Tryd.f15.body = some c ∧ ∀ b, checkCode Tryd.prog c (c15 b) = true := ⟨_, rfl, fun b => by kernel_rfl⟩
theorem cr15 : checkRess Tryd.prog Tryd.f15.results.toList rs15 = true := by kernel_rfl
def r16_0 (b : Nat) : List AOper := [
    ⟨(some 1), .box (b + 0) (.t 0), none⟩,
    ⟨(some 2), .mv (.c (.nils)), none⟩,
    ⟨(some 3), .mv (.c (.int .i64 0)), none⟩]
def r16_1 (b : Nat) : List AOper := [
    ⟨(some 10), .load true 2 (.t 1), none⟩,
    ⟨(some 11), .callf 31 [.t 10], none⟩,
    ⟨(some 12), .not (.t 11), none⟩]
def r16_2 (b : Nat) : List AOper := [
    ⟨(some 2), .mv (.c (.nils)), none⟩,
    ⟨(some 3), .mv (.c (.int .i64 1)), none⟩]
def r16_3 (b : Nat) : List AOper := [
    ⟨(some 4), .mv (.c (.nils)), none⟩]
def r16_4 (b : Nat) : List AOper := [
    ⟨(some 13), .faddr 1 (.t 1), none⟩,
    ⟨(some 14), .load false 1 (.t 13), none⟩,
    ⟨(some 15), .len false (.t 14), none⟩,
    ⟨(some 16), .mv (.c (.int .i64 0)), none⟩]
def r16_5 (b : Nat) : List AOper := [
    ⟨(some 17), .bin .lss false (.t 16) (.t 15), none⟩]
def r16_6 (b : Nat) : List AOper := [
    ⟨(some 18), .mv (.t 16), none⟩,
    ⟨(some 19), .iaddrS 1 (.t 14) (.t 16), none⟩,
    ⟨(some 20), .load false 1 (.t 19), none⟩,
    ⟨(some 5), .mv (.t 18), none⟩,
    ⟨(some 6), .mv (.t 20), none⟩]
def r16_7 (b : Nat) : List AOper := [
    ⟨(some 21), .mv (.t 4), none⟩,
    ⟨(some 22), .faddr 0 (.t 1), none⟩,
    ⟨(some 23), .load false 1 (.t 22), none⟩,
    ⟨(some 24), .mv (.t 5), none⟩,
    ⟨(some 25), .bin .add false (.t 23) (.t 24), none⟩,
    ⟨(some 26), .faddr 0 (.t 1), none⟩,
    ⟨(some 27), .load false 1 (.t 26), none⟩,
    ⟨(some 28), .mv (.t 5), none⟩,
    ⟨(some 29), .bin .add false (.t 27) (.t 28), none⟩,
    ⟨(some 30), .bin .add false (.t 29) (.c (.int .i64 1)), none⟩,
    ⟨(some 31), .mv (.t 6), none⟩,
    ⟨(some 32), .callf 32 [.t 25, .t 30, .t 31], none⟩,
    ⟨(some 33), .bslice (b + 1) 5 1 [.int .i64 0, .int .i64 0, .nils, .int .i64 0, .int .i64 0] [(0, 5, .t 32)], none⟩,
    ⟨(some 34), .append (b + 2) 5 56 (.t 21) (.t 33), none⟩,
    ⟨(some 4), .mv (.t 34), none⟩]
def r16_8 (b : Nat) : List AOper := [
    ⟨(some 35), .mv (.t 4), none⟩,
    ⟨(some 36), .len false (.t 35), none⟩,
    ⟨(some 7), .mv (.t 36), none⟩]
def r16_9 (b : Nat) : List AOper := [
    ⟨(some 37), .mv (.t 7), none⟩,
    ⟨(some 38), .bin .gtr false (.t 37) (.c (.int .i64 1)), none⟩]
def r16_10 (b : Nat) : List AOper := [
    ⟨(some 40), .mv (.t 4), none⟩,
    ⟨(some 41), .mv (.t 7), none⟩,
    ⟨(some 42), .bin .sub false (.t 41) (.c (.int .i64 2)), none⟩,
    ⟨(some 43), .iaddrS 5 (.t 40) (.t 42), none⟩,
    ⟨(some 44), .load true 5 (.t 43), none⟩,
    ⟨(some 45), .mv (.t 4), none⟩,
    ⟨(some 46), .mv (.t 7), none⟩,
    ⟨(some 47), .bin .sub false (.t 46) (.c (.int .i64 1)), none⟩,
    ⟨(some 48), .iaddrS 5 (.t 45) (.t 47), none⟩,
    ⟨(some 49), .load true 5 (.t 48), none⟩,
    ⟨(some 50), .callf 33 [.t 44, .t 49], none⟩,
    ⟨(some 39), .mv (.t 50), none⟩,
    ⟨(some 51), .extract 0 (.t 39), none⟩,
    ⟨(some 52), .extract 1 (.t 39), none⟩,
    ⟨(some 8), .alloc (b + 3) [.int .i64 0, .int .i64 0, .nils, .int .i64 0, .int .i64 0], none⟩,
    ⟨none, .store 5 (.t 8) (.t 51), none⟩,
    ⟨(some 9), .mv (.t 52), none⟩]
def r16_10p : List (List Nat) := [[], [], [1], [0, 1, 2], [0, 1, 2, 3], [], [], [6], [5, 6, 7], [5, 6, 7, 8], [0, 1, 2, 3, 4, 5, 6, 7, 8, 9], [0, 1, 2, 3, 4, 5, 6, 7, 8, 9, 10], [0, 1, 2, 3, 4, 5, 6, 7, 8, 9, 10, 11], [0, 1, 2, 3, 4, 5, 6, 7, 8, 9, 10, 11], [], [0, 1, 2, 3, 4, 5, 6, 7, 8, 9, 10, 11, 12, 14], [0, 1, 2, 3, 4, 5, 6, 7, 8, 9, 10, 11, 12, 13, 14, 15]]
def r16_11 (b : Nat) : List AOper := [
    ⟨(some 53), .mv (.t 9), none⟩]
def r16_12 (b : Nat) : List AOper := [
    ⟨(some 54), .mv (.t 4), none⟩,
    ⟨(some 55), .mv (.t 7), none⟩,
    ⟨(some 56), .bin .sub false (.t 55) (.c (.int .i64 2)), none⟩,
    ⟨(some 57), .slice false 5 (.t 54) none (some (.t 56)), none⟩,
    ⟨(some 58), .load true 5 (.t 8), none⟩,
    ⟨(some 59), .bslice (b + 4) 5 1 [.int .i64 0, .int .i64 0, .nils, .int .i64 0, .int .i64 0] [(0, 5, .t 58)], none⟩,
    ⟨(some 60), .append (b + 5) 5 56 (.t 57) (.t 59), none⟩,
    ⟨(some 4), .mv (.t 60), none⟩]
def r16_12p : List (List Nat) := [[], [], [1], [0, 1, 2], [], [4], [0, 1, 2, 3, 4, 5], [0, 1, 2, 3, 4, 5, 6]]
def r16_13 (b : Nat) : List AOper := [
    ⟨(some 61), .bin .add false (.t 16) (.c (.int .i64 1)), none⟩,
    ⟨(some 16), .mv (.t 61), none⟩]
def l16_0 (b : Nat) : ACode := .seq (.reg false (r16_5 b) []) (.seq (.cond (.t 17) (.skip) (.exit 0)) (.seq (.block 1 (.seq (.reg false (r16_6 b) []) (.seq (.reg false (r16_7 b) []) (.seq (.reg false (r16_8 b) []) (.seq (.reg false (r16_9 b) []) (.cond (.t 38) (.seq (.reg true (r16_10 b) r16_10p) (.seq (.reg false (r16_11 b) []) (.cond (.t 53) (.reg true (r16_12 b) r16_12p) (.skip)))) (.skip))))))) (.reg false (r16_13 b) [])))
def r16_14 (b : Nat) : List AOper := [
    ⟨(some 62), .mv (.t 4), none⟩,
    ⟨(some 63), .len false (.t 62), none⟩,
    ⟨(some 64), .bin .gtr false (.t 63) (.c (.int .i64 2000)), none⟩]
def r16_15 (b : Nat) : List AOper := [
    ⟨(some 2), .mv (.c (.nils)), none⟩,
    ⟨(some 3), .mv (.c (.int .i64 2)), none⟩]
def r16_16 (b : Nat) : List AOper := [
    ⟨(some 65), .mv (.t 4), none⟩,
    ⟨(some 2), .mv (.t 65), none⟩,
    ⟨(some 3), .mv (.c (.int .i64 0)), none⟩]
def c16 (b : Nat) : ACode := .seq (.reg false (r16_0 b) []) (.seq (.seq (.reg false (r16_1 b) []) (.cond (.t 12) (.seq (.reg false (r16_2 b) []) (.ret)) (.skip))) (.seq (.reg false (r16_3 b) []) (.seq (.seq (.reg false (r16_4 b) []) (.block 0 (.loop (l16_0 b)))) (.seq (.seq (.reg false (r16_14 b) []) (.cond (.t 64) (.seq (.reg false (r16_15 b) []) (.ret)) (.skip))) (.seq (.reg false (r16_16 b) []) (.ret))))))
def rs16 : List ARes := [.t 2, .t 3]
theorem ck16 : ∃ c, Tryd.f16.body = some c ∧ ∀ b, checkCode Tryd.prog c (c16 b) = true := ⟨_, rfl, fun b => by kernel_rfl⟩
theorem cr16 : checkRess Tryd.prog Tryd.f16.results.toList rs16 = true := by kernel_rfl
def r17_0 (b : Nat) : List AOper := [
    ⟨(some 4), .mv (.c (.nils)), none⟩,
    ⟨(some 5), .mv (.c (.int .i64 0)), none⟩]
def r17_1 (b : Nat) : List AOper := [
    ⟨(some 17), .mv (.t 0), none⟩,
    ⟨(some 18), .callf 34 [.t 17], none⟩,
    ⟨(some 6), .mv (.t 18), none⟩]
def r17_2 (b : Nat) : List AOper := [
    ⟨(some 19), .mv (.t 6), none⟩,
    ⟨(some 20), .bin .neq false (.t 19) (.c (.int .i64 0)), none⟩]
def r17_3 (b : Nat) : List AOper := [
    ⟨(some 21), .mv (.t 6), none⟩,
    ⟨(some 4), .mv (.c (.nils)), none⟩,
    ⟨(some 5), .mv (.t 21), none⟩]
def r17_4 (b : Nat) : List AOper := [
    ⟨(some 7), .mv (.c (.int .i64 0)), none⟩]
def r17_5 (b : Nat) : List AOper := [
    ⟨(some 22), .mv (.t 1), none⟩,
    ⟨(some 23), .len false (.t 22), none⟩,
    ⟨(some 24), .mv (.c (.int .i64 0)), none⟩]
def r17_6 (b : Nat) : List AOper := [
    ⟨(some 25), .bin .lss false (.t 24) (.t 23), none⟩]
def r17_7 (b : Nat) : List AOper := [
    ⟨(some 26), .iaddrS 3 (.t 22) (.t 24), none⟩,
    ⟨(some 27), .load true 3 (.t 26), none⟩,
    ⟨(some 9), .alloc (b + 0) [.int .i64 0, .int .i64 0, .int .i64 0], none⟩,
    ⟨none, .store 3 (.t 9) (.t 27), none⟩]
def r17_8 (b : Nat) : List AOper := [
    ⟨(some 28), .faddr 0 (.t 9), none⟩,
    ⟨(some 29), .load false 1 (.t 28), none⟩,
    ⟨(some 30), .bin .eql false (.t 29) (.c (.int .i64 0)), none⟩]
def r17_9 (b : Nat) : List AOper := [
    ⟨(some 31), .load true 3 (.t 9), none⟩,
    ⟨(some 32), .callf 35 [.t 31], none⟩,
    ⟨(some 33), .not (.t 32), none⟩,
    ⟨(some 34), .mv (.t 33), none⟩,
    ⟨(some 35), .mv (.t 0), (some (34, false))⟩,
    ⟨(some 36), .len false (.t 35), (some (34, false))⟩,
    ⟨(some 37), .bin .eql false (.t 36) (.c (.int .i64 0)), (some (34, false))⟩,
    ⟨(some 38), .pick (.t 34) (.c (.bool true)) (.t 37), none⟩,
    ⟨(some 39), .mv (.t 38), none⟩,
    ⟨(some 40), .faddr 1 (.t 9), (some (39, false))⟩,
    ⟨(some 41), .load false 1 (.t 40), (some (39, false))⟩,
    ⟨(some 42), .mv (.t 0), (some (39, false))⟩,
    ⟨(some 43), .iaddrS 5 (.t 42) (.c (.int .i64 0)), (some (39, false))⟩,
    ⟨(some 44), .faddr 0 (.t 43), (some (39, false))⟩,
    ⟨(some 45), .load false 1 (.t 44), (some (39, false))⟩,
    ⟨(some 46), .bin .lss false (.t 41) (.t 45), (some (39, false))⟩,
    ⟨(some 47), .pick (.t 39) (.c (.bool true)) (.t 46), none⟩,
    ⟨(some 48), .mv (.t 47), none⟩,
    ⟨(some 49), .faddr 2 (.t 9), (some (48, false))⟩,
    ⟨(some 50), .load false 1 (.t 49), (some (48, false))⟩,
    ⟨(some 51), .mv (.t 0), (some (48, false))⟩,
    ⟨(some 52), .mv (.t 0), (some (48, false))⟩,
    ⟨(some 53), .len false (.t 52), (some (48, false))⟩,
    ⟨(some 54), .bin .sub false (.t 53) (.c (.int .i64 1)), (some (48, false))⟩,
    ⟨(some 55), .iaddrS 5 (.t 51) (.t 54), (some (48, false))⟩,
    ⟨(some 56), .faddr 1 (.t 55), (some (48, false))⟩,
    ⟨(some 57), .load false 1 (.t 56), (some (48, false))⟩,
    ⟨(some 58), .bin .gtr false (.t 50) (.t 57), (some (48, false))⟩,
    ⟨(some 59), .pick (.t 48) (.c (.bool true)) (.t 58), none⟩,
    ⟨(some 60), .mv (.t 59), none⟩,
    ⟨(some 61), .faddr 1 (.t 9), (some (60, false))⟩,
    ⟨(some 62), .load false 1 (.t 61), (some (60, false))⟩,
    ⟨(some 63), .mv (.t 7), (some (60, false))⟩,
    ⟨(some 64), .bin .lss false (.t 62) (.t 63), (some (60, false))⟩,
    ⟨(some 65), .pick (.t 60) (.c (.bool true)) (.t 64), none⟩]
def r17_9p : List (List Nat) := [[], [0], [0, 1], [0, 1, 2], [0, 1, 2, 3], [0, 1, 2, 3, 4], [0, 1, 2, 3, 4, 5], [0, 1, 2, 3, 4, 5, 6], [0, 1, 2, 3, 4, 5, 6, 7], [0, 1, 2, 3, 4, 5, 6, 7, 8], [0, 1, 2, 3, 4, 5, 6, 7, 8, 9], [0, 1, 2, 3, 4, 5, 6, 7, 8], [0, 1, 2, 3, 4, 5, 6, 7, 8, 11], [0, 1, 2, 3, 4, 5, 6, 7, 8, 11, 12], [0, 1, 2, 3, 4, 5, 6, 7, 8, 11, 12, 13], [0, 1, 2, 3, 4, 5, 6, 7, 8, 9, 10, 11, 12, 13, 14], [0, 1, 2, 3, 4, 5, 6, 7, 8, 9, 10, 11, 12, 13, 14, 15], [0, 1, 2, 3, 4, 5, 6, 7, 8, 9, 10, 11, 12, 13, 14, 15, 16], [0, 1, 2, 3, 4, 5, 6, 7, 8, 9, 10, 11, 12, 13, 14, 15, 16, 17], [0, 1, 2, 3, 4, 5, 6, 7, 8, 9, 10, 11, 12, 13, 14, 15, 16, 17, 18], [0, 1, 2, 3, 4, 5, 6, 7, 8, 9, 10, 11, 12, 13, 14, 15, 16, 17], [0, 1, 2, 3, 4, 5, 6, 7, 8, 9, 10, 11, 12, 13, 14, 15, 16, 17], [0, 1, 2, 3, 4, 5, 6, 7, 8, 9, 10, 11, 12, 13, 14, 15, 16, 17, 21], [0, 1, 2, 3, 4, 5, 6, 7, 8, 9, 10, 11, 12, 13, 14, 15, 16, 17, 21, 22], [0, 1, 2, 3, 4, 5, 6, 7, 8, 9, 10, 11, 12, 13, 14, 15, 16, 17, 20, 21, 22, 23], [0, 1, 2, 3, 4, 5, 6, 7, 8, 9, 10, 11, 12, 13, 14, 15, 16, 17, 20, 21, 22, 23, 24], [0, 1, 2, 3, 4, 5, 6, 7, 8, 9, 10, 11, 12, 13, 14, 15, 16, 17, 20, 21, 22, 23, 24, 25], [0, 1, 2, 3, 4, 5, 6, 7, 8, 9, 10, 11, 12, 13, 14, 15, 16, 17, 18, 19, 20, 21, 22, 23, 24, 25, 26], [0, 1, 2, 3, 4, 5, 6, 7, 8, 9, 10, 11, 12, 13, 14, 15, 16, 17, 18, 19, 20, 21, 22, 23, 24, 25, 26, 27], [0, 1, 2, 3, 4, 5, 6, 7, 8, 9, 10, 11, 12, 13, 14, 15, 16, 17, 18, 19, 20, 21, 22, 23, 24, 25, 26, 27, 28], [0, 1, 2, 3, 4, 5, 6, 7, 8, 9, 10, 11, 12, 13, 14, 15, 16, 17, 18, 19, 20, 21, 22, 23, 24, 25, 26, 27, 28, 29], [0, 1, 2, 3, 4, 5, 6, 7, 8, 9, 10, 11, 12, 13, 14, 15, 16, 17, 18, 19, 20, 21, 22, 23, 24, 25, 26, 27, 28, 29, 30], [0, 1, 2, 3, 4, 5, 6, 7, 8, 9, 10, 11, 12, 13, 14, 15, 16, 17, 18, 19, 20, 21, 22, 23, 24, 25, 26, 27, 28, 29], [0, 1, 2, 3, 4, 5, 6, 7, 8, 9, 10, 11, 12, 13, 14, 15, 16, 17, 18, 19, 20, 21, 22, 23, 24, 25, 26, 27, 28, 29, 30, 31, 32], [0, 1, 2, 3, 4, 5, 6, 7, 8, 9, 10, 11, 12, 13, 14, 15, 16, 17, 18, 19, 20, 21, 22, 23, 24, 25, 26, 27, 28, 29, 30, 31, 32, 33]]
def r17_10 (b : Nat) : List AOper := [
    ⟨(some 4), .mv (.c (.nils)), none⟩,
    ⟨(some 5), .mv (.c (.int .i64 1)), none⟩]
def r17_11 (b : Nat) : List AOper := [
    ⟨(some 66), .faddr 2 (.t 9), none⟩,
    ⟨(some 67), .load false 1 (.t 66), none⟩,
    ⟨(some 7), .mv (.t 67), none⟩]
def r17_12 (b : Nat) : List AOper := [
    ⟨(some 68), .bin .add false (.t 24) (.c (.int .i64 1)), none⟩,
    ⟨(some 24), .mv (.t 68), none⟩]
def l17_0 (b : Nat) : ACode := .seq (.reg false (r17_6 b) []) (.seq (.cond (.t 25) (.skip) (.exit 0)) (.seq (.block 1 (.seq (.reg false (r17_7 b) []) (.seq (.seq (.reg false (r17_8 b) []) (.cond (.t 30) (.exit 1) (.skip))) (.seq (.seq (.reg true (r17_9 b) r17_9p) (.cond (.t 65) (.seq (.reg false (r17_10 b) []) (.ret)) (.skip))) (.reg false (r17_11 b) []))))) (.reg false (r17_12 b) [])))
def r17_13 (b : Nat) : List AOper := [
    ⟨(some 10), .mv (.c (.nils)), none⟩]
def r17_14 (b : Nat) : List AOper := [
    ⟨(some 69), .mv (.t 0), none⟩,
    ⟨(some 11), .mv (.t 69), none⟩]
def r17_15 (b : Nat) : List AOper := [
    ⟨(some 70), .mv (.t 1), none⟩,
    ⟨(some 71), .len false (.t 70), none⟩,
    ⟨(some 72), .mv (.c (.int .i64 0)), none⟩]
def r17_16 (b : Nat) : List AOper := [
    ⟨(some 73), .bin .lss false (.t 72) (.t 71), none⟩]
def r17_17 (b : Nat) : List AOper := [
    ⟨(some 74), .iaddrS 3 (.t 70) (.t 72), none⟩,
    ⟨(some 75), .load true 3 (.t 74), none⟩,
    ⟨(some 13), .alloc (b + 1) [.int .i64 0, .int .i64 0, .int .i64 0], none⟩,
    ⟨none, .store 3 (.t 13) (.t 75), none⟩]
def r17_18 (b : Nat) : List AOper := [
    ⟨(some 76), .faddr 0 (.t 13), none⟩,
    ⟨(some 77), .load false 1 (.t 76), none⟩,
    ⟨(some 78), .bin .eql false (.t 77) (.c (.int .i64 0)), none⟩]
def r17_19 (b : Nat) : List AOper := [
    ⟨(some 80), .mv (.t 11), none⟩,
    ⟨(some 81), .faddr 1 (.t 13), none⟩,
    ⟨(some 82), .load false 1 (.t 81), none⟩,
    ⟨(some 83), .callf 36 [.t 80, .t 82], none⟩,
    ⟨(some 79), .mv (.t 83), none⟩,
    ⟨(some 84), .extract 0 (.t 79), none⟩,
    ⟨(some 85), .extract 1 (.t 79), none⟩,
    ⟨(some 86), .extract 2 (.t 79), none⟩,
    ⟨(some 14), .mv (.t 84), none⟩,
    ⟨(some 15), .mv (.t 85), none⟩,
    ⟨(some 16), .mv (.t 86), none⟩]
def r17_20 (b : Nat) : List AOper := [
    ⟨(some 87), .mv (.t 16), none⟩,
    ⟨(some 88), .bin .neq false (.t 87) (.c (.int .i64 0)), none⟩]
def r17_21 (b : Nat) : List AOper := [
    ⟨(some 89), .mv (.t 16), none⟩,
    ⟨(some 4), .mv (.c (.nils)), none⟩,
    ⟨(some 5), .mv (.t 89), none⟩]
def r17_22 (b : Nat) : List AOper := [
    ⟨(some 91), .mv (.t 15), none⟩,
    ⟨(some 92), .faddr 2 (.t 13), none⟩,
    ⟨(some 93), .load false 1 (.t 92), none⟩,
    ⟨(some 94), .callf 36 [.t 91, .t 93], none⟩,
    ⟨(some 90), .mv (.t 94), none⟩,
    ⟨(some 95), .extract 0 (.t 90), none⟩,
    ⟨(some 96), .extract 1 (.t 90), none⟩,
    ⟨(some 97), .extract 2 (.t 90), none⟩,
    ⟨(some 15), .mv (.t 95), none⟩,
    ⟨(some 11), .mv (.t 96), none⟩,
    ⟨(some 16), .mv (.t 97), none⟩]
def r17_23 (b : Nat) : List AOper := [
    ⟨(some 98), .mv (.t 16), none⟩,
    ⟨(some 99), .bin .neq false (.t 98) (.c (.int .i64 0)), none⟩]
def r17_24 (b : Nat) : List AOper := [
    ⟨(some 100), .mv (.t 16), none⟩,
    ⟨(some 4), .mv (.c (.nils)), none⟩,
    ⟨(some 5), .mv (.t 100), none⟩]
def r17_25 (b : Nat) : List AOper := [
    ⟨(some 102), .mv (.t 15), none⟩,
    ⟨(some 103), .callf 18 [.t 102], none⟩,
    ⟨(some 101), .mv (.t 103), none⟩,
    ⟨(some 104), .extract 0 (.t 101), none⟩,
    ⟨(some 105), .extract 1 (.t 101), none⟩,
    ⟨(some 15), .mv (.t 104), none⟩,
    ⟨(some 16), .mv (.t 105), none⟩]
def r17_26 (b : Nat) : List AOper := [
    ⟨(some 106), .mv (.t 16), none⟩,
    ⟨(some 107), .bin .neq false (.t 106) (.c (.int .i64 0)), none⟩]
def r17_27 (b : Nat) : List AOper := [
    ⟨(some 108), .mv (.t 16), none⟩,
    ⟨(some 4), .mv (.c (.nils)), none⟩,
    ⟨(some 5), .mv (.t 108), none⟩]
def r17_28 (b : Nat) : List AOper := [
    ⟨(some 109), .mv (.t 10), none⟩,
    ⟨(some 110), .mv (.t 14), none⟩,
    ⟨(some 111), .append (b + 2) 5 56 (.t 109) (.t 110), none⟩,
    ⟨(some 112), .mv (.t 15), none⟩,
    ⟨(some 113), .append (b + 3) 5 56 (.t 111) (.t 112), none⟩,
    ⟨(some 10), .mv (.t 113), none⟩]
def r17_29 (b : Nat) : List AOper := [
    ⟨(some 114), .mv (.t 11), none⟩,
    ⟨(some 115), .len false (.t 114), none⟩,
    ⟨(some 116), .bin .eql false (.t 115) (.c (.int .i64 0)), none⟩]
def r17_30 (b : Nat) : List AOper := [
    ⟨(some 117), .bin .add false (.t 72) (.c (.int .i64 1)), none⟩,
    ⟨(some 72), .mv (.t 117), none⟩]
def l17_1 (b : Nat) : ACode := .seq (.reg false (r17_16 b) []) (.seq (.cond (.t 73) (.skip) (.exit 2)) (.seq (.block 3 (.seq (.reg false (r17_17 b) []) (.seq (.seq (.reg false (r17_18 b) []) (.cond (.t 78) (.exit 3) (.skip))) (.seq (.reg false (r17_19 b) []) (.seq (.seq (.reg false (r17_20 b) []) (.cond (.t 88) (.seq (.reg false (r17_21 b) []) (.ret)) (.skip))) (.seq (.reg false (r17_22 b) []) (.seq (.seq (.reg false (r17_23 b) []) (.cond (.t 99) (.seq (.reg false (r17_24 b) []) (.ret)) (.skip))) (.seq (.seq (.reg false (r17_25 b) []) (.seq (.reg false (r17_26 b) []) (.cond (.t 107) (.seq (.reg false (r17_27 b) []) (.ret)) (.skip)))) (.seq (.reg false (r17_28 b) []) (.seq (.reg false (r17_29 b) []) (.cond (.t 116) (.exit 2) (.skip)))))))))))) (.reg false (r17_30 b) [])))
def r17_31 (b : Nat) : List AOper := [
    ⟨(some 118), .mv (.t 10), none⟩,
    ⟨(some 119), .mv (.t 11), none⟩,
    ⟨(some 120), .append (b + 4) 5 56 (.t 118) (.t 119), none⟩,
    ⟨(some 121), .callf 37 [.t 120], none⟩,
    ⟨(some 122), .callf 19 [.t 121, .c (.nils)], none⟩,
    ⟨(some 123), .extract 0 (.t 122), none⟩,
    ⟨(some 124), .extract 1 (.t 122), none⟩,
    ⟨(some 4), .mv (.t 123), none⟩,
    ⟨(some 5), .mv (.t 124), none⟩]
def c17 (b : Nat) : ACode := .seq (.reg false (r17_0 b) []) (.seq (.seq (.reg false (r17_1 b) []) (.seq (.reg false (r17_2 b) []) (.cond (.t 20) (.seq (.reg false (r17_3 b) []) (.ret)) (.skip)))) (.seq (.reg false (r17_4 b) []) (.seq (.seq (.reg false (r17_5 b) []) (.block 0 (.loop (l17_0 b)))) (.seq (.reg false (r17_13 b) []) (.seq (.reg false (r17_14 b) []) (.seq (.seq (.reg false (r17_15 b) []) (.block 2 (.loop (l17_1 b)))) (.seq (.reg false (r17_31 b) []) (.ret))))))))
def rs17 : List ARes := [.t 4, .t 5]
theorem ck17 : ∃ c, Tryd.f17.body = some c ∧ ∀ b, checkCode Tryd.prog c (c17 b) = true := ⟨_, rfl, fun b => by kernel_rfl⟩
theorem cr17 : checkRess Tryd.prog Tryd.f17.results.toList rs17 = true := by kernel_rfl
def r18_0 (b : Nat) : List AOper := [
    ⟨(some 2), .alloc (b + 0) [.nils], none⟩,
    ⟨(some 3), .alloc (b + 1) [.int .i64 0], none⟩]
def r18_1 (b : Nat) : List AOper := [
    ⟨(some 19), .mv (.t 0), none⟩,
    ⟨(some 20), .callf 34 [.t 19], none⟩,
    ⟨(some 4), .mv (.t 20), none⟩]
def r18_2 (b : Nat) : List AOper := [
    ⟨(some 21), .mv (.t 4), none⟩,
    ⟨(some 22), .bin .neq false (.t 21) (.c (.int .i64 0)), none⟩]
def r18_3 (b : Nat) : List AOper := [
    ⟨(some 23), .mv (.t 4), none⟩,
    ⟨none, .store 1 (.t 2) (.c (.nils)), none⟩,
    ⟨none, .store 1 (.t 3) (.t 23), none⟩]
def r18_4 (b : Nat) : List AOper := [
    ⟨(some 5), .alloc (b + 2) [.nils], none⟩]
def r18_5 (b : Nat) : List AOper := [
    ⟨(some 24), .mv (.t 0), none⟩,
    ⟨(some 25), .callf 38 [.t 24], none⟩]
def r18_6 (b : Nat) : List AOper := [
    ⟨(some 6), .mv (.t 26), none⟩]
def r18_7 (b : Nat) : List AOper := [
    ⟨(some 27), .mv (.t 6), none⟩,
    ⟨(some 28), .iaddrS 5 (.t 27) (.c (.int .i64 0)), none⟩,
    ⟨(some 29), .load true 5 (.t 28), none⟩,
    ⟨(some 30), .mv (.t 6), none⟩,
    ⟨(some 31), .mv (.t 6), none⟩,
    ⟨(some 32), .len false (.t 31), none⟩,
    ⟨(some 33), .bin .sub false (.t 32) (.c (.int .i64 1)), none⟩,
    ⟨(some 34), .iaddrS 5 (.t 30) (.t 33), none⟩,
    ⟨(some 35), .load true 5 (.t 34), none⟩,
    ⟨(some 7), .alloc (b + 3) [.int .i64 0, .int .i64 0, .nils, .int .i64 0, .int .i64 0], none⟩,
    ⟨(some 8), .alloc (b + 4) [.int .i64 0, .int .i64 0, .nils, .int .i64 0, .int .i64 0], none⟩,
    ⟨none, .store 5 (.t 7) (.t 29), none⟩,
    ⟨none, .store 5 (.t 8) (.t 35), none⟩]
def r18_7p : List (List Nat) := [[], [0], [0, 1], [], [], [4], [4, 5], [3, 4, 5, 6], [3, 4, 5, 6, 7], [], [], [0, 1, 2, 9, 10], [0, 1, 2, 3, 4, 5, 6, 7, 8, 9, 10, 11]]
def r18_8 (b : Nat) : List AOper := [
    ⟨(some 36), .load true 5 (.t 7), none⟩,
    ⟨(some 37), .callf 39 [.t 36], none⟩]
def r18_9 (b : Nat) : List AOper := [
    ⟨(some 38), .load false 1 (.t 5), none⟩,
    ⟨(some 39), .load true 5 (.t 7), none⟩,
    ⟨(some 40), .bslice (b + 5) 5 1 [.int .i64 0, .int .i64 0, .nils, .int .i64 0, .int .i64 0] [(0, 5, .t 39)], none⟩,
    ⟨(some 41), .append (b + 6) 5 56 (.t 38) (.t 40), none⟩,
    ⟨none, .store 1 (.t 5) (.t 41), none⟩]
def r18_10 (b : Nat) : List AOper := [
    ⟨(some 42), .load true 5 (.t 7), none⟩,
    ⟨(some 43), .callf 40 [.t 42], none⟩,
    ⟨(some 44), .not (.t 43), none⟩,
    ⟨(some 45), .mv (.t 44), none⟩,
    ⟨(some 46), .load true 5 (.t 8), (some (45, false))⟩,
    ⟨(some 47), .callf 40 [.t 46], (some (45, false))⟩,
    ⟨(some 48), .not (.t 47), (some (45, false))⟩,
    ⟨(some 49), .pick (.t 45) (.c (.bool true)) (.t 48), none⟩]
def r18_11 (b : Nat) : List AOper := [
    ⟨none, .store 1 (.t 2) (.c (.nils)), none⟩,
    ⟨none, .store 1 (.t 3) (.c (.int .i64 29)), none⟩]
def r18_12 (b : Nat) : List AOper := [
    ⟨(some 50), .faddr 2 (.t 7), none⟩,
    ⟨(some 51), .load false 1 (.t 50), none⟩,
    ⟨(some 52), .iaddrS 2 (.t 51) (.c (.int .i64 0)), none⟩,
    ⟨(some 53), .faddr 0 (.t 52), none⟩,
    ⟨(some 54), .load false 1 (.t 53), none⟩,
    ⟨(some 55), .faddr 2 (.t 8), none⟩,
    ⟨(some 56), .load false 1 (.t 55), none⟩,
    ⟨(some 57), .iaddrS 2 (.t 56) (.c (.int .i64 0)), none⟩,
    ⟨(some 58), .faddr 0 (.t 57), none⟩,
    ⟨(some 59), .load false 1 (.t 58), none⟩,
    ⟨(some 9), .mv (.t 54), none⟩,
    ⟨(some 10), .mv (.t 59), none⟩]
def r18_12p : List (List Nat) := [[], [0], [0, 1], [0, 1, 2], [0, 1, 2, 3], [], [5], [5, 6], [5, 6, 7], [5, 6, 7, 8], [0, 1, 2, 3, 4], [0, 1, 2, 3, 4, 5, 6, 7, 8, 9, 10]]
def r18_13 (b : Nat) : List AOper := [
    ⟨(some 60), .load false 1 (.t 5), none⟩,
    ⟨(some 61), .faddr 0 (.t 7), none⟩,
    ⟨(some 62), .load false 1 (.t 61), none⟩,
    ⟨(some 63), .faddr 0 (.t 7), none⟩,
    ⟨(some 64), .load false 1 (.t 63), none⟩,
    ⟨(some 65), .bin .add false (.t 64) (.c (.int .i64 1)), none⟩,
    ⟨(some 66), .mv (.t 9), none⟩,
    ⟨(some 67), .callf 32 [.t 62, .t 65, .t 66], none⟩,
    ⟨(some 68), .bslice (b + 7) 5 1 [.int .i64 0, .int .i64 0, .nils, .int .i64 0, .int .i64 0] [(0, 5, .t 67)], none⟩,
    ⟨(some 69), .append (b + 8) 5 56 (.t 60) (.t 68), none⟩,
    ⟨none, .store 1 (.t 5) (.t 69), none⟩]
def r18_13p : List (List Nat) := [[], [], [1], [], [3], [3, 4], [], [1, 2, 3, 4, 5, 6], [1, 2, 3, 4, 5, 6, 7], [0, 1, 2, 3, 4, 5, 6, 7, 8], [0, 1, 2, 3, 4, 5, 6, 7, 8, 9]]
def r18_14 (b : Nat) : List AOper := [
    ⟨(some 70), .mkmap (b + 9), none⟩,
    ⟨(some 11), .mv (.t 70), none⟩]
def r18_15 (b : Nat) : List AOper := [
    ⟨(some 71), .mv (.t 6), none⟩,
    ⟨(some 72), .len false (.t 71), none⟩,
    ⟨(some 73), .mv (.c (.int .i64 0)), none⟩]
def r18_16 (b : Nat) : List AOper := [
    ⟨(some 74), .bin .lss false (.t 73) (.t 72), none⟩]
def r18_17 (b : Nat) : List AOper := [
    ⟨(some 75), .iaddrS 5 (.t 71) (.t 73), none⟩,
    ⟨(some 76), .load true 5 (.t 75), none⟩,
    ⟨(some 13), .alloc (b + 10) [.int .i64 0, .int .i64 0, .nils, .int .i64 0, .int .i64 0], none⟩,
    ⟨none, .store 5 (.t 13) (.t 76), none⟩]
def r18_18 (b : Nat) : List AOper := [
    ⟨(some 77), .faddr 2 (.t 13), none⟩,
    ⟨(some 78), .load false 1 (.t 77), none⟩,
    ⟨(some 79), .len false (.t 78), none⟩,
    ⟨(some 80), .mv (.c (.int .i64 0)), none⟩]
def r18_19 (b : Nat) : List AOper := [
    ⟨(some 81), .bin .lss false (.t 80) (.t 79), none⟩]
def r18_20 (b : Nat) : List AOper := [
    ⟨(some 82), .iaddrS 2 (.t 78) (.t 80), none⟩,
    ⟨(some 83), .load true 2 (.t 82), none⟩,
    ⟨(some 15), .alloc (b + 11) [.int .i64 0, .int .i64 0], none⟩,
    ⟨none, .store 2 (.t 15) (.t 83), none⟩]
def r18_21 (b : Nat) : List AOper := [
    ⟨(some 84), .mv (.t 11), none⟩,
    ⟨(some 85), .faddr 0 (.t 15), none⟩,
    ⟨(some 86), .load false 1 (.t 85), none⟩,
    ⟨(some 87), .mlook 1 false (.int .i64 0) (.t 84) (.t 86), none⟩,
    ⟨(some 88), .faddr 1 (.t 15), none⟩,
    ⟨(some 89), .load false 1 (.t 88), none⟩,
    ⟨(some 90), .bin .add false (.t 87) (.t 89), none⟩,
    ⟨none, .mupd 1 (.t 84) (.t 86) (.t 90), none⟩]
def r18_22 (b : Nat) : List AOper := [
    ⟨(some 91), .bin .add false (.t 80) (.c (.int .i64 1)), none⟩,
    ⟨(some 80), .mv (.t 91), none⟩]
def l18_2 (b : Nat) : ACode := .seq (.reg false (r18_19 b) []) (.seq (.cond (.t 81) (.skip) (.exit 4)) (.seq (.block 5 (.seq (.reg false (r18_20 b) []) (.reg false (r18_21 b) []))) (.reg false (r18_22 b) [])))
def r18_23 (b : Nat) : List AOper := [
    ⟨(some 92), .bin .add false (.t 73) (.c (.int .i64 1)), none⟩,
    ⟨(some 73), .mv (.t 92), none⟩]
def l18_1 (b : Nat) : ACode := .seq (.reg false (r18_16 b) []) (.seq (.cond (.t 74) (.skip) (.exit 2)) (.seq (.block 3 (.seq (.reg false (r18_17 b) []) (.seq (.reg false (r18_18 b) []) (.block 4 (.loop (l18_2 b)))))) (.reg false (r18_23 b) [])))
def r18_24 (b : Nat) : List AOper := [
    ⟨(some 93), .mv (.t 11), none⟩,
    ⟨(some 94), .mv (.t 9), none⟩,
    ⟨(some 95), .mlook 1 false (.int .i64 0) (.t 93) (.t 94), none⟩,
    ⟨(some 96), .bin .sub false (.t 95) (.c (.int .i64 1)), none⟩,
    ⟨none, .mupd 1 (.t 93) (.t 94) (.t 96), none⟩]
def r18_25 (b : Nat) : List AOper := [
    ⟨(some 97), .mv (.t 11), none⟩,
    ⟨(some 98), .mv (.t 10), none⟩,
    ⟨(some 99), .mlook 1 false (.int .i64 0) (.t 97) (.t 98), none⟩,
    ⟨(some 100), .bin .sub false (.t 99) (.c (.int .i64 1)), none⟩,
    ⟨none, .mupd 1 (.t 97) (.t 98) (.t 100), none⟩]
def r18_26 (b : Nat) : List AOper := [
    ⟨(some 101), .faddr 0 (.t 7), none⟩,
    ⟨(some 102), .load false 1 (.t 101), none⟩,
    ⟨(some 103), .bin .add false (.t 102) (.c (.int .i64 1)), none⟩,
    ⟨(some 104), .faddr 1 (.t 8), none⟩,
    ⟨(some 105), .load false 1 (.t 104), none⟩,
    ⟨(some 106), .bin .sub false (.t 105) (.c (.int .i64 1)), none⟩,
    ⟨(some 107), .build [.int .i64 0, .int .i64 0, .nils, .int .i64 0, .int .i64 0] [(0, 1, .t 103), (1, 1, .t 106)], none⟩,
    ⟨(some 16), .alloc (b + 12) [.int .i64 0, .int .i64 0, .nils, .int .i64 0, .int .i64 0], none⟩,
    ⟨none, .store 5 (.t 16) (.t 107), none⟩]
def r18_27 (b : Nat) : List AOper := [
    ⟨(some 108), .mv (.t 11), none⟩,
    ⟨(some 109), .callf 42 [.t 108], none⟩,
    ⟨(some 110), .callf 41 [.t 109], none⟩,
    ⟨(some 111), .len false (.t 110), none⟩,
    ⟨(some 112), .mv (.c (.int .i64 0)), none⟩]
def r18_28 (b : Nat) : List AOper := [
    ⟨(some 113), .bin .lss false (.t 112) (.t 111), none⟩]
def r18_29 (b : Nat) : List AOper := [
    ⟨(some 114), .iaddrS 1 (.t 110) (.t 112), none⟩,
    ⟨(some 115), .load false 1 (.t 114), none⟩,
    ⟨(some 18), .mv (.t 115), none⟩]
def r18_30 (b : Nat) : List AOper := [
    ⟨(some 116), .mv (.t 11), none⟩,
    ⟨(some 117), .mv (.t 18), none⟩,
    ⟨(some 118), .mlook 1 false (.int .i64 0) (.t 116) (.t 117), none⟩,
    ⟨(some 119), .bin .gtr false (.t 118) (.c (.int .i64 0)), none⟩]
def r18_31 (b : Nat) : List AOper := [
    ⟨(some 120), .faddr 2 (.t 16), none⟩,
    ⟨(some 121), .load false 1 (.t 120), none⟩,
    ⟨(some 122), .mv (.t 18), none⟩,
    ⟨(some 123), .mv (.t 11), none⟩,
    ⟨(some 124), .mv (.t 18), none⟩,
    ⟨(some 125), .mlook 1 false (.int .i64 0) (.t 123) (.t 124), none⟩,
    ⟨(some 126), .build [.int .i64 0, .int .i64 0] [(0, 1, .t 122), (1, 1, .t 125)], none⟩,
    ⟨(some 127), .bslice (b + 13) 2 1 [.int .i64 0, .int .i64 0] [(0, 2, .t 126)], none⟩,
    ⟨(some 128), .append (b + 14) 2 16 (.t 121) (.t 127), none⟩,
    ⟨(some 129), .faddr 2 (.t 16), none⟩,
    ⟨none, .store 1 (.t 129) (.t 128), none⟩]
def r18_32 (b : Nat) : List AOper := [
    ⟨(some 130), .bin .add false (.t 112) (.c (.int .i64 1)), none⟩,
    ⟨(some 112), .mv (.t 130), none⟩]
def l18_3 (b : Nat) : ACode := .seq (.reg false (r18_28 b) []) (.seq (.cond (.t 113) (.skip) (.exit 6)) (.seq (.block 7 (.seq (.reg false (r18_29 b) []) (.seq (.reg false (r18_30 b) []) (.cond (.t 119) (.reg false (r18_31 b) []) (.skip))))) (.reg false (r18_32 b) [])))
def r18_33 (b : Nat) : List AOper := [
    ⟨(some 131), .faddr 0 (.t 16), none⟩,
    ⟨(some 132), .load false 1 (.t 131), none⟩,
    ⟨(some 133), .faddr 1 (.t 16), none⟩,
    ⟨(some 134), .load false 1 (.t 133), none⟩,
    ⟨(some 135), .bin .lss false (.t 132) (.t 134), none⟩]
def r18_34 (b : Nat) : List AOper := [
    ⟨(some 136), .load false 1 (.t 5), none⟩,
    ⟨(some 137), .load true 5 (.t 16), none⟩,
    ⟨(some 138), .bslice (b + 15) 5 1 [.int .i64 0, .int .i64 0, .nils, .int .i64 0, .int .i64 0] [(0, 5, .t 137)], none⟩,
    ⟨(some 139), .append (b + 16) 5 56 (.t 136) (.t 138), none⟩,
    ⟨none, .store 1 (.t 5) (.t 139), none⟩]
def r18_35 (b : Nat) : List AOper := [
    ⟨(some 140), .faddr 0 (.t 7), none⟩,
    ⟨(some 141), .load false 1 (.t 140), none⟩,
    ⟨(some 142), .bin .add false (.t 141) (.c (.int .i64 1)), none⟩,
    ⟨(some 143), .faddr 1 (.t 8), none⟩,
    ⟨(some 144), .load false 1 (.t 143), none⟩,
    ⟨(some 145), .bin .lss false (.t 142) (.t 144), none⟩]
def r18_36 (b : Nat) : List AOper := [
    ⟨(some 146), .load false 1 (.t 5), none⟩,
    ⟨(some 147), .faddr 1 (.t 8), none⟩,
    ⟨(some 148), .load false 1 (.t 147), none⟩,
    ⟨(some 149), .bin .sub false (.t 148) (.c (.int .i64 1)), none⟩,
    ⟨(some 150), .faddr 1 (.t 8), none⟩,
    ⟨(some 151), .load false 1 (.t 150), none⟩,
    ⟨(some 152), .mv (.t 10), none⟩,
    ⟨(some 153), .callf 32 [.t 149, .t 151, .t 152], none⟩,
    ⟨(some 154), .bslice (b + 17) 5 1 [.int .i64 0, .int .i64 0, .nils, .int .i64 0, .int .i64 0] [(0, 5, .t 153)], none⟩,
    ⟨(some 155), .append (b + 18) 5 56 (.t 146) (.t 154), none⟩,
    ⟨none, .store 1 (.t 5) (.t 155), none⟩]
def r18_36p : List (List Nat) := [[], [], [1], [1, 2], [], [4], [], [1, 2, 3, 4, 5, 6], [1, 2, 3, 4, 5, 6, 7], [0, 1, 2, 3, 4, 5, 6, 7, 8], [0, 1, 2, 3, 4, 5, 6, 7, 8, 9]]
def l18_0 (b : Nat) : ACode := .block 1 (.seq (.reg true (r18_7 b) r18_7p) (.seq (.seq (.reg false (r18_8 b) []) (.cond (.t 37) (.seq (.reg false (r18_9 b) []) (.exit 1)) (.skip))) (.seq (.seq (.reg false (r18_10 b) []) (.cond (.t 49) (.seq (.reg false (r18_11 b) []) (.ret)) (.skip))) (.seq (.reg true (r18_12 b) r18_12p) (.seq (.reg true (r18_13 b) r18_13p) (.seq (.reg false (r18_14 b) []) (.seq (.seq (.reg false (r18_15 b) []) (.block 2 (.loop (l18_1 b)))) (.seq (.reg false (r18_24 b) []) (.seq (.reg false (r18_25 b) []) (.seq (.reg false (r18_26 b) []) (.seq (.seq (.reg false (r18_27 b) []) (.block 6 (.loop (l18_3 b)))) (.seq (.seq (.reg false (r18_33 b) []) (.cond (.t 135) (.reg false (r18_34 b) []) (.skip))) (.seq (.reg false (r18_35 b) []) (.cond (.t 145) (.reg true (r18_36 b) r18_36p) (.skip)))))))))))))))
def r18_37 (b : Nat) : List AOper := [
    ⟨(some 156), .load false 1 (.t 5), none⟩,
    ⟨(some 157), .callf 43 [.t 156, .c (.fn 33 [])], none⟩,
    ⟨none, .store 1 (.t 5) (.t 157), none⟩]
def r18_38 (b : Nat) : List AOper := [
    ⟨(some 158), .load false 1 (.t 5), none⟩,
    ⟨(some 159), .len false (.t 158), none⟩,
    ⟨(some 160), .bin .gtr false (.t 159) (.c (.int .i64 2000)), none⟩]
def r18_39 (b : Nat) : List AOper := [
    ⟨none, .store 1 (.t 2) (.c (.nils)), none⟩,
    ⟨none, .store 1 (.t 3) (.c (.int .i64 2)), none⟩]
def r18_40 (b : Nat) : List AOper := [
    ⟨(some 161), .load false 1 (.t 5), none⟩,
    ⟨none, .store 1 (.t 2) (.t 161), none⟩,
    ⟨none, .store 1 (.t 3) (.c (.int .i64 0)), none⟩]
def c18 (b : Nat) : ACode := .seq (.reg false (r18_0 b) []) (.seq (.seq (.reg false (r18_1 b) []) (.seq (.reg false (r18_2 b) []) (.cond (.t 22) (.seq (.reg false (r18_3 b) []) (.ret)) (.skip)))) (.seq (.reg false (r18_4 b) []) (.seq (.seq (.reg false (r18_5 b) []) (.block 0 (.rfunc (.t 25) [26] (.reg false (r18_6 b) []) (l18_0 b)))) (.seq (.reg false (r18_37 b) []) (.seq (.seq (.reg false (r18_38 b) []) (.cond (.t 160) (.seq (.reg false (r18_39 b) []) (.ret)) (.skip))) (.seq (.reg false (r18_40 b) []) (.ret)))))))
def rs18 : List ARes := [.c 2 false 1, .c 3 false 1]
theorem ck18 : ∃ c, Tryd.f18.body = some c ∧ ∀ b, checkCode Tryd.prog c (c18 b) = true := ⟨_, rfl, fun b => by kernel_rfl⟩
theorem cr18 : checkRess Tryd.prog Tryd.f18.results.toList rs18 = true := by kernel_rfl
def r19_0 (b : Nat) : List AOper := [
    ⟨(some 4), .mv (.c (.nils)), none⟩,
    ⟨(some 5), .mv (.c (.int .i64 0)), none⟩]
def r19_1 (b : Nat) : List AOper := [
    ⟨(some 10), .mv (.t 0), none⟩,
    ⟨(some 11), .mv (.t 1), none⟩,
    ⟨(some 12), .bslice (b + 0) 1 2 [.nils, .nils] [(0, 1, .t 10), (1, 1, .t 11)], none⟩,
    ⟨(some 13), .len false (.t 12), none⟩,
    ⟨(some 14), .mv (.c (.int .i64 0)), none⟩]
def r19_2 (b : Nat) : List AOper := [
    ⟨(some 15), .bin .lss false (.t 14) (.t 13), none⟩]
def r19_3 (b : Nat) : List AOper := [
    ⟨(some 16), .iaddrS 1 (.t 12) (.t 14), none⟩,
    ⟨(some 17), .load false 1 (.t 16), none⟩,
    ⟨(some 7), .mv (.t 17), none⟩]
def r19_4 (b : Nat) : List AOper := [
    ⟨(some 18), .mv (.t 7), none⟩,
    ⟨(some 19), .callf 34 [.t 18], none⟩,
    ⟨(some 8), .mv (.t 19), none⟩]
def r19_5 (b : Nat) : List AOper := [
    ⟨(some 20), .mv (.t 8), none⟩,
    ⟨(some 21), .bin .neq false (.t 20) (.c (.int .i64 0)), none⟩]
def r19_6 (b : Nat) : List AOper := [
    ⟨(some 22), .mv (.t 8), none⟩,
    ⟨(some 4), .mv (.c (.nils)), none⟩,
    ⟨(some 5), .mv (.t 22), none⟩]
def r19_7 (b : Nat) : List AOper := [
    ⟨(some 23), .bin .add false (.t 14) (.c (.int .i64 1)), none⟩,
    ⟨(some 14), .mv (.t 23), none⟩]
def l19_0 (b : Nat) : ACode := .seq (.reg false (r19_2 b) []) (.seq (.cond (.t 15) (.skip) (.exit 0)) (.seq (.block 1 (.seq (.reg false (r19_3 b) []) (.seq (.reg false (r19_4 b) []) (.seq (.reg false (r19_5 b) []) (.cond (.t 21) (.seq (.reg false (r19_6 b) []) (.ret)) (.skip)))))) (.reg false (r19_7 b) [])))
def r19_8 (b : Nat) : List AOper := [
    ⟨(some 24), .mv (.t 0), none⟩,
    ⟨(some 25), .callf 44 [.t 24], none⟩,
    ⟨(some 26), .mv (.t 1), none⟩,
    ⟨(some 27), .callf 44 [.t 26], none⟩,
    ⟨(some 28), .append (b + 1) 5 56 (.t 25) (.t 27), none⟩,
    ⟨(some 9), .mv (.t 28), none⟩]
def r19_9 (b : Nat) : List AOper := [
    ⟨(some 29), .mv (.t 0), none⟩,
    ⟨(some 30), .len false (.t 29), none⟩,
    ⟨(some 31), .bin .gtr false (.t 30) (.c (.int .i64 0)), none⟩,
    ⟨(some 32), .mv (.t 31), none⟩,
    ⟨(some 33), .mv (.t 1), (some (32, true))⟩,
    ⟨(some 34), .len false (.t 33), (some (32, true))⟩,
    ⟨(some 35), .bin .gtr false (.t 34) (.c (.int .i64 0)), (some (32, true))⟩,
    ⟨(some 36), .pick (.t 32) (.t 35) (.c (.bool false)), none⟩]
def r19_10 (b : Nat) : List AOper := [
    ⟨(some 37), .mv (.t 0), none⟩,
    ⟨(some 38), .mv (.t 0), none⟩,
    ⟨(some 39), .len false (.t 38), none⟩,
    ⟨(some 40), .bin .sub false (.t 39) (.c (.int .i64 1)), none⟩,
    ⟨(some 41), .iaddrS 5 (.t 37) (.t 40), none⟩,
    ⟨(some 42), .faddr 1 (.t 41), none⟩,
    ⟨(some 43), .load false 1 (.t 42), none⟩,
    ⟨(some 44), .mv (.t 1), none⟩,
    ⟨(some 45), .iaddrS 5 (.t 44) (.c (.int .i64 0)), none⟩,
    ⟨(some 46), .faddr 0 (.t 45), none⟩,
    ⟨(some 47), .load false 1 (.t 46), none⟩,
    ⟨(some 48), .bin .neq false (.t 43) (.t 47), none⟩]
def r19_10p : List (List Nat) := [[], [], [1], [1, 2], [0, 1, 2, 3], [0, 1, 2, 3, 4], [0, 1, 2, 3, 4, 5], [], [7], [7, 8], [7, 8, 9], [0, 1, 2, 3, 4, 5, 6, 7, 8, 9, 10]]
def r19_11 (b : Nat) : List AOper := [
    ⟨(some 4), .mv (.c (.nils)), none⟩,
    ⟨(some 5), .mv (.c (.int .i64 1)), none⟩]
def r19_12 (b : Nat) : List AOper := [
    ⟨(some 49), .mv (.t 1), none⟩,
    ⟨(some 50), .mv (.t 1), none⟩,
    ⟨(some 51), .len false (.t 50), none⟩,
    ⟨(some 52), .bin .sub false (.t 51) (.c (.int .i64 1)), none⟩,
    ⟨(some 53), .iaddrS 5 (.t 49) (.t 52), none⟩,
    ⟨(some 54), .faddr 1 (.t 53), none⟩,
    ⟨(some 55), .load false 1 (.t 54), none⟩,
    ⟨(some 56), .mv (.t 0), none⟩,
    ⟨(some 57), .iaddrS 5 (.t 56) (.c (.int .i64 0)), none⟩,
    ⟨(some 58), .faddr 0 (.t 57), none⟩,
    ⟨(some 59), .load false 1 (.t 58), none⟩,
    ⟨(some 60), .bin .sub false (.t 55) (.t 59), none⟩,
    ⟨(some 61), .bin .gtr false (.t 60) (.c (.int .i64 40000)), none⟩]
def r19_12p : List (List Nat) := [[], [], [1], [1, 2], [0, 1, 2, 3], [0, 1, 2, 3, 4], [0, 1, 2, 3, 4, 5], [], [7], [7, 8], [7, 8, 9], [0, 1, 2, 3, 4, 5, 6, 7, 8, 9, 10], [0, 1, 2, 3, 4, 5, 6, 7, 8, 9, 10, 11]]
def r19_13 (b : Nat) : List AOper := [
    ⟨(some 4), .mv (.c (.nils)), none⟩,
    ⟨(some 5), .mv (.c (.int .i64 2)), none⟩]
def r19_14 (b : Nat) : List AOper := [
    ⟨(some 62), .mv (.t 9), none⟩,
    ⟨(some 63), .callf 43 [.t 62, .c (.fn 33 [])], none⟩,
    ⟨(some 9), .mv (.t 63), none⟩]
def r19_15 (b : Nat) : List AOper := [
    ⟨(some 64), .mv (.t 9), none⟩,
    ⟨(some 65), .len false (.t 64), none⟩,
    ⟨(some 66), .bin .gtr false (.t 65) (.c (.int .i64 2000)), none⟩]
def r19_16 (b : Nat) : List AOper := [
    ⟨(some 4), .mv (.c (.nils)), none⟩,
    ⟨(some 5), .mv (.c (.int .i64 2)), none⟩]
def r19_17 (b : Nat) : List AOper := [
    ⟨(some 67), .mv (.t 9), none⟩,
    ⟨(some 4), .mv (.t 67), none⟩,
    ⟨(some 5), .mv (.c (.int .i64 0)), none⟩]
def c19 (b : Nat) : ACode := .seq (.reg false (r19_0 b) []) (.seq (.seq (.reg false (r19_1 b) []) (.block 0 (.loop (l19_0 b)))) (.seq (.reg false (r19_8 b) []) (.seq (.seq (.reg false (r19_9 b) []) (.cond (.t 36) (.seq (.seq (.reg true (r19_10 b) r19_10p) (.cond (.t 48) (.seq (.reg false (r19_11 b) []) (.ret)) (.skip))) (.seq (.reg true (r19_12 b) r19_12p) (.cond (.t 61) (.seq (.reg false (r19_13 b) []) (.ret)) (.skip)))) (.skip))) (.seq (.reg false (r19_14 b) []) (.seq (.seq (.reg false (r19_15 b) []) (.cond (.t 66) (.seq (.reg false (r19_16 b) []) (.ret)) (.skip))) (.seq (.reg false (r19_17 b) []) (.ret)))))))
def rs19 : List ARes := [.t 4, .t 5]
theorem ck19 : ∃ c, Tryd.f19.body = some c ∧ ∀ b, checkCode Tryd.prog c (c19 b) = true := ⟨_, rfl, fun b => by kernel_rfl⟩
theorem cr19 : checkRess Tryd.prog Tryd.f19.results.toList rs19 = true := by kernel_rfl
def r20_0 (b : Nat) : List AOper := [
    ⟨(some 4), .mv (.c (.bool false)), none⟩]
def r20_1 (b : Nat) : List AOper := [
    ⟨(some 7), .mv (.t 0), none⟩,
    ⟨(some 8), .len false (.t 7), none⟩,
    ⟨(some 9), .mv (.t 1), none⟩,
    ⟨(some 10), .len false (.t 9), none⟩,
    ⟨(some 11), .bin .neq false (.t 8) (.t 10), none⟩]
def r20_2 (b : Nat) : List AOper := [
    ⟨(some 4), .mv (.c (.bool false)), none⟩]
def r20_3 (b : Nat) : List AOper := [
    ⟨(some 5), .mv (.c (.int .i64 0)), none⟩]
def r20_4 (b : Nat) : List AOper := [
    ⟨(some 12), .mv (.t 5), none⟩,
    ⟨(some 13), .mv (.t 0), none⟩,
    ⟨(some 14), .len false (.t 13), none⟩,
    ⟨(some 15), .bin .lss false (.t 12) (.t 14), none⟩]
def r20_6 (b : Nat) : List AOper := [
    ⟨(some 18), .mv (.t 0), none⟩,
    ⟨(some 19), .mv (.t 5), none⟩,
    ⟨(some 20), .iaddrS 5 (.t 18) (.t 19), none⟩,
    ⟨(some 21), .faddr 0 (.t 20), none⟩,
    ⟨(some 22), .load false 1 (.t 21), none⟩,
    ⟨(some 23), .mv (.t 1), none⟩,
    ⟨(some 24), .mv (.t 5), none⟩,
    ⟨(some 25), .iaddrS 5 (.t 23) (.t 24), none⟩,
    ⟨(some 26), .faddr 0 (.t 25), none⟩,
    ⟨(some 27), .load false 1 (.t 26), none⟩,
    ⟨(some 28), .bin .neq false (.t 22) (.t 27), none⟩,
    ⟨(some 29), .mv (.t 28), none⟩,
    ⟨(some 30), .mv (.t 0), (some (29, false))⟩,
    ⟨(some 31), .mv (.t 5), (some (29, false))⟩,
    ⟨(some 32), .iaddrS 5 (.t 30) (.t 31), (some (29, false))⟩,
    ⟨(some 33), .faddr 1 (.t 32), (some (29, false))⟩,
    ⟨(some 34), .load false 1 (.t 33), (some (29, false))⟩,
    ⟨(some 35), .mv (.t 1), (some (29, false))⟩,
    ⟨(some 36), .mv (.t 5), (some (29, false))⟩,
    ⟨(some 37), .iaddrS 5 (.t 35) (.t 36), (some (29, false))⟩,
    ⟨(some 38), .faddr 1 (.t 37), (some (29, false))⟩,
    ⟨(some 39), .load false 1 (.t 38), (some (29, false))⟩,
    ⟨(some 40), .bin .neq false (.t 34) (.t 39), (some (29, false))⟩,
    ⟨(some 41), .pick (.t 29) (.c (.bool true)) (.t 40), none⟩,
    ⟨(some 42), .mv (.t 41), none⟩,
    ⟨(some 43), .mv (.t 0), (some (42, false))⟩,
    ⟨(some 44), .mv (.t 5), (some (42, false))⟩,
    ⟨(some 45), .iaddrS 5 (.t 43) (.t 44), (some (42, false))⟩,
    ⟨(some 46), .faddr 3 (.t 45), (some (42, false))⟩,
    ⟨(some 47), .load false 1 (.t 46), (some (42, false))⟩,
    ⟨(some 48), .mv (.t 1), (some (42, false))⟩,
    ⟨(some 49), .mv (.t 5), (some (42, false))⟩,
    ⟨(some 50), .iaddrS 5 (.t 48) (.t 49), (some (42, false))⟩,
    ⟨(some 51), .faddr 3 (.t 50), (some (42, false))⟩,
    ⟨(some 52), .load false 1 (.t 51), (some (42, false))⟩,
    ⟨(some 53), .bin .neq false (.t 47) (.t 52), (some (42, false))⟩,
    ⟨(some 54), .pick (.t 42) (.c (.bool true)) (.t 53), none⟩,
    ⟨(some 55), .mv (.t 54), none⟩,
    ⟨(some 56), .mv (.t 0), (some (55, false))⟩,
    ⟨(some 57), .mv (.t 5), (some (55, false))⟩,
    ⟨(some 58), .iaddrS 5 (.t 56) (.t 57), (some (55, false))⟩,
    ⟨(some 59), .faddr 4 (.t 58), (some (55, false))⟩,
    ⟨(some 60), .load false 1 (.t 59), (some (55, false))⟩,
    ⟨(some 61), .mv (.t 1), (some (55, false))⟩,
    ⟨(some 62), .mv (.t 5), (some (55, false))⟩,
    ⟨(some 63), .iaddrS 5 (.t 61) (.t 62), (some (55, false))⟩,
    ⟨(some 64), .faddr 4 (.t 63), (some (55, false))⟩,
    ⟨(some 65), .load false 1 (.t 64), (some (55, false))⟩,
    ⟨(some 66), .bin .neq false (.t 60) (.t 65), (some (55, false))⟩,
    ⟨(some 67), .pick (.t 55) (.c (.bool true)) (.t 66), none⟩,
    ⟨(some 68), .mv (.t 67), none⟩,
    ⟨(some 69), .mv (.t 0), (some (68, false))⟩,
    ⟨(some 70), .mv (.t 5), (some (68, false))⟩,
    ⟨(some 71), .iaddrS 5 (.t 69) (.t 70), (some (68, false))⟩,
    ⟨(some 72), .faddr 2 (.t 71), (some (68, false))⟩,
    ⟨(some 73), .load false 1 (.t 72), (some (68, false))⟩,
    ⟨(some 74), .len false (.t 73), (some (68, false))⟩,
    ⟨(some 75), .mv (.t 1), (some (68, false))⟩,
    ⟨(some 76), .mv (.t 5), (some (68, false))⟩,
    ⟨(some 77), .iaddrS 5 (.t 75) (.t 76), (some (68, false))⟩,
    ⟨(some 78), .faddr 2 (.t 77), (some (68, false))⟩,
    ⟨(some 79), .load false 1 (.t 78), (some (68, false))⟩,
    ⟨(some 80), .len false (.t 79), (some (68, false))⟩,
    ⟨(some 81), .bin .neq false (.t 74) (.t 80), (some (68, false))⟩,
    ⟨(some 82), .pick (.t 68) (.c (.bool true)) (.t 81), none⟩]
def r20_6p : List (List Nat) := [[], [], [0, 1], [0, 1, 2], [0, 1, 2, 3], [], [], [5, 6], [5, 6, 7], [5, 6, 7, 8], [0, 1, 2, 3, 4, 5, 6, 7, 8, 9], [0, 1, 2, 3, 4, 5, 6, 7, 8, 9, 10], [0, 1, 2, 3, 4, 5, 6, 7, 8, 9, 10, 11], [0, 1, 2, 3, 4, 5, 6, 7, 8, 9, 10, 11], [0, 1, 2, 3, 4, 5, 6, 7, 8, 9, 10, 11, 12, 13], [0, 1, 2, 3, 4, 5, 6, 7, 8, 9, 10, 11, 12, 13, 14], [0, 1, 2, 3, 4, 5, 6, 7, 8, 9, 10, 11, 12, 13, 14, 15], [0, 1, 2, 3, 4, 5, 6, 7, 8, 9, 10, 11], [0, 1, 2, 3, 4, 5, 6, 7, 8, 9, 10, 11], [0, 1, 2, 3, 4, 5, 6, 7, 8, 9, 10, 11, 17, 18], [0, 1, 2, 3, 4, 5, 6, 7, 8, 9, 10, 11, 17, 18, 19], [0, 1, 2, 3, 4, 5, 6, 7, 8, 9, 10, 11, 17, 18, 19, 20], [0, 1, 2, 3, 4, 5, 6, 7, 8, 9, 10, 11, 12, 13, 14, 15, 16, 17, 18, 19, 20, 21], [0, 1, 2, 3, 4, 5, 6, 7, 8, 9, 10, 11, 12, 13, 14, 15, 16, 17, 18, 19, 20, 21, 22], [0, 1, 2, 3, 4, 5, 6, 7, 8, 9, 10, 11, 12, 13, 14, 15, 16, 17, 18, 19, 20, 21, 22, 23], [0, 1, 2, 3, 4, 5, 6, 7, 8, 9, 10, 11, 12, 13, 14, 15, 16, 17, 18, 19, 20, 21, 22, 23, 24], [0, 1, 2, 3, 4, 5, 6, 7, 8, 9, 10, 11, 12, 13, 14, 15, 16, 17, 18, 19, 20, 21, 22, 23, 24], [0, 1, 2, 3, 4, 5, 6, 7, 8, 9, 10, 11, 12, 13, 14, 15, 16, 17, 18, 19, 20, 21, 22, 23, 24, 25, 26], [0, 1, 2, 3, 4, 5, 6, 7, 8, 9, 10, 11, 12, 13, 14, 15, 16, 17, 18, 19, 20, 21, 22, 23, 24, 25, 26, 27], [0, 1, 2, 3, 4, 5, 6, 7, 8, 9, 10, 11, 12, 13, 14, 15, 16, 17, 18, 19, 20, 21, 22, 23, 24, 25, 26, 27, 28], [0, 1, 2, 3, 4, 5, 6, 7, 8, 9, 10, 11, 12, 13, 14, 15, 16, 17, 18, 19, 20, 21, 22, 23, 24], [0, 1, 2, 3, 4, 5, 6, 7, 8, 9, 10, 11, 12, 13, 14, 15, 16, 17, 18, 19, 20, 21, 22, 23, 24], [0, 1, 2, 3, 4, 5, 6, 7, 8, 9, 10, 11, 12, 13, 14, 15, 16, 17, 18, 19, 20, 21, 22, 23, 24, 30, 31], [0, 1, 2, 3, 4, 5, 6, 7, 8, 9, 10, 11, 12, 13, 14, 15, 16, 17, 18, 19, 20, 21, 22, 23, 24, 30, 31, 32], [0, 1, 2, 3, 4, 5, 6, 7, 8, 9, 10, 11, 12, 13, 14, 15, 16, 17, 18, 19, 20, 21, 22, 23, 24, 30, 31, 32, 33], [0, 1, 2, 3, 4, 5, 6, 7, 8, 9, 10, 11, 12, 13, 14, 15, 16, 17, 18, 19, 20, 21, 22, 23, 24, 25, 26, 27, 28, 29, 30, 31, 32, 33, 34], [0, 1, 2, 3, 4, 5, 6, 7, 8, 9, 10, 11, 12, 13, 14, 15, 16, 17, 18, 19, 20, 21, 22, 23, 24, 25, 26, 27, 28, 29, 30, 31, 32, 33, 34, 35], [0, 1, 2, 3, 4, 5, 6, 7, 8, 9, 10, 11, 12, 13, 14, 15, 16, 17, 18, 19, 20, 21, 22, 23, 24, 25, 26, 27, 28, 29, 30, 31, 32, 33, 34, 35, 36], [0, 1, 2, 3, 4, 5, 6, 7, 8, 9, 10, 11, 12, 13, 14, 15, 16, 17, 18, 19, 20, 21, 22, 23, 24, 25, 26, 27, 28, 29, 30, 31, 32, 33, 34, 35, 36, 37], [0, 1, 2, 3, 4, 5, 6, 7, 8, 9, 10, 11, 12, 13, 14, 15, 16, 17, 18, 19, 20, 21, 22, 23, 24, 25, 26, 27, 28, 29, 30, 31, 32, 33, 34, 35, 36, 37], [0, 1, 2, 3, 4, 5, 6, 7, 8, 9, 10, 11, 12, 13, 14, 15, 16, 17, 18, 19, 20, 21, 22, 23, 24, 25, 26, 27, 28, 29, 30, 31, 32, 33, 34, 35, 36, 37, 38, 39], [0, 1, 2, 3, 4, 5, 6, 7, 8, 9, 10, 11, 12, 13, 14, 15, 16, 17, 18, 19, 20, 21, 22, 23, 24, 25, 26, 27, 28, 29, 30, 31, 32, 33, 34, 35, 36, 37, 38, 39, 40], [0, 1, 2, 3, 4, 5, 6, 7, 8, 9, 10, 11, 12, 13, 14, 15, 16, 17, 18, 19, 20, 21, 22, 23, 24, 25, 26, 27, 28, 29, 30, 31, 32, 33, 34, 35, 36, 37, 38, 39, 40, 41], [0, 1, 2, 3, 4, 5, 6, 7, 8, 9, 10, 11, 12, 13, 14, 15, 16, 17, 18, 19, 20, 21, 22, 23, 24, 25, 26, 27, 28, 29, 30, 31, 32, 33, 34, 35, 36, 37], [0, 1, 2, 3, 4, 5, 6, 7, 8, 9, 10, 11, 12, 13, 14, 15, 16, 17, 18, 19, 20, 21, 22, 23, 24, 25, 26, 27, 28, 29, 30, 31, 32, 33, 34, 35, 36, 37], [0, 1, 2, 3, 4, 5, 6, 7, 8, 9, 10, 11, 12, 13, 14, 15, 16, 17, 18, 19, 20, 21, 22, 23, 24, 25, 26, 27, 28, 29, 30, 31, 32, 33, 34, 35, 36, 37, 43, 44], [0, 1, 2, 3, 4, 5, 6, 7, 8, 9, 10, 11, 12, 13, 14, 15, 16, 17, 18, 19, 20, 21, 22, 23, 24, 25, 26, 27, 28, 29, 30, 31, 32, 33, 34, 35, 36, 37, 43, 44, 45], [0, 1, 2, 3, 4, 5, 6, 7, 8, 9, 10, 11, 12, 13, 14, 15, 16, 17, 18, 19, 20, 21, 22, 23, 24, 25, 26, 27, 28, 29, 30, 31, 32, 33, 34, 35, 36, 37, 43, 44, 45, 46], [0, 1, 2, 3, 4, 5, 6, 7, 8, 9, 10, 11, 12, 13, 14, 15, 16, 17, 18, 19, 20, 21, 22, 23, 24, 25, 26, 27, 28, 29, 30, 31, 32, 33, 34, 35, 36, 37, 38, 39, 40, 41, 42, 43, 44, 45, 46, 47], [0, 1, 2, 3, 4, 5, 6, 7, 8, 9, 10, 11, 12, 13, 14, 15, 16, 17, 18, 19, 20, 21, 22, 23, 24, 25, 26, 27, 28, 29, 30, 31, 32, 33, 34, 35, 36, 37, 38, 39, 40, 41, 42, 43, 44, 45, 46, 47, 48], [0, 1, 2, 3, 4, 5, 6, 7, 8, 9, 10, 11, 12, 13, 14, 15, 16, 17, 18, 19, 20, 21, 22, 23, 24, 25, 26, 27, 28, 29, 30, 31, 32, 33, 34, 35, 36, 37, 38, 39, 40, 41, 42, 43, 44, 45, 46, 47, 48, 49], [0, 1, 2, 3, 4, 5, 6, 7, 8, 9, 10, 11, 12, 13, 14, 15, 16, 17, 18, 19, 20, 21, 22, 23, 24, 25, 26, 27, 28, 29, 30, 31, 32, 33, 34, 35, 36, 37, 38, 39, 40, 41, 42, 43, 44, 45, 46, 47, 48, 49, 50], [0, 1, 2, 3, 4, 5, 6, 7, 8, 9, 10, 11, 12, 13, 14, 15, 16, 17, 18, 19, 20, 21, 22, 23, 24, 25, 26, 27, 28, 29, 30, 31, 32, 33, 34, 35, 36, 37, 38, 39, 40, 41, 42, 43, 44, 45, 46, 47, 48, 49, 50], [0, 1, 2, 3, 4, 5, 6, 7, 8, 9, 10, 11, 12, 13, 14, 15, 16, 17, 18, 19, 20, 21, 22, 23, 24, 25, 26, 27, 28, 29, 30, 31, 32, 33, 34, 35, 36, 37, 38, 39, 40, 41, 42, 43, 44, 45, 46, 47, 48, 49, 50, 51, 52], [0, 1, 2, 3, 4, 5, 6, 7, 8, 9, 10, 11, 12, 13, 14, 15, 16, 17, 18, 19, 20, 21, 22, 23, 24, 25, 26, 27, 28, 29, 30, 31, 32, 33, 34, 35, 36, 37, 38, 39, 40, 41, 42, 43, 44, 45, 46, 47, 48, 49, 50, 51, 52, 53], [0, 1, 2, 3, 4, 5, 6, 7, 8, 9, 10, 11, 12, 13, 14, 15, 16, 17, 18, 19, 20, 21, 22, 23, 24, 25, 26, 27, 28, 29, 30, 31, 32, 33, 34, 35, 36, 37, 38, 39, 40, 41, 42, 43, 44, 45, 46, 47, 48, 49, 50, 51, 52, 53, 54], [0, 1, 2, 3, 4, 5, 6, 7, 8, 9, 10, 11, 12, 13, 14, 15, 16, 17, 18, 19, 20, 21, 22, 23, 24, 25, 26, 27, 28, 29, 30, 31, 32, 33, 34, 35, 36, 37, 38, 39, 40, 41, 42, 43, 44, 45, 46, 47, 48, 49, 50, 51, 52, 53, 54, 55], [0, 1, 2, 3, 4, 5, 6, 7, 8, 9, 10, 11, 12, 13, 14, 15, 16, 17, 18, 19, 20, 21, 22, 23, 24, 25, 26, 27, 28, 29, 30, 31, 32, 33, 34, 35, 36, 37, 38, 39, 40, 41, 42, 43, 44, 45, 46, 47, 48, 49, 50], [0, 1, 2, 3, 4, 5, 6, 7, 8, 9, 10, 11, 12, 13, 14, 15, 16, 17, 18, 19, 20, 21, 22, 23, 24, 25, 26, 27, 28, 29, 30, 31, 32, 33, 34, 35, 36, 37, 38, 39, 40, 41, 42, 43, 44, 45, 46, 47, 48, 49, 50], [0, 1, 2, 3, 4, 5, 6, 7, 8, 9, 10, 11, 12, 13, 14, 15, 16, 17, 18, 19, 20, 21, 22, 23, 24, 25, 26, 27, 28, 29, 30, 31, 32, 33, 34, 35, 36, 37, 38, 39, 40, 41, 42, 43, 44, 45, 46, 47, 48, 49, 50, 57, 58], [0, 1, 2, 3, 4, 5, 6, 7, 8, 9, 10, 11, 12, 13, 14, 15, 16, 17, 18, 19, 20, 21, 22, 23, 24, 25, 26, 27, 28, 29, 30, 31, 32, 33, 34, 35, 36, 37, 38, 39, 40, 41, 42, 43, 44, 45, 46, 47, 48, 49, 50, 57, 58, 59], [0, 1, 2, 3, 4, 5, 6, 7, 8, 9, 10, 11, 12, 13, 14, 15, 16, 17, 18, 19, 20, 21, 22, 23, 24, 25, 26, 27, 28, 29, 30, 31, 32, 33, 34, 35, 36, 37, 38, 39, 40, 41, 42, 43, 44, 45, 46, 47, 48, 49, 50, 57, 58, 59, 60], [0, 1, 2, 3, 4, 5, 6, 7, 8, 9, 10, 11, 12, 13, 14, 15, 16, 17, 18, 19, 20, 21, 22, 23, 24, 25, 26, 27, 28, 29, 30, 31, 32, 33, 34, 35, 36, 37, 38, 39, 40, 41, 42, 43, 44, 45, 46, 47, 48, 49, 50, 57, 58, 59, 60, 61], [0, 1, 2, 3, 4, 5, 6, 7, 8, 9, 10, 11, 12, 13, 14, 15, 16, 17, 18, 19, 20, 21, 22, 23, 24, 25, 26, 27, 28, 29, 30, 31, 32, 33, 34, 35, 36, 37, 38, 39, 40, 41, 42, 43, 44, 45, 46, 47, 48, 49, 50, 51, 52, 53, 54, 55, 56, 57, 58, 59, 60, 61, 62], [0, 1, 2, 3, 4, 5, 6, 7, 8, 9, 10, 11, 12, 13, 14, 15, 16, 17, 18, 19, 20, 21, 22, 23, 24, 25, 26, 27, 28, 29, 30, 31, 32, 33, 34, 35, 36, 37, 38, 39, 40, 41, 42, 43, 44, 45, 46, 47, 48, 49, 50, 51, 52, 53, 54, 55, 56, 57, 58, 59, 60, 61, 62, 63]]
def r20_7 (b : Nat) : List AOper := [
    ⟨(some 4), .mv (.c (.bool false)), none⟩]
def r20_8 (b : Nat) : List AOper := [
    ⟨(some 6), .mv (.c (.int .i64 0)), none⟩]
def r20_9 (b : Nat) : List AOper := [
    ⟨(some 83), .mv (.t 6), none⟩,
    ⟨(some 84), .mv (.t 0), none⟩,
    ⟨(some 85), .mv (.t 5), none⟩,
    ⟨(some 86), .iaddrS 5 (.t 84) (.t 85), none⟩,
    ⟨(some 87), .faddr 2 (.t 86), none⟩,
    ⟨(some 88), .load false 1 (.t 87), none⟩,
    ⟨(some 89), .len false (.t 88), none⟩,
    ⟨(some 90), .bin .lss false (.t 83) (.t 89), none⟩]
def r20_11 (b : Nat) : List AOper := [
    ⟨(some 93), .mv (.t 0), none⟩,
    ⟨(some 94), .mv (.t 5), none⟩,
    ⟨(some 95), .iaddrS 5 (.t 93) (.t 94), none⟩,
    ⟨(some 96), .faddr 2 (.t 95), none⟩,
    ⟨(some 97), .load false 1 (.t 96), none⟩,
    ⟨(some 98), .mv (.t 6), none⟩,
    ⟨(some 99), .iaddrS 2 (.t 97) (.t 98), none⟩,
    ⟨(some 100), .load true 2 (.t 99), none⟩,
    ⟨(some 101), .mv (.t 1), none⟩,
    ⟨(some 102), .mv (.t 5), none⟩,
    ⟨(some 103), .iaddrS 5 (.t 101) (.t 102), none⟩,
    ⟨(some 104), .faddr 2 (.t 103), none⟩,
    ⟨(some 105), .load false 1 (.t 104), none⟩,
    ⟨(some 106), .mv (.t 6), none⟩,
    ⟨(some 107), .iaddrS 2 (.t 105) (.t 106), none⟩,
    ⟨(some 108), .load true 2 (.t 107), none⟩,
    ⟨(some 109), .eqagg [1, 1] true (.t 100) (.t 108), none⟩]
def r20_11p : List (List Nat) := [[], [], [0, 1], [0, 1, 2], [0, 1, 2, 3], [], [0, 1, 2, 3, 4, 5], [0, 1, 2, 3, 4, 5, 6], [], [], [8, 9], [8, 9, 10], [8, 9, 10, 11], [], [8, 9, 10, 11, 12, 13], [8, 9, 10, 11, 12, 13, 14], [0, 1, 2, 3, 4, 5, 6, 7, 8, 9, 10, 11, 12, 13, 14, 15]]
def r20_12 (b : Nat) : List AOper := [
    ⟨(some 4), .mv (.c (.bool false)), none⟩]
def r20_10 (b : Nat) : List AOper := [
    ⟨(some 91), .mv (.t 6), none⟩,
    ⟨(some 92), .bin .add false (.t 91) (.c (.int .i64 1)), none⟩,
    ⟨(some 6), .mv (.t 92), none⟩]
def l20_1 (b : Nat) : ACode := .seq (.seq (.reg false (r20_9 b) []) (.cond (.t 90) (.skip) (.exit 2))) (.seq (.block 3 (.seq (.reg true (r20_11 b) r20_11p) (.cond (.t 109) (.seq (.reg false (r20_12 b) []) (.ret)) (.skip)))) (.reg false (r20_10 b) []))
def r20_5 (b : Nat) : List AOper := [
    ⟨(some 16), .mv (.t 5), none⟩,
    ⟨(some 17), .bin .add false (.t 16) (.c (.int .i64 1)), none⟩,
    ⟨(some 5), .mv (.t 17), none⟩]
def l20_0 (b : Nat) : ACode := .seq (.seq (.reg false (r20_4 b) []) (.cond (.t 15) (.skip) (.exit 0))) (.seq (.block 1 (.seq (.seq (.reg true (r20_6 b) r20_6p) (.cond (.t 82) (.seq (.reg false (r20_7 b) []) (.ret)) (.skip))) (.seq (.reg false (r20_8 b) []) (.block 2 (.loop (l20_1 b)))))) (.reg false (r20_5 b) []))
def r20_13 (b : Nat) : List AOper := [
    ⟨(some 4), .mv (.c (.bool true)), none⟩]
def c20 (b : Nat) : ACode := .seq (.reg false (r20_0 b) []) (.seq (.seq (.reg false (r20_1 b) []) (.cond (.t 11) (.seq (.reg false (r20_2 b) []) (.ret)) (.skip))) (.seq (.seq (.reg false (r20_3 b) []) (.block 0 (.loop (l20_0 b)))) (.seq (.reg false (r20_13 b) []) (.ret))))
def rs20 : List ARes := [.t 4]
theorem ck20 : ∃ c, Tryd.f20.body = some c ∧ ∀ b, checkCode Tryd.prog c (c20 b) = true := ⟨_, rfl, fun b => by kernel_rfl⟩
theorem cr20 : checkRess Tryd.prog Tryd.f20.results.toList rs20 = true := by kernel_rfl
end Go.Am
