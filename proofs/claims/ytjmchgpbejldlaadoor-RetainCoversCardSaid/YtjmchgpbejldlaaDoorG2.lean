/- Part G2 of the proof that the last part closes: the code of the functions of this seat over abstract operations. No condition. -/
import Derived.Test.YtjmchgpbejldlaaDoorG1
import Derived.Test.YtjmchgpbejldlaaDoorA4
import Derived.Test.YtjmchgpbejldlaaDoorChecked
set_option linter.unusedVariables false
namespace Go.Am
open Go.Proofs
def r21_0 (b : Nat) : List AOper := [
    ⟨(some 4), .box (b + 0) (.t 0), none⟩,
    ⟨(some 8), .alloc (b + 1) [.int .i64 0, .int .i64 0, .int .i64 0, .int .i64 0, .int .i64 0, .nils, .int .i64 0], none⟩,
    ⟨(some 9), .mv (.c (.int .i64 0)), none⟩]
def r21_1 (b : Nat) : List AOper := [
    ⟨(some 14), .load true 4 (.t 4), none⟩,
    ⟨(some 15), .mv (.t 1), none⟩,
    ⟨(some 16), .callf 13 [.t 14, .t 15], none⟩,
    ⟨(some 10), .mv (.t 16), none⟩]
def r21_2 (b : Nat) : List AOper := [
    ⟨(some 17), .mv (.t 10), none⟩,
    ⟨(some 18), .bin .neq false (.t 17) (.c (.int .i64 0)), none⟩]
def r21_3 (b : Nat) : List AOper := [
    ⟨(some 19), .build [.int .i64 0, .int .i64 0, .int .i64 0, .int .i64 0, .int .i64 0, .nils, .int .i64 0] [], none⟩,
    ⟨(some 20), .mv (.t 10), none⟩,
    ⟨none, .store 7 (.t 8) (.t 19), none⟩,
    ⟨(some 9), .mv (.t 20), none⟩]
def r21_4 (b : Nat) : List AOper := [
    ⟨(some 21), .mv (.t 2), none⟩,
    ⟨(some 22), .callf 29 [.t 21], none⟩,
    ⟨(some 23), .not (.t 22), none⟩,
    ⟨(some 24), .mv (.t 23), none⟩,
    ⟨(some 25), .mv (.t 3), (some (24, false))⟩,
    ⟨(some 26), .bin .lss false (.t 25) (.c (.int .i64 0)), (some (24, false))⟩,
    ⟨(some 27), .pick (.t 24) (.c (.bool true)) (.t 26), none⟩,
    ⟨(some 28), .mv (.t 27), none⟩,
    ⟨(some 29), .mv (.t 3), (some (28, false))⟩,
    ⟨(some 30), .bin .gtr false (.t 29) (.c (.int .i64 14609)), (some (28, false))⟩,
    ⟨(some 31), .pick (.t 28) (.c (.bool true)) (.t 30), none⟩]
def r21_5 (b : Nat) : List AOper := [
    ⟨(some 32), .build [.int .i64 0, .int .i64 0, .int .i64 0, .int .i64 0, .int .i64 0, .nils, .int .i64 0] [], none⟩,
    ⟨none, .store 7 (.t 8) (.t 32), none⟩,
    ⟨(some 9), .mv (.c (.int .i64 3)), none⟩]
def r21_6 (b : Nat) : List AOper := [
    ⟨(some 33), .faddr 0 (.t 4), none⟩,
    ⟨(some 34), .load false 1 (.t 33), none⟩,
    ⟨(some 35), .faddr 1 (.t 4), none⟩,
    ⟨(some 36), .load false 1 (.t 35), none⟩,
    ⟨(some 37), .faddr 2 (.t 4), none⟩,
    ⟨(some 38), .load false 1 (.t 37), none⟩,
    ⟨(some 39), .faddr 3 (.t 4), none⟩,
    ⟨(some 40), .load false 1 (.t 39), none⟩,
    ⟨(some 41), .build [.int .i64 0, .int .i64 0, .int .i64 0, .int .i64 0, .int .i64 0] [(0, 1, .c (.int .i64 0)), (1, 1, .t 34), (2, 1, .t 36), (3, 1, .t 38), (4, 1, .t 40)], none⟩,
    ⟨(some 42), .mv (.t 3), none⟩,
    ⟨(some 43), .build [.int .i64 0, .int .i64 0, .int .i64 0, .int .i64 0, .int .i64 0, .nils, .int .i64 0] [(0, 5, .t 41), (6, 1, .t 42)], none⟩,
    ⟨(some 11), .alloc (b + 2) [.int .i64 0, .int .i64 0, .int .i64 0, .int .i64 0, .int .i64 0, .nils, .int .i64 0], none⟩,
    ⟨none, .store 7 (.t 11) (.t 43), none⟩]
def r21_7 (b : Nat) : List AOper := [
    ⟨(some 44), .mv (.t 1), none⟩,
    ⟨(some 45), .len false (.t 44), none⟩,
    ⟨(some 46), .mv (.c (.int .i64 0)), none⟩]
def r21_8 (b : Nat) : List AOper := [
    ⟨(some 47), .bin .lss false (.t 46) (.t 45), none⟩]
def r21_9 (b : Nat) : List AOper := [
    ⟨(some 48), .iaddrS 3 (.t 44) (.t 46), none⟩,
    ⟨(some 49), .load true 3 (.t 48), none⟩,
    ⟨(some 13), .alloc (b + 3) [.int .i64 0, .int .i64 0, .int .i64 0], none⟩,
    ⟨none, .store 3 (.t 13) (.t 49), none⟩]
def r21_10 (b : Nat) : List AOper := [
    ⟨(some 50), .faddr 0 (.t 13), none⟩,
    ⟨(some 51), .load false 1 (.t 50), none⟩,
    ⟨(some 52), .mv (.t 2), none⟩,
    ⟨(some 53), .bin .eql false (.t 51) (.t 52), none⟩]
def r21_11 (b : Nat) : List AOper := [
    ⟨(some 54), .faddr 5 (.t 11), none⟩,
    ⟨(some 55), .load false 1 (.t 54), none⟩,
    ⟨(some 56), .load true 3 (.t 13), none⟩,
    ⟨(some 57), .bslice (b + 4) 3 1 [.int .i64 0, .int .i64 0, .int .i64 0] [(0, 3, .t 56)], none⟩,
    ⟨(some 58), .append (b + 5) 3 24 (.t 55) (.t 57), none⟩,
    ⟨(some 59), .faddr 5 (.t 11), none⟩,
    ⟨none, .store 1 (.t 59) (.t 58), none⟩]
def r21_12 (b : Nat) : List AOper := [
    ⟨(some 60), .bin .add false (.t 46) (.c (.int .i64 1)), none⟩,
    ⟨(some 46), .mv (.t 60), none⟩]
def l21_0 (b : Nat) : ACode := .seq (.reg false (r21_8 b) []) (.seq (.cond (.t 47) (.skip) (.exit 0)) (.seq (.block 1 (.seq (.reg false (r21_9 b) []) (.seq (.reg false (r21_10 b) []) (.cond (.t 53) (.reg false (r21_11 b) []) (.skip))))) (.reg false (r21_12 b) [])))
def r21_13 (b : Nat) : List AOper := [
    ⟨(some 61), .load true 7 (.t 11), none⟩,
    ⟨none, .store 7 (.t 8) (.t 61), none⟩,
    ⟨(some 9), .mv (.c (.int .i64 0)), none⟩]
def c21 (b : Nat) : ACode := .seq (.reg false (r21_0 b) []) (.seq (.seq (.reg false (r21_1 b) []) (.seq (.reg false (r21_2 b) []) (.cond (.t 18) (.seq (.reg false (r21_3 b) []) (.ret)) (.skip)))) (.seq (.seq (.reg false (r21_4 b) []) (.cond (.t 31) (.seq (.reg false (r21_5 b) []) (.ret)) (.skip))) (.seq (.reg false (r21_6 b) []) (.seq (.seq (.reg false (r21_7 b) []) (.block 0 (.loop (l21_0 b)))) (.seq (.reg false (r21_13 b) []) (.ret))))))
def rs21 : List ARes := [.c 8 true 7, .t 9]
theorem ck21 : ∃ c, Tryd.f21.body = some c ∧ ∀ b, checkCode Tryd.prog c (c21 b) = true := ⟨_, rfl, fun b => by kernel_rfl⟩
theorem cr21 : checkRess Tryd.prog Tryd.f21.results.toList rs21 = true := by kernel_rfl
def r22_0 (b : Nat) : List AOper := [
    ⟨(some 2), .box (b + 0) (.t 0), none⟩,
    ⟨(some 3), .box (b + 1) (.t 1), none⟩,
    ⟨(some 4), .alloc (b + 2) [.int .i64 0, .int .i64 0, .int .i64 0], none⟩]
def r22_1 (b : Nat) : List AOper := [
    ⟨(some 5), .alloc (b + 3) [.nilfn], none⟩]
def r22_2 (b : Nat) : List AOper := [
    ⟨(some 6), .mkfn 45 [.t 3, .t 2, .t 5], none⟩,
    ⟨none, .store 1 (.t 5) (.t 6), none⟩]
def r22_3 (b : Nat) : List AOper := [
    ⟨(some 7), .load false 1 (.t 5), none⟩,
    ⟨(some 8), .callv (.t 7) [.c (.int .i64 4)], none⟩,
    ⟨none, .store 3 (.t 4) (.t 8), none⟩]
def c22 (b : Nat) : ACode := .seq (.reg false (r22_0 b) []) (.seq (.reg false (r22_1 b) []) (.seq (.reg false (r22_2 b) []) (.seq (.reg false (r22_3 b) []) (.ret))))
def rs22 : List ARes := [.c 4 true 3]
theorem ck22 : ∃ c, Tryd.f22.body = some c ∧ ∀ b, checkCode Tryd.prog c (c22 b) = true := ⟨_, rfl, fun b => by kernel_rfl⟩
theorem cr22 : checkRess Tryd.prog Tryd.f22.results.toList rs22 = true := by kernel_rfl
def r23_0 (b : Nat) : List AOper := [
    ⟨(some 4), .mv (.c (.bool false)), none⟩]
def r23_1 (b : Nat) : List AOper := [
    ⟨(some 5), .mv (.t 0), none⟩,
    ⟨(some 6), .bin .geq false (.t 5) (.c (.int .i64 0)), none⟩,
    ⟨(some 7), .mv (.t 6), none⟩,
    ⟨(some 8), .mv (.t 0), (some (7, true))⟩,
    ⟨(some 9), .mv (.t 1), (some (7, true))⟩,
    ⟨(some 10), .bin .leq false (.t 8) (.t 9), (some (7, true))⟩,
    ⟨(some 11), .pick (.t 7) (.t 10) (.c (.bool false)), none⟩,
    ⟨(some 12), .mv (.t 11), none⟩,
    ⟨(some 13), .mv (.t 1), (some (12, true))⟩,
    ⟨(some 14), .bin .leq false (.t 13) (.c (.int .i64 1402560)), (some (12, true))⟩,
    ⟨(some 15), .pick (.t 12) (.t 14) (.c (.bool false)), none⟩,
    ⟨(some 4), .mv (.t 15), none⟩]
def c23 (b : Nat) : ACode := .seq (.reg false (r23_0 b) []) (.seq (.reg false (r23_1 b) []) (.ret))
def rs23 : List ARes := [.t 4]
theorem ck23 : ∃ c, Tryd.f23.body = some c ∧ ∀ b, checkCode Tryd.prog c (c23 b) = true := ⟨_, rfl, fun b => by kernel_rfl⟩
theorem cr23 : checkRess Tryd.prog Tryd.f23.results.toList rs23 = true := by kernel_rfl
def r24_0 (b : Nat) : List AOper := [
    ⟨(some 2), .box (b + 0) (.t 0), none⟩,
    ⟨(some 3), .box (b + 1) (.t 1), none⟩,
    ⟨(some 4), .mv (.c (.nilfn)), none⟩]
def r24_1 (b : Nat) : List AOper := [
    ⟨(some 5), .mkfn 48 [.t 3, .t 2], none⟩,
    ⟨(some 4), .mv (.t 5), none⟩]
def c24 (b : Nat) : ACode := .seq (.reg false (r24_0 b) []) (.seq (.reg false (r24_1 b) []) (.ret))
def rs24 : List ARes := [.t 4]
theorem ck24 : ∃ c, Tryd.f24.body = some c ∧ ∀ b, checkCode Tryd.prog c (c24 b) = true := ⟨_, rfl, fun b => by kernel_rfl⟩
theorem cr24 : checkRess Tryd.prog Tryd.f24.results.toList rs24 = true := by kernel_rfl
def r25_0 (b : Nat) : List AOper := [
    ⟨(some 4), .box (b + 0) (.t 0), none⟩,
    ⟨(some 8), .mv (.c (.int .i64 0)), none⟩]
def r25_1 (b : Nat) : List AOper := [
    ⟨(some 11), .load true 4 (.t 4), none⟩,
    ⟨(some 12), .mv (.t 1), none⟩,
    ⟨(some 13), .callf 14 [.t 11, .t 12], none⟩,
    ⟨(some 9), .mv (.t 13), none⟩]
def r25_2 (b : Nat) : List AOper := [
    ⟨(some 14), .mv (.t 9), none⟩,
    ⟨(some 15), .bin .neq false (.t 14) (.c (.int .i64 0)), none⟩]
def r25_3 (b : Nat) : List AOper := [
    ⟨(some 16), .mv (.t 9), none⟩,
    ⟨(some 8), .mv (.t 16), none⟩]
def r25_4 (b : Nat) : List AOper := [
    ⟨(some 17), .mv (.t 2), none⟩,
    ⟨(some 18), .callf 30 [.t 17], none⟩,
    ⟨(some 10), .mv (.t 18), none⟩]
def r25_5 (b : Nat) : List AOper := [
    ⟨(some 19), .mv (.t 10), none⟩,
    ⟨(some 20), .not (.t 19), none⟩,
    ⟨(some 21), .mv (.t 20), none⟩,
    ⟨(some 22), .mv (.t 3), (some (21, false))⟩,
    ⟨(some 23), .bin .lss false (.t 22) (.c (.int .i64 0)), (some (21, false))⟩,
    ⟨(some 24), .pick (.t 21) (.c (.bool true)) (.t 23), none⟩,
    ⟨(some 25), .mv (.t 24), none⟩,
    ⟨(some 26), .mv (.t 3), (some (25, false))⟩,
    ⟨(some 27), .bin .gtr false (.t 26) (.c (.int .i64 14609)), (some (25, false))⟩,
    ⟨(some 28), .pick (.t 25) (.c (.bool true)) (.t 27), none⟩]
def r25_6 (b : Nat) : List AOper := [
    ⟨(some 8), .mv (.c (.int .i64 3)), none⟩]
def r25_7 (b : Nat) : List AOper := [
    ⟨(some 8), .mv (.c (.int .i64 0)), none⟩]
def c25 (b : Nat) : ACode := .seq (.reg false (r25_0 b) []) (.seq (.reg false (r25_1 b) []) (.seq (.seq (.reg false (r25_2 b) []) (.cond (.t 15) (.seq (.reg false (r25_3 b) []) (.ret)) (.skip))) (.seq (.reg false (r25_4 b) []) (.seq (.seq (.reg false (r25_5 b) []) (.cond (.t 28) (.seq (.reg false (r25_6 b) []) (.ret)) (.skip))) (.seq (.reg false (r25_7 b) []) (.ret))))))
def rs25 : List ARes := [.t 8]
theorem ck25 : ∃ c, Tryd.f25.body = some c ∧ ∀ b, checkCode Tryd.prog c (c25 b) = true := ⟨_, rfl, fun b => by kernel_rfl⟩
theorem cr25 : checkRess Tryd.prog Tryd.f25.results.toList rs25 = true := by kernel_rfl
def r26_0 (b : Nat) : List AOper := [
    ⟨(some 5), .box (b + 0) (.t 0), none⟩,
    ⟨(some 10), .alloc (b + 1) [.int .i64 0, .int .i64 0, .int .i64 0], none⟩]
def r26_1 (b : Nat) : List AOper := [
    ⟨(some 15), .mv (.t 3), none⟩,
    ⟨(some 16), .mv (.t 3), none⟩,
    ⟨(some 17), .bin .add false (.t 16) (.c (.int .i64 1)), none⟩,
    ⟨(some 18), .build [.int .i64 0, .int .i64 0, .int .i64 0] [(1, 1, .t 15), (2, 1, .t 17)], none⟩,
    ⟨(some 11), .alloc (b + 2) [.int .i64 0, .int .i64 0, .int .i64 0], none⟩,
    ⟨none, .store 3 (.t 11) (.t 18), none⟩]
def r26_2 (b : Nat) : List AOper := [
    ⟨(some 12), .mv (.c (.int .i64 1)), none⟩]
def r26_3 (b : Nat) : List AOper := [
    ⟨(some 19), .mv (.t 12), none⟩,
    ⟨(some 20), .bin .leq false (.t 19) (.c (.int .i64 4)), none⟩]
def r26_5 (b : Nat) : List AOper := [
    ⟨(some 23), .mv (.t 12), none⟩,
    ⟨(some 24), .mv (.t 3), none⟩,
    ⟨(some 25), .callf 49 [.t 23, .t 24], none⟩,
    ⟨(some 26), .field true 0 3 (.t 25), none⟩,
    ⟨(some 13), .alloc (b + 3) [.int .i64 0, .int .i64 0, .int .i64 0], none⟩,
    ⟨none, .store 3 (.t 13) (.t 26), none⟩]
def r26_6 (b : Nat) : List AOper := [
    ⟨(some 27), .load true 4 (.t 5), none⟩,
    ⟨(some 28), .mv (.t 1), none⟩,
    ⟨(some 29), .mv (.t 2), none⟩,
    ⟨(some 30), .load true 3 (.t 13), none⟩,
    ⟨(some 31), .mv (.t 4), none⟩,
    ⟨(some 32), .callf 50 [.t 27, .t 28, .t 29, .t 30, .t 31], none⟩,
    ⟨(some 14), .mv (.t 32), none⟩]
def r26_7 (b : Nat) : List AOper := [
    ⟨(some 33), .mv (.t 14), none⟩]
def r26_8 (b : Nat) : List AOper := [
    ⟨(some 34), .load true 3 (.t 13), none⟩,
    ⟨none, .store 3 (.t 11) (.t 34), none⟩]
def r26_4 (b : Nat) : List AOper := [
    ⟨(some 21), .mv (.t 12), none⟩,
    ⟨(some 22), .bin .add false (.t 21) (.c (.int .i64 1)), none⟩,
    ⟨(some 12), .mv (.t 22), none⟩]
def l26_0 (b : Nat) : ACode := .seq (.seq (.reg false (r26_3 b) []) (.cond (.t 20) (.skip) (.exit 0))) (.seq (.block 1 (.seq (.reg false (r26_5 b) []) (.seq (.reg false (r26_6 b) []) (.seq (.reg false (r26_7 b) []) (.cond (.t 33) (.reg false (r26_8 b) []) (.skip)))))) (.reg false (r26_4 b) []))
def r26_9 (b : Nat) : List AOper := [
    ⟨(some 35), .load true 3 (.t 11), none⟩,
    ⟨none, .store 3 (.t 10) (.t 35), none⟩]
def c26 (b : Nat) : ACode := .seq (.reg false (r26_0 b) []) (.seq (.reg false (r26_1 b) []) (.seq (.seq (.reg false (r26_2 b) []) (.block 0 (.loop (l26_0 b)))) (.seq (.reg false (r26_9 b) []) (.ret))))
def rs26 : List ARes := [.c 10 true 3]
theorem ck26 : ∃ c, Tryd.f26.body = some c ∧ ∀ b, checkCode Tryd.prog c (c26 b) = true := ⟨_, rfl, fun b => by kernel_rfl⟩
theorem cr26 : checkRess Tryd.prog Tryd.f26.results.toList rs26 = true := by kernel_rfl
def r27_0 (b : Nat) : List AOper := [
    ⟨(some 4), .mv (.c (.bool false)), none⟩]
def r27_1 (b : Nat) : List AOper := [
    ⟨(some 5), .mv (.t 0), none⟩,
    ⟨(some 6), .mv (.t 1), none⟩,
    ⟨(some 7), .callf 51 [.t 5, .t 6], none⟩,
    ⟨(some 8), .bin .geq false (.t 7) (.c (.int .i64 0)), none⟩,
    ⟨(some 4), .mv (.t 8), none⟩]
def c27 (b : Nat) : ACode := .seq (.reg false (r27_0 b) []) (.seq (.reg false (r27_1 b) []) (.ret))
def rs27 : List ARes := [.t 4]
theorem ck27 : ∃ c, Tryd.f27.body = some c ∧ ∀ b, checkCode Tryd.prog c (c27 b) = true := ⟨_, rfl, fun b => by kernel_rfl⟩
theorem cr27 : checkRess Tryd.prog Tryd.f27.results.toList rs27 = true := by kernel_rfl
def r28_0 (b : Nat) : List AOper := [
    ⟨(some 1), .box (b + 0) (.t 0), none⟩,
    ⟨(some 2), .mv (.c (.bool false)), none⟩]
def r28_1 (b : Nat) : List AOper := [
    ⟨(some 3), .faddr 0 (.t 1), none⟩,
    ⟨(some 4), .load false 1 (.t 3), none⟩,
    ⟨(some 5), .callf 29 [.t 4], none⟩,
    ⟨(some 6), .not (.t 5), none⟩,
    ⟨(some 7), .mv (.t 6), none⟩,
    ⟨(some 8), .faddr 1 (.t 1), (some (7, false))⟩,
    ⟨(some 9), .load false 1 (.t 8), (some (7, false))⟩,
    ⟨(some 10), .bin .lss false (.t 9) (.c (.int .i64 0)), (some (7, false))⟩,
    ⟨(some 11), .pick (.t 7) (.c (.bool true)) (.t 10), none⟩,
    ⟨(some 12), .mv (.t 11), none⟩,
    ⟨(some 13), .faddr 1 (.t 1), (some (12, false))⟩,
    ⟨(some 14), .load false 1 (.t 13), (some (12, false))⟩,
    ⟨(some 15), .faddr 2 (.t 1), (some (12, false))⟩,
    ⟨(some 16), .load false 1 (.t 15), (some (12, false))⟩,
    ⟨(some 17), .bin .geq false (.t 14) (.t 16), (some (12, false))⟩,
    ⟨(some 18), .pick (.t 12) (.c (.bool true)) (.t 17), none⟩,
    ⟨(some 19), .mv (.t 18), none⟩,
    ⟨(some 20), .faddr 2 (.t 1), (some (19, false))⟩,
    ⟨(some 21), .load false 1 (.t 20), (some (19, false))⟩,
    ⟨(some 22), .bin .gtr false (.t 21) (.c (.int .i64 1402560)), (some (19, false))⟩,
    ⟨(some 23), .pick (.t 19) (.c (.bool true)) (.t 22), none⟩,
    ⟨(some 2), .mv (.t 23), none⟩]
def c28 (b : Nat) : ACode := .seq (.reg false (r28_0 b) []) (.seq (.reg false (r28_1 b) []) (.ret))
def rs28 : List ARes := [.t 2]
theorem ck28 : ∃ c, Tryd.f28.body = some c ∧ ∀ b, checkCode Tryd.prog c (c28 b) = true := ⟨_, rfl, fun b => by kernel_rfl⟩
theorem cr28 : checkRess Tryd.prog Tryd.f28.results.toList rs28 = true := by kernel_rfl
def r29_0 (b : Nat) : List AOper := [
    ⟨(some 2), .mv (.c (.bool false)), none⟩]
def r29_1 (b : Nat) : List AOper := [
    ⟨(some 3), .mv (.t 0), none⟩,
    ⟨(some 4), .bin .geq false (.t 3) (.c (.int .i64 0)), none⟩,
    ⟨(some 5), .mv (.t 4), none⟩,
    ⟨(some 6), .mv (.t 0), (some (5, true))⟩,
    ⟨(some 7), .bin .lss false (.t 6) (.c (.int .i64 40)), (some (5, true))⟩,
    ⟨(some 8), .pick (.t 5) (.t 7) (.c (.bool false)), none⟩,
    ⟨(some 2), .mv (.t 8), none⟩]
def c29 (b : Nat) : ACode := .seq (.reg false (r29_0 b) []) (.seq (.reg false (r29_1 b) []) (.ret))
def rs29 : List ARes := [.t 2]
theorem ck29 : ∃ c, Tryd.f29.body = some c ∧ ∀ b, checkCode Tryd.prog c (c29 b) = true := ⟨_, rfl, fun b => by kernel_rfl⟩
theorem cr29 : checkRess Tryd.prog Tryd.f29.results.toList rs29 = true := by kernel_rfl
def r30_0 (b : Nat) : List AOper := [
    ⟨(some 2), .mv (.c (.bool false)), none⟩]
def r30_1 (b : Nat) : List AOper := [
    ⟨(some 3), .mv (.t 0), none⟩,
    ⟨(some 4), .bin .geq false (.t 3) (.c (.int .i64 0)), none⟩,
    ⟨(some 5), .mv (.t 4), none⟩,
    ⟨(some 6), .mv (.t 0), (some (5, true))⟩,
    ⟨(some 7), .bin .lss false (.t 6) (.c (.int .i64 40)), (some (5, true))⟩,
    ⟨(some 8), .pick (.t 5) (.t 7) (.c (.bool false)), none⟩,
    ⟨(some 2), .mv (.t 8), none⟩]
def c30 (b : Nat) : ACode := .seq (.reg false (r30_0 b) []) (.seq (.reg false (r30_1 b) []) (.ret))
def rs30 : List ARes := [.t 2]
theorem ck30 : ∃ c, Tryd.f30.body = some c ∧ ∀ b, checkCode Tryd.prog c (c30 b) = true := ⟨_, rfl, fun b => by kernel_rfl⟩
theorem cr30 : checkRess Tryd.prog Tryd.f30.results.toList rs30 = true := by kernel_rfl
def r31_0 (b : Nat) : List AOper := [
    ⟨(some 1), .box (b + 0) (.t 0), none⟩,
    ⟨(some 2), .mv (.c (.bool false)), none⟩]
def r31_1 (b : Nat) : List AOper := [
    ⟨(some 3), .faddr 1 (.t 1), none⟩,
    ⟨(some 4), .load false 1 (.t 3), none⟩,
    ⟨(some 5), .len false (.t 4), none⟩,
    ⟨(some 6), .bin .leq false (.t 5) (.c (.int .i64 40000)), none⟩,
    ⟨(some 7), .mv (.t 6), none⟩,
    ⟨(some 8), .faddr 0 (.t 1), (some (7, true))⟩,
    ⟨(some 9), .load false 1 (.t 8), (some (7, true))⟩,
    ⟨(some 10), .faddr 1 (.t 1), (some (7, true))⟩,
    ⟨(some 11), .load false 1 (.t 10), (some (7, true))⟩,
    ⟨(some 12), .len false (.t 11), (some (7, true))⟩,
    ⟨(some 13), .bin .sub false (.c (.int .i64 1402560)) (.t 12), (some (7, true))⟩,
    ⟨(some 14), .callf 52 [.t 9, .c (.int .i64 0), .t 13], (some (7, true))⟩,
    ⟨(some 15), .pick (.t 7) (.t 14) (.c (.bool false)), none⟩,
    ⟨(some 16), .mv (.t 15), none⟩,
    ⟨(some 17), .faddr 1 (.t 1), (some (16, true))⟩,
    ⟨(some 18), .load false 1 (.t 17), (some (16, true))⟩,
    ⟨(some 19), .callf 53 [.t 18, .c (.fn 54 [])], (some (16, true))⟩,
    ⟨(some 20), .not (.t 19), (some (16, true))⟩,
    ⟨(some 21), .pick (.t 16) (.t 20) (.c (.bool false)), none⟩,
    ⟨(some 2), .mv (.t 21), none⟩]
def c31 (b : Nat) : ACode := .seq (.reg false (r31_0 b) []) (.seq (.reg false (r31_1 b) []) (.ret))
def rs31 : List ARes := [.t 2]
theorem ck31 : ∃ c, Tryd.f31.body = some c ∧ ∀ b, checkCode Tryd.prog c (c31 b) = true := ⟨_, rfl, fun b => by kernel_rfl⟩
theorem cr31 : checkRess Tryd.prog Tryd.f31.results.toList rs31 = true := by kernel_rfl
def r32_0 (b : Nat) : List AOper := [
    ⟨(some 6), .alloc (b + 0) [.int .i64 0, .int .i64 0, .nils, .int .i64 0, .int .i64 0], none⟩]
def r32_1 (b : Nat) : List AOper := [
    ⟨(some 7), .mv (.t 0), none⟩,
    ⟨(some 8), .mv (.t 1), none⟩,
    ⟨(some 9), .mv (.t 2), none⟩,
    ⟨(some 10), .mv (.t 1), none⟩,
    ⟨(some 11), .mv (.t 0), none⟩,
    ⟨(some 12), .bin .sub false (.t 10) (.t 11), none⟩,
    ⟨(some 13), .build [.int .i64 0, .int .i64 0] [(0, 1, .t 9), (1, 1, .t 12)], none⟩,
    ⟨(some 14), .bslice (b + 1) 2 1 [.int .i64 0, .int .i64 0] [(0, 2, .t 13)], none⟩,
    ⟨(some 15), .build [.int .i64 0, .int .i64 0, .nils, .int .i64 0, .int .i64 0] [(0, 1, .t 7), (1, 1, .t 8), (2, 1, .t 14)], none⟩,
    ⟨none, .store 5 (.t 6) (.t 15), none⟩]
def c32 (b : Nat) : ACode := .seq (.reg false (r32_0 b) []) (.seq (.reg false (r32_1 b) []) (.ret))
def rs32 : List ARes := [.c 6 true 5]
theorem ck32 : ∃ c, Tryd.f32.body = some c ∧ ∀ b, checkCode Tryd.prog c (c32 b) = true := ⟨_, rfl, fun b => by kernel_rfl⟩
theorem cr32 : checkRess Tryd.prog Tryd.f32.results.toList rs32 = true := by kernel_rfl
def r33_0 (b : Nat) : List AOper := [
    ⟨(some 2), .box (b + 0) (.t 0), none⟩,
    ⟨(some 3), .box (b + 1) (.t 1), none⟩,
    ⟨(some 4), .alloc (b + 2) [.int .i64 0, .int .i64 0, .nils, .int .i64 0, .int .i64 0], none⟩,
    ⟨(some 5), .mv (.c (.bool false)), none⟩]
def r33_1 (b : Nat) : List AOper := [
    ⟨(some 7), .load true 5 (.t 2), none⟩,
    ⟨(some 8), .callf 40 [.t 7], none⟩,
    ⟨(some 9), .mv (.t 8), none⟩,
    ⟨(some 10), .load true 5 (.t 3), (some (9, true))⟩,
    ⟨(some 11), .callf 40 [.t 10], (some (9, true))⟩,
    ⟨(some 12), .pick (.t 9) (.t 11) (.c (.bool false)), none⟩,
    ⟨(some 13), .mv (.t 12), none⟩,
    ⟨(some 14), .faddr 2 (.t 2), (some (13, true))⟩,
    ⟨(some 15), .load false 1 (.t 14), (some (13, true))⟩,
    ⟨(some 16), .iaddrS 2 (.t 15) (.c (.int .i64 0)), (some (13, true))⟩,
    ⟨(some 17), .faddr 0 (.t 16), (some (13, true))⟩,
    ⟨(some 18), .load false 1 (.t 17), (some (13, true))⟩,
    ⟨(some 19), .faddr 2 (.t 3), (some (13, true))⟩,
    ⟨(some 20), .load false 1 (.t 19), (some (13, true))⟩,
    ⟨(some 21), .iaddrS 2 (.t 20) (.c (.int .i64 0)), (some (13, true))⟩,
    ⟨(some 22), .faddr 0 (.t 21), (some (13, true))⟩,
    ⟨(some 23), .load false 1 (.t 22), (some (13, true))⟩,
    ⟨(some 24), .bin .eql false (.t 18) (.t 23), (some (13, true))⟩,
    ⟨(some 25), .pick (.t 13) (.t 24) (.c (.bool false)), none⟩,
    ⟨(some 6), .mv (.t 25), none⟩]
def r33_1p : List (List Nat) := [[], [0], [0, 1], [0, 1, 2], [0, 1, 2, 3], [0, 1, 2, 3, 4], [0, 1, 2, 3, 4, 5], [0, 1, 2, 3, 4, 5, 6], [0, 1, 2, 3, 4, 5, 6, 7], [0, 1, 2, 3, 4, 5, 6, 7, 8], [0, 1, 2, 3, 4, 5, 6, 7, 8, 9], [0, 1, 2, 3, 4, 5, 6, 7, 8, 9, 10], [0, 1, 2, 3, 4, 5, 6], [0, 1, 2, 3, 4, 5, 6, 12], [0, 1, 2, 3, 4, 5, 6, 12, 13], [0, 1, 2, 3, 4, 5, 6, 12, 13, 14], [0, 1, 2, 3, 4, 5, 6, 12, 13, 14, 15], [0, 1, 2, 3, 4, 5, 6, 7, 8, 9, 10, 11, 12, 13, 14, 15, 16], [0, 1, 2, 3, 4, 5, 6, 7, 8, 9, 10, 11, 12, 13, 14, 15, 16, 17], [0, 1, 2, 3, 4, 5, 6, 7, 8, 9, 10, 11, 12, 13, 14, 15, 16, 17, 18]]
def r33_2 (b : Nat) : List AOper := [
    ⟨(some 26), .faddr 0 (.t 2), none⟩,
    ⟨(some 27), .load false 1 (.t 26), none⟩,
    ⟨(some 28), .faddr 1 (.t 3), none⟩,
    ⟨(some 29), .load false 1 (.t 28), none⟩,
    ⟨(some 30), .faddr 2 (.t 2), none⟩,
    ⟨(some 31), .load false 1 (.t 30), none⟩,
    ⟨(some 32), .iaddrS 2 (.t 31) (.c (.int .i64 0)), none⟩,
    ⟨(some 33), .faddr 0 (.t 32), none⟩,
    ⟨(some 34), .load false 1 (.t 33), none⟩,
    ⟨(some 35), .callf 32 [.t 27, .t 29, .t 34], none⟩,
    ⟨none, .store 5 (.t 4) (.t 35), none⟩,
    ⟨(some 5), .mv (.c (.bool true)), none⟩]
def r33_2p : List (List Nat) := [[], [0], [], [2], [], [4], [4, 5], [4, 5, 6], [4, 5, 6, 7], [0, 1, 2, 3, 4, 5, 6, 7, 8], [0, 1, 2, 3, 4, 5, 6, 7, 8, 9], [0, 1, 2, 3, 4, 5, 6, 7, 8, 9, 10]]
def r33_3 (b : Nat) : List AOper := [
    ⟨(some 37), .load true 5 (.t 2), none⟩,
    ⟨(some 38), .callf 39 [.t 37], none⟩,
    ⟨(some 39), .mv (.t 38), none⟩,
    ⟨(some 40), .load true 5 (.t 3), (some (39, true))⟩,
    ⟨(some 41), .callf 39 [.t 40], (some (39, true))⟩,
    ⟨(some 42), .pick (.t 39) (.t 41) (.c (.bool false)), none⟩,
    ⟨(some 43), .mv (.t 42), none⟩,
    ⟨(some 44), .faddr 3 (.t 2), (some (43, true))⟩,
    ⟨(some 45), .load false 1 (.t 44), (some (43, true))⟩,
    ⟨(some 46), .faddr 3 (.t 3), (some (43, true))⟩,
    ⟨(some 47), .load false 1 (.t 46), (some (43, true))⟩,
    ⟨(some 48), .bin .eql false (.t 45) (.t 47), (some (43, true))⟩,
    ⟨(some 49), .pick (.t 43) (.t 48) (.c (.bool false)), none⟩,
    ⟨(some 50), .mv (.t 49), none⟩,
    ⟨(some 51), .faddr 4 (.t 2), (some (50, true))⟩,
    ⟨(some 52), .load false 1 (.t 51), (some (50, true))⟩,
    ⟨(some 53), .faddr 4 (.t 3), (some (50, true))⟩,
    ⟨(some 54), .load false 1 (.t 53), (some (50, true))⟩,
    ⟨(some 55), .bin .eql false (.t 52) (.t 54), (some (50, true))⟩,
    ⟨(some 56), .pick (.t 50) (.t 55) (.c (.bool false)), none⟩,
    ⟨(some 36), .mv (.t 56), none⟩]
def r33_4 (b : Nat) : List AOper := [
    ⟨(some 57), .faddr 0 (.t 2), none⟩,
    ⟨(some 58), .load false 1 (.t 57), none⟩,
    ⟨(some 59), .faddr 1 (.t 3), none⟩,
    ⟨(some 60), .load false 1 (.t 59), none⟩,
    ⟨(some 61), .faddr 3 (.t 2), none⟩,
    ⟨(some 62), .load false 1 (.t 61), none⟩,
    ⟨(some 63), .faddr 4 (.t 2), none⟩,
    ⟨(some 64), .load false 1 (.t 63), none⟩,
    ⟨(some 65), .build [.int .i64 0, .int .i64 0, .nils, .int .i64 0, .int .i64 0] [(0, 1, .t 58), (1, 1, .t 60), (3, 1, .t 62), (4, 1, .t 64)], none⟩,
    ⟨none, .store 5 (.t 4) (.t 65), none⟩,
    ⟨(some 5), .mv (.c (.bool true)), none⟩]
def r33_5 (b : Nat) : List AOper := [
    ⟨(some 66), .build [.int .i64 0, .int .i64 0, .nils, .int .i64 0, .int .i64 0] [], none⟩,
    ⟨none, .store 5 (.t 4) (.t 66), none⟩,
    ⟨(some 5), .mv (.c (.bool false)), none⟩]
def c33 (b : Nat) : ACode := .seq (.reg false (r33_0 b) []) (.seq (.block 0 (.seq (.reg true (r33_1 b) r33_1p) (.cond (.t 6) (.seq (.reg true (r33_2 b) r33_2p) (.ret)) (.seq (.reg false (r33_3 b) []) (.cond (.t 36) (.seq (.reg false (r33_4 b) []) (.ret)) (.skip)))))) (.seq (.reg false (r33_5 b) []) (.ret)))
def rs33 : List ARes := [.c 4 true 5, .t 5]
theorem ck33 : ∃ c, Tryd.f33.body = some c ∧ ∀ b, checkCode Tryd.prog c (c33 b) = true := ⟨_, rfl, fun b => by kernel_rfl⟩
theorem cr33 : checkRess Tryd.prog Tryd.f33.results.toList rs33 = true := by kernel_rfl
def r34_0 (b : Nat) : List AOper := [
    ⟨(some 2), .mv (.c (.int .i64 0)), none⟩]
def r34_1 (b : Nat) : List AOper := [
    ⟨(some 7), .mv (.t 0), none⟩,
    ⟨(some 8), .len false (.t 7), none⟩,
    ⟨(some 9), .bin .gtr false (.t 8) (.c (.int .i64 2000)), none⟩]
def r34_2 (b : Nat) : List AOper := [
    ⟨(some 2), .mv (.c (.int .i64 2)), none⟩]
def r34_3 (b : Nat) : List AOper := [
    ⟨(some 10), .mv (.t 0), none⟩,
    ⟨(some 11), .len false (.t 10), none⟩,
    ⟨(some 12), .mv (.c (.int .i64 0)), none⟩]
def r34_4 (b : Nat) : List AOper := [
    ⟨(some 13), .bin .lss false (.t 12) (.t 11), none⟩]
def r34_5 (b : Nat) : List AOper := [
    ⟨(some 14), .mv (.t 12), none⟩,
    ⟨(some 15), .iaddrS 5 (.t 10) (.t 12), none⟩,
    ⟨(some 16), .load true 5 (.t 15), none⟩,
    ⟨(some 4), .alloc (b + 0) [.int .i64 0, .int .i64 0, .nils, .int .i64 0, .int .i64 0], none⟩,
    ⟨(some 3), .mv (.t 14), none⟩,
    ⟨none, .store 5 (.t 4) (.t 16), none⟩]
def r34_6 (b : Nat) : List AOper := [
    ⟨(some 17), .faddr 0 (.t 4), none⟩,
    ⟨(some 18), .load false 1 (.t 17), none⟩,
    ⟨(some 19), .bin .lss false (.t 18) (.c (.int .i64 0)), none⟩,
    ⟨(some 20), .mv (.t 19), none⟩,
    ⟨(some 21), .faddr 0 (.t 4), (some (20, false))⟩,
    ⟨(some 22), .load false 1 (.t 21), (some (20, false))⟩,
    ⟨(some 23), .faddr 1 (.t 4), (some (20, false))⟩,
    ⟨(some 24), .load false 1 (.t 23), (some (20, false))⟩,
    ⟨(some 25), .bin .geq false (.t 22) (.t 24), (some (20, false))⟩,
    ⟨(some 26), .pick (.t 20) (.c (.bool true)) (.t 25), none⟩,
    ⟨(some 27), .mv (.t 26), none⟩,
    ⟨(some 28), .faddr 1 (.t 4), (some (27, false))⟩,
    ⟨(some 29), .load false 1 (.t 28), (some (27, false))⟩,
    ⟨(some 30), .bin .gtr false (.t 29) (.c (.int .i64 1402560)), (some (27, false))⟩,
    ⟨(some 31), .pick (.t 27) (.c (.bool true)) (.t 30), none⟩]
def r34_7 (b : Nat) : List AOper := [
    ⟨(some 2), .mv (.c (.int .i64 3)), none⟩]
def r34_8 (b : Nat) : List AOper := [
    ⟨(some 32), .mv (.t 3), none⟩,
    ⟨(some 33), .bin .gtr false (.t 32) (.c (.int .i64 0)), none⟩,
    ⟨(some 34), .mv (.t 33), none⟩,
    ⟨(some 35), .faddr 0 (.t 4), (some (34, true))⟩,
    ⟨(some 36), .load false 1 (.t 35), (some (34, true))⟩,
    ⟨(some 37), .mv (.t 0), (some (34, true))⟩,
    ⟨(some 38), .mv (.t 3), (some (34, true))⟩,
    ⟨(some 39), .bin .sub false (.t 38) (.c (.int .i64 1)), (some (34, true))⟩,
    ⟨(some 40), .iaddrS 5 (.t 37) (.t 39), (some (34, true))⟩,
    ⟨(some 41), .faddr 1 (.t 40), (some (34, true))⟩,
    ⟨(some 42), .load false 1 (.t 41), (some (34, true))⟩,
    ⟨(some 43), .bin .neq false (.t 36) (.t 42), (some (34, true))⟩,
    ⟨(some 44), .pick (.t 34) (.t 43) (.c (.bool false)), none⟩]
def r34_8p : List (List Nat) := [[], [0], [0, 1], [0, 1, 2], [0, 1, 2, 3], [0, 1, 2], [0, 1, 2], [0, 1, 2, 6], [0, 1, 2, 5, 6, 7], [0, 1, 2, 5, 6, 7, 8], [0, 1, 2, 5, 6, 7, 8, 9], [0, 1, 2, 3, 4, 5, 6, 7, 8, 9, 10], [0, 1, 2, 3, 4, 5, 6, 7, 8, 9, 10, 11]]
def r34_9 (b : Nat) : List AOper := [
    ⟨(some 2), .mv (.c (.int .i64 1)), none⟩]
def r34_10 (b : Nat) : List AOper := [
    ⟨(some 45), .load true 5 (.t 4), none⟩,
    ⟨(some 46), .callf 55 [.t 45], none⟩,
    ⟨(some 5), .mv (.t 46), none⟩]
def r34_11 (b : Nat) : List AOper := [
    ⟨(some 47), .mv (.t 5), none⟩,
    ⟨(some 48), .bin .neq false (.t 47) (.c (.int .i64 0)), none⟩]
def r34_12 (b : Nat) : List AOper := [
    ⟨(some 49), .mv (.t 5), none⟩,
    ⟨(some 2), .mv (.t 49), none⟩]
def r34_13 (b : Nat) : List AOper := [
    ⟨(some 50), .bin .add false (.t 12) (.c (.int .i64 1)), none⟩,
    ⟨(some 12), .mv (.t 50), none⟩]
def l34_0 (b : Nat) : ACode := .seq (.reg false (r34_4 b) []) (.seq (.cond (.t 13) (.skip) (.exit 0)) (.seq (.block 1 (.seq (.reg false (r34_5 b) []) (.seq (.seq (.reg false (r34_6 b) []) (.cond (.t 31) (.seq (.reg false (r34_7 b) []) (.ret)) (.skip))) (.seq (.seq (.reg true (r34_8 b) r34_8p) (.cond (.t 44) (.seq (.reg false (r34_9 b) []) (.ret)) (.skip))) (.seq (.reg false (r34_10 b) []) (.seq (.reg false (r34_11 b) []) (.cond (.t 48) (.seq (.reg false (r34_12 b) []) (.ret)) (.skip)))))))) (.reg false (r34_13 b) [])))
def r34_14 (b : Nat) : List AOper := [
    ⟨(some 51), .mv (.t 0), none⟩,
    ⟨(some 52), .len false (.t 51), none⟩,
    ⟨(some 6), .mv (.t 52), none⟩]
def r34_15 (b : Nat) : List AOper := [
    ⟨(some 53), .mv (.t 6), none⟩,
    ⟨(some 54), .bin .gtr false (.t 53) (.c (.int .i64 0)), none⟩,
    ⟨(some 55), .mv (.t 54), none⟩,
    ⟨(some 56), .mv (.t 0), (some (55, true))⟩,
    ⟨(some 57), .mv (.t 6), (some (55, true))⟩,
    ⟨(some 58), .bin .sub false (.t 57) (.c (.int .i64 1)), (some (55, true))⟩,
    ⟨(some 59), .iaddrS 5 (.t 56) (.t 58), (some (55, true))⟩,
    ⟨(some 60), .faddr 1 (.t 59), (some (55, true))⟩,
    ⟨(some 61), .load false 1 (.t 60), (some (55, true))⟩,
    ⟨(some 62), .mv (.t 0), (some (55, true))⟩,
    ⟨(some 63), .iaddrS 5 (.t 62) (.c (.int .i64 0)), (some (55, true))⟩,
    ⟨(some 64), .faddr 0 (.t 63), (some (55, true))⟩,
    ⟨(some 65), .load false 1 (.t 64), (some (55, true))⟩,
    ⟨(some 66), .bin .sub false (.t 61) (.t 65), (some (55, true))⟩,
    ⟨(some 67), .bin .gtr false (.t 66) (.c (.int .i64 40000)), (some (55, true))⟩,
    ⟨(some 68), .pick (.t 55) (.t 67) (.c (.bool false)), none⟩]
def r34_15p : List (List Nat) := [[], [0], [0, 1], [0, 1, 2], [0, 1, 2], [0, 1, 2, 4], [0, 1, 2, 3, 4, 5], [0, 1, 2, 3, 4, 5, 6], [0, 1, 2, 3, 4, 5, 6, 7], [0, 1, 2], [0, 1, 2, 9], [0, 1, 2, 9, 10], [0, 1, 2, 9, 10, 11], [0, 1, 2, 3, 4, 5, 6, 7, 8, 9, 10, 11, 12], [0, 1, 2, 3, 4, 5, 6, 7, 8, 9, 10, 11, 12, 13], [0, 1, 2, 3, 4, 5, 6, 7, 8, 9, 10, 11, 12, 13, 14]]
def r34_16 (b : Nat) : List AOper := [
    ⟨(some 2), .mv (.c (.int .i64 2)), none⟩]
def r34_17 (b : Nat) : List AOper := [
    ⟨(some 2), .mv (.c (.int .i64 0)), none⟩]
def c34 (b : Nat) : ACode := .seq (.reg false (r34_0 b) []) (.seq (.seq (.reg false (r34_1 b) []) (.cond (.t 9) (.seq (.reg false (r34_2 b) []) (.ret)) (.skip))) (.seq (.seq (.reg false (r34_3 b) []) (.block 0 (.loop (l34_0 b)))) (.seq (.seq (.reg false (r34_14 b) []) (.seq (.reg true (r34_15 b) r34_15p) (.cond (.t 68) (.seq (.reg false (r34_16 b) []) (.ret)) (.skip)))) (.seq (.reg false (r34_17 b) []) (.ret)))))
def rs34 : List ARes := [.t 2]
theorem ck34 : ∃ c, Tryd.f34.body = some c ∧ ∀ b, checkCode Tryd.prog c (c34 b) = true := ⟨_, rfl, fun b => by kernel_rfl⟩
theorem cr34 : checkRess Tryd.prog Tryd.f34.results.toList rs34 = true := by kernel_rfl
def r35_0 (b : Nat) : List AOper := [
    ⟨(some 1), .box (b + 0) (.t 0), none⟩,
    ⟨(some 2), .mv (.c (.bool false)), none⟩]
def r35_1 (b : Nat) : List AOper := [
    ⟨(some 3), .faddr 0 (.t 1), none⟩,
    ⟨(some 4), .load false 1 (.t 3), none⟩,
    ⟨(some 5), .callf 56 [.t 4], none⟩,
    ⟨(some 6), .mv (.t 5), none⟩,
    ⟨(some 7), .faddr 1 (.t 1), (some (6, true))⟩,
    ⟨(some 8), .load false 1 (.t 7), (some (6, true))⟩,
    ⟨(some 9), .bin .geq false (.t 8) (.c (.int .i64 0)), (some (6, true))⟩,
    ⟨(some 10), .pick (.t 6) (.t 9) (.c (.bool false)), none⟩,
    ⟨(some 11), .mv (.t 10), none⟩,
    ⟨(some 12), .faddr 1 (.t 1), (some (11, true))⟩,
    ⟨(some 13), .load false 1 (.t 12), (some (11, true))⟩,
    ⟨(some 14), .bin .lss false (.t 13) (.c (.int .i64 1402560)), (some (11, true))⟩,
    ⟨(some 15), .pick (.t 11) (.t 14) (.c (.bool false)), none⟩,
    ⟨(some 16), .mv (.t 15), none⟩,
    ⟨(some 17), .faddr 0 (.t 1), (some (16, true))⟩,
    ⟨(some 18), .load false 1 (.t 17), (some (16, true))⟩,
    ⟨(some 19), .faddr 1 (.t 1), (some (16, true))⟩,
    ⟨(some 20), .load false 1 (.t 19), (some (16, true))⟩,
    ⟨(some 21), .callf 57 [.t 18, .t 20], (some (16, true))⟩,
    ⟨(some 22), .load true 3 (.t 1), (some (16, true))⟩,
    ⟨(some 23), .eqagg [1, 1, 1] false (.t 21) (.t 22), (some (16, true))⟩,
    ⟨(some 24), .pick (.t 16) (.t 23) (.c (.bool false)), none⟩,
    ⟨(some 2), .mv (.t 24), none⟩]
def r35_1p : List (List Nat) := [[], [0], [0, 1], [0, 1, 2], [0, 1, 2, 3], [0, 1, 2, 3, 4], [0, 1, 2, 3, 4, 5], [0, 1, 2, 3, 4, 5, 6], [0, 1, 2, 3, 4, 5, 6, 7], [0, 1, 2, 3, 4, 5, 6, 7, 8], [0, 1, 2, 3, 4, 5, 6, 7, 8, 9], [0, 1, 2, 3, 4, 5, 6, 7, 8, 9, 10], [0, 1, 2, 3, 4, 5, 6, 7, 8, 9, 10, 11], [0, 1, 2, 3, 4, 5, 6, 7, 8, 9, 10, 11, 12], [0, 1, 2, 3, 4, 5, 6, 7, 8, 9, 10, 11, 12, 13], [0, 1, 2, 3, 4, 5, 6, 7, 8, 9, 10, 11, 12, 13, 14], [0, 1, 2, 3, 4, 5, 6, 7, 8, 9, 10, 11, 12, 13], [0, 1, 2, 3, 4, 5, 6, 7, 8, 9, 10, 11, 12, 13, 16], [0, 1, 2, 3, 4, 5, 6, 7, 8, 9, 10, 11, 12, 13, 14, 15, 16, 17], [0, 1, 2, 3, 4, 5, 6, 7, 8, 9, 10, 11, 12, 13], [0, 1, 2, 3, 4, 5, 6, 7, 8, 9, 10, 11, 12, 13, 14, 15, 16, 17, 18, 19], [0, 1, 2, 3, 4, 5, 6, 7, 8, 9, 10, 11, 12, 13, 14, 15, 16, 17, 18, 19, 20], [0, 1, 2, 3, 4, 5, 6, 7, 8, 9, 10, 11, 12, 13, 14, 15, 16, 17, 18, 19, 20, 21]]
def c35 (b : Nat) : ACode := .seq (.reg false (r35_0 b) []) (.seq (.reg true (r35_1 b) r35_1p) (.ret))
def rs35 : List ARes := [.t 2]
theorem ck35 : ∃ c, Tryd.f35.body = some c ∧ ∀ b, checkCode Tryd.prog c (c35 b) = true := ⟨_, rfl, fun b => by kernel_rfl⟩
theorem cr35 : checkRess Tryd.prog Tryd.f35.results.toList rs35 = true := by kernel_rfl
def r36_0 (b : Nat) : List AOper := [
    ⟨(some 4), .mv (.c (.nils)), none⟩,
    ⟨(some 5), .mv (.c (.nils)), none⟩,
    ⟨(some 6), .mv (.c (.int .i64 0)), none⟩]
def r36_1 (b : Nat) : List AOper := [
    ⟨(some 12), .mv (.t 0), none⟩,
    ⟨(some 13), .callf 34 [.t 12], none⟩,
    ⟨(some 7), .mv (.t 13), none⟩]
def r36_2 (b : Nat) : List AOper := [
    ⟨(some 14), .mv (.t 7), none⟩,
    ⟨(some 15), .bin .neq false (.t 14) (.c (.int .i64 0)), none⟩]
def r36_3 (b : Nat) : List AOper := [
    ⟨(some 16), .mv (.t 7), none⟩,
    ⟨(some 4), .mv (.c (.nils)), none⟩,
    ⟨(some 5), .mv (.c (.nils)), none⟩,
    ⟨(some 6), .mv (.t 16), none⟩]
def r36_4 (b : Nat) : List AOper := [
    ⟨(some 17), .mv (.t 0), none⟩,
    ⟨(some 18), .len false (.t 17), none⟩,
    ⟨(some 19), .bin .eql false (.t 18) (.c (.int .i64 0)), none⟩,
    ⟨(some 20), .mv (.t 19), none⟩,
    ⟨(some 21), .mv (.t 1), (some (20, false))⟩,
    ⟨(some 22), .mv (.t 0), (some (20, false))⟩,
    ⟨(some 23), .iaddrS 5 (.t 22) (.c (.int .i64 0)), (some (20, false))⟩,
    ⟨(some 24), .faddr 0 (.t 23), (some (20, false))⟩,
    ⟨(some 25), .load false 1 (.t 24), (some (20, false))⟩,
    ⟨(some 26), .mv (.t 0), (some (20, false))⟩,
    ⟨(some 27), .mv (.t 0), (some (20, false))⟩,
    ⟨(some 28), .len false (.t 27), (some (20, false))⟩,
    ⟨(some 29), .bin .sub false (.t 28) (.c (.int .i64 1)), (some (20, false))⟩,
    ⟨(some 30), .iaddrS 5 (.t 26) (.t 29), (some (20, false))⟩,
    ⟨(some 31), .faddr 1 (.t 30), (some (20, false))⟩,
    ⟨(some 32), .load false 1 (.t 31), (some (20, false))⟩,
    ⟨(some 33), .callf 52 [.t 21, .t 25, .t 32], (some (20, false))⟩,
    ⟨(some 34), .not (.t 33), (some (20, false))⟩,
    ⟨(some 35), .pick (.t 20) (.c (.bool true)) (.t 34), none⟩]
def r36_4p : List (List Nat) := [[], [0], [0, 1], [0, 1, 2], [0, 1, 2, 3], [0, 1, 2, 3], [0, 1, 2, 3, 5], [0, 1, 2, 3, 5, 6], [0, 1, 2, 3, 5, 6, 7], [0, 1, 2, 3], [0, 1, 2, 3], [0, 1, 2, 3, 10], [0, 1, 2, 3, 10, 11], [0, 1, 2, 3, 9, 10, 11, 12], [0, 1, 2, 3, 9, 10, 11, 12, 13], [0, 1, 2, 3, 9, 10, 11, 12, 13, 14], [0, 1, 2, 3, 4, 5, 6, 7, 8, 9, 10, 11, 12, 13, 14, 15], [0, 1, 2, 3, 4, 5, 6, 7, 8, 9, 10, 11, 12, 13, 14, 15, 16], [0, 1, 2, 3, 4, 5, 6, 7, 8, 9, 10, 11, 12, 13, 14, 15, 16, 17]]
def r36_5 (b : Nat) : List AOper := [
    ⟨(some 4), .mv (.c (.nils)), none⟩,
    ⟨(some 5), .mv (.c (.nils)), none⟩,
    ⟨(some 6), .mv (.c (.int .i64 1)), none⟩]
def r36_6 (b : Nat) : List AOper := [
    ⟨(some 36), .mv (.t 0), none⟩,
    ⟨(some 37), .callf 44 [.t 36], none⟩,
    ⟨(some 38), .len false (.t 37), none⟩,
    ⟨(some 39), .mv (.c (.int .i64 0)), none⟩]
def r36_7 (b : Nat) : List AOper := [
    ⟨(some 40), .bin .lss false (.t 39) (.t 38), none⟩]
def r36_8 (b : Nat) : List AOper := [
    ⟨(some 41), .iaddrS 5 (.t 37) (.t 39), none⟩,
    ⟨(some 42), .load true 5 (.t 41), none⟩,
    ⟨(some 9), .alloc (b + 0) [.int .i64 0, .int .i64 0, .nils, .int .i64 0, .int .i64 0], none⟩,
    ⟨none, .store 5 (.t 9) (.t 42), none⟩]
def r36_10 (b : Nat) : List AOper := [
    ⟨(some 44), .faddr 1 (.t 9), none⟩,
    ⟨(some 45), .load false 1 (.t 44), none⟩,
    ⟨(some 46), .mv (.t 1), none⟩,
    ⟨(some 47), .bin .leq false (.t 45) (.t 46), none⟩,
    ⟨(some 43), .mv (.t 47), none⟩]
def r36_11 (b : Nat) : List AOper := [
    ⟨(some 48), .mv (.t 4), none⟩,
    ⟨(some 49), .load true 5 (.t 9), none⟩,
    ⟨(some 50), .bslice (b + 1) 5 1 [.int .i64 0, .int .i64 0, .nils, .int .i64 0, .int .i64 0] [(0, 5, .t 49)], none⟩,
    ⟨(some 51), .append (b + 2) 5 56 (.t 48) (.t 50), none⟩,
    ⟨(some 4), .mv (.t 51), none⟩]
def r36_12 (b : Nat) : List AOper := [
    ⟨(some 53), .faddr 0 (.t 9), none⟩,
    ⟨(some 54), .load false 1 (.t 53), none⟩,
    ⟨(some 55), .mv (.t 1), none⟩,
    ⟨(some 56), .bin .geq false (.t 54) (.t 55), none⟩,
    ⟨(some 52), .mv (.t 56), none⟩]
def r36_13 (b : Nat) : List AOper := [
    ⟨(some 57), .mv (.t 5), none⟩,
    ⟨(some 58), .load true 5 (.t 9), none⟩,
    ⟨(some 59), .bslice (b + 3) 5 1 [.int .i64 0, .int .i64 0, .nils, .int .i64 0, .int .i64 0] [(0, 5, .t 58)], none⟩,
    ⟨(some 60), .append (b + 4) 5 56 (.t 57) (.t 59), none⟩,
    ⟨(some 5), .mv (.t 60), none⟩]
def r36_14 (b : Nat) : List AOper := [
    ⟨(some 62), .load true 5 (.t 9), none⟩,
    ⟨(some 63), .callf 40 [.t 62], none⟩,
    ⟨(some 61), .mv (.t 63), none⟩]
def r36_15 (b : Nat) : List AOper := [
    ⟨(some 64), .mv (.t 4), none⟩,
    ⟨(some 65), .faddr 0 (.t 9), none⟩,
    ⟨(some 66), .load false 1 (.t 65), none⟩,
    ⟨(some 67), .mv (.t 1), none⟩,
    ⟨(some 68), .faddr 2 (.t 9), none⟩,
    ⟨(some 69), .load false 1 (.t 68), none⟩,
    ⟨(some 70), .iaddrS 2 (.t 69) (.c (.int .i64 0)), none⟩,
    ⟨(some 71), .faddr 0 (.t 70), none⟩,
    ⟨(some 72), .load false 1 (.t 71), none⟩,
    ⟨(some 73), .callf 32 [.t 66, .t 67, .t 72], none⟩,
    ⟨(some 74), .bslice (b + 5) 5 1 [.int .i64 0, .int .i64 0, .nils, .int .i64 0, .int .i64 0] [(0, 5, .t 73)], none⟩,
    ⟨(some 75), .append (b + 6) 5 56 (.t 64) (.t 74), none⟩,
    ⟨(some 76), .mv (.t 5), none⟩,
    ⟨(some 77), .mv (.t 1), none⟩,
    ⟨(some 78), .faddr 1 (.t 9), none⟩,
    ⟨(some 79), .load false 1 (.t 78), none⟩,
    ⟨(some 80), .faddr 2 (.t 9), none⟩,
    ⟨(some 81), .load false 1 (.t 80), none⟩,
    ⟨(some 82), .iaddrS 2 (.t 81) (.c (.int .i64 0)), none⟩,
    ⟨(some 83), .faddr 0 (.t 82), none⟩,
    ⟨(some 84), .load false 1 (.t 83), none⟩,
    ⟨(some 85), .callf 32 [.t 77, .t 79, .t 84], none⟩,
    ⟨(some 86), .bslice (b + 7) 5 1 [.int .i64 0, .int .i64 0, .nils, .int .i64 0, .int .i64 0] [(0, 5, .t 85)], none⟩,
    ⟨(some 87), .append (b + 8) 5 56 (.t 76) (.t 86), none⟩,
    ⟨(some 4), .mv (.t 75), none⟩,
    ⟨(some 5), .mv (.t 87), none⟩]
def r36_15p : List (List Nat) := [[], [], [1], [], [], [4], [4, 5], [4, 5, 6], [4, 5, 6, 7], [1, 2, 3, 4, 5, 6, 7, 8], [1, 2, 3, 4, 5, 6, 7, 8, 9], [0, 1, 2, 3, 4, 5, 6, 7, 8, 9, 10], [], [], [], [14], [], [16], [16, 17], [16, 17, 18], [16, 17, 18, 19], [0, 1, 2, 3, 4, 5, 6, 7, 8, 9, 10, 11, 13, 14, 15, 16, 17, 18, 19, 20], [0, 1, 2, 3, 4, 5, 6, 7, 8, 9, 10, 11, 13, 14, 15, 16, 17, 18, 19, 20, 21], [0, 1, 2, 3, 4, 5, 6, 7, 8, 9, 10, 11, 12, 13, 14, 15, 16, 17, 18, 19, 20, 21, 22], [0, 1, 2, 3, 4, 5, 6, 7, 8, 9, 10, 11, 12, 13, 14, 15, 16, 17, 18, 19, 20, 21, 22, 23], [0, 1, 2, 3, 4, 5, 6, 7, 8, 9, 10, 11, 12, 13, 14, 15, 16, 17, 18, 19, 20, 21, 22, 23, 24]]
def r36_16 (b : Nat) : List AOper := [
    ⟨(some 89), .load true 5 (.t 9), none⟩,
    ⟨(some 90), .callf 39 [.t 89], none⟩,
    ⟨(some 88), .mv (.t 90), none⟩]
def r36_17 (b : Nat) : List AOper := [
    ⟨(some 91), .load true 5 (.t 9), none⟩,
    ⟨(some 92), .load true 5 (.t 9), none⟩,
    ⟨(some 10), .alloc (b + 9) [.int .i64 0, .int .i64 0, .nils, .int .i64 0, .int .i64 0], none⟩,
    ⟨(some 11), .alloc (b + 10) [.int .i64 0, .int .i64 0, .nils, .int .i64 0, .int .i64 0], none⟩,
    ⟨none, .store 5 (.t 10) (.t 91), none⟩,
    ⟨none, .store 5 (.t 11) (.t 92), none⟩]
def r36_17p : List (List Nat) := [[], [], [], [], [0, 2, 3], [0, 1, 2, 3, 4]]
def r36_18 (b : Nat) : List AOper := [
    ⟨(some 93), .mv (.t 1), none⟩,
    ⟨(some 94), .mv (.t 1), none⟩,
    ⟨(some 95), .faddr 1 (.t 10), none⟩,
    ⟨none, .store 1 (.t 95) (.t 93), none⟩,
    ⟨(some 96), .faddr 0 (.t 11), none⟩,
    ⟨none, .store 1 (.t 96) (.t 94), none⟩]
def r36_19 (b : Nat) : List AOper := [
    ⟨(some 97), .mv (.t 4), none⟩,
    ⟨(some 98), .load true 5 (.t 10), none⟩,
    ⟨(some 99), .bslice (b + 11) 5 1 [.int .i64 0, .int .i64 0, .nils, .int .i64 0, .int .i64 0] [(0, 5, .t 98)], none⟩,
    ⟨(some 100), .append (b + 12) 5 56 (.t 97) (.t 99), none⟩,
    ⟨(some 101), .mv (.t 5), none⟩,
    ⟨(some 102), .load true 5 (.t 11), none⟩,
    ⟨(some 103), .bslice (b + 13) 5 1 [.int .i64 0, .int .i64 0, .nils, .int .i64 0, .int .i64 0] [(0, 5, .t 102)], none⟩,
    ⟨(some 104), .append (b + 14) 5 56 (.t 101) (.t 103), none⟩,
    ⟨(some 4), .mv (.t 100), none⟩,
    ⟨(some 5), .mv (.t 104), none⟩]
def r36_19p : List (List Nat) := [[], [], [1], [0, 1, 2], [], [], [5], [0, 1, 2, 3, 4, 5, 6], [0, 1, 2, 3, 4, 5, 6, 7], [0, 1, 2, 3, 4, 5, 6, 7, 8]]
def r36_9 (b : Nat) : List AOper := [
    ⟨(some 4), .mv (.c (.nils)), none⟩,
    ⟨(some 5), .mv (.c (.nils)), none⟩,
    ⟨(some 6), .mv (.c (.int .i64 29)), none⟩]
def r36_20 (b : Nat) : List AOper := [
    ⟨(some 105), .bin .add false (.t 39) (.c (.int .i64 1)), none⟩,
    ⟨(some 39), .mv (.t 105), none⟩]
def l36_0 (b : Nat) : ACode := .seq (.reg false (r36_7 b) []) (.seq (.cond (.t 40) (.skip) (.exit 0)) (.seq (.block 1 (.seq (.reg false (r36_8 b) []) (.block 2 (.seq (.reg false (r36_10 b) []) (.cond (.t 43) (.reg false (r36_11 b) []) (.seq (.reg false (r36_12 b) []) (.cond (.t 52) (.reg false (r36_13 b) []) (.seq (.reg false (r36_14 b) []) (.cond (.t 61) (.reg true (r36_15 b) r36_15p) (.seq (.reg false (r36_16 b) []) (.cond (.t 88) (.seq (.reg true (r36_17 b) r36_17p) (.seq (.reg false (r36_18 b) []) (.reg true (r36_19 b) r36_19p))) (.seq (.reg false (r36_9 b) []) (.ret))))))))))))) (.reg false (r36_20 b) [])))
def r36_21 (b : Nat) : List AOper := [
    ⟨(some 106), .mv (.t 4), none⟩,
    ⟨(some 107), .mv (.t 5), none⟩,
    ⟨(some 4), .mv (.t 106), none⟩,
    ⟨(some 5), .mv (.t 107), none⟩,
    ⟨(some 6), .mv (.c (.int .i64 0)), none⟩]
def c36 (b : Nat) : ACode := .seq (.reg false (r36_0 b) []) (.seq (.seq (.reg false (r36_1 b) []) (.seq (.reg false (r36_2 b) []) (.cond (.t 15) (.seq (.reg false (r36_3 b) []) (.ret)) (.skip)))) (.seq (.seq (.reg true (r36_4 b) r36_4p) (.cond (.t 35) (.seq (.reg false (r36_5 b) []) (.ret)) (.skip))) (.seq (.seq (.reg false (r36_6 b) []) (.block 0 (.loop (l36_0 b)))) (.seq (.reg false (r36_21 b) []) (.ret)))))
def rs36 : List ARes := [.t 4, .t 5, .t 6]
theorem ck36 : ∃ c, Tryd.f36.body = some c ∧ ∀ b, checkCode Tryd.prog c (c36 b) = true := ⟨_, rfl, fun b => by kernel_rfl⟩
theorem cr36 : checkRess Tryd.prog Tryd.f36.results.toList rs36 = true := by kernel_rfl
def r37_0 (b : Nat) : List AOper := [
    ⟨(some 2), .mv (.c (.nils)), none⟩]
def r37_1 (b : Nat) : List AOper := [
    ⟨(some 3), .mv (.c (.nils)), none⟩]
def r37_2 (b : Nat) : List AOper := [
    ⟨(some 9), .mv (.t 0), none⟩,
    ⟨(some 10), .len false (.t 9), none⟩,
    ⟨(some 11), .mv (.c (.int .i64 0)), none⟩]
def r37_3 (b : Nat) : List AOper := [
    ⟨(some 12), .bin .lss false (.t 11) (.t 10), none⟩]
def r37_4 (b : Nat) : List AOper := [
    ⟨(some 13), .iaddrS 5 (.t 9) (.t 11), none⟩,
    ⟨(some 14), .load true 5 (.t 13), none⟩,
    ⟨(some 5), .alloc (b + 0) [.int .i64 0, .int .i64 0, .nils, .int .i64 0, .int .i64 0], none⟩,
    ⟨none, .store 5 (.t 5) (.t 14), none⟩]
def r37_5 (b : Nat) : List AOper := [
    ⟨(some 15), .mv (.t 3), none⟩,
    ⟨(some 16), .len false (.t 15), none⟩,
    ⟨(some 6), .mv (.t 16), none⟩]
def r37_6 (b : Nat) : List AOper := [
    ⟨(some 17), .mv (.t 6), none⟩,
    ⟨(some 18), .bin .gtr false (.t 17) (.c (.int .i64 0)), none⟩]
def r37_7 (b : Nat) : List AOper := [
    ⟨(some 20), .mv (.t 3), none⟩,
    ⟨(some 21), .mv (.t 6), none⟩,
    ⟨(some 22), .bin .sub false (.t 21) (.c (.int .i64 1)), none⟩,
    ⟨(some 23), .slice false 5 (.t 20) (some (.t 22)) none, none⟩,
    ⟨(some 24), .load true 5 (.t 5), none⟩,
    ⟨(some 25), .bslice (b + 1) 5 1 [.int .i64 0, .int .i64 0, .nils, .int .i64 0, .int .i64 0] [(0, 5, .t 24)], none⟩,
    ⟨(some 26), .callf 19 [.t 23, .t 25], none⟩,
    ⟨(some 19), .mv (.t 26), none⟩,
    ⟨(some 27), .extract 0 (.t 19), none⟩,
    ⟨(some 28), .extract 1 (.t 19), none⟩,
    ⟨(some 7), .mv (.t 27), none⟩,
    ⟨(some 8), .mv (.t 28), none⟩]
def r37_7p : List (List Nat) := [[], [], [1], [0, 1, 2], [], [4], [0, 1, 2, 3, 4, 5], [0, 1, 2, 3, 4, 5, 6], [0, 1, 2, 3, 4, 5, 6, 7], [0, 1, 2, 3, 4, 5, 6, 7], [0, 1, 2, 3, 4, 5, 6, 7, 8], [0, 1, 2, 3, 4, 5, 6, 7, 8, 9, 10]]
def r37_8 (b : Nat) : List AOper := [
    ⟨(some 29), .mv (.t 8), none⟩,
    ⟨(some 30), .bin .eql false (.t 29) (.c (.int .i64 0)), none⟩,
    ⟨(some 31), .mv (.t 30), none⟩,
    ⟨(some 32), .mv (.t 7), (some (31, true))⟩,
    ⟨(some 33), .len false (.t 32), (some (31, true))⟩,
    ⟨(some 34), .bin .eql false (.t 33) (.c (.int .i64 1)), (some (31, true))⟩,
    ⟨(some 35), .pick (.t 31) (.t 34) (.c (.bool false)), none⟩]
def r37_9 (b : Nat) : List AOper := [
    ⟨(some 36), .mv (.t 3), none⟩,
    ⟨(some 37), .mv (.t 6), none⟩,
    ⟨(some 38), .bin .sub false (.t 37) (.c (.int .i64 1)), none⟩,
    ⟨(some 39), .mv (.t 7), none⟩,
    ⟨(some 40), .iaddrS 5 (.t 39) (.c (.int .i64 0)), none⟩,
    ⟨(some 41), .load true 5 (.t 40), none⟩,
    ⟨(some 42), .iaddrS 5 (.t 36) (.t 38), none⟩,
    ⟨none, .store 5 (.t 42) (.t 41), none⟩]
def r37_10 (b : Nat) : List AOper := [
    ⟨(some 43), .mv (.t 3), none⟩,
    ⟨(some 44), .load true 5 (.t 5), none⟩,
    ⟨(some 45), .bslice (b + 2) 5 1 [.int .i64 0, .int .i64 0, .nils, .int .i64 0, .int .i64 0] [(0, 5, .t 44)], none⟩,
    ⟨(some 46), .append (b + 3) 5 56 (.t 43) (.t 45), none⟩,
    ⟨(some 3), .mv (.t 46), none⟩]
def r37_11 (b : Nat) : List AOper := [
    ⟨(some 47), .bin .add false (.t 11) (.c (.int .i64 1)), none⟩,
    ⟨(some 11), .mv (.t 47), none⟩]
def l37_0 (b : Nat) : ACode := .seq (.reg false (r37_3 b) []) (.seq (.cond (.t 12) (.skip) (.exit 0)) (.seq (.block 1 (.seq (.reg false (r37_4 b) []) (.seq (.seq (.reg false (r37_5 b) []) (.seq (.reg false (r37_6 b) []) (.cond (.t 18) (.seq (.reg true (r37_7 b) r37_7p) (.seq (.reg false (r37_8 b) []) (.cond (.t 35) (.seq (.reg false (r37_9 b) []) (.exit 1)) (.skip)))) (.skip)))) (.reg false (r37_10 b) [])))) (.reg false (r37_11 b) [])))
def r37_12 (b : Nat) : List AOper := [
    ⟨(some 48), .mv (.t 3), none⟩,
    ⟨(some 2), .mv (.t 48), none⟩]
def c37 (b : Nat) : ACode := .seq (.reg false (r37_0 b) []) (.seq (.reg false (r37_1 b) []) (.seq (.seq (.reg false (r37_2 b) []) (.block 0 (.loop (l37_0 b)))) (.seq (.reg false (r37_12 b) []) (.ret))))
def rs37 : List ARes := [.t 2]
theorem ck37 : ∃ c, Tryd.f37.body = some c ∧ ∀ b, checkCode Tryd.prog c (c37 b) = true := ⟨_, rfl, fun b => by kernel_rfl⟩
theorem cr37 : checkRess Tryd.prog Tryd.f37.results.toList rs37 = true := by kernel_rfl
def r38_0 (b : Nat) : List AOper := [
    ⟨(some 1), .box (b + 0) (.t 0), none⟩,
    ⟨(some 2), .mv (.c (.nilfn)), none⟩]
def r38_1 (b : Nat) : List AOper := [
    ⟨(some 3), .mkfn 58 [.t 1], none⟩,
    ⟨(some 2), .mv (.t 3), none⟩]
def c38 (b : Nat) : ACode := .seq (.reg false (r38_0 b) []) (.seq (.reg false (r38_1 b) []) (.ret))
def rs38 : List ARes := [.t 2]
theorem ck38 : ∃ c, Tryd.f38.body = some c ∧ ∀ b, checkCode Tryd.prog c (c38 b) = true := ⟨_, rfl, fun b => by kernel_rfl⟩
theorem cr38 : checkRess Tryd.prog Tryd.f38.results.toList rs38 = true := by kernel_rfl
def r39_0 (b : Nat) : List AOper := [
    ⟨(some 1), .box (b + 0) (.t 0), none⟩,
    ⟨(some 2), .mv (.c (.bool false)), none⟩]
def r39_1 (b : Nat) : List AOper := [
    ⟨(some 3), .faddr 2 (.t 1), none⟩,
    ⟨(some 4), .load false 1 (.t 3), none⟩,
    ⟨(some 5), .len false (.t 4), none⟩,
    ⟨(some 6), .bin .eql false (.t 5) (.c (.int .i64 0)), none⟩,
    ⟨(some 2), .mv (.t 6), none⟩]
def c39 (b : Nat) : ACode := .seq (.reg false (r39_0 b) []) (.seq (.reg false (r39_1 b) []) (.ret))
def rs39 : List ARes := [.t 2]
theorem ck39 : ∃ c, Tryd.f39.body = some c ∧ ∀ b, checkCode Tryd.prog c (c39 b) = true := ⟨_, rfl, fun b => by kernel_rfl⟩
theorem cr39 : checkRess Tryd.prog Tryd.f39.results.toList rs39 = true := by kernel_rfl
def r40_0 (b : Nat) : List AOper := [
    ⟨(some 1), .box (b + 0) (.t 0), none⟩,
    ⟨(some 2), .mv (.c (.bool false)), none⟩]
def r40_1 (b : Nat) : List AOper := [
    ⟨(some 3), .faddr 2 (.t 1), none⟩,
    ⟨(some 4), .load false 1 (.t 3), none⟩,
    ⟨(some 5), .len false (.t 4), none⟩,
    ⟨(some 6), .bin .eql false (.t 5) (.c (.int .i64 1)), none⟩,
    ⟨(some 2), .mv (.t 6), none⟩]
def c40 (b : Nat) : ACode := .seq (.reg false (r40_0 b) []) (.seq (.reg false (r40_1 b) []) (.ret))
def rs40 : List ARes := [.t 2]
theorem ck40 : ∃ c, Tryd.f40.body = some c ∧ ∀ b, checkCode Tryd.prog c (c40 b) = true := ⟨_, rfl, fun b => by kernel_rfl⟩
theorem cr40 : checkRess Tryd.prog Tryd.f40.results.toList rs40 = true := by kernel_rfl
def r41_0 (b : Nat) : List AOper := [
    ⟨(some 2), .mv (.c (.nils)), none⟩]
def r41_1 (b : Nat) : List AOper := [
    ⟨(some 4), .mv (.t 0), none⟩,
    ⟨(some 5), .callf 59 [.t 4], none⟩,
    ⟨(some 3), .mv (.t 5), none⟩]
def r41_2 (b : Nat) : List AOper := [
    ⟨(some 6), .mv (.t 3), none⟩,
    ⟨(some 7), .callf 60 [.t 6], none⟩]
def r41_3 (b : Nat) : List AOper := [
    ⟨(some 8), .mv (.t 3), none⟩,
    ⟨(some 2), .mv (.t 8), none⟩]
def c41 (b : Nat) : ACode := .seq (.reg false (r41_0 b) []) (.seq (.reg false (r41_1 b) []) (.seq (.reg false (r41_2 b) []) (.seq (.reg false (r41_3 b) []) (.ret))))
def rs41 : List ARes := [.t 2]
theorem ck41 : ∃ c, Tryd.f41.body = some c ∧ ∀ b, checkCode Tryd.prog c (c41 b) = true := ⟨_, rfl, fun b => by kernel_rfl⟩
theorem cr41 : checkRess Tryd.prog Tryd.f41.results.toList rs41 = true := by kernel_rfl
def r42_0 (b : Nat) : List AOper := [
    ⟨(some 1), .box (b + 0) (.t 0), none⟩,
    ⟨(some 2), .mv (.c (.nilfn)), none⟩]
def r42_1 (b : Nat) : List AOper := [
    ⟨(some 3), .mkfn 61 [.t 1], none⟩,
    ⟨(some 2), .mv (.t 3), none⟩]
def c42 (b : Nat) : ACode := .seq (.reg false (r42_0 b) []) (.seq (.reg false (r42_1 b) []) (.ret))
def rs42 : List ARes := [.t 2]
theorem ck42 : ∃ c, Tryd.f42.body = some c ∧ ∀ b, checkCode Tryd.prog c (c42 b) = true := ⟨_, rfl, fun b => by kernel_rfl⟩
theorem cr42 : checkRess Tryd.prog Tryd.f42.results.toList rs42 = true := by kernel_rfl
def r43_0 (b : Nat) : List AOper := [
    ⟨(some 4), .mv (.c (.nils)), none⟩]
def r43_1 (b : Nat) : List AOper := [
    ⟨(some 5), .mv (.c (.nils)), none⟩]
def r43_2 (b : Nat) : List AOper := [
    ⟨(some 11), .mv (.t 0), none⟩,
    ⟨(some 12), .len false (.t 11), none⟩,
    ⟨(some 13), .mv (.c (.int .i64 0)), none⟩]
def r43_3 (b : Nat) : List AOper := [
    ⟨(some 14), .bin .lss false (.t 13) (.t 12), none⟩]
def r43_4 (b : Nat) : List AOper := [
    ⟨(some 15), .iaddrS 5 (.t 11) (.t 13), none⟩,
    ⟨(some 16), .load true 5 (.t 15), none⟩,
    ⟨(some 7), .alloc (b + 0) [.int .i64 0, .int .i64 0, .nils, .int .i64 0, .int .i64 0], none⟩,
    ⟨none, .store 5 (.t 7) (.t 16), none⟩]
def r43_5 (b : Nat) : List AOper := [
    ⟨(some 17), .mv (.t 5), none⟩,
    ⟨(some 18), .len false (.t 17), none⟩,
    ⟨(some 8), .mv (.t 18), none⟩]
def r43_6 (b : Nat) : List AOper := [
    ⟨(some 19), .mv (.t 8), none⟩,
    ⟨(some 20), .bin .gtr false (.t 19) (.c (.int .i64 0)), none⟩]
def r43_7 (b : Nat) : List AOper := [
    ⟨(some 22), .mv (.t 1), none⟩,
    ⟨(some 23), .mv (.t 5), none⟩,
    ⟨(some 24), .mv (.t 8), none⟩,
    ⟨(some 25), .bin .sub false (.t 24) (.c (.int .i64 1)), none⟩,
    ⟨(some 26), .iaddrS 5 (.t 23) (.t 25), none⟩,
    ⟨(some 27), .load true 5 (.t 26), none⟩,
    ⟨(some 28), .load true 5 (.t 7), none⟩,
    ⟨(some 29), .callv (.t 22) [.t 27, .t 28], none⟩,
    ⟨(some 21), .mv (.t 29), none⟩,
    ⟨(some 30), .extract 0 (.t 21), none⟩,
    ⟨(some 31), .extract 1 (.t 21), none⟩,
    ⟨(some 9), .alloc (b + 1) [.int .i64 0, .int .i64 0, .nils, .int .i64 0, .int .i64 0], none⟩,
    ⟨none, .store 5 (.t 9) (.t 30), none⟩,
    ⟨(some 10), .mv (.t 31), none⟩]
def r43_7p : List (List Nat) := [[], [], [], [2], [1, 2, 3], [1, 2, 3, 4], [], [0, 1, 2, 3, 4, 5, 6], [0, 1, 2, 3, 4, 5, 6, 7], [0, 1, 2, 3, 4, 5, 6, 7, 8], [0, 1, 2, 3, 4, 5, 6, 7, 8], [], [0, 1, 2, 3, 4, 5, 6, 7, 8, 9, 11], [0, 1, 2, 3, 4, 5, 6, 7, 8, 9, 10, 11, 12]]
def r43_8 (b : Nat) : List AOper := [
    ⟨(some 32), .mv (.t 10), none⟩]
def r43_9 (b : Nat) : List AOper := [
    ⟨(some 33), .mv (.t 5), none⟩,
    ⟨(some 34), .mv (.t 8), none⟩,
    ⟨(some 35), .bin .sub false (.t 34) (.c (.int .i64 1)), none⟩,
    ⟨(some 36), .load true 5 (.t 9), none⟩,
    ⟨(some 37), .iaddrS 5 (.t 33) (.t 35), none⟩,
    ⟨none, .store 5 (.t 37) (.t 36), none⟩]
def r43_10 (b : Nat) : List AOper := [
    ⟨(some 38), .mv (.t 5), none⟩,
    ⟨(some 39), .load true 5 (.t 7), none⟩,
    ⟨(some 40), .bslice (b + 2) 5 1 [.int .i64 0, .int .i64 0, .nils, .int .i64 0, .int .i64 0] [(0, 5, .t 39)], none⟩,
    ⟨(some 41), .append (b + 3) 5 56 (.t 38) (.t 40), none⟩,
    ⟨(some 5), .mv (.t 41), none⟩]
def r43_11 (b : Nat) : List AOper := [
    ⟨(some 42), .bin .add false (.t 13) (.c (.int .i64 1)), none⟩,
    ⟨(some 13), .mv (.t 42), none⟩]
def l43_0 (b : Nat) : ACode := .seq (.reg false (r43_3 b) []) (.seq (.cond (.t 14) (.skip) (.exit 0)) (.seq (.block 1 (.seq (.reg false (r43_4 b) []) (.seq (.seq (.reg false (r43_5 b) []) (.seq (.reg false (r43_6 b) []) (.cond (.t 20) (.seq (.reg true (r43_7 b) r43_7p) (.seq (.reg false (r43_8 b) []) (.cond (.t 32) (.seq (.reg false (r43_9 b) []) (.exit 1)) (.skip)))) (.skip)))) (.reg false (r43_10 b) [])))) (.reg false (r43_11 b) [])))
def r43_12 (b : Nat) : List AOper := [
    ⟨(some 43), .mv (.t 5), none⟩,
    ⟨(some 4), .mv (.t 43), none⟩]
def c43 (b : Nat) : ACode := .seq (.reg false (r43_0 b) []) (.seq (.reg false (r43_1 b) []) (.seq (.seq (.reg false (r43_2 b) []) (.block 0 (.loop (l43_0 b)))) (.seq (.reg false (r43_12 b) []) (.ret))))
def rs43 : List ARes := [.t 4]
theorem ck43 : ∃ c, Tryd.f43.body = some c ∧ ∀ b, checkCode Tryd.prog c (c43 b) = true := ⟨_, rfl, fun b => by kernel_rfl⟩
theorem cr43 : checkRess Tryd.prog Tryd.f43.results.toList rs43 = true := by kernel_rfl
def r44_0 (b : Nat) : List AOper := [
    ⟨(some 2), .mv (.c (.nils)), none⟩]
def r44_1 (b : Nat) : List AOper := [
    ⟨(some 5), .mv (.t 0), none⟩,
    ⟨(some 6), .callf 62 [.t 5], none⟩,
    ⟨(some 3), .mv (.t 6), none⟩]
def r44_2 (b : Nat) : List AOper := [
    ⟨(some 7), .mv (.t 3), none⟩,
    ⟨(some 8), .len false (.t 7), none⟩,
    ⟨(some 9), .mv (.c (.int .i64 0)), none⟩]
def r44_3 (b : Nat) : List AOper := [
    ⟨(some 10), .bin .lss false (.t 9) (.t 8), none⟩]
def r44_4 (b : Nat) : List AOper := [
    ⟨(some 11), .mv (.t 9), none⟩,
    ⟨(some 4), .mv (.t 11), none⟩]
def r44_5 (b : Nat) : List AOper := [
    ⟨(some 12), .mv (.t 3), none⟩,
    ⟨(some 13), .mv (.t 4), none⟩,
    ⟨(some 14), .mv (.t 3), none⟩,
    ⟨(some 15), .mv (.t 4), none⟩,
    ⟨(some 16), .iaddrS 5 (.t 14) (.t 15), none⟩,
    ⟨(some 17), .faddr 2 (.t 16), none⟩,
    ⟨(some 18), .load false 1 (.t 17), none⟩,
    ⟨(some 19), .callf 63 [.t 18], none⟩,
    ⟨(some 20), .iaddrS 5 (.t 12) (.t 13), none⟩,
    ⟨(some 21), .faddr 2 (.t 20), none⟩,
    ⟨none, .store 1 (.t 21) (.t 19), none⟩]
def r44_6 (b : Nat) : List AOper := [
    ⟨(some 22), .bin .add false (.t 9) (.c (.int .i64 1)), none⟩,
    ⟨(some 9), .mv (.t 22), none⟩]
def l44_0 (b : Nat) : ACode := .seq (.reg false (r44_3 b) []) (.seq (.cond (.t 10) (.skip) (.exit 0)) (.seq (.block 1 (.seq (.reg false (r44_4 b) []) (.reg false (r44_5 b) []))) (.reg false (r44_6 b) [])))
def r44_7 (b : Nat) : List AOper := [
    ⟨(some 23), .mv (.t 3), none⟩,
    ⟨(some 2), .mv (.t 23), none⟩]
def c44 (b : Nat) : ACode := .seq (.reg false (r44_0 b) []) (.seq (.reg false (r44_1 b) []) (.seq (.seq (.reg false (r44_2 b) []) (.block 0 (.loop (l44_0 b)))) (.seq (.reg false (r44_7 b) []) (.ret))))
def rs44 : List ARes := [.t 2]
theorem ck44 : ∃ c, Tryd.f44.body = some c ∧ ∀ b, checkCode Tryd.prog c (c44 b) = true := ⟨_, rfl, fun b => by kernel_rfl⟩
theorem cr44 : checkRess Tryd.prog Tryd.f44.results.toList rs44 = true := by kernel_rfl
def r45_0 (b : Nat) : List AOper := [
    ⟨(some 5), .alloc (b + 0) [.int .i64 0, .int .i64 0, .int .i64 0], none⟩]
def r45_1 (b : Nat) : List AOper := [
    ⟨(some 9), .mv (.t 0), none⟩,
    ⟨(some 10), .load false 1 (.t 1), none⟩,
    ⟨(some 11), .callf 46 [.t 9, .t 10], none⟩,
    ⟨(some 8), .mv (.t 11), none⟩,
    ⟨(some 12), .extract 0 (.t 8), none⟩,
    ⟨(some 13), .extract 1 (.t 8), none⟩,
    ⟨(some 6), .alloc (b + 1) [.int .i64 0, .int .i64 0, .int .i64 0], none⟩,
    ⟨none, .store 3 (.t 6) (.t 12), none⟩,
    ⟨(some 7), .mv (.t 13), none⟩]
def r45_2 (b : Nat) : List AOper := [
    ⟨(some 15), .load true 7 (.t 2), none⟩,
    ⟨(some 16), .load true 3 (.t 6), none⟩,
    ⟨(some 17), .callf 47 [.t 15, .t 16], none⟩,
    ⟨(some 14), .mv (.t 17), none⟩]
def r45_3 (b : Nat) : List AOper := [
    ⟨(some 18), .load true 3 (.t 6), none⟩,
    ⟨none, .store 3 (.t 5) (.t 18), none⟩]
def r45_4 (b : Nat) : List AOper := [
    ⟨(some 20), .mv (.t 0), none⟩,
    ⟨(some 21), .bin .eql false (.t 20) (.c (.int .i64 1)), none⟩,
    ⟨(some 19), .mv (.t 21), none⟩]
def r45_5 (b : Nat) : List AOper := [
    ⟨(some 22), .faddr 0 (.t 6), none⟩,
    ⟨none, .store 1 (.t 22) (.c (.int .i64 0)), none⟩]
def r45_6 (b : Nat) : List AOper := [
    ⟨(some 23), .load true 3 (.t 6), none⟩,
    ⟨none, .store 3 (.t 5) (.t 23), none⟩]
def r45_7 (b : Nat) : List AOper := [
    ⟨(some 24), .load false 1 (.t 3), none⟩,
    ⟨(some 25), .mv (.t 0), none⟩,
    ⟨(some 26), .bin .sub false (.t 25) (.c (.int .i64 1)), none⟩,
    ⟨(some 27), .callv (.t 24) [.t 26], none⟩,
    ⟨none, .store 3 (.t 5) (.t 27), none⟩]
def c45 (b : Nat) : ACode := .seq (.reg false (r45_0 b) []) (.seq (.reg false (r45_1 b) []) (.seq (.block 0 (.seq (.reg false (r45_2 b) []) (.cond (.t 14) (.seq (.reg false (r45_3 b) []) (.ret)) (.seq (.reg false (r45_4 b) []) (.cond (.t 19) (.seq (.reg false (r45_5 b) []) (.seq (.reg false (r45_6 b) []) (.ret))) (.skip)))))) (.seq (.reg false (r45_7 b) []) (.ret))))
def rs45 : List ARes := [.c 5 true 3]
theorem ck45 : ∃ c, Tryd.f45.body = some c ∧ ∀ b, checkCode Tryd.prog c (c45 b) = true := ⟨_, rfl, fun b => by kernel_rfl⟩
theorem cr45 : checkRess Tryd.prog Tryd.f45.results.toList rs45 = true := by kernel_rfl
def r46_0 (b : Nat) : List AOper := [
    ⟨(some 4), .alloc (b + 0) [.int .i64 0, .int .i64 0, .int .i64 0], none⟩,
    ⟨(some 5), .mv (.c (.int .i64 0)), none⟩]
def r46_1 (b : Nat) : List AOper := [
    ⟨(some 6), .mv (.t 0), none⟩,
    ⟨(some 7), .callf 56 [.t 6], none⟩,
    ⟨(some 8), .not (.t 7), none⟩,
    ⟨(some 9), .mv (.t 8), none⟩,
    ⟨(some 10), .mv (.t 1), (some (9, false))⟩,
    ⟨(some 11), .bin .lss false (.t 10) (.c (.int .i64 0)), (some (9, false))⟩,
    ⟨(some 12), .pick (.t 9) (.c (.bool true)) (.t 11), none⟩,
    ⟨(some 13), .mv (.t 12), none⟩,
    ⟨(some 14), .mv (.t 1), (some (13, false))⟩,
    ⟨(some 15), .bin .geq false (.t 14) (.c (.int .i64 1402560)), (some (13, false))⟩,
    ⟨(some 16), .pick (.t 13) (.c (.bool true)) (.t 15), none⟩]
def r46_2 (b : Nat) : List AOper := [
    ⟨(some 17), .build [.int .i64 0, .int .i64 0, .int .i64 0] [], none⟩,
    ⟨none, .store 3 (.t 4) (.t 17), none⟩,
    ⟨(some 5), .mv (.c (.int .i64 3)), none⟩]
def r46_3 (b : Nat) : List AOper := [
    ⟨(some 18), .mv (.t 0), none⟩,
    ⟨(some 19), .mv (.t 1), none⟩,
    ⟨(some 20), .callf 57 [.t 18, .t 19], none⟩,
    ⟨none, .store 3 (.t 4) (.t 20), none⟩,
    ⟨(some 5), .mv (.c (.int .i64 0)), none⟩]
def c46 (b : Nat) : ACode := .seq (.reg false (r46_0 b) []) (.seq (.seq (.reg false (r46_1 b) []) (.cond (.t 16) (.seq (.reg false (r46_2 b) []) (.ret)) (.skip))) (.seq (.reg false (r46_3 b) []) (.ret)))
def rs46 : List ARes := [.c 4 true 3, .t 5]
theorem ck46 : ∃ c, Tryd.f46.body = some c ∧ ∀ b, checkCode Tryd.prog c (c46 b) = true := ⟨_, rfl, fun b => by kernel_rfl⟩
theorem cr46 : checkRess Tryd.prog Tryd.f46.results.toList rs46 = true := by kernel_rfl
def r47_0 (b : Nat) : List AOper := [
    ⟨(some 2), .box (b + 0) (.t 0), none⟩,
    ⟨(some 3), .box (b + 1) (.t 1), none⟩,
    ⟨(some 4), .mv (.c (.bool false)), none⟩]
def r47_1 (b : Nat) : List AOper := [
    ⟨(some 6), .faddr 6 (.t 2), none⟩,
    ⟨(some 7), .load false 1 (.t 6), none⟩,
    ⟨(some 8), .faddr 2 (.t 3), none⟩,
    ⟨(some 9), .load false 1 (.t 8), none⟩,
    ⟨(some 10), .bin .sub false (.t 9) (.c (.int .i64 1)), none⟩,
    ⟨(some 11), .bin .quo false (.t 10) (.c (.int .i64 96)), none⟩,
    ⟨(some 12), .bin .sub false (.t 7) (.t 11), none⟩,
    ⟨(some 13), .faddr 0 (.t 3), none⟩,
    ⟨(some 14), .load false 1 (.t 13), none⟩,
    ⟨(some 15), .faddr 0 (.t 2), none⟩,
    ⟨(some 16), .iaddrA 5 1 (.t 15) (.t 14), none⟩,
    ⟨(some 17), .load false 1 (.t 16), none⟩,
    ⟨(some 18), .bin .gtr false (.t 12) (.t 17), none⟩,
    ⟨(some 5), .mv (.t 18), none⟩]
def r47_1p : List (List Nat) := [[], [0], [], [2], [2, 3], [2, 3, 4], [0, 1, 2, 3, 4, 5], [], [7], [], [7, 8, 9], [7, 8, 9, 10], [0, 1, 2, 3, 4, 5, 6, 7, 8, 9, 10, 11], [0, 1, 2, 3, 4, 5, 6, 7, 8, 9, 10, 11, 12]]
def r47_2 (b : Nat) : List AOper := [
    ⟨(some 19), .mv (.t 5), none⟩,
    ⟨(some 20), .mv (.t 19), none⟩,
    ⟨(some 21), .faddr 5 (.t 2), (some (20, true))⟩,
    ⟨(some 22), .load false 1 (.t 21), (some (20, true))⟩,
    ⟨(some 23), .mkfn 64 [.t 3], (some (20, true))⟩,
    ⟨(some 24), .callf 27 [.t 22, .t 23], (some (20, true))⟩,
    ⟨(some 25), .not (.t 24), (some (20, true))⟩,
    ⟨(some 26), .pick (.t 20) (.t 25) (.c (.bool false)), none⟩,
    ⟨(some 4), .mv (.t 26), none⟩]
def c47 (b : Nat) : ACode := .seq (.reg false (r47_0 b) []) (.seq (.reg true (r47_1 b) r47_1p) (.seq (.reg false (r47_2 b) []) (.ret)))
def rs47 : List ARes := [.t 4]
theorem ck47 : ∃ c, Tryd.f47.body = some c ∧ ∀ b, checkCode Tryd.prog c (c47 b) = true := ⟨_, rfl, fun b => by kernel_rfl⟩
theorem cr47 : checkRess Tryd.prog Tryd.f47.results.toList rs47 = true := by kernel_rfl
def r48_0 (b : Nat) : List AOper := [
    ⟨(some 7), .faddr 0 (.t 1), none⟩,
    ⟨(some 8), .load false 1 (.t 7), none⟩,
    ⟨(some 9), .faddr 0 (.t 1), none⟩,
    ⟨(some 10), .load false 1 (.t 9), none⟩,
    ⟨(some 11), .build [.int .i64 0, .int .i64 0, .int .i64 0] [(1, 1, .t 8), (2, 1, .t 10)], none⟩,
    ⟨(some 4), .alloc (b + 0) [.int .i64 0, .int .i64 0, .int .i64 0], none⟩,
    ⟨none, .store 3 (.t 4) (.t 11), none⟩]
def r48_1 (b : Nat) : List AOper := [
    ⟨(some 12), .faddr 0 (.t 1), none⟩,
    ⟨(some 13), .load false 1 (.t 12), none⟩,
    ⟨(some 5), .mv (.t 13), none⟩]
def r48_2 (b : Nat) : List AOper := [
    ⟨(some 14), .mv (.t 5), none⟩,
    ⟨(some 15), .faddr 1 (.t 1), none⟩,
    ⟨(some 16), .load false 1 (.t 15), none⟩,
    ⟨(some 17), .bin .lss false (.t 14) (.t 16), none⟩]
def r48_3 (b : Nat) : List AOper := [
    ⟨(some 18), .load true 7 (.t 2), none⟩,
    ⟨(some 19), .mv (.t 5), none⟩,
    ⟨(some 20), .callf 22 [.t 18, .t 19], none⟩,
    ⟨(some 6), .alloc (b + 1) [.int .i64 0, .int .i64 0, .int .i64 0], none⟩,
    ⟨none, .store 3 (.t 6) (.t 20), none⟩]
def r48_4 (b : Nat) : List AOper := [
    ⟨(some 21), .faddr 0 (.t 6), none⟩,
    ⟨(some 22), .load false 1 (.t 21), none⟩,
    ⟨(some 23), .bin .eql false (.t 22) (.c (.int .i64 0)), none⟩]
def r48_5 (b : Nat) : List AOper := [
    ⟨(some 24), .faddr 2 (.t 6), none⟩,
    ⟨(some 25), .load false 1 (.t 24), none⟩,
    ⟨(some 26), .faddr 1 (.t 1), none⟩,
    ⟨(some 27), .load false 1 (.t 26), none⟩,
    ⟨(some 28), .min (.t 25) (.t 27), none⟩,
    ⟨(some 29), .faddr 2 (.t 4), none⟩,
    ⟨none, .store 1 (.t 29) (.t 28), none⟩]
def r48_6 (b : Nat) : List AOper := [
    ⟨(some 30), .faddr 1 (.t 4), none⟩,
    ⟨(some 31), .load false 1 (.t 30), none⟩,
    ⟨(some 32), .faddr 2 (.t 4), none⟩,
    ⟨(some 33), .load false 1 (.t 32), none⟩,
    ⟨(some 34), .bin .lss false (.t 31) (.t 33), none⟩,
    ⟨(some 35), .mv (.t 34), none⟩,
    ⟨(some 36), .mv (.t 0), (some (35, true))⟩,
    ⟨(some 37), .load true 3 (.t 4), (some (35, true))⟩,
    ⟨(some 38), .callv (.t 36) [.t 37], (some (35, true))⟩,
    ⟨(some 39), .not (.t 38), (some (35, true))⟩,
    ⟨(some 40), .pick (.t 35) (.t 39) (.c (.bool false)), none⟩,
    ⟨(some 41), .mv (.t 40), none⟩,
    ⟨(some 42), .mv (.t 0), (some (41, false))⟩,
    ⟨(some 43), .load true 3 (.t 6), (some (41, false))⟩,
    ⟨(some 44), .callv (.t 42) [.t 43], (some (41, false))⟩,
    ⟨(some 45), .not (.t 44), (some (41, false))⟩,
    ⟨(some 46), .pick (.t 41) (.c (.bool true)) (.t 45), none⟩]
def r48_7 (b : Nat) : List AOper := [
    ⟨(some 47), .faddr 2 (.t 6), none⟩,
    ⟨(some 48), .load false 1 (.t 47), none⟩,
    ⟨(some 49), .faddr 2 (.t 6), none⟩,
    ⟨(some 50), .load false 1 (.t 49), none⟩,
    ⟨(some 51), .build [.int .i64 0, .int .i64 0, .int .i64 0] [(1, 1, .t 48), (2, 1, .t 50)], none⟩,
    ⟨none, .store 3 (.t 4) (.t 51), none⟩]
def r48_8 (b : Nat) : List AOper := [
    ⟨(some 52), .faddr 2 (.t 6), none⟩,
    ⟨(some 53), .load false 1 (.t 52), none⟩,
    ⟨(some 5), .mv (.t 53), none⟩]
def l48_0 (b : Nat) : ACode := .seq (.seq (.reg false (r48_2 b) []) (.cond (.t 17) (.skip) (.exit 0))) (.block 1 (.seq (.reg false (r48_3 b) []) (.seq (.seq (.reg false (r48_4 b) []) (.cond (.t 23) (.reg false (r48_5 b) []) (.seq (.seq (.reg false (r48_6 b) []) (.cond (.t 46) (.ret) (.skip))) (.reg false (r48_7 b) [])))) (.reg false (r48_8 b) []))))
def r48_9 (b : Nat) : List AOper := [
    ⟨(some 54), .faddr 1 (.t 4), none⟩,
    ⟨(some 55), .load false 1 (.t 54), none⟩,
    ⟨(some 56), .faddr 2 (.t 4), none⟩,
    ⟨(some 57), .load false 1 (.t 56), none⟩,
    ⟨(some 58), .bin .lss false (.t 55) (.t 57), none⟩]
def r48_10 (b : Nat) : List AOper := [
    ⟨(some 59), .mv (.t 0), none⟩,
    ⟨(some 60), .load true 3 (.t 4), none⟩,
    ⟨(some 61), .callv (.t 59) [.t 60], none⟩]
def c48 (b : Nat) : ACode := .seq (.reg false (r48_0 b) []) (.seq (.seq (.reg false (r48_1 b) []) (.block 0 (.loop (l48_0 b)))) (.seq (.reg false (r48_9 b) []) (.cond (.t 58) (.reg false (r48_10 b) []) (.skip))))
def rs48 : List ARes := []
theorem ck48 : ∃ c, Tryd.f48.body = some c ∧ ∀ b, checkCode Tryd.prog c (c48 b) = true := ⟨_, rfl, fun b => by kernel_rfl⟩
theorem cr48 : checkRess Tryd.prog Tryd.f48.results.toList rs48 = true := by kernel_rfl
def r49_0 (b : Nat) : List AOper := [
    ⟨(some 4), .alloc (b + 0) [.int .i64 0, .int .i64 0, .int .i64 0, .int .i64 0], none⟩]
def r49_1 (b : Nat) : List AOper := [
    ⟨(some 10), .mv (.t 0), none⟩,
    ⟨(some 11), .bin .lss false (.t 10) (.c (.int .i64 0)), none⟩,
    ⟨(some 12), .mv (.t 11), none⟩,
    ⟨(some 13), .mv (.t 0), (some (12, false))⟩,
    ⟨(some 14), .bin .gtr false (.t 13) (.c (.int .i64 4)), (some (12, false))⟩,
    ⟨(some 15), .pick (.t 12) (.c (.bool true)) (.t 14), none⟩,
    ⟨(some 16), .mv (.t 15), none⟩,
    ⟨(some 17), .mv (.t 1), (some (16, false))⟩,
    ⟨(some 18), .bin .lss false (.t 17) (.c (.int .i64 0)), (some (16, false))⟩,
    ⟨(some 19), .pick (.t 16) (.c (.bool true)) (.t 18), none⟩,
    ⟨(some 20), .mv (.t 19), none⟩,
    ⟨(some 21), .mv (.t 1), (some (20, false))⟩,
    ⟨(some 22), .bin .geq false (.t 21) (.c (.int .i64 1402560)), (some (20, false))⟩,
    ⟨(some 23), .pick (.t 20) (.c (.bool true)) (.t 22), none⟩]
def r49_2 (b : Nat) : List AOper := [
    ⟨(some 24), .build [.int .i64 0, .int .i64 0, .int .i64 0, .int .i64 0] [(3, 1, .c (.int .i64 3))], none⟩,
    ⟨none, .store 4 (.t 4) (.t 24), none⟩]
def r49_3 (b : Nat) : List AOper := [
    ⟨(some 25), .mv (.t 1), none⟩,
    ⟨(some 5), .mv (.t 25), none⟩]
def r49_4 (b : Nat) : List AOper := [
    ⟨(some 26), .mv (.t 0), none⟩,
    ⟨(some 27), .bin .gtr false (.t 26) (.c (.int .i64 0)), none⟩]
def r49_5 (b : Nat) : List AOper := [
    ⟨(some 28), .mv (.t 5), none⟩,
    ⟨(some 29), .mv (.t 5), none⟩,
    ⟨(some 30), .bin .rem false (.t 29) (.c (.int .i64 4)), none⟩,
    ⟨(some 31), .bin .sub false (.t 28) (.t 30), none⟩,
    ⟨(some 5), .mv (.t 31), none⟩]
def r49_6 (b : Nat) : List AOper := [
    ⟨(some 32), .mv (.t 0), none⟩,
    ⟨(some 33), .bin .gtr false (.t 32) (.c (.int .i64 1)), none⟩]
def r49_7 (b : Nat) : List AOper := [
    ⟨(some 34), .mv (.t 5), none⟩,
    ⟨(some 35), .mv (.t 5), none⟩,
    ⟨(some 36), .bin .rem false (.t 35) (.c (.int .i64 96)), none⟩,
    ⟨(some 37), .bin .sub false (.t 34) (.t 36), none⟩,
    ⟨(some 5), .mv (.t 37), none⟩]
def r49_8 (b : Nat) : List AOper := [
    ⟨(some 38), .bslice (b + 1) 1 5 [.int .i64 0, .int .i64 0, .int .i64 0, .int .i64 0, .int .i64 0] [(0, 1, .c (.int .i64 1)), (1, 1, .c (.int .i64 4)), (2, 1, .c (.int .i64 96)), (3, 1, .c (.int .i64 96)), (4, 1, .c (.int .i64 96))], none⟩,
    ⟨(some 39), .mv (.t 0), none⟩,
    ⟨(some 40), .iaddrS 1 (.t 38) (.t 39), none⟩,
    ⟨(some 41), .load false 1 (.t 40), none⟩,
    ⟨(some 6), .mv (.t 41), none⟩]
def r49_9 (b : Nat) : List AOper := [
    ⟨(some 42), .mv (.t 0), none⟩,
    ⟨(some 43), .mv (.t 5), none⟩,
    ⟨(some 44), .callf 65 [.t 42, .t 43], none⟩,
    ⟨(some 7), .mv (.t 44), none⟩]
def r49_10 (b : Nat) : List AOper := [
    ⟨(some 45), .mv (.t 7), none⟩,
    ⟨(some 46), .not (.t 45), none⟩]
def r49_11 (b : Nat) : List AOper := [
    ⟨(some 47), .mv (.t 5), none⟩,
    ⟨(some 48), .mv (.t 6), none⟩,
    ⟨(some 49), .bin .sub false (.t 47) (.t 48), none⟩,
    ⟨(some 5), .mv (.t 49), none⟩]
def r49_12 (b : Nat) : List AOper := [
    ⟨(some 50), .mv (.t 0), none⟩,
    ⟨(some 51), .mv (.t 5), none⟩,
    ⟨(some 52), .callf 65 [.t 50, .t 51], none⟩,
    ⟨(some 7), .mv (.t 52), none⟩]
def l49_0 (b : Nat) : ACode := .seq (.seq (.reg false (r49_10 b) []) (.cond (.t 46) (.skip) (.exit 0))) (.block 1 (.seq (.reg false (r49_11 b) []) (.reg false (r49_12 b) [])))
def r49_13 (b : Nat) : List AOper := [
    ⟨(some 53), .mv (.t 5), none⟩,
    ⟨(some 54), .mv (.t 6), none⟩,
    ⟨(some 55), .bin .add false (.t 53) (.t 54), none⟩,
    ⟨(some 8), .mv (.t 55), none⟩]
def r49_14 (b : Nat) : List AOper := [
    ⟨(some 56), .mv (.t 0), none⟩,
    ⟨(some 57), .mv (.t 8), none⟩,
    ⟨(some 58), .callf 65 [.t 56, .t 57], none⟩,
    ⟨(some 9), .mv (.t 58), none⟩]
def r49_15 (b : Nat) : List AOper := [
    ⟨(some 59), .mv (.t 9), none⟩,
    ⟨(some 60), .not (.t 59), none⟩]
def r49_16 (b : Nat) : List AOper := [
    ⟨(some 61), .mv (.t 8), none⟩,
    ⟨(some 62), .mv (.t 6), none⟩,
    ⟨(some 63), .bin .add false (.t 61) (.t 62), none⟩,
    ⟨(some 8), .mv (.t 63), none⟩]
def r49_17 (b : Nat) : List AOper := [
    ⟨(some 64), .mv (.t 0), none⟩,
    ⟨(some 65), .mv (.t 8), none⟩,
    ⟨(some 66), .callf 65 [.t 64, .t 65], none⟩,
    ⟨(some 9), .mv (.t 66), none⟩]
def l49_1 (b : Nat) : ACode := .seq (.seq (.reg false (r49_15 b) []) (.cond (.t 60) (.skip) (.exit 2))) (.block 3 (.seq (.reg false (r49_16 b) []) (.reg false (r49_17 b) [])))
def r49_18 (b : Nat) : List AOper := [
    ⟨(some 67), .mv (.t 0), none⟩,
    ⟨(some 68), .mv (.t 5), none⟩,
    ⟨(some 69), .mv (.t 8), none⟩,
    ⟨(some 70), .build [.int .i64 0, .int .i64 0, .int .i64 0] [(0, 1, .t 67), (1, 1, .t 68), (2, 1, .t 69)], none⟩,
    ⟨(some 71), .build [.int .i64 0, .int .i64 0, .int .i64 0, .int .i64 0] [(0, 3, .t 70)], none⟩,
    ⟨none, .store 4 (.t 4) (.t 71), none⟩]
def c49 (b : Nat) : ACode := .seq (.reg false (r49_0 b) []) (.seq (.seq (.reg false (r49_1 b) []) (.cond (.t 23) (.seq (.reg false (r49_2 b) []) (.ret)) (.skip))) (.seq (.reg false (r49_3 b) []) (.seq (.seq (.reg false (r49_4 b) []) (.cond (.t 27) (.reg false (r49_5 b) []) (.skip))) (.seq (.seq (.reg false (r49_6 b) []) (.cond (.t 33) (.reg false (r49_7 b) []) (.skip))) (.seq (.reg false (r49_8 b) []) (.seq (.reg false (r49_9 b) []) (.seq (.block 0 (.loop (l49_0 b))) (.seq (.reg false (r49_13 b) []) (.seq (.reg false (r49_14 b) []) (.seq (.block 2 (.loop (l49_1 b))) (.seq (.reg false (r49_18 b) []) (.ret))))))))))))
def rs49 : List ARes := [.c 4 true 4]
theorem ck49 : ∃ c, Tryd.f49.body = some c ∧ ∀ b, checkCode Tryd.prog c (c49 b) = true := ⟨_, rfl, fun b => by kernel_rfl⟩
theorem cr49 : checkRess Tryd.prog Tryd.f49.results.toList rs49 = true := by kernel_rfl
def r50_0 (b : Nat) : List AOper := [
    ⟨(some 5), .box (b + 0) (.t 0), none⟩,
    ⟨(some 8), .box (b + 1) (.t 3), none⟩,
    ⟨(some 10), .mv (.c (.bool false)), none⟩]
def r50_1 (b : Nat) : List AOper := [
    ⟨(some 13), .faddr 0 (.t 5), none⟩,
    ⟨(some 14), .load false 1 (.t 13), none⟩,
    ⟨(some 15), .faddr 1 (.t 5), none⟩,
    ⟨(some 16), .load false 1 (.t 15), none⟩,
    ⟨(some 17), .faddr 2 (.t 5), none⟩,
    ⟨(some 18), .load false 1 (.t 17), none⟩,
    ⟨(some 19), .faddr 3 (.t 5), none⟩,
    ⟨(some 20), .load false 1 (.t 19), none⟩,
    ⟨(some 21), .bslice (b + 2) 1 5 [.int .i64 0, .int .i64 0, .int .i64 0, .int .i64 0, .int .i64 0] [(0, 1, .c (.int .i64 0)), (1, 1, .t 14), (2, 1, .t 16), (3, 1, .t 18), (4, 1, .t 20)], none⟩,
    ⟨(some 11), .mv (.t 21), none⟩]
def r50_2 (b : Nat) : List AOper := [
    ⟨(some 12), .mv (.c (.int .i64 0)), none⟩]
def r50_3 (b : Nat) : List AOper := [
    ⟨(some 22), .mv (.t 12), none⟩,
    ⟨(some 23), .mv (.t 1), none⟩,
    ⟨(some 24), .len false (.t 23), none⟩,
    ⟨(some 25), .bin .lss false (.t 22) (.t 24), none⟩]
def r50_5 (b : Nat) : List AOper := [
    ⟨(some 28), .mv (.t 1), none⟩,
    ⟨(some 29), .mv (.t 12), none⟩,
    ⟨(some 30), .iaddrS 3 (.t 28) (.t 29), none⟩,
    ⟨(some 31), .faddr 0 (.t 30), none⟩,
    ⟨(some 32), .load false 1 (.t 31), none⟩,
    ⟨(some 33), .mv (.t 2), none⟩,
    ⟨(some 34), .bin .eql false (.t 32) (.t 33), none⟩,
    ⟨(some 35), .mv (.t 34), none⟩,
    ⟨(some 36), .mv (.t 1), (some (35, true))⟩,
    ⟨(some 37), .mv (.t 12), (some (35, true))⟩,
    ⟨(some 38), .iaddrS 3 (.t 36) (.t 37), (some (35, true))⟩,
    ⟨(some 39), .faddr 1 (.t 38), (some (35, true))⟩,
    ⟨(some 40), .load false 1 (.t 39), (some (35, true))⟩,
    ⟨(some 41), .faddr 2 (.t 8), (some (35, true))⟩,
    ⟨(some 42), .load false 1 (.t 41), (some (35, true))⟩,
    ⟨(some 43), .bin .lss false (.t 40) (.t 42), (some (35, true))⟩,
    ⟨(some 44), .pick (.t 35) (.t 43) (.c (.bool false)), none⟩,
    ⟨(some 45), .mv (.t 44), none⟩,
    ⟨(some 46), .mv (.t 1), (some (45, true))⟩,
    ⟨(some 47), .mv (.t 12), (some (45, true))⟩,
    ⟨(some 48), .iaddrS 3 (.t 46) (.t 47), (some (45, true))⟩,
    ⟨(some 49), .faddr 2 (.t 48), (some (45, true))⟩,
    ⟨(some 50), .load false 1 (.t 49), (some (45, true))⟩,
    ⟨(some 51), .faddr 1 (.t 8), (some (45, true))⟩,
    ⟨(some 52), .load false 1 (.t 51), (some (45, true))⟩,
    ⟨(some 53), .bin .gtr false (.t 50) (.t 52), (some (45, true))⟩,
    ⟨(some 54), .pick (.t 45) (.t 53) (.c (.bool false)), none⟩]
def r50_5p : List (List Nat) := [[], [], [0, 1], [0, 1, 2], [0, 1, 2, 3], [], [0, 1, 2, 3, 4, 5], [0, 1, 2, 3, 4, 5, 6], [0, 1, 2, 3, 4, 5, 6, 7], [0, 1, 2, 3, 4, 5, 6, 7], [0, 1, 2, 3, 4, 5, 6, 7, 8, 9], [0, 1, 2, 3, 4, 5, 6, 7, 8, 9, 10], [0, 1, 2, 3, 4, 5, 6, 7, 8, 9, 10, 11], [0, 1, 2, 3, 4, 5, 6, 7], [0, 1, 2, 3, 4, 5, 6, 7, 13], [0, 1, 2, 3, 4, 5, 6, 7, 8, 9, 10, 11, 12, 13, 14], [0, 1, 2, 3, 4, 5, 6, 7, 8, 9, 10, 11, 12, 13, 14, 15], [0, 1, 2, 3, 4, 5, 6, 7, 8, 9, 10, 11, 12, 13, 14, 15, 16], [0, 1, 2, 3, 4, 5, 6, 7, 8, 9, 10, 11, 12, 13, 14, 15, 16, 17], [0, 1, 2, 3, 4, 5, 6, 7, 8, 9, 10, 11, 12, 13, 14, 15, 16, 17], [0, 1, 2, 3, 4, 5, 6, 7, 8, 9, 10, 11, 12, 13, 14, 15, 16, 17, 18, 19], [0, 1, 2, 3, 4, 5, 6, 7, 8, 9, 10, 11, 12, 13, 14, 15, 16, 17, 18, 19, 20], [0, 1, 2, 3, 4, 5, 6, 7, 8, 9, 10, 11, 12, 13, 14, 15, 16, 17, 18, 19, 20, 21], [0, 1, 2, 3, 4, 5, 6, 7, 8, 9, 10, 11, 12, 13, 14, 15, 16, 17], [0, 1, 2, 3, 4, 5, 6, 7, 8, 9, 10, 11, 12, 13, 14, 15, 16, 17, 23], [0, 1, 2, 3, 4, 5, 6, 7, 8, 9, 10, 11, 12, 13, 14, 15, 16, 17, 18, 19, 20, 21, 22, 23, 24], [0, 1, 2, 3, 4, 5, 6, 7, 8, 9, 10, 11, 12, 13, 14, 15, 16, 17, 18, 19, 20, 21, 22, 23, 24, 25]]
def r50_6 (b : Nat) : List AOper := [
    ⟨(some 10), .mv (.c (.bool false)), none⟩]
def r50_4 (b : Nat) : List AOper := [
    ⟨(some 26), .mv (.t 12), none⟩,
    ⟨(some 27), .bin .add false (.t 26) (.c (.int .i64 1)), none⟩,
    ⟨(some 12), .mv (.t 27), none⟩]
def l50_0 (b : Nat) : ACode := .seq (.seq (.reg false (r50_3 b) []) (.cond (.t 25) (.skip) (.exit 0))) (.seq (.block 1 (.seq (.reg true (r50_5 b) r50_5p) (.cond (.t 54) (.seq (.reg false (r50_6 b) []) (.ret)) (.skip)))) (.reg false (r50_4 b) []))
def r50_7 (b : Nat) : List AOper := [
    ⟨(some 55), .mv (.t 4), none⟩,
    ⟨(some 56), .faddr 2 (.t 8), none⟩,
    ⟨(some 57), .load false 1 (.t 56), none⟩,
    ⟨(some 58), .bin .sub false (.t 57) (.c (.int .i64 1)), none⟩,
    ⟨(some 59), .bin .quo false (.t 58) (.c (.int .i64 96)), none⟩,
    ⟨(some 60), .bin .sub false (.t 55) (.t 59), none⟩,
    ⟨(some 61), .mv (.t 11), none⟩,
    ⟨(some 62), .faddr 0 (.t 8), none⟩,
    ⟨(some 63), .load false 1 (.t 62), none⟩,
    ⟨(some 64), .iaddrS 1 (.t 61) (.t 63), none⟩,
    ⟨(some 65), .load false 1 (.t 64), none⟩,
    ⟨(some 66), .bin .gtr false (.t 60) (.t 65), none⟩,
    ⟨(some 10), .mv (.t 66), none⟩]
def r50_7p : List (List Nat) := [[], [], [1], [1, 2], [1, 2, 3], [0, 1, 2, 3, 4], [], [], [7], [6, 7, 8], [6, 7, 8, 9], [0, 1, 2, 3, 4, 5, 6, 7, 8, 9, 10], [0, 1, 2, 3, 4, 5, 6, 7, 8, 9, 10, 11]]
def c50 (b : Nat) : ACode := .seq (.reg false (r50_0 b) []) (.seq (.reg false (r50_1 b) []) (.seq (.seq (.reg false (r50_2 b) []) (.block 0 (.loop (l50_0 b)))) (.seq (.reg true (r50_7 b) r50_7p) (.ret))))
def rs50 : List ARes := [.t 10]
theorem ck50 : ∃ c, Tryd.f50.body = some c ∧ ∀ b, checkCode Tryd.prog c (c50 b) = true := ⟨_, rfl, fun b => by kernel_rfl⟩
theorem cr50 : checkRess Tryd.prog Tryd.f50.results.toList rs50 = true := by kernel_rfl
def r51_0 (b : Nat) : List AOper := [
    ⟨(some 4), .mv (.c (.int .i64 0)), none⟩]
def r51_1 (b : Nat) : List AOper := [
    ⟨(some 6), .mv (.t 0), none⟩,
    ⟨(some 7), .len false (.t 6), none⟩,
    ⟨(some 8), .mv (.c (.int .i64 0)), none⟩]
def r51_2 (b : Nat) : List AOper := [
    ⟨(some 9), .bin .lss false (.t 8) (.t 7), none⟩]
def r51_3 (b : Nat) : List AOper := [
    ⟨(some 10), .mv (.t 8), none⟩,
    ⟨(some 5), .mv (.t 10), none⟩]
def r51_4 (b : Nat) : List AOper := [
    ⟨(some 11), .mv (.t 1), none⟩,
    ⟨(some 12), .mv (.t 0), none⟩,
    ⟨(some 13), .mv (.t 5), none⟩,
    ⟨(some 14), .iaddrS 3 (.t 12) (.t 13), none⟩,
    ⟨(some 15), .load true 3 (.t 14), none⟩,
    ⟨(some 16), .callv (.t 11) [.t 15], none⟩]
def r51_5 (b : Nat) : List AOper := [
    ⟨(some 17), .mv (.t 5), none⟩,
    ⟨(some 4), .mv (.t 17), none⟩]
def r51_6 (b : Nat) : List AOper := [
    ⟨(some 18), .bin .add false (.t 8) (.c (.int .i64 1)), none⟩,
    ⟨(some 8), .mv (.t 18), none⟩]
def l51_0 (b : Nat) : ACode := .seq (.reg false (r51_2 b) []) (.seq (.cond (.t 9) (.skip) (.exit 0)) (.seq (.block 1 (.seq (.reg false (r51_3 b) []) (.seq (.reg false (r51_4 b) []) (.cond (.t 16) (.seq (.reg false (r51_5 b) []) (.ret)) (.skip))))) (.reg false (r51_6 b) [])))
def r51_7 (b : Nat) : List AOper := [
    ⟨(some 4), .mv (.c (.int .i64 (-1))), none⟩]
def c51 (b : Nat) : ACode := .seq (.reg false (r51_0 b) []) (.seq (.seq (.reg false (r51_1 b) []) (.block 0 (.loop (l51_0 b)))) (.seq (.reg false (r51_7 b) []) (.ret)))
def rs51 : List ARes := [.t 4]
theorem ck51 : ∃ c, Tryd.f51.body = some c ∧ ∀ b, checkCode Tryd.prog c (c51 b) = true := ⟨_, rfl, fun b => by kernel_rfl⟩
theorem cr51 : checkRess Tryd.prog Tryd.f51.results.toList rs51 = true := by kernel_rfl
def r52_0 (b : Nat) : List AOper := [
    ⟨(some 6), .mv (.c (.bool false)), none⟩]
def r52_1 (b : Nat) : List AOper := [
    ⟨(some 7), .mv (.t 0), none⟩,
    ⟨(some 8), .mv (.t 1), none⟩,
    ⟨(some 9), .bin .geq false (.t 7) (.t 8), none⟩,
    ⟨(some 10), .mv (.t 9), none⟩,
    ⟨(some 11), .mv (.t 0), (some (10, true))⟩,
    ⟨(some 12), .mv (.t 2), (some (10, true))⟩,
    ⟨(some 13), .bin .leq false (.t 11) (.t 12), (some (10, true))⟩,
    ⟨(some 14), .pick (.t 10) (.t 13) (.c (.bool false)), none⟩,
    ⟨(some 6), .mv (.t 14), none⟩]
def c52 (b : Nat) : ACode := .seq (.reg false (r52_0 b) []) (.seq (.reg false (r52_1 b) []) (.ret))
def rs52 : List ARes := [.t 6]
theorem ck52 : ∃ c, Tryd.f52.body = some c ∧ ∀ b, checkCode Tryd.prog c (c52 b) = true := ⟨_, rfl, fun b => by kernel_rfl⟩
theorem cr52 : checkRess Tryd.prog Tryd.f52.results.toList rs52 = true := by kernel_rfl
def r53_0 (b : Nat) : List AOper := [
    ⟨(some 4), .mv (.c (.bool false)), none⟩]
def r53_1 (b : Nat) : List AOper := [
    ⟨(some 5), .mv (.t 0), none⟩,
    ⟨(some 6), .mv (.t 1), none⟩,
    ⟨(some 7), .callf 66 [.t 5, .t 6], none⟩,
    ⟨(some 8), .bin .geq false (.t 7) (.c (.int .i64 0)), none⟩,
    ⟨(some 4), .mv (.t 8), none⟩]
def c53 (b : Nat) : ACode := .seq (.reg false (r53_0 b) []) (.seq (.reg false (r53_1 b) []) (.ret))
def rs53 : List ARes := [.t 4]
theorem ck53 : ∃ c, Tryd.f53.body = some c ∧ ∀ b, checkCode Tryd.prog c (c53 b) = true := ⟨_, rfl, fun b => by kernel_rfl⟩
theorem cr53 : checkRess Tryd.prog Tryd.f53.results.toList rs53 = true := by kernel_rfl
def r54_0 (b : Nat) : List AOper := [
    ⟨(some 2), .mv (.c (.bool false)), none⟩]
def r54_1 (b : Nat) : List AOper := [
    ⟨(some 3), .mv (.t 0), none⟩,
    ⟨(some 4), .callf 52 [.t 3, .c (.int .i64 0), .c (.int .i64 1000)], none⟩,
    ⟨(some 5), .not (.t 4), none⟩,
    ⟨(some 2), .mv (.t 5), none⟩]
def c54 (b : Nat) : ACode := .seq (.reg false (r54_0 b) []) (.seq (.reg false (r54_1 b) []) (.ret))
def rs54 : List ARes := [.t 2]
theorem ck54 : ∃ c, Tryd.f54.body = some c ∧ ∀ b, checkCode Tryd.prog c (c54 b) = true := ⟨_, rfl, fun b => by kernel_rfl⟩
theorem cr54 : checkRess Tryd.prog Tryd.f54.results.toList rs54 = true := by kernel_rfl
def r55_0 (b : Nat) : List AOper := [
    ⟨(some 1), .box (b + 0) (.t 0), none⟩,
    ⟨(some 2), .mv (.c (.int .i64 0)), none⟩]
def r55_1 (b : Nat) : List AOper := [
    ⟨(some 8), .faddr 0 (.t 1), none⟩,
    ⟨(some 9), .load false 1 (.t 8), none⟩,
    ⟨(some 10), .bin .lss false (.t 9) (.c (.int .i64 0)), none⟩,
    ⟨(some 11), .mv (.t 10), none⟩,
    ⟨(some 12), .faddr 0 (.t 1), (some (11, false))⟩,
    ⟨(some 13), .load false 1 (.t 12), (some (11, false))⟩,
    ⟨(some 14), .faddr 1 (.t 1), (some (11, false))⟩,
    ⟨(some 15), .load false 1 (.t 14), (some (11, false))⟩,
    ⟨(some 16), .bin .geq false (.t 13) (.t 15), (some (11, false))⟩,
    ⟨(some 17), .pick (.t 11) (.c (.bool true)) (.t 16), none⟩,
    ⟨(some 18), .mv (.t 17), none⟩,
    ⟨(some 19), .faddr 1 (.t 1), (some (18, false))⟩,
    ⟨(some 20), .load false 1 (.t 19), (some (18, false))⟩,
    ⟨(some 21), .bin .gtr false (.t 20) (.c (.int .i64 1402560)), (some (18, false))⟩,
    ⟨(some 22), .pick (.t 18) (.c (.bool true)) (.t 21), none⟩]
def r55_2 (b : Nat) : List AOper := [
    ⟨(some 2), .mv (.c (.int .i64 3)), none⟩]
def r55_3 (b : Nat) : List AOper := [
    ⟨(some 23), .load true 5 (.t 1), none⟩,
    ⟨(some 24), .callf 39 [.t 23], none⟩]
def r55_4 (b : Nat) : List AOper := [
    ⟨(some 25), .faddr 3 (.t 1), none⟩,
    ⟨(some 26), .load false 1 (.t 25), none⟩,
    ⟨(some 27), .bin .lss false (.t 26) (.c (.int .i64 0)), none⟩,
    ⟨(some 28), .mv (.t 27), none⟩,
    ⟨(some 29), .faddr 4 (.t 1), (some (28, false))⟩,
    ⟨(some 30), .load false 1 (.t 29), (some (28, false))⟩,
    ⟨(some 31), .faddr 3 (.t 1), (some (28, false))⟩,
    ⟨(some 32), .load false 1 (.t 31), (some (28, false))⟩,
    ⟨(some 33), .bin .lss false (.t 30) (.t 32), (some (28, false))⟩,
    ⟨(some 34), .pick (.t 28) (.c (.bool true)) (.t 33), none⟩,
    ⟨(some 35), .mv (.t 34), none⟩,
    ⟨(some 36), .faddr 4 (.t 1), (some (35, false))⟩,
    ⟨(some 37), .load false 1 (.t 36), (some (35, false))⟩,
    ⟨(some 38), .bin .gtr false (.t 37) (.c (.int .i64 1000)), (some (35, false))⟩,
    ⟨(some 39), .pick (.t 35) (.c (.bool true)) (.t 38), none⟩]
def r55_5 (b : Nat) : List AOper := [
    ⟨(some 2), .mv (.c (.int .i64 3)), none⟩]
def r55_6 (b : Nat) : List AOper := [
    ⟨(some 2), .mv (.c (.int .i64 0)), none⟩]
def r55_7 (b : Nat) : List AOper := [
    ⟨(some 40), .faddr 2 (.t 1), none⟩,
    ⟨(some 41), .load false 1 (.t 40), none⟩,
    ⟨(some 42), .len false (.t 41), none⟩,
    ⟨(some 43), .mv (.c (.int .i64 0)), none⟩]
def r55_8 (b : Nat) : List AOper := [
    ⟨(some 44), .bin .lss false (.t 43) (.t 42), none⟩]
def r55_9 (b : Nat) : List AOper := [
    ⟨(some 45), .iaddrS 2 (.t 41) (.t 43), none⟩,
    ⟨(some 46), .load true 2 (.t 45), none⟩,
    ⟨(some 4), .alloc (b + 1) [.int .i64 0, .int .i64 0], none⟩,
    ⟨none, .store 2 (.t 4) (.t 46), none⟩]
def r55_10 (b : Nat) : List AOper := [
    ⟨(some 47), .faddr 0 (.t 4), none⟩,
    ⟨(some 48), .load false 1 (.t 47), none⟩,
    ⟨(some 49), .callf 52 [.t 48, .c (.int .i64 0), .c (.int .i64 1000)], none⟩,
    ⟨(some 50), .not (.t 49), none⟩,
    ⟨(some 51), .mv (.t 50), none⟩,
    ⟨(some 52), .faddr 1 (.t 4), (some (51, false))⟩,
    ⟨(some 53), .load false 1 (.t 52), (some (51, false))⟩,
    ⟨(some 54), .callf 52 [.t 53, .c (.int .i64 1), .c (.int .i64 1402560)], (some (51, false))⟩,
    ⟨(some 55), .not (.t 54), (some (51, false))⟩,
    ⟨(some 56), .pick (.t 51) (.c (.bool true)) (.t 55), none⟩]
def r55_11 (b : Nat) : List AOper := [
    ⟨(some 2), .mv (.c (.int .i64 3)), none⟩]
def r55_12 (b : Nat) : List AOper := [
    ⟨(some 57), .bin .add false (.t 43) (.c (.int .i64 1)), none⟩,
    ⟨(some 43), .mv (.t 57), none⟩]
def l55_0 (b : Nat) : ACode := .seq (.reg false (r55_8 b) []) (.seq (.cond (.t 44) (.skip) (.exit 0)) (.seq (.block 1 (.seq (.reg false (r55_9 b) []) (.seq (.reg false (r55_10 b) []) (.cond (.t 56) (.seq (.reg false (r55_11 b) []) (.ret)) (.skip))))) (.reg false (r55_12 b) [])))
def r55_13 (b : Nat) : List AOper := [
    ⟨(some 5), .mv (.c (.int .i64 0)), none⟩]
def r55_14 (b : Nat) : List AOper := [
    ⟨(some 58), .faddr 2 (.t 1), none⟩,
    ⟨(some 59), .load false 1 (.t 58), none⟩,
    ⟨(some 60), .len false (.t 59), none⟩,
    ⟨(some 61), .mv (.c (.int .i64 0)), none⟩]
def r55_15 (b : Nat) : List AOper := [
    ⟨(some 62), .bin .lss false (.t 61) (.t 60), none⟩]
def r55_16 (b : Nat) : List AOper := [
    ⟨(some 63), .mv (.t 61), none⟩,
    ⟨(some 64), .iaddrS 2 (.t 59) (.t 61), none⟩,
    ⟨(some 65), .load true 2 (.t 64), none⟩,
    ⟨(some 7), .alloc (b + 2) [.int .i64 0, .int .i64 0], none⟩,
    ⟨(some 6), .mv (.t 63), none⟩,
    ⟨none, .store 2 (.t 7) (.t 65), none⟩]
def r55_17 (b : Nat) : List AOper := [
    ⟨(some 66), .mv (.t 6), none⟩,
    ⟨(some 67), .bin .gtr false (.t 66) (.c (.int .i64 0)), none⟩,
    ⟨(some 68), .mv (.t 67), none⟩,
    ⟨(some 69), .faddr 2 (.t 1), (some (68, true))⟩,
    ⟨(some 70), .load false 1 (.t 69), (some (68, true))⟩,
    ⟨(some 71), .mv (.t 6), (some (68, true))⟩,
    ⟨(some 72), .bin .sub false (.t 71) (.c (.int .i64 1)), (some (68, true))⟩,
    ⟨(some 73), .iaddrS 2 (.t 70) (.t 72), (some (68, true))⟩,
    ⟨(some 74), .faddr 0 (.t 73), (some (68, true))⟩,
    ⟨(some 75), .load false 1 (.t 74), (some (68, true))⟩,
    ⟨(some 76), .faddr 0 (.t 7), (some (68, true))⟩,
    ⟨(some 77), .load false 1 (.t 76), (some (68, true))⟩,
    ⟨(some 78), .bin .geq false (.t 75) (.t 77), (some (68, true))⟩,
    ⟨(some 79), .pick (.t 68) (.t 78) (.c (.bool false)), none⟩]
def r55_17p : List (List Nat) := [[], [0], [0, 1], [0, 1, 2], [0, 1, 2, 3], [0, 1, 2], [0, 1, 2, 5], [0, 1, 2, 3, 4, 5, 6], [0, 1, 2, 3, 4, 5, 6, 7], [0, 1, 2, 3, 4, 5, 6, 7, 8], [0, 1, 2], [0, 1, 2, 10], [0, 1, 2, 3, 4, 5, 6, 7, 8, 9, 10, 11], [0, 1, 2, 3, 4, 5, 6, 7, 8, 9, 10, 11, 12]]
def r55_18 (b : Nat) : List AOper := [
    ⟨(some 2), .mv (.c (.int .i64 1)), none⟩]
def r55_19 (b : Nat) : List AOper := [
    ⟨(some 80), .mv (.t 5), none⟩,
    ⟨(some 81), .faddr 1 (.t 7), none⟩,
    ⟨(some 82), .load false 1 (.t 81), none⟩,
    ⟨(some 83), .bin .add false (.t 80) (.t 82), none⟩,
    ⟨(some 5), .mv (.t 83), none⟩]
def r55_20 (b : Nat) : List AOper := [
    ⟨(some 84), .bin .add false (.t 61) (.c (.int .i64 1)), none⟩,
    ⟨(some 61), .mv (.t 84), none⟩]
def l55_1 (b : Nat) : ACode := .seq (.reg false (r55_15 b) []) (.seq (.cond (.t 62) (.skip) (.exit 2)) (.seq (.block 3 (.seq (.reg false (r55_16 b) []) (.seq (.seq (.reg true (r55_17 b) r55_17p) (.cond (.t 79) (.seq (.reg false (r55_18 b) []) (.ret)) (.skip))) (.reg false (r55_19 b) [])))) (.reg false (r55_20 b) [])))
def r55_21 (b : Nat) : List AOper := [
    ⟨(some 85), .mv (.t 5), none⟩,
    ⟨(some 86), .faddr 1 (.t 1), none⟩,
    ⟨(some 87), .load false 1 (.t 86), none⟩,
    ⟨(some 88), .faddr 0 (.t 1), none⟩,
    ⟨(some 89), .load false 1 (.t 88), none⟩,
    ⟨(some 90), .bin .sub false (.t 87) (.t 89), none⟩,
    ⟨(some 91), .bin .neq false (.t 85) (.t 90), none⟩,
    ⟨(some 92), .mv (.t 91), none⟩,
    ⟨(some 93), .faddr 3 (.t 1), (some (92, false))⟩,
    ⟨(some 94), .load false 1 (.t 93), (some (92, false))⟩,
    ⟨(some 95), .bin .neq false (.t 94) (.c (.int .i64 0)), (some (92, false))⟩,
    ⟨(some 96), .pick (.t 92) (.c (.bool true)) (.t 95), none⟩,
    ⟨(some 97), .mv (.t 96), none⟩,
    ⟨(some 98), .faddr 4 (.t 1), (some (97, false))⟩,
    ⟨(some 99), .load false 1 (.t 98), (some (97, false))⟩,
    ⟨(some 100), .bin .neq false (.t 99) (.c (.int .i64 0)), (some (97, false))⟩,
    ⟨(some 101), .pick (.t 97) (.c (.bool true)) (.t 100), none⟩]
def r55_22 (b : Nat) : List AOper := [
    ⟨(some 2), .mv (.c (.int .i64 1)), none⟩]
def r55_23 (b : Nat) : List AOper := [
    ⟨(some 2), .mv (.c (.int .i64 0)), none⟩]
def c55 (b : Nat) : ACode := .seq (.reg false (r55_0 b) []) (.seq (.seq (.reg false (r55_1 b) []) (.cond (.t 22) (.seq (.reg false (r55_2 b) []) (.ret)) (.skip))) (.seq (.seq (.reg false (r55_3 b) []) (.cond (.t 24) (.seq (.seq (.reg false (r55_4 b) []) (.cond (.t 39) (.seq (.reg false (r55_5 b) []) (.ret)) (.skip))) (.seq (.reg false (r55_6 b) []) (.ret))) (.skip))) (.seq (.seq (.reg false (r55_7 b) []) (.block 0 (.loop (l55_0 b)))) (.seq (.reg false (r55_13 b) []) (.seq (.seq (.reg false (r55_14 b) []) (.block 2 (.loop (l55_1 b)))) (.seq (.seq (.reg false (r55_21 b) []) (.cond (.t 101) (.seq (.reg false (r55_22 b) []) (.ret)) (.skip))) (.seq (.reg false (r55_23 b) []) (.ret))))))))
def rs55 : List ARes := [.t 2]
theorem ck55 : ∃ c, Tryd.f55.body = some c ∧ ∀ b, checkCode Tryd.prog c (c55 b) = true := ⟨_, rfl, fun b => by kernel_rfl⟩
theorem cr55 : checkRess Tryd.prog Tryd.f55.results.toList rs55 = true := by kernel_rfl
def r56_0 (b : Nat) : List AOper := [
    ⟨(some 2), .mv (.c (.bool false)), none⟩]
def r56_1 (b : Nat) : List AOper := [
    ⟨(some 3), .mv (.t 0), none⟩,
    ⟨(some 4), .bin .geq false (.t 3) (.c (.int .i64 0)), none⟩,
    ⟨(some 5), .mv (.t 4), none⟩,
    ⟨(some 6), .mv (.t 0), (some (5, true))⟩,
    ⟨(some 7), .bin .leq false (.t 6) (.c (.int .i64 4)), (some (5, true))⟩,
    ⟨(some 8), .pick (.t 5) (.t 7) (.c (.bool false)), none⟩,
    ⟨(some 2), .mv (.t 8), none⟩]
def c56 (b : Nat) : ACode := .seq (.reg false (r56_0 b) []) (.seq (.reg false (r56_1 b) []) (.ret))
def rs56 : List ARes := [.t 2]
theorem ck56 : ∃ c, Tryd.f56.body = some c ∧ ∀ b, checkCode Tryd.prog c (c56 b) = true := ⟨_, rfl, fun b => by kernel_rfl⟩
theorem cr56 : checkRess Tryd.prog Tryd.f56.results.toList rs56 = true := by kernel_rfl
def r57_0 (b : Nat) : List AOper := [
    ⟨(some 2), .box (b + 0) (.t 0), none⟩,
    ⟨(some 3), .box (b + 1) (.t 1), none⟩,
    ⟨(some 4), .alloc (b + 2) [.int .i64 0, .int .i64 0, .int .i64 0], none⟩]
def r57_1 (b : Nat) : List AOper := [
    ⟨(some 13), .mkfn 67 [.t 2, .t 3], none⟩,
    ⟨(some 5), .mv (.t 13), none⟩]
def r57_2 (b : Nat) : List AOper := [
    ⟨(some 14), .load false 1 (.t 2), none⟩]
def r57_3 (b : Nat) : List AOper := [
    ⟨(some 16), .bin .eql false (.t 14) (.c (.int .i64 0)), none⟩,
    ⟨(some 15), .mv (.t 16), none⟩]
def r57_4 (b : Nat) : List AOper := [
    ⟨(some 17), .mv (.t 5), none⟩,
    ⟨(some 18), .callv (.t 17) [.c (.int .i64 1)], none⟩,
    ⟨none, .store 3 (.t 4) (.t 18), none⟩]
def r57_5 (b : Nat) : List AOper := [
    ⟨(some 20), .bin .eql false (.t 14) (.c (.int .i64 1)), none⟩,
    ⟨(some 19), .mv (.t 20), none⟩]
def r57_6 (b : Nat) : List AOper := [
    ⟨(some 21), .mv (.t 5), none⟩,
    ⟨(some 22), .callv (.t 21) [.c (.int .i64 4)], none⟩,
    ⟨none, .store 3 (.t 4) (.t 22), none⟩]
def r57_7 (b : Nat) : List AOper := [
    ⟨(some 24), .bin .eql false (.t 14) (.c (.int .i64 2)), none⟩,
    ⟨(some 23), .mv (.t 24), none⟩]
def r57_8 (b : Nat) : List AOper := [
    ⟨(some 25), .mv (.t 5), none⟩,
    ⟨(some 26), .callv (.t 25) [.c (.int .i64 96)], none⟩,
    ⟨none, .store 3 (.t 4) (.t 26), none⟩]
def r57_9 (b : Nat) : List AOper := [
    ⟨(some 27), .load false 1 (.t 3), none⟩,
    ⟨(some 28), .bin .quo false (.t 27) (.c (.int .i64 96)), none⟩,
    ⟨(some 6), .mv (.t 28), none⟩]
def r57_10 (b : Nat) : List AOper := [
    ⟨(some 30), .mv (.t 6), none⟩,
    ⟨(some 31), .callf 68 [.t 30], none⟩,
    ⟨(some 29), .mv (.t 31), none⟩,
    ⟨(some 32), .extract 0 (.t 29), none⟩,
    ⟨(some 33), .extract 1 (.t 29), none⟩,
    ⟨(some 34), .extract 2 (.t 29), none⟩,
    ⟨(some 35), .extract 3 (.t 29), none⟩,
    ⟨(some 7), .mv (.t 32), none⟩,
    ⟨(some 8), .mv (.t 33), none⟩,
    ⟨(some 9), .mv (.t 34), none⟩,
    ⟨(some 10), .mv (.t 35), none⟩]
def r57_11 (b : Nat) : List AOper := [
    ⟨(some 36), .mv (.t 6), none⟩,
    ⟨(some 37), .mv (.t 9), none⟩,
    ⟨(some 38), .bin .sub false (.t 36) (.t 37), none⟩,
    ⟨(some 39), .bin .add false (.t 38) (.c (.int .i64 1)), none⟩,
    ⟨(some 40), .mv (.t 7), none⟩,
    ⟨(some 41), .mv (.t 8), none⟩,
    ⟨(some 42), .callf 69 [.t 40, .t 41], none⟩,
    ⟨(some 11), .mv (.t 39), none⟩,
    ⟨(some 12), .mv (.t 42), none⟩]
def r57_12 (b : Nat) : List AOper := [
    ⟨(some 43), .load false 1 (.t 2), none⟩,
    ⟨(some 44), .bin .eql false (.t 43) (.c (.int .i64 4)), none⟩]
def r57_13 (b : Nat) : List AOper := [
    ⟨(some 46), .mv (.t 7), none⟩,
    ⟨(some 47), .callf 70 [.t 46, .c (.int .i64 1), .c (.int .i64 1)], none⟩,
    ⟨(some 45), .mv (.t 47), none⟩,
    ⟨(some 48), .extract 0 (.t 45), none⟩,
    ⟨(some 49), .extract 1 (.t 45), none⟩,
    ⟨(some 11), .mv (.t 48), none⟩]
def r57_14 (b : Nat) : List AOper := [
    ⟨(some 50), .mv (.t 7), none⟩,
    ⟨(some 51), .callf 71 [.t 50], none⟩,
    ⟨(some 12), .mv (.t 51), none⟩]
def r57_15 (b : Nat) : List AOper := [
    ⟨(some 52), .load false 1 (.t 2), none⟩,
    ⟨(some 53), .mv (.t 11), none⟩,
    ⟨(some 54), .bin .mul false (.t 53) (.c (.int .i64 96)), none⟩,
    ⟨(some 55), .mv (.t 11), none⟩,
    ⟨(some 56), .mv (.t 12), none⟩,
    ⟨(some 57), .bin .add false (.t 55) (.t 56), none⟩,
    ⟨(some 58), .bin .mul false (.t 57) (.c (.int .i64 96)), none⟩,
    ⟨(some 59), .build [.int .i64 0, .int .i64 0, .int .i64 0] [(0, 1, .t 52), (1, 1, .t 54), (2, 1, .t 58)], none⟩,
    ⟨none, .store 3 (.t 4) (.t 59), none⟩]
def c57 (b : Nat) : ACode := .seq (.reg false (r57_0 b) []) (.seq (.reg false (r57_1 b) []) (.seq (.seq (.reg false (r57_2 b) []) (.block 0 (.seq (.reg false (r57_3 b) []) (.cond (.t 15) (.seq (.reg false (r57_4 b) []) (.ret)) (.seq (.reg false (r57_5 b) []) (.cond (.t 19) (.seq (.reg false (r57_6 b) []) (.ret)) (.seq (.reg false (r57_7 b) []) (.cond (.t 23) (.seq (.reg false (r57_8 b) []) (.ret)) (.skip))))))))) (.seq (.reg false (r57_9 b) []) (.seq (.reg false (r57_10 b) []) (.seq (.reg false (r57_11 b) []) (.seq (.seq (.reg false (r57_12 b) []) (.cond (.t 44) (.seq (.reg false (r57_13 b) []) (.reg false (r57_14 b) [])) (.skip))) (.seq (.reg false (r57_15 b) []) (.ret))))))))
def rs57 : List ARes := [.c 4 true 3]
theorem ck57 : ∃ c, Tryd.f57.body = some c ∧ ∀ b, checkCode Tryd.prog c (c57 b) = true := ⟨_, rfl, fun b => by kernel_rfl⟩
theorem cr57 : checkRess Tryd.prog Tryd.f57.results.toList rs57 = true := by kernel_rfl
def r58_0 (b : Nat) : List AOper := [
    ⟨(some 4), .load false 1 (.t 1), none⟩,
    ⟨(some 5), .len false (.t 4), none⟩,
    ⟨(some 6), .bin .gtr false (.t 5) (.c (.int .i64 0)), none⟩]
def r58_1 (b : Nat) : List AOper := [
    ⟨(some 3), .mv (.c (.int .i64 1)), none⟩]
def r58_2 (b : Nat) : List AOper := [
    ⟨(some 7), .mv (.t 3), none⟩,
    ⟨(some 8), .load false 1 (.t 1), none⟩,
    ⟨(some 9), .len false (.t 8), none⟩,
    ⟨(some 10), .bin .lss false (.t 7) (.t 9), none⟩,
    ⟨(some 11), .mv (.t 10), none⟩,
    ⟨(some 12), .load false 1 (.t 1), (some (11, true))⟩,
    ⟨(some 13), .iaddrS 5 (.t 12) (.c (.int .i64 0)), (some (11, true))⟩,
    ⟨(some 14), .load true 5 (.t 13), (some (11, true))⟩,
    ⟨(some 15), .callf 39 [.t 14], (some (11, true))⟩,
    ⟨(some 16), .not (.t 15), (some (11, true))⟩,
    ⟨(some 17), .pick (.t 11) (.t 16) (.c (.bool false)), none⟩,
    ⟨(some 18), .mv (.t 17), none⟩,
    ⟨(some 19), .load false 1 (.t 1), (some (18, true))⟩,
    ⟨(some 20), .mv (.t 3), (some (18, true))⟩,
    ⟨(some 21), .iaddrS 5 (.t 19) (.t 20), (some (18, true))⟩,
    ⟨(some 22), .load true 5 (.t 21), (some (18, true))⟩,
    ⟨(some 23), .callf 39 [.t 22], (some (18, true))⟩,
    ⟨(some 24), .not (.t 23), (some (18, true))⟩,
    ⟨(some 25), .pick (.t 18) (.t 24) (.c (.bool false)), none⟩]
def r58_3 (b : Nat) : List AOper := [
    ⟨(some 26), .mv (.t 3), none⟩,
    ⟨(some 27), .bin .add false (.t 26) (.c (.int .i64 1)), none⟩,
    ⟨(some 3), .mv (.t 27), none⟩]
def l58_1 (b : Nat) : ACode := .seq (.seq (.reg false (r58_2 b) []) (.cond (.t 25) (.skip) (.exit 2))) (.block 3 (.reg false (r58_3 b) []))
def r58_4 (b : Nat) : List AOper := [
    ⟨(some 28), .mv (.t 0), none⟩,
    ⟨(some 29), .load false 1 (.t 1), none⟩,
    ⟨(some 30), .mv (.t 3), none⟩,
    ⟨(some 31), .slice false 5 (.t 29) none (some (.t 30)), none⟩,
    ⟨(some 32), .callv (.t 28) [.t 31], none⟩,
    ⟨(some 33), .not (.t 32), none⟩]
def r58_5 (b : Nat) : List AOper := [
    ⟨(some 34), .load false 1 (.t 1), none⟩,
    ⟨(some 35), .mv (.t 3), none⟩,
    ⟨(some 36), .slice false 5 (.t 34) (some (.t 35)) none, none⟩,
    ⟨none, .store 1 (.t 1) (.t 36), none⟩]
def l58_0 (b : Nat) : ACode := .seq (.seq (.reg false (r58_0 b) []) (.cond (.t 6) (.skip) (.exit 0))) (.block 1 (.seq (.reg false (r58_1 b) []) (.seq (.block 2 (.loop (l58_1 b))) (.seq (.seq (.reg false (r58_4 b) []) (.cond (.t 33) (.ret) (.skip))) (.reg false (r58_5 b) [])))))
def c58 (b : Nat) : ACode := .block 0 (.loop (l58_0 b))
def rs58 : List ARes := []
theorem ck58 : ∃ c, Tryd.f58.body = some c ∧ ∀ b, checkCode Tryd.prog c (c58 b) = true := ⟨_, rfl, fun b => by kernel_rfl⟩
theorem cr58 : checkRess Tryd.prog Tryd.f58.results.toList rs58 = true := by kernel_rfl
def r59_0 (b : Nat) : List AOper := [
    ⟨(some 2), .mv (.c (.nils)), none⟩]
def r59_1 (b : Nat) : List AOper := [
    ⟨(some 3), .mv (.t 0), none⟩,
    ⟨(some 4), .callf 72 [.c (.nils), .t 3], none⟩,
    ⟨(some 2), .mv (.t 4), none⟩]
def c59 (b : Nat) : ACode := .seq (.reg false (r59_0 b) []) (.seq (.reg false (r59_1 b) []) (.ret))
def rs59 : List ARes := [.t 2]
theorem ck59 : ∃ c, Tryd.f59.body = some c ∧ ∀ b, checkCode Tryd.prog c (c59 b) = true := ⟨_, rfl, fun b => by kernel_rfl⟩
theorem cr59 : checkRess Tryd.prog Tryd.f59.results.toList rs59 = true := by kernel_rfl
def r61_0 (b : Nat) : List AOper := [
    ⟨(some 4), .load false 1 (.t 1), none⟩,
    ⟨(some 5), .mrange (b + 0) (.t 4), none⟩]
def r61_1 (b : Nat) : List AOper := [
    ⟨(some 6), .mnext (.t 5), none⟩,
    ⟨(some 7), .extract 0 (.t 6), none⟩]
def r61_2 (b : Nat) : List AOper := [
    ⟨(some 8), .mentry (.t 5), none⟩,
    ⟨(some 9), .extract 0 (.t 8), none⟩,
    ⟨(some 3), .mv (.t 9), none⟩]
def r61_3 (b : Nat) : List AOper := [
    ⟨(some 10), .mv (.t 0), none⟩,
    ⟨(some 11), .mv (.t 3), none⟩,
    ⟨(some 12), .callv (.t 10) [.t 11], none⟩,
    ⟨(some 13), .not (.t 12), none⟩]
def l61_0 (b : Nat) : ACode := .seq (.reg false (r61_1 b) []) (.seq (.cond (.t 7) (.skip) (.exit 0)) (.block 1 (.seq (.reg false (r61_2 b) []) (.seq (.reg false (r61_3 b) []) (.cond (.t 13) (.ret) (.skip))))))
def c61 (b : Nat) : ACode := .seq (.reg false (r61_0 b) []) (.block 0 (.loop (l61_0 b)))
def rs61 : List ARes := []
theorem ck61 : ∃ c, Tryd.f61.body = some c ∧ ∀ b, checkCode Tryd.prog c (c61 b) = true := ⟨_, rfl, fun b => by kernel_rfl⟩
theorem cr61 : checkRess Tryd.prog Tryd.f61.results.toList rs61 = true := by kernel_rfl
def r62_0 (b : Nat) : List AOper := [
    ⟨(some 2), .mv (.c (.nils)), none⟩]
def r62_1 (b : Nat) : List AOper := [
    ⟨(some 3), .mv (.t 0), none⟩,
    ⟨(some 4), .isnil false (.t 3), none⟩]
def r62_2 (b : Nat) : List AOper := [
    ⟨(some 2), .mv (.c (.nils)), none⟩]
def r62_3 (b : Nat) : List AOper := [
    ⟨(some 5), .bslice (b + 0) 5 0 [] [], none⟩,
    ⟨(some 6), .mv (.t 0), none⟩,
    ⟨(some 7), .append (b + 1) 5 56 (.t 5) (.t 6), none⟩,
    ⟨(some 2), .mv (.t 7), none⟩]
def c62 (b : Nat) : ACode := .seq (.reg false (r62_0 b) []) (.seq (.seq (.reg false (r62_1 b) []) (.cond (.t 4) (.seq (.reg false (r62_2 b) []) (.ret)) (.skip))) (.seq (.reg false (r62_3 b) []) (.ret)))
def rs62 : List ARes := [.t 2]
theorem ck62 : ∃ c, Tryd.f62.body = some c ∧ ∀ b, checkCode Tryd.prog c (c62 b) = true := ⟨_, rfl, fun b => by kernel_rfl⟩
theorem cr62 : checkRess Tryd.prog Tryd.f62.results.toList rs62 = true := by kernel_rfl
def r63_0 (b : Nat) : List AOper := [
    ⟨(some 2), .mv (.c (.nils)), none⟩]
def r63_1 (b : Nat) : List AOper := [
    ⟨(some 3), .mv (.t 0), none⟩,
    ⟨(some 4), .isnil false (.t 3), none⟩]
def r63_2 (b : Nat) : List AOper := [
    ⟨(some 2), .mv (.c (.nils)), none⟩]
def r63_3 (b : Nat) : List AOper := [
    ⟨(some 5), .bslice (b + 0) 2 0 [] [], none⟩,
    ⟨(some 6), .mv (.t 0), none⟩,
    ⟨(some 7), .append (b + 1) 2 16 (.t 5) (.t 6), none⟩,
    ⟨(some 2), .mv (.t 7), none⟩]
def c63 (b : Nat) : ACode := .seq (.reg false (r63_0 b) []) (.seq (.seq (.reg false (r63_1 b) []) (.cond (.t 4) (.seq (.reg false (r63_2 b) []) (.ret)) (.skip))) (.seq (.reg false (r63_3 b) []) (.ret)))
def rs63 : List ARes := [.t 2]
theorem ck63 : ∃ c, Tryd.f63.body = some c ∧ ∀ b, checkCode Tryd.prog c (c63 b) = true := ⟨_, rfl, fun b => by kernel_rfl⟩
theorem cr63 : checkRess Tryd.prog Tryd.f63.results.toList rs63 = true := by kernel_rfl
def r64_0 (b : Nat) : List AOper := [
    ⟨(some 2), .box (b + 0) (.t 0), none⟩,
    ⟨(some 3), .mv (.c (.bool false)), none⟩]
def r64_1 (b : Nat) : List AOper := [
    ⟨(some 4), .faddr 1 (.t 2), none⟩,
    ⟨(some 5), .load false 1 (.t 4), none⟩,
    ⟨(some 6), .faddr 2 (.t 1), none⟩,
    ⟨(some 7), .load false 1 (.t 6), none⟩,
    ⟨(some 8), .bin .lss false (.t 5) (.t 7), none⟩,
    ⟨(some 9), .mv (.t 8), none⟩,
    ⟨(some 10), .faddr 2 (.t 2), (some (9, true))⟩,
    ⟨(some 11), .load false 1 (.t 10), (some (9, true))⟩,
    ⟨(some 12), .faddr 1 (.t 1), (some (9, true))⟩,
    ⟨(some 13), .load false 1 (.t 12), (some (9, true))⟩,
    ⟨(some 14), .bin .gtr false (.t 11) (.t 13), (some (9, true))⟩,
    ⟨(some 15), .pick (.t 9) (.t 14) (.c (.bool false)), none⟩,
    ⟨(some 3), .mv (.t 15), none⟩]
def c64 (b : Nat) : ACode := .seq (.reg false (r64_0 b) []) (.seq (.reg false (r64_1 b) []) (.ret))
def rs64 : List ARes := [.t 3]
theorem ck64 : ∃ c, Tryd.f64.body = some c ∧ ∀ b, checkCode Tryd.prog c (c64 b) = true := ⟨_, rfl, fun b => by kernel_rfl⟩
theorem cr64 : checkRess Tryd.prog Tryd.f64.results.toList rs64 = true := by kernel_rfl
def r65_0 (b : Nat) : List AOper := [
    ⟨(some 4), .mv (.c (.bool false)), none⟩]
def r65_1 (b : Nat) : List AOper := [
    ⟨(some 6), .mv (.t 0), none⟩,
    ⟨(some 7), .bin .eql false (.t 6) (.c (.int .i64 0)), none⟩,
    ⟨(some 8), .mv (.t 7), none⟩,
    ⟨(some 9), .mv (.t 1), (some (8, false))⟩,
    ⟨(some 10), .bin .eql false (.t 9) (.c (.int .i64 1402560)), (some (8, false))⟩,
    ⟨(some 11), .pick (.t 8) (.c (.bool true)) (.t 10), none⟩]
def r65_2 (b : Nat) : List AOper := [
    ⟨(some 4), .mv (.c (.bool true)), none⟩]
def r65_3 (b : Nat) : List AOper := [
    ⟨(some 12), .mv (.t 0), none⟩,
    ⟨(some 13), .bin .eql false (.t 12) (.c (.int .i64 1)), none⟩]
def r65_4 (b : Nat) : List AOper := [
    ⟨(some 14), .mv (.t 1), none⟩,
    ⟨(some 15), .bin .rem false (.t 14) (.c (.int .i64 4)), none⟩,
    ⟨(some 16), .bin .eql false (.t 15) (.c (.int .i64 0)), none⟩,
    ⟨(some 4), .mv (.t 16), none⟩]
def r65_5 (b : Nat) : List AOper := [
    ⟨(some 17), .mv (.t 1), none⟩,
    ⟨(some 18), .bin .rem false (.t 17) (.c (.int .i64 96)), none⟩,
    ⟨(some 19), .bin .neq false (.t 18) (.c (.int .i64 0)), none⟩]
def r65_6 (b : Nat) : List AOper := [
    ⟨(some 4), .mv (.c (.bool false)), none⟩]
def r65_7 (b : Nat) : List AOper := [
    ⟨(some 20), .mv (.t 1), none⟩,
    ⟨(some 21), .bin .quo false (.t 20) (.c (.int .i64 96)), none⟩,
    ⟨(some 22), .callf 75 [.t 21], none⟩,
    ⟨(some 5), .alloc (b + 0) [.int .i64 0, .int .i64 0, .int .i64 0, .int .i64 0], none⟩,
    ⟨none, .store 4 (.t 5) (.t 22), none⟩]
def r65_8 (b : Nat) : List AOper := [
    ⟨(some 23), .mv (.t 0), none⟩,
    ⟨(some 24), .bin .eql false (.t 23) (.c (.int .i64 2)), none⟩,
    ⟨(some 25), .mv (.t 24), none⟩,
    ⟨(some 26), .mv (.t 0), (some (25, false))⟩,
    ⟨(some 27), .bin .eql false (.t 26) (.c (.int .i64 3)), (some (25, false))⟩,
    ⟨(some 28), .mv (.t 27), (some (25, false))⟩,
    ⟨(some 29), .faddr 2 (.t 5), (some (28, true))⟩,
    ⟨(some 30), .load false 1 (.t 29), (some (28, true))⟩,
    ⟨(some 31), .bin .eql false (.t 30) (.c (.int .i64 1)), (some (28, true))⟩,
    ⟨(some 32), .pick (.t 28) (.t 31) (.c (.bool false)), (some (25, false))⟩,
    ⟨(some 33), .pick (.t 25) (.c (.bool true)) (.t 32), none⟩,
    ⟨(some 34), .mv (.t 33), none⟩,
    ⟨(some 35), .mv (.t 0), (some (34, false))⟩,
    ⟨(some 36), .bin .eql false (.t 35) (.c (.int .i64 4)), (some (34, false))⟩,
    ⟨(some 37), .mv (.t 36), (some (34, false))⟩,
    ⟨(some 38), .faddr 2 (.t 5), (some (37, true))⟩,
    ⟨(some 39), .load false 1 (.t 38), (some (37, true))⟩,
    ⟨(some 40), .bin .eql false (.t 39) (.c (.int .i64 1)), (some (37, true))⟩,
    ⟨(some 41), .pick (.t 37) (.t 40) (.c (.bool false)), (some (34, false))⟩,
    ⟨(some 42), .mv (.t 41), (some (34, false))⟩,
    ⟨(some 43), .faddr 1 (.t 5), (some (42, true))⟩,
    ⟨(some 44), .load false 1 (.t 43), (some (42, true))⟩,
    ⟨(some 45), .bin .eql false (.t 44) (.c (.int .i64 1)), (some (42, true))⟩,
    ⟨(some 46), .pick (.t 42) (.t 45) (.c (.bool false)), (some (34, false))⟩,
    ⟨(some 47), .pick (.t 34) (.c (.bool true)) (.t 46), none⟩,
    ⟨(some 4), .mv (.t 47), none⟩]
def c65 (b : Nat) : ACode := .seq (.reg false (r65_0 b) []) (.seq (.seq (.reg false (r65_1 b) []) (.cond (.t 11) (.seq (.reg false (r65_2 b) []) (.ret)) (.skip))) (.seq (.seq (.reg false (r65_3 b) []) (.cond (.t 13) (.seq (.reg false (r65_4 b) []) (.ret)) (.skip))) (.seq (.seq (.reg false (r65_5 b) []) (.cond (.t 19) (.seq (.reg false (r65_6 b) []) (.ret)) (.skip))) (.seq (.reg false (r65_7 b) []) (.seq (.reg false (r65_8 b) []) (.ret))))))
def rs65 : List ARes := [.t 4]
theorem ck65 : ∃ c, Tryd.f65.body = some c ∧ ∀ b, checkCode Tryd.prog c (c65 b) = true := ⟨_, rfl, fun b => by kernel_rfl⟩
theorem cr65 : checkRess Tryd.prog Tryd.f65.results.toList rs65 = true := by kernel_rfl
def r66_0 (b : Nat) : List AOper := [
    ⟨(some 4), .mv (.c (.int .i64 0)), none⟩]
def r66_1 (b : Nat) : List AOper := [
    ⟨(some 6), .mv (.t 0), none⟩,
    ⟨(some 7), .len false (.t 6), none⟩,
    ⟨(some 8), .mv (.c (.int .i64 0)), none⟩]
def r66_2 (b : Nat) : List AOper := [
    ⟨(some 9), .bin .lss false (.t 8) (.t 7), none⟩]
def r66_3 (b : Nat) : List AOper := [
    ⟨(some 10), .mv (.t 8), none⟩,
    ⟨(some 5), .mv (.t 10), none⟩]
def r66_4 (b : Nat) : List AOper := [
    ⟨(some 11), .mv (.t 1), none⟩,
    ⟨(some 12), .mv (.t 0), none⟩,
    ⟨(some 13), .mv (.t 5), none⟩,
    ⟨(some 14), .iaddrS 1 (.t 12) (.t 13), none⟩,
    ⟨(some 15), .load false 1 (.t 14), none⟩,
    ⟨(some 16), .callv (.t 11) [.t 15], none⟩]
def r66_5 (b : Nat) : List AOper := [
    ⟨(some 17), .mv (.t 5), none⟩,
    ⟨(some 4), .mv (.t 17), none⟩]
def r66_6 (b : Nat) : List AOper := [
    ⟨(some 18), .bin .add false (.t 8) (.c (.int .i64 1)), none⟩,
    ⟨(some 8), .mv (.t 18), none⟩]
def l66_0 (b : Nat) : ACode := .seq (.reg false (r66_2 b) []) (.seq (.cond (.t 9) (.skip) (.exit 0)) (.seq (.block 1 (.seq (.reg false (r66_3 b) []) (.seq (.reg false (r66_4 b) []) (.cond (.t 16) (.seq (.reg false (r66_5 b) []) (.ret)) (.skip))))) (.reg false (r66_6 b) [])))
def r66_7 (b : Nat) : List AOper := [
    ⟨(some 4), .mv (.c (.int .i64 (-1))), none⟩]
def c66 (b : Nat) : ACode := .seq (.reg false (r66_0 b) []) (.seq (.seq (.reg false (r66_1 b) []) (.block 0 (.loop (l66_0 b)))) (.seq (.reg false (r66_7 b) []) (.ret)))
def rs66 : List ARes := [.t 4]
theorem ck66 : ∃ c, Tryd.f66.body = some c ∧ ∀ b, checkCode Tryd.prog c (c66 b) = true := ⟨_, rfl, fun b => by kernel_rfl⟩
theorem cr66 : checkRess Tryd.prog Tryd.f66.results.toList rs66 = true := by kernel_rfl
def r67_0 (b : Nat) : List AOper := [
    ⟨(some 4), .alloc (b + 0) [.int .i64 0, .int .i64 0, .int .i64 0], none⟩]
def r67_1 (b : Nat) : List AOper := [
    ⟨(some 5), .load false 1 (.t 1), none⟩,
    ⟨(some 6), .load false 1 (.t 2), none⟩,
    ⟨(some 7), .load false 1 (.t 2), none⟩,
    ⟨(some 8), .mv (.t 0), none⟩,
    ⟨(some 9), .bin .rem false (.t 7) (.t 8), none⟩,
    ⟨(some 10), .bin .sub false (.t 6) (.t 9), none⟩,
    ⟨(some 11), .load false 1 (.t 2), none⟩,
    ⟨(some 12), .load false 1 (.t 2), none⟩,
    ⟨(some 13), .mv (.t 0), none⟩,
    ⟨(some 14), .bin .rem false (.t 12) (.t 13), none⟩,
    ⟨(some 15), .bin .sub false (.t 11) (.t 14), none⟩,
    ⟨(some 16), .mv (.t 0), none⟩,
    ⟨(some 17), .bin .add false (.t 15) (.t 16), none⟩,
    ⟨(some 18), .build [.int .i64 0, .int .i64 0, .int .i64 0] [(0, 1, .t 5), (1, 1, .t 10), (2, 1, .t 17)], none⟩,
    ⟨none, .store 3 (.t 4) (.t 18), none⟩]
def r67_1p : List (List Nat) := [[], [], [], [], [2, 3], [1, 2, 3, 4], [], [], [], [7, 8], [6, 7, 8, 9], [], [6, 7, 8, 9, 10, 11], [0, 1, 2, 3, 4, 5, 6, 7, 8, 9, 10, 11, 12], [0, 1, 2, 3, 4, 5, 6, 7, 8, 9, 10, 11, 12, 13]]
def c67 (b : Nat) : ACode := .seq (.reg false (r67_0 b) []) (.seq (.reg true (r67_1 b) r67_1p) (.ret))
def rs67 : List ARes := [.c 4 true 3]
theorem ck67 : ∃ c, Tryd.f67.body = some c ∧ ∀ b, checkCode Tryd.prog c (c67 b) = true := ⟨_, rfl, fun b => by kernel_rfl⟩
theorem cr67 : checkRess Tryd.prog Tryd.f67.results.toList rs67 = true := by kernel_rfl
def r68_0 (b : Nat) : List AOper := [
    ⟨(some 2), .mv (.c (.int .i64 0)), none⟩,
    ⟨(some 3), .mv (.c (.int .i64 0)), none⟩,
    ⟨(some 4), .mv (.c (.int .i64 0)), none⟩,
    ⟨(some 5), .mv (.c (.int .i64 0)), none⟩]
def r68_1 (b : Nat) : List AOper := [
    ⟨(some 6), .mv (.t 0), none⟩,
    ⟨(some 7), .bin .lss false (.t 6) (.c (.int .i64 0)), none⟩,
    ⟨(some 8), .mv (.t 7), none⟩,
    ⟨(some 9), .mv (.t 0), (some (8, false))⟩,
    ⟨(some 10), .bin .gtr false (.t 9) (.c (.int .i64 14609)), (some (8, false))⟩,
    ⟨(some 11), .pick (.t 8) (.c (.bool true)) (.t 10), none⟩]
def r68_2 (b : Nat) : List AOper := [
    ⟨(some 2), .mv (.c (.int .i64 0)), none⟩,
    ⟨(some 3), .mv (.c (.int .i64 0)), none⟩,
    ⟨(some 4), .mv (.c (.int .i64 0)), none⟩,
    ⟨(some 5), .mv (.c (.int .i64 3)), none⟩]
def r68_3 (b : Nat) : List AOper := [
    ⟨(some 2), .mv (.c (.int .i64 2000)), none⟩,
    ⟨(some 3), .mv (.c (.int .i64 1)), none⟩]
def r68_4 (b : Nat) : List AOper := [
    ⟨(some 12), .mv (.t 0), none⟩,
    ⟨(some 13), .mv (.t 2), none⟩,
    ⟨(some 14), .callf 71 [.t 13], none⟩,
    ⟨(some 15), .bin .geq false (.t 12) (.t 14), none⟩]
def r68_6 (b : Nat) : List AOper := [
    ⟨(some 18), .mv (.t 0), none⟩,
    ⟨(some 19), .mv (.t 2), none⟩,
    ⟨(some 20), .callf 71 [.t 19], none⟩,
    ⟨(some 21), .bin .sub false (.t 18) (.t 20), none⟩,
    ⟨(some 0), .mv (.t 21), none⟩]
def r68_5 (b : Nat) : List AOper := [
    ⟨(some 16), .mv (.t 2), none⟩,
    ⟨(some 17), .bin .add false (.t 16) (.c (.int .i64 1)), none⟩,
    ⟨(some 2), .mv (.t 17), none⟩]
def l68_0 (b : Nat) : ACode := .seq (.seq (.reg false (r68_4 b) []) (.cond (.t 15) (.skip) (.exit 0))) (.seq (.block 1 (.reg false (r68_6 b) [])) (.reg false (r68_5 b) []))
def r68_7 (b : Nat) : List AOper := [
    ⟨(some 22), .mv (.t 0), none⟩,
    ⟨(some 23), .mv (.t 2), none⟩,
    ⟨(some 24), .mv (.t 3), none⟩,
    ⟨(some 25), .callf 69 [.t 23, .t 24], none⟩,
    ⟨(some 26), .bin .geq false (.t 22) (.t 25), none⟩]
def r68_9 (b : Nat) : List AOper := [
    ⟨(some 29), .mv (.t 0), none⟩,
    ⟨(some 30), .mv (.t 2), none⟩,
    ⟨(some 31), .mv (.t 3), none⟩,
    ⟨(some 32), .callf 69 [.t 30, .t 31], none⟩,
    ⟨(some 33), .bin .sub false (.t 29) (.t 32), none⟩,
    ⟨(some 0), .mv (.t 33), none⟩]
def r68_8 (b : Nat) : List AOper := [
    ⟨(some 27), .mv (.t 3), none⟩,
    ⟨(some 28), .bin .add false (.t 27) (.c (.int .i64 1)), none⟩,
    ⟨(some 3), .mv (.t 28), none⟩]
def l68_1 (b : Nat) : ACode := .seq (.seq (.reg false (r68_7 b) []) (.cond (.t 26) (.skip) (.exit 2))) (.seq (.block 3 (.reg false (r68_9 b) [])) (.reg false (r68_8 b) []))
def r68_10 (b : Nat) : List AOper := [
    ⟨(some 34), .mv (.t 2), none⟩,
    ⟨(some 35), .mv (.t 3), none⟩,
    ⟨(some 36), .mv (.t 0), none⟩,
    ⟨(some 37), .bin .add false (.t 36) (.c (.int .i64 1)), none⟩,
    ⟨(some 2), .mv (.t 34), none⟩,
    ⟨(some 3), .mv (.t 35), none⟩,
    ⟨(some 4), .mv (.t 37), none⟩,
    ⟨(some 5), .mv (.c (.int .i64 0)), none⟩]
def c68 (b : Nat) : ACode := .seq (.reg false (r68_0 b) []) (.seq (.seq (.reg false (r68_1 b) []) (.cond (.t 11) (.seq (.reg false (r68_2 b) []) (.ret)) (.skip))) (.seq (.reg false (r68_3 b) []) (.seq (.block 0 (.loop (l68_0 b))) (.seq (.block 2 (.loop (l68_1 b))) (.seq (.reg false (r68_10 b) []) (.ret))))))
def rs68 : List ARes := [.t 2, .t 3, .t 4, .t 5]
theorem ck68 : ∃ c, Tryd.f68.body = some c ∧ ∀ b, checkCode Tryd.prog c (c68 b) = true := ⟨_, rfl, fun b => by kernel_rfl⟩
theorem cr68 : checkRess Tryd.prog Tryd.f68.results.toList rs68 = true := by kernel_rfl
def r69_0 (b : Nat) : List AOper := [
    ⟨(some 4), .mv (.c (.int .i64 0)), none⟩]
def r69_1 (b : Nat) : List AOper := [
    ⟨(some 5), .mv (.t 1), none⟩,
    ⟨(some 6), .bin .eql false (.t 5) (.c (.int .i64 2)), none⟩,
    ⟨(some 7), .mv (.t 6), none⟩,
    ⟨(some 8), .mv (.t 0), (some (7, true))⟩,
    ⟨(some 9), .callf 76 [.t 8], (some (7, true))⟩,
    ⟨(some 10), .pick (.t 7) (.t 9) (.c (.bool false)), none⟩]
def r69_2 (b : Nat) : List AOper := [
    ⟨(some 4), .mv (.c (.int .i64 29)), none⟩]
def r69_3 (b : Nat) : List AOper := [
    ⟨(some 11), .mv (.t 1), none⟩,
    ⟨(some 12), .bin .sub false (.t 11) (.c (.int .i64 1)), none⟩,
    ⟨(some 13), .iaddrA 12 1 (.g 0) (.t 12), none⟩,
    ⟨(some 14), .load false 1 (.t 13), none⟩,
    ⟨(some 4), .mv (.t 14), none⟩]
def c69 (b : Nat) : ACode := .seq (.reg false (r69_0 b) []) (.seq (.seq (.reg false (r69_1 b) []) (.cond (.t 10) (.seq (.reg false (r69_2 b) []) (.ret)) (.skip))) (.seq (.reg false (r69_3 b) []) (.ret)))
def rs69 : List ARes := [.t 4]
theorem ck69 : ∃ c, Tryd.f69.body = some c ∧ ∀ b, checkCode Tryd.prog c (c69 b) = true := ⟨_, rfl, fun b => by kernel_rfl⟩
theorem cr69 : checkRess Tryd.prog Tryd.f69.results.toList rs69 = true := by kernel_rfl
def r70_0 (b : Nat) : List AOper := [
    ⟨(some 6), .mv (.c (.int .i64 0)), none⟩,
    ⟨(some 7), .mv (.c (.int .i64 0)), none⟩]
def r70_1 (b : Nat) : List AOper := [
    ⟨(some 11), .mv (.t 0), none⟩,
    ⟨(some 12), .bin .lss false (.t 11) (.c (.int .i64 2000)), none⟩,
    ⟨(some 13), .mv (.t 12), none⟩,
    ⟨(some 14), .mv (.t 0), (some (13, false))⟩,
    ⟨(some 15), .bin .geq false (.t 14) (.c (.int .i64 2040)), (some (13, false))⟩,
    ⟨(some 16), .pick (.t 13) (.c (.bool true)) (.t 15), none⟩,
    ⟨(some 17), .mv (.t 16), none⟩,
    ⟨(some 18), .mv (.t 1), (some (17, false))⟩,
    ⟨(some 19), .bin .lss false (.t 18) (.c (.int .i64 1)), (some (17, false))⟩,
    ⟨(some 20), .pick (.t 17) (.c (.bool true)) (.t 19), none⟩,
    ⟨(some 21), .mv (.t 20), none⟩,
    ⟨(some 22), .mv (.t 1), (some (21, false))⟩,
    ⟨(some 23), .bin .gtr false (.t 22) (.c (.int .i64 12)), (some (21, false))⟩,
    ⟨(some 24), .pick (.t 21) (.c (.bool true)) (.t 23), none⟩,
    ⟨(some 25), .mv (.t 24), none⟩,
    ⟨(some 26), .mv (.t 2), (some (25, false))⟩,
    ⟨(some 27), .bin .lss false (.t 26) (.c (.int .i64 1)), (some (25, false))⟩,
    ⟨(some 28), .pick (.t 25) (.c (.bool true)) (.t 27), none⟩,
    ⟨(some 29), .mv (.t 28), none⟩,
    ⟨(some 30), .mv (.t 2), (some (29, false))⟩,
    ⟨(some 31), .mv (.t 0), (some (29, false))⟩,
    ⟨(some 32), .mv (.t 1), (some (29, false))⟩,
    ⟨(some 33), .callf 69 [.t 31, .t 32], (some (29, false))⟩,
    ⟨(some 34), .bin .gtr false (.t 30) (.t 33), (some (29, false))⟩,
    ⟨(some 35), .pick (.t 29) (.c (.bool true)) (.t 34), none⟩]
def r70_2 (b : Nat) : List AOper := [
    ⟨(some 6), .mv (.c (.int .i64 0)), none⟩,
    ⟨(some 7), .mv (.c (.int .i64 3)), none⟩]
def r70_3 (b : Nat) : List AOper := [
    ⟨(some 36), .mv (.t 2), none⟩,
    ⟨(some 37), .bin .sub false (.t 36) (.c (.int .i64 1)), none⟩,
    ⟨(some 8), .mv (.t 37), none⟩]
def r70_4 (b : Nat) : List AOper := [
    ⟨(some 9), .mv (.c (.int .i64 2000)), none⟩]
def r70_5 (b : Nat) : List AOper := [
    ⟨(some 38), .mv (.t 9), none⟩,
    ⟨(some 39), .mv (.t 0), none⟩,
    ⟨(some 40), .bin .lss false (.t 38) (.t 39), none⟩]
def r70_7 (b : Nat) : List AOper := [
    ⟨(some 43), .mv (.t 8), none⟩,
    ⟨(some 44), .mv (.t 9), none⟩,
    ⟨(some 45), .callf 71 [.t 44], none⟩,
    ⟨(some 46), .bin .add false (.t 43) (.t 45), none⟩,
    ⟨(some 8), .mv (.t 46), none⟩]
def r70_6 (b : Nat) : List AOper := [
    ⟨(some 41), .mv (.t 9), none⟩,
    ⟨(some 42), .bin .add false (.t 41) (.c (.int .i64 1)), none⟩,
    ⟨(some 9), .mv (.t 42), none⟩]
def l70_0 (b : Nat) : ACode := .seq (.seq (.reg false (r70_5 b) []) (.cond (.t 40) (.skip) (.exit 0))) (.seq (.block 1 (.reg false (r70_7 b) [])) (.reg false (r70_6 b) []))
def r70_8 (b : Nat) : List AOper := [
    ⟨(some 10), .mv (.c (.int .i64 1)), none⟩]
def r70_9 (b : Nat) : List AOper := [
    ⟨(some 47), .mv (.t 10), none⟩,
    ⟨(some 48), .mv (.t 1), none⟩,
    ⟨(some 49), .bin .lss false (.t 47) (.t 48), none⟩]
def r70_11 (b : Nat) : List AOper := [
    ⟨(some 52), .mv (.t 8), none⟩,
    ⟨(some 53), .mv (.t 0), none⟩,
    ⟨(some 54), .mv (.t 10), none⟩,
    ⟨(some 55), .callf 69 [.t 53, .t 54], none⟩,
    ⟨(some 56), .bin .add false (.t 52) (.t 55), none⟩,
    ⟨(some 8), .mv (.t 56), none⟩]
def r70_10 (b : Nat) : List AOper := [
    ⟨(some 50), .mv (.t 10), none⟩,
    ⟨(some 51), .bin .add false (.t 50) (.c (.int .i64 1)), none⟩,
    ⟨(some 10), .mv (.t 51), none⟩]
def l70_1 (b : Nat) : ACode := .seq (.seq (.reg false (r70_9 b) []) (.cond (.t 49) (.skip) (.exit 2))) (.seq (.block 3 (.reg false (r70_11 b) [])) (.reg false (r70_10 b) []))
def r70_12 (b : Nat) : List AOper := [
    ⟨(some 57), .mv (.t 8), none⟩,
    ⟨(some 6), .mv (.t 57), none⟩,
    ⟨(some 7), .mv (.c (.int .i64 0)), none⟩]
def c70 (b : Nat) : ACode := .seq (.reg false (r70_0 b) []) (.seq (.seq (.reg false (r70_1 b) []) (.cond (.t 35) (.seq (.reg false (r70_2 b) []) (.ret)) (.skip))) (.seq (.reg false (r70_3 b) []) (.seq (.seq (.reg false (r70_4 b) []) (.block 0 (.loop (l70_0 b)))) (.seq (.seq (.reg false (r70_8 b) []) (.block 2 (.loop (l70_1 b)))) (.seq (.reg false (r70_12 b) []) (.ret))))))
def rs70 : List ARes := [.t 6, .t 7]
theorem ck70 : ∃ c, Tryd.f70.body = some c ∧ ∀ b, checkCode Tryd.prog c (c70 b) = true := ⟨_, rfl, fun b => by kernel_rfl⟩
theorem cr70 : checkRess Tryd.prog Tryd.f70.results.toList rs70 = true := by kernel_rfl
def r71_0 (b : Nat) : List AOper := [
    ⟨(some 2), .mv (.c (.int .i64 0)), none⟩]
def r71_1 (b : Nat) : List AOper := [
    ⟨(some 3), .mv (.t 0), none⟩,
    ⟨(some 4), .callf 76 [.t 3], none⟩]
def r71_2 (b : Nat) : List AOper := [
    ⟨(some 2), .mv (.c (.int .i64 366)), none⟩]
def r71_3 (b : Nat) : List AOper := [
    ⟨(some 2), .mv (.c (.int .i64 365)), none⟩]
def c71 (b : Nat) : ACode := .seq (.reg false (r71_0 b) []) (.seq (.seq (.reg false (r71_1 b) []) (.cond (.t 4) (.seq (.reg false (r71_2 b) []) (.ret)) (.skip))) (.seq (.reg false (r71_3 b) []) (.ret)))
def rs71 : List ARes := [.t 2]
theorem ck71 : ∃ c, Tryd.f71.body = some c ∧ ∀ b, checkCode Tryd.prog c (c71 b) = true := ⟨_, rfl, fun b => by kernel_rfl⟩
theorem cr71 : checkRess Tryd.prog Tryd.f71.results.toList rs71 = true := by kernel_rfl
def r72_0 (b : Nat) : List AOper := [
    ⟨(some 2), .box (b + 0) (.t 0), none⟩,
    ⟨(some 4), .mv (.c (.nils)), none⟩]
def r72_1 (b : Nat) : List AOper := [
    ⟨(some 6), .mv (.t 1), none⟩]
def r72_2 (b : Nat) : List AOper := [
    ⟨(some 5), .mv (.t 7), none⟩]
def r72_3 (b : Nat) : List AOper := [
    ⟨(some 8), .load false 1 (.t 2), none⟩,
    ⟨(some 9), .mv (.t 5), none⟩,
    ⟨(some 10), .bslice (b + 1) 1 1 [.int .i64 0] [(0, 1, .t 9)], none⟩,
    ⟨(some 11), .append (b + 2) 1 8 (.t 8) (.t 10), none⟩,
    ⟨none, .store 1 (.t 2) (.t 11), none⟩]
def l72_0 (b : Nat) : ACode := .block 1 (.reg false (r72_3 b) [])
def r72_4 (b : Nat) : List AOper := [
    ⟨(some 12), .load false 1 (.t 2), none⟩,
    ⟨(some 4), .mv (.t 12), none⟩]
def c72 (b : Nat) : ACode := .seq (.reg false (r72_0 b) []) (.seq (.seq (.reg false (r72_1 b) []) (.block 0 (.rfunc (.t 6) [7] (.reg false (r72_2 b) []) (l72_0 b)))) (.seq (.reg false (r72_4 b) []) (.ret)))
def rs72 : List ARes := [.t 4]
theorem ck72 : ∃ c, Tryd.f72.body = some c ∧ ∀ b, checkCode Tryd.prog c (c72 b) = true := ⟨_, rfl, fun b => by kernel_rfl⟩
theorem cr72 : checkRess Tryd.prog Tryd.f72.results.toList rs72 = true := by kernel_rfl
def r75_0 (b : Nat) : List AOper := [
    ⟨(some 2), .alloc (b + 0) [.int .i64 0, .int .i64 0, .int .i64 0, .int .i64 0], none⟩]
def r75_1 (b : Nat) : List AOper := [
    ⟨(some 4), .mv (.t 0), none⟩,
    ⟨(some 5), .bin .lss false (.t 4) (.c (.int .i64 0)), none⟩,
    ⟨(some 6), .mv (.t 5), none⟩,
    ⟨(some 7), .mv (.t 0), (some (6, false))⟩,
    ⟨(some 8), .bin .gtr false (.t 7) (.c (.int .i64 14609)), (some (6, false))⟩,
    ⟨(some 9), .pick (.t 6) (.c (.bool true)) (.t 8), none⟩]
def r75_2 (b : Nat) : List AOper := [
    ⟨(some 10), .build [.int .i64 0, .int .i64 0, .int .i64 0, .int .i64 0] [(3, 1, .c (.int .i64 3))], none⟩,
    ⟨none, .store 4 (.t 2) (.t 10), none⟩]
def r75_3 (b : Nat) : List AOper := [
    ⟨(some 11), .build [.int .i64 0, .int .i64 0, .int .i64 0, .int .i64 0] [(0, 1, .c (.int .i64 2000)), (1, 1, .c (.int .i64 1))], none⟩,
    ⟨(some 3), .alloc (b + 1) [.int .i64 0, .int .i64 0, .int .i64 0, .int .i64 0], none⟩,
    ⟨none, .store 4 (.t 3) (.t 11), none⟩]
def r75_4 (b : Nat) : List AOper := [
    ⟨(some 12), .mv (.t 0), none⟩,
    ⟨(some 13), .faddr 0 (.t 3), none⟩,
    ⟨(some 14), .load false 1 (.t 13), none⟩,
    ⟨(some 15), .callf 88 [.t 14], none⟩,
    ⟨(some 16), .bin .geq false (.t 12) (.t 15), none⟩]
def r75_5 (b : Nat) : List AOper := [
    ⟨(some 17), .mv (.t 0), none⟩,
    ⟨(some 18), .faddr 0 (.t 3), none⟩,
    ⟨(some 19), .load false 1 (.t 18), none⟩,
    ⟨(some 20), .callf 88 [.t 19], none⟩,
    ⟨(some 21), .bin .sub false (.t 17) (.t 20), none⟩,
    ⟨(some 0), .mv (.t 21), none⟩]
def r75_6 (b : Nat) : List AOper := [
    ⟨(some 22), .faddr 0 (.t 3), none⟩,
    ⟨(some 23), .load false 1 (.t 22), none⟩,
    ⟨(some 24), .bin .add false (.t 23) (.c (.int .i64 1)), none⟩,
    ⟨(some 25), .faddr 0 (.t 3), none⟩,
    ⟨none, .store 1 (.t 25) (.t 24), none⟩]
def l75_0 (b : Nat) : ACode := .seq (.seq (.reg false (r75_4 b) []) (.cond (.t 16) (.skip) (.exit 0))) (.block 1 (.seq (.reg false (r75_5 b) []) (.reg false (r75_6 b) [])))
def r75_7 (b : Nat) : List AOper := [
    ⟨(some 26), .mv (.t 0), none⟩,
    ⟨(some 27), .faddr 0 (.t 3), none⟩,
    ⟨(some 28), .load false 1 (.t 27), none⟩,
    ⟨(some 29), .faddr 1 (.t 3), none⟩,
    ⟨(some 30), .load false 1 (.t 29), none⟩,
    ⟨(some 31), .callf 89 [.t 28, .t 30], none⟩,
    ⟨(some 32), .bin .geq false (.t 26) (.t 31), none⟩]
def r75_8 (b : Nat) : List AOper := [
    ⟨(some 33), .mv (.t 0), none⟩,
    ⟨(some 34), .faddr 0 (.t 3), none⟩,
    ⟨(some 35), .load false 1 (.t 34), none⟩,
    ⟨(some 36), .faddr 1 (.t 3), none⟩,
    ⟨(some 37), .load false 1 (.t 36), none⟩,
    ⟨(some 38), .callf 89 [.t 35, .t 37], none⟩,
    ⟨(some 39), .bin .sub false (.t 33) (.t 38), none⟩,
    ⟨(some 0), .mv (.t 39), none⟩]
def r75_9 (b : Nat) : List AOper := [
    ⟨(some 40), .faddr 1 (.t 3), none⟩,
    ⟨(some 41), .load false 1 (.t 40), none⟩,
    ⟨(some 42), .bin .add false (.t 41) (.c (.int .i64 1)), none⟩,
    ⟨(some 43), .faddr 1 (.t 3), none⟩,
    ⟨none, .store 1 (.t 43) (.t 42), none⟩]
def l75_1 (b : Nat) : ACode := .seq (.seq (.reg false (r75_7 b) []) (.cond (.t 32) (.skip) (.exit 2))) (.block 3 (.seq (.reg false (r75_8 b) []) (.reg false (r75_9 b) [])))
def r75_10 (b : Nat) : List AOper := [
    ⟨(some 44), .mv (.t 0), none⟩,
    ⟨(some 45), .bin .add false (.t 44) (.c (.int .i64 1)), none⟩,
    ⟨(some 46), .faddr 2 (.t 3), none⟩,
    ⟨none, .store 1 (.t 46) (.t 45), none⟩]
def r75_11 (b : Nat) : List AOper := [
    ⟨(some 47), .load true 4 (.t 3), none⟩,
    ⟨none, .store 4 (.t 2) (.t 47), none⟩]
def c75 (b : Nat) : ACode := .seq (.reg false (r75_0 b) []) (.seq (.seq (.reg false (r75_1 b) []) (.cond (.t 9) (.seq (.reg false (r75_2 b) []) (.ret)) (.skip))) (.seq (.reg false (r75_3 b) []) (.seq (.block 0 (.loop (l75_0 b))) (.seq (.block 2 (.loop (l75_1 b))) (.seq (.reg false (r75_10 b) []) (.seq (.reg false (r75_11 b) []) (.ret)))))))
def rs75 : List ARes := [.c 2 true 4]
theorem ck75 : ∃ c, Tryd.f75.body = some c ∧ ∀ b, checkCode Tryd.prog c (c75 b) = true := ⟨_, rfl, fun b => by kernel_rfl⟩
theorem cr75 : checkRess Tryd.prog Tryd.f75.results.toList rs75 = true := by kernel_rfl
def r76_0 (b : Nat) : List AOper := [
    ⟨(some 2), .mv (.c (.bool false)), none⟩]
def r76_1 (b : Nat) : List AOper := [
    ⟨(some 3), .mv (.t 0), none⟩,
    ⟨(some 4), .bin .rem false (.t 3) (.c (.int .i64 4)), none⟩,
    ⟨(some 5), .bin .eql false (.t 4) (.c (.int .i64 0)), none⟩,
    ⟨(some 6), .mv (.t 5), none⟩,
    ⟨(some 7), .mv (.t 0), (some (6, true))⟩,
    ⟨(some 8), .bin .rem false (.t 7) (.c (.int .i64 100)), (some (6, true))⟩,
    ⟨(some 9), .bin .neq false (.t 8) (.c (.int .i64 0)), (some (6, true))⟩,
    ⟨(some 10), .pick (.t 6) (.t 9) (.c (.bool false)), none⟩,
    ⟨(some 11), .mv (.t 10), none⟩,
    ⟨(some 12), .mv (.t 0), (some (11, false))⟩,
    ⟨(some 13), .bin .rem false (.t 12) (.c (.int .i64 400)), (some (11, false))⟩,
    ⟨(some 14), .bin .eql false (.t 13) (.c (.int .i64 0)), (some (11, false))⟩,
    ⟨(some 15), .pick (.t 11) (.c (.bool true)) (.t 14), none⟩,
    ⟨(some 2), .mv (.t 15), none⟩]
def c76 (b : Nat) : ACode := .seq (.reg false (r76_0 b) []) (.seq (.reg false (r76_1 b) []) (.ret))
def rs76 : List ARes := [.t 2]
theorem ck76 : ∃ c, Tryd.f76.body = some c ∧ ∀ b, checkCode Tryd.prog c (c76 b) = true := ⟨_, rfl, fun b => by kernel_rfl⟩
theorem cr76 : checkRess Tryd.prog Tryd.f76.results.toList rs76 = true := by kernel_rfl
def r88_0 (b : Nat) : List AOper := [
    ⟨(some 2), .mv (.c (.int .i64 0)), none⟩]
def r88_1 (b : Nat) : List AOper := [
    ⟨(some 4), .mv (.t 0), none⟩,
    ⟨(some 5), .callf 96 [.t 4], none⟩,
    ⟨(some 3), .mv (.t 5), none⟩]
def r88_2 (b : Nat) : List AOper := [
    ⟨(some 6), .mv (.t 3), none⟩]
def r88_3 (b : Nat) : List AOper := [
    ⟨(some 2), .mv (.c (.int .i64 366)), none⟩]
def r88_4 (b : Nat) : List AOper := [
    ⟨(some 2), .mv (.c (.int .i64 365)), none⟩]
def c88 (b : Nat) : ACode := .seq (.reg false (r88_0 b) []) (.seq (.reg false (r88_1 b) []) (.seq (.seq (.reg false (r88_2 b) []) (.cond (.t 6) (.seq (.reg false (r88_3 b) []) (.ret)) (.skip))) (.seq (.reg false (r88_4 b) []) (.ret))))
def rs88 : List ARes := [.t 2]
theorem ck88 : ∃ c, Tryd.f88.body = some c ∧ ∀ b, checkCode Tryd.prog c (c88 b) = true := ⟨_, rfl, fun b => by kernel_rfl⟩
theorem cr88 : checkRess Tryd.prog Tryd.f88.results.toList rs88 = true := by kernel_rfl
def r89_0 (b : Nat) : List AOper := [
    ⟨(some 4), .mv (.c (.int .i64 0)), none⟩]
def r89_1 (b : Nat) : List AOper := [
    ⟨(some 6), .mv (.t 0), none⟩,
    ⟨(some 7), .callf 96 [.t 6], none⟩,
    ⟨(some 5), .mv (.t 7), none⟩]
def r89_2 (b : Nat) : List AOper := [
    ⟨(some 8), .mv (.t 1), none⟩,
    ⟨(some 9), .bin .eql false (.t 8) (.c (.int .i64 2)), none⟩]
def r89_3 (b : Nat) : List AOper := [
    ⟨(some 10), .mv (.t 5), none⟩]
def r89_4 (b : Nat) : List AOper := [
    ⟨(some 4), .mv (.c (.int .i64 29)), none⟩]
def r89_5 (b : Nat) : List AOper := [
    ⟨(some 4), .mv (.c (.int .i64 28)), none⟩]
def r89_6 (b : Nat) : List AOper := [
    ⟨(some 11), .mv (.t 1), none⟩,
    ⟨(some 12), .bin .eql false (.t 11) (.c (.int .i64 4)), none⟩,
    ⟨(some 13), .mv (.t 12), none⟩,
    ⟨(some 14), .mv (.t 1), (some (13, false))⟩,
    ⟨(some 15), .bin .eql false (.t 14) (.c (.int .i64 6)), (some (13, false))⟩,
    ⟨(some 16), .pick (.t 13) (.c (.bool true)) (.t 15), none⟩,
    ⟨(some 17), .mv (.t 16), none⟩,
    ⟨(some 18), .mv (.t 1), (some (17, false))⟩,
    ⟨(some 19), .bin .eql false (.t 18) (.c (.int .i64 9)), (some (17, false))⟩,
    ⟨(some 20), .pick (.t 17) (.c (.bool true)) (.t 19), none⟩,
    ⟨(some 21), .mv (.t 20), none⟩,
    ⟨(some 22), .mv (.t 1), (some (21, false))⟩,
    ⟨(some 23), .bin .eql false (.t 22) (.c (.int .i64 11)), (some (21, false))⟩,
    ⟨(some 24), .pick (.t 21) (.c (.bool true)) (.t 23), none⟩]
def r89_7 (b : Nat) : List AOper := [
    ⟨(some 4), .mv (.c (.int .i64 30)), none⟩]
def r89_8 (b : Nat) : List AOper := [
    ⟨(some 4), .mv (.c (.int .i64 31)), none⟩]
def c89 (b : Nat) : ACode := .seq (.reg false (r89_0 b) []) (.seq (.reg false (r89_1 b) []) (.seq (.seq (.reg false (r89_2 b) []) (.cond (.t 9) (.seq (.seq (.reg false (r89_3 b) []) (.cond (.t 10) (.seq (.reg false (r89_4 b) []) (.ret)) (.skip))) (.seq (.reg false (r89_5 b) []) (.ret))) (.skip))) (.seq (.seq (.reg false (r89_6 b) []) (.cond (.t 24) (.seq (.reg false (r89_7 b) []) (.ret)) (.skip))) (.seq (.reg false (r89_8 b) []) (.ret)))))
def rs89 : List ARes := [.t 4]
theorem ck89 : ∃ c, Tryd.f89.body = some c ∧ ∀ b, checkCode Tryd.prog c (c89 b) = true := ⟨_, rfl, fun b => by kernel_rfl⟩
theorem cr89 : checkRess Tryd.prog Tryd.f89.results.toList rs89 = true := by kernel_rfl
def r96_0 (b : Nat) : List AOper := [
    ⟨(some 2), .mv (.c (.bool false)), none⟩]
def r96_1 (b : Nat) : List AOper := [
    ⟨(some 3), .mv (.t 0), none⟩,
    ⟨(some 4), .bin .rem false (.t 3) (.c (.int .i64 400)), none⟩,
    ⟨(some 5), .bin .eql false (.t 4) (.c (.int .i64 0)), none⟩]
def r96_2 (b : Nat) : List AOper := [
    ⟨(some 2), .mv (.c (.bool true)), none⟩]
def r96_3 (b : Nat) : List AOper := [
    ⟨(some 6), .mv (.t 0), none⟩,
    ⟨(some 7), .bin .rem false (.t 6) (.c (.int .i64 4)), none⟩,
    ⟨(some 8), .bin .eql false (.t 7) (.c (.int .i64 0)), none⟩,
    ⟨(some 9), .mv (.t 8), none⟩,
    ⟨(some 10), .mv (.t 0), (some (9, true))⟩,
    ⟨(some 11), .bin .rem false (.t 10) (.c (.int .i64 100)), (some (9, true))⟩,
    ⟨(some 12), .bin .neq false (.t 11) (.c (.int .i64 0)), (some (9, true))⟩,
    ⟨(some 13), .pick (.t 9) (.t 12) (.c (.bool false)), none⟩,
    ⟨(some 2), .mv (.t 13), none⟩]
def c96 (b : Nat) : ACode := .seq (.reg false (r96_0 b) []) (.seq (.seq (.reg false (r96_1 b) []) (.cond (.t 5) (.seq (.reg false (r96_2 b) []) (.ret)) (.skip))) (.seq (.reg false (r96_3 b) []) (.ret)))
def rs96 : List ARes := [.t 2]
theorem ck96 : ∃ c, Tryd.f96.body = some c ∧ ∀ b, checkCode Tryd.prog c (c96 b) = true := ⟨_, rfl, fun b => by kernel_rfl⟩
theorem cr96 : checkRess Tryd.prog Tryd.f96.results.toList rs96 = true := by kernel_rfl
end Go.Am
