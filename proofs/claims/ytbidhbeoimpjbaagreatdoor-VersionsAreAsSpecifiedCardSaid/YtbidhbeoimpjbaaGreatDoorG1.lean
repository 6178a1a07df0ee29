/- Part G1: the code of some functions of this seat over abstract operations. No condition. -/
import Derived.Test.YtbidhbeoimpjbaaGreatDoorF2
set_option linter.unusedVariables false
namespace Go.Am
open Go.Proofs
def Wn(b:Nat):List Av:=[ ⟨(some 2),.mv (.c (.nils)),none⟩]
def Q3(b:Nat):List Av:=[ ⟨(some 3),.mv (.t 0),none⟩, ⟨(some 4),.isnil false (.t 3),none⟩]
def vq(b:Nat):List Av:=[ ⟨(some 2),.mv (.c (.nils)),none⟩]
def Q4(b:Nat):List Av:=[ ⟨(some 5),.bslice (b+0) 4 0 [] [],none⟩, ⟨(some 6),.mv (.t 0),none⟩, ⟨(some 7),.append (b+1) 4 48 (.t 5) (.t 6),none⟩, ⟨(some 2),.mv (.t 7),none⟩]
def c65(b:Nat):AR:=.seq (.reg false (Wn b) []) (.seq (.seq (.reg false (Q3 b) []) (.cond (.t 4) (.seq (.reg false (vq b) []) (.ret)) (.skip))) (.seq (.reg false (Q4 b) []) (.ret)))
def rs65:List ARes:=[.t 2]
theorem ck65:∃c,Tryz.f65.body=some c/\∀b,A8 Tryz.prog c (c65 b)=true:=⟨_,rfl,fun b=>by kernel_rfl⟩
theorem cr65:ED Tryz.prog Tryz.f65.results.toList rs65=true:=by kernel_rfl
def Wg(b:Nat):List Av:=[ ⟨(some 4),.mv (.c (.str [])),none⟩]
def Wh(b:Nat):List Av:=[ ⟨(some 5),.alloc (b+0) [.nilfn],none⟩]
def Wi(b:Nat):List Av:=[ ⟨(some 6),.mkfn 110 0 [.t 5],none⟩, ⟨none,.store 1 (.t 5) (.t 6),none⟩]
def Wj(b:Nat):List Av:=[ ⟨(some 7),.load false 1 (.t 5),none⟩, ⟨(some 8),.mv (.t 0),none⟩, ⟨(some 9),.callf 112 [.t 8],none⟩, ⟨(some 10),.mv (.t 1),none⟩, ⟨(some 11),.callf 112 [.t 10],none⟩, ⟨(some 12),.callv (.t 7) [.t 9,.t 11],none⟩, ⟨(some 13),.callf 113 [.t 12],none⟩, ⟨(some 4),.mv (.t 13),none⟩]
def vr:List (List Nat):=[[],[],[1],[],[1,2,3],[0,1,2,3,4],[0,1,2,3,4,5],[0,1,2,3,4,5,6]]
def c85(b:Nat):AR:=.seq (.reg false (Wg b) []) (.seq (.reg false (Wh b) []) (.seq (.reg false (Wi b) []) (.seq (.reg true (Wj b) vr) (.ret))))
def rs85:List ARes:=[.t 4]
theorem ck85:∃c,Tryz.f85.body=some c/\∀b,A8 Tryz.prog c (c85 b)=true:=⟨_,rfl,fun b=>by kernel_rfl⟩
theorem cr85:ED Tryz.prog Tryz.f85.results.toList rs85=true:=by kernel_rfl
def Wa(b:Nat):List Av:=[ ⟨(some 5),.mv (.c (.nils)),none⟩]
def Wb(b:Nat):List Av:=[ ⟨(some 8),.mv (.t 1),none⟩, ⟨(some 9),.len false (.t 8),none⟩, ⟨(some 10),.bin .eql false (.t 9) (.c (.int .i64 0)),none⟩]
def Wd(b:Nat):List Av:=[ ⟨(some 11),.mv (.t 0),none⟩, ⟨(some 5),.mv (.t 11),none⟩]
def We(b:Nat):List Av:=[ ⟨(some 13),.mv (.t 0),none⟩, ⟨(some 14),.mv (.t 1),none⟩, ⟨(some 15),.callf 111 [.t 13,.t 14],none⟩, ⟨(some 12),.mv (.t 15),none⟩, ⟨(some 16),.extract 0 (.t 12),none⟩, ⟨(some 17),.extract 1 (.t 12),none⟩, ⟨(some 6),.mv (.t 16),none⟩, ⟨(some 7),.mv (.t 17),none⟩]
def Wf(b:Nat):List Av:=[ ⟨(some 18),.load false 1 (.t 2),none⟩, ⟨(some 19),.mv (.t 1),none⟩, ⟨(some 20),.mv (.t 7),none⟩, ⟨(some 21),.callv (.t 18) [.t 19,.t 20],none⟩, ⟨(some 5),.mv (.t 21),none⟩]
def c110(b:Nat):AR:=.seq (.reg false (Wa b) []) (.seq (.seq (.reg false (Wb b) []) (.cond (.t 10) (.seq (.reg false (Wd b) []) (.ret)) (.skip))) (.seq (.reg false (We b) []) (.seq (.reg false (Wf b) []) (.ret))))
def Kh:List ARes:=[.t 5]
theorem uo:∃c,Tryz.f110.body=some c/\∀b,A8 Tryz.prog c (c110 b)=true:=⟨_,rfl,fun b=>by kernel_rfl⟩
theorem uq:ED Tryz.prog Tryz.f110.results.toList Kh=true:=by kernel_rfl
def VY(b:Nat):List Av:=[ ⟨(some 2),.mv (.c (.nils)),none⟩]
def Qx(b:Nat):List Av:=[ ⟨(some 3),.mv (.t 0),none⟩, ⟨(some 4),.isnil false (.t 3),none⟩]
def vt(b:Nat):List Av:=[ ⟨(some 2),.mv (.c (.nils)),none⟩]
def Qy(b:Nat):List Av:=[ ⟨(some 5),.bslice (b+0) 1 0 [] [],none⟩, ⟨(some 6),.mv (.t 0),none⟩, ⟨(some 7),.append (b+1) 1 4 (.t 5) (.t 6),none⟩, ⟨(some 2),.mv (.t 7),none⟩]
def c130(b:Nat):AR:=.seq (.reg false (VY b) []) (.seq (.seq (.reg false (Qx b) []) (.cond (.t 4) (.seq (.reg false (vt b) []) (.ret)) (.skip))) (.seq (.reg false (Qy b) []) (.ret)))
def Kg:List ARes:=[.t 2]
theorem uh:∃c,Tryz.f130.body=some c/\∀b,A8 Tryz.prog c (c130 b)=true:=⟨_,rfl,fun b=>by kernel_rfl⟩
theorem ui:ED Tryz.prog Tryz.f130.results.toList Kg=true:=by kernel_rfl
def Wo(b:Nat):List Av:=[ ⟨(some 2),.mv (.c (.nils)),none⟩]
def Wp(b:Nat):List Av:=[ ⟨(some 3),.mv (.c (.int .i64 0)),none⟩]
def Wq(b:Nat):List Av:=[ ⟨(some 9),.mv (.t 0),none⟩, ⟨(some 10),.len false (.t 9),none⟩, ⟨(some 11),.mv (.c (.int .i64 0)),none⟩]
def Wr(b:Nat):List Av:=[ ⟨(some 12),.bin .lss false (.t 11) (.t 10),none⟩]
def Wt(b:Nat):List Av:=[ ⟨(some 13),.iaddrS 1 (.t 9) (.t 11),none⟩, ⟨(some 14),.load false 1 (.t 13),none⟩, ⟨(some 5),.mv (.t 14),none⟩]
def Wu(b:Nat):List Av:=[ ⟨(some 15),.mv (.t 3),none⟩, ⟨(some 16),.mv (.t 5),none⟩, ⟨(some 17),.len false (.t 16),none⟩, ⟨(some 18),.bin .add false (.t 15) (.t 17),none⟩, ⟨(some 3),.mv (.t 18),none⟩]
def Wv(b:Nat):List Av:=[ ⟨(some 19),.mv (.t 3),none⟩, ⟨(some 20),.bin .lss false (.t 19) (.c (.int .i64 0)),none⟩]
def Ww(b:Nat):List Av:=[ ⟨(some 22),.bin .add false (.t 11) (.c (.int .i64 1)),none⟩, ⟨(some 11),.mv (.t 22),none⟩]
def vu(b:Nat):AR:=.seq (.reg false (Wr b) []) (.seq (.cond (.t 12) (.skip) (.exit 0)) (.seq (.block 1 (.seq (.reg false (Wt b) []) (.seq (.reg false (Wu b) []) (.seq (.reg false (Wv b) []) (.cond (.t 20) (.any) (.skip)))))) (.reg false (Ww b) [])))
def Wx(b:Nat):List Av:=[ ⟨(some 23),.mv (.t 3),none⟩, ⟨(some 24),.callf 76 [.c (.nils),.t 23],none⟩, ⟨(some 6),.mv (.t 24),none⟩]
def Q7(b:Nat):List Av:=[ ⟨(some 25),.mv (.t 0),none⟩, ⟨(some 26),.len false (.t 25),none⟩, ⟨(some 27),.mv (.c (.int .i64 0)),none⟩]
def Q8(b:Nat):List Av:=[ ⟨(some 28),.bin .lss false (.t 27) (.t 26),none⟩]
def Q9(b:Nat):List Av:=[ ⟨(some 29),.iaddrS 1 (.t 25) (.t 27),none⟩, ⟨(some 30),.load false 1 (.t 29),none⟩, ⟨(some 8),.mv (.t 30),none⟩]
def QA(b:Nat):List Av:=[ ⟨(some 31),.mv (.t 6),none⟩, ⟨(some 32),.mv (.t 8),none⟩, ⟨(some 33),.append (b+0) 8 80 (.t 31) (.t 32),none⟩, ⟨(some 6),.mv (.t 33),none⟩]
def QB(b:Nat):List Av:=[ ⟨(some 34),.bin .add false (.t 27) (.c (.int .i64 1)),none⟩, ⟨(some 27),.mv (.t 34),none⟩]
def vw(b:Nat):AR:=.seq (.reg false (Q8 b) []) (.seq (.cond (.t 28) (.skip) (.exit 2)) (.seq (.block 3 (.seq (.reg false (Q9 b) []) (.reg false (QA b) []))) (.reg false (QB b) [])))
def QC(b:Nat):List Av:=[ ⟨(some 35),.mv (.t 6),none⟩, ⟨(some 2),.mv (.t 35),none⟩]
def c48(b:Nat):AR:=.seq (.reg false (Wo b) []) (.seq (.reg false (Wp b) []) (.seq (.seq (.reg false (Wq b) []) (.block 0 (.loop (vu b)))) (.seq (.reg false (Wx b) []) (.seq (.seq (.reg false (Q7 b) []) (.block 2 (.loop (vw b)))) (.seq (.reg false (QC b) []) (.ret))))))
def rs48:List ARes:=[.t 2]
theorem ck48:∃c,Tryz.f48.body=some c/\∀b,A8 Tryz.prog c (c48 b)=true:=⟨_,rfl,fun b=>by kernel_rfl⟩
theorem cr48:ED Tryz.prog Tryz.f48.results.toList rs48=true:=by kernel_rfl
def QE(b:Nat):List Av:=[ ⟨(some 4),.mv (.c (.nils)),none⟩]
def QF(b:Nat):List Av:=[ ⟨(some 8),.mv (.t 0),none⟩, ⟨(some 9),.len false (.t 8),none⟩, ⟨(some 10),.bin .lss false (.t 9) (.c (.int .i64 2)),none⟩]
def QG(b:Nat):List Av:=[ ⟨(some 11),.mv (.t 0),none⟩, ⟨(some 4),.mv (.t 11),none⟩]
def Wz(b:Nat):List Av:=[ ⟨(some 5),.mv (.c (.int .i64 1)),none⟩]
def W0(b:Nat):List Av:=[ ⟨(some 12),.mv (.t 5),none⟩, ⟨(some 13),.mv (.t 0),none⟩, ⟨(some 14),.len false (.t 13),none⟩, ⟨(some 15),.bin .lss false (.t 12) (.t 14),none⟩]
def W3(b:Nat):List Av:=[ ⟨(some 18),.mv (.t 1),none⟩, ⟨(some 19),.mv (.t 0),none⟩, ⟨(some 20),.mv (.t 5),none⟩, ⟨(some 21),.iaddrS 8 (.t 19) (.t 20),none⟩, ⟨(some 22),.load true 8 (.t 21),none⟩, ⟨(some 23),.mv (.t 0),none⟩, ⟨(some 24),.mv (.t 5),none⟩, ⟨(some 25),.bin .sub false (.t 24) (.c (.int .i64 1)),none⟩, ⟨(some 26),.iaddrS 8 (.t 23) (.t 25),none⟩, ⟨(some 27),.load true 8 (.t 26),none⟩, ⟨(some 28),.callv (.t 18) [.t 22,.t 27],none⟩]
def vy:List (List Nat):=[[],[],[],[1,2],[1,2,3],[],[],[6],[5,6,7],[5,6,7,8],[0,1,2,3,4,5,6,7,8,9]]
def W5(b:Nat):List Av:=[ ⟨(some 29),.mv (.t 0),none⟩, ⟨(some 30),.mv (.t 5),none⟩, ⟨(some 31),.slice false 8 (.t 29) (some (.t 30)) none,none⟩, ⟨(some 6),.mv (.t 31),none⟩]
def W6(b:Nat):List Av:=[ ⟨(some 7),.mv (.c (.int .i64 1)),none⟩]
def W7(b:Nat):List Av:=[ ⟨(some 32),.mv (.t 7),none⟩, ⟨(some 33),.mv (.t 6),none⟩, ⟨(some 34),.len false (.t 33),none⟩, ⟨(some 35),.bin .lss false (.t 32) (.t 34),none⟩]
def WA(b:Nat):List Av:=[ ⟨(some 38),.mv (.t 1),none⟩, ⟨(some 39),.mv (.t 6),none⟩, ⟨(some 40),.mv (.t 7),none⟩, ⟨(some 41),.iaddrS 8 (.t 39) (.t 40),none⟩, ⟨(some 42),.load true 8 (.t 41),none⟩, ⟨(some 43),.mv (.t 6),none⟩, ⟨(some 44),.mv (.t 7),none⟩, ⟨(some 45),.bin .sub false (.t 44) (.c (.int .i64 1)),none⟩, ⟨(some 46),.iaddrS 8 (.t 43) (.t 45),none⟩, ⟨(some 47),.load true 8 (.t 46),none⟩, ⟨(some 48),.callv (.t 38) [.t 42,.t 47],none⟩, ⟨(some 49),.not (.t 48),none⟩]
def vz:List (List Nat):=[[],[],[],[1,2],[1,2,3],[],[],[6],[5,6,7],[5,6,7,8],[0,1,2,3,4,5,6,7,8,9],[0,1,2,3,4,5,6,7,8,9,10]]
def WB(b:Nat):List Av:=[ ⟨(some 50),.mv (.t 0),none⟩, ⟨(some 51),.mv (.t 5),none⟩, ⟨(some 52),.mv (.t 6),none⟩, ⟨(some 53),.mv (.t 7),none⟩, ⟨(some 54),.iaddrS 8 (.t 52) (.t 53),none⟩, ⟨(some 55),.load true 8 (.t 54),none⟩, ⟨(some 56),.iaddrS 8 (.t 50) (.t 51),none⟩, ⟨none,.store 8 (.t 56) (.t 55),none⟩]
def WC(b:Nat):List Av:=[ ⟨(some 57),.mv (.t 5),none⟩, ⟨(some 58),.bin .add false (.t 57) (.c (.int .i64 1)),none⟩, ⟨(some 5),.mv (.t 58),none⟩]
def QH(b:Nat):List Av:=[ ⟨(some 36),.mv (.t 7),none⟩, ⟨(some 37),.bin .add false (.t 36) (.c (.int .i64 1)),none⟩, ⟨(some 7),.mv (.t 37),none⟩]
def v6(b:Nat):AR:=.seq (.seq (.reg false (W7 b) []) (.cond (.t 35) (.skip) (.exit 2))) (.seq (.block 3 (.seq (.reg true (WA b) vz) (.cond (.t 49) (.seq (.reg false (WB b) []) (.reg false (WC b) [])) (.skip)))) (.reg false (QH b) []))
def W8(b:Nat):List Av:=[ ⟨(some 59),.mv (.t 0),none⟩, ⟨(some 60),.mv (.t 5),none⟩, ⟨(some 61),.slice false 8 (.t 59) (some (.t 60)) none,none⟩, ⟨none,.clear [.int .i64 0,.int .i64 0,.int .i64 0,.int .i64 0,.int .i64 0,.int .i64 0,.int .i64 0,.nils] (.t 61),none⟩]
def W9(b:Nat):List Av:=[ ⟨(some 62),.mv (.t 0),none⟩, ⟨(some 63),.mv (.t 5),none⟩, ⟨(some 64),.slice false 8 (.t 62) none (some (.t 63)),none⟩, ⟨(some 4),.mv (.t 64),none⟩]
def W4(b:Nat):List Av:=[ ⟨(some 16),.mv (.t 5),none⟩, ⟨(some 17),.bin .add false (.t 16) (.c (.int .i64 1)),none⟩, ⟨(some 5),.mv (.t 17),none⟩]
def v7(b:Nat):AR:=.seq (.seq (.reg false (W0 b) []) (.cond (.t 15) (.skip) (.exit 0))) (.seq (.block 1 (.seq (.reg true (W3 b) vy) (.cond (.t 28) (.seq (.reg false (W5 b) []) (.seq (.seq (.reg false (W6 b) []) (.block 2 (.loop (v6 b)))) (.seq (.reg false (W8 b) []) (.seq (.reg false (W9 b) []) (.ret))))) (.skip)))) (.reg false (W4 b) []))
def W2(b:Nat):List Av:=[ ⟨(some 65),.mv (.t 0),none⟩, ⟨(some 4),.mv (.t 65),none⟩]
def c51(b:Nat):AR:=.seq (.reg false (QE b) []) (.seq (.seq (.reg false (QF b) []) (.cond (.t 10) (.seq (.reg false (QG b) []) (.ret)) (.skip))) (.seq (.seq (.reg false (Wz b) []) (.block 0 (.loop (v7 b)))) (.seq (.reg false (W2 b) []) (.ret))))
def rs51:List ARes:=[.t 4]
theorem ck51:∃c,Tryz.f51.body=some c/\∀b,A8 Tryz.prog c (c51 b)=true:=⟨_,rfl,fun b=>by kernel_rfl⟩
theorem cr51:ED Tryz.prog Tryz.f51.results.toList rs51=true:=by kernel_rfl
def QI(b:Nat):List Av:=[ ⟨(some 2),.mv (.c (.nils)),none⟩]
def QJ(b:Nat):List Av:=[ ⟨(some 6),.mv (.t 0),none⟩, ⟨(some 7),.len false (.t 6),none⟩, ⟨(some 8),.bin .lss false (.t 7) (.c (.int .i64 2)),none⟩]
def QK(b:Nat):List Av:=[ ⟨(some 9),.mv (.t 0),none⟩, ⟨(some 2),.mv (.t 9),none⟩]
def WE(b:Nat):List Av:=[ ⟨(some 3),.mv (.c (.int .i64 1)),none⟩]
def WF(b:Nat):List Av:=[ ⟨(some 10),.mv (.t 3),none⟩, ⟨(some 11),.mv (.t 0),none⟩, ⟨(some 12),.len false (.t 11),none⟩, ⟨(some 13),.bin .lss false (.t 10) (.t 12),none⟩]
def WH(b:Nat):List Av:=[ ⟨(some 16),.mv (.t 0),none⟩, ⟨(some 17),.mv (.t 3),none⟩, ⟨(some 18),.iaddrS 1 (.t 16) (.t 17),none⟩, ⟨(some 19),.load false 1 (.t 18),none⟩, ⟨(some 20),.mv (.t 0),none⟩, ⟨(some 21),.mv (.t 3),none⟩, ⟨(some 22),.bin .sub false (.t 21) (.c (.int .i64 1)),none⟩, ⟨(some 23),.iaddrS 1 (.t 20) (.t 22),none⟩, ⟨(some 24),.load false 1 (.t 23),none⟩, ⟨(some 25),.bin .eql false (.t 19) (.t 24),none⟩]
def v8:List (List Nat):=[[],[],[0,1],[0,1,2],[],[],[5],[4,5,6],[4,5,6,7],[0,1,2,3,4,5,6,7,8]]
def WJ(b:Nat):List Av:=[ ⟨(some 26),.mv (.t 0),none⟩, ⟨(some 27),.mv (.t 3),none⟩, ⟨(some 28),.slice false 1 (.t 26) (some (.t 27)) none,none⟩, ⟨(some 4),.mv (.t 28),none⟩]
def WK(b:Nat):List Av:=[ ⟨(some 5),.mv (.c (.int .i64 1)),none⟩]
def WL(b:Nat):List Av:=[ ⟨(some 29),.mv (.t 5),none⟩, ⟨(some 30),.mv (.t 4),none⟩, ⟨(some 31),.len false (.t 30),none⟩, ⟨(some 32),.bin .lss false (.t 29) (.t 31),none⟩]
def WP(b:Nat):List Av:=[ ⟨(some 35),.mv (.t 4),none⟩, ⟨(some 36),.mv (.t 5),none⟩, ⟨(some 37),.iaddrS 1 (.t 35) (.t 36),none⟩, ⟨(some 38),.load false 1 (.t 37),none⟩, ⟨(some 39),.mv (.t 4),none⟩, ⟨(some 40),.mv (.t 5),none⟩, ⟨(some 41),.bin .sub false (.t 40) (.c (.int .i64 1)),none⟩, ⟨(some 42),.iaddrS 1 (.t 39) (.t 41),none⟩, ⟨(some 43),.load false 1 (.t 42),none⟩, ⟨(some 44),.bin .neq false (.t 38) (.t 43),none⟩]
def vA:List (List Nat):=[[],[],[0,1],[0,1,2],[],[],[5],[4,5,6],[4,5,6,7],[0,1,2,3,4,5,6,7,8]]
def WQ(b:Nat):List Av:=[ ⟨(some 45),.mv (.t 0),none⟩, ⟨(some 46),.mv (.t 3),none⟩, ⟨(some 47),.mv (.t 4),none⟩, ⟨(some 48),.mv (.t 5),none⟩, ⟨(some 49),.iaddrS 1 (.t 47) (.t 48),none⟩, ⟨(some 50),.load false 1 (.t 49),none⟩, ⟨(some 51),.iaddrS 1 (.t 45) (.t 46),none⟩, ⟨none,.store 1 (.t 51) (.t 50),none⟩]
def WR(b:Nat):List Av:=[ ⟨(some 52),.mv (.t 3),none⟩, ⟨(some 53),.bin .add false (.t 52) (.c (.int .i64 1)),none⟩, ⟨(some 3),.mv (.t 53),none⟩]
def QL(b:Nat):List Av:=[ ⟨(some 33),.mv (.t 5),none⟩, ⟨(some 34),.bin .add false (.t 33) (.c (.int .i64 1)),none⟩, ⟨(some 5),.mv (.t 34),none⟩]
def vB(b:Nat):AR:=.seq (.seq (.reg false (WL b) []) (.cond (.t 32) (.skip) (.exit 2))) (.seq (.block 3 (.seq (.reg true (WP b) vA) (.cond (.t 44) (.seq (.reg false (WQ b) []) (.reg false (WR b) [])) (.skip)))) (.reg false (QL b) []))
def WM(b:Nat):List Av:=[ ⟨(some 54),.mv (.t 0),none⟩, ⟨(some 55),.mv (.t 3),none⟩, ⟨(some 56),.slice false 1 (.t 54) (some (.t 55)) none,none⟩, ⟨none,.clear [.int .i64 0] (.t 56),none⟩]
def WN(b:Nat):List Av:=[ ⟨(some 57),.mv (.t 0),none⟩, ⟨(some 58),.mv (.t 3),none⟩, ⟨(some 59),.slice false 1 (.t 57) none (some (.t 58)),none⟩, ⟨(some 2),.mv (.t 59),none⟩]
def WI(b:Nat):List Av:=[ ⟨(some 14),.mv (.t 3),none⟩, ⟨(some 15),.bin .add false (.t 14) (.c (.int .i64 1)),none⟩, ⟨(some 3),.mv (.t 15),none⟩]
def vC(b:Nat):AR:=.seq (.seq (.reg false (WF b) []) (.cond (.t 13) (.skip) (.exit 0))) (.seq (.block 1 (.seq (.reg true (WH b) v8) (.cond (.t 25) (.seq (.reg false (WJ b) []) (.seq (.seq (.reg false (WK b) []) (.block 2 (.loop (vB b)))) (.seq (.reg false (WM b) []) (.seq (.reg false (WN b) []) (.ret))))) (.skip)))) (.reg false (WI b) []))
def WG(b:Nat):List Av:=[ ⟨(some 60),.mv (.t 0),none⟩, ⟨(some 2),.mv (.t 60),none⟩]
def c58(b:Nat):AR:=.seq (.reg false (QI b) []) (.seq (.seq (.reg false (QJ b) []) (.cond (.t 8) (.seq (.reg false (QK b) []) (.ret)) (.skip))) (.seq (.seq (.reg false (WE b) []) (.block 0 (.loop (vC b)))) (.seq (.reg false (WG b) []) (.ret))))
def rs58:List ARes:=[.t 2]
theorem ck58:∃c,Tryz.f58.body=some c/\∀b,A8 Tryz.prog c (c58 b)=true:=⟨_,rfl,fun b=>by kernel_rfl⟩
theorem cr58:ED Tryz.prog Tryz.f58.results.toList rs58=true:=by kernel_rfl
def QM(b:Nat):List Av:=[ ⟨(some 12),.alloc (b+4) [.nils],none⟩]
def QN(b:Nat):List Av:=[ ⟨(some 56),.mv (.t 7),none⟩, ⟨(some 57),.mrange (b+5) (.t 56),none⟩]
def WW(b:Nat):List Av:=[ ⟨(some 58),.mnext (.t 57),none⟩, ⟨(some 59),.extract 0 (.t 58),none⟩]
def WX(b:Nat):List Av:=[ ⟨(some 60),.mentry (.t 57),none⟩, ⟨(some 61),.extract 0 (.t 60),none⟩, ⟨(some 13),.mv (.t 61),none⟩]
def QO(b:Nat):List Av:=[ ⟨(some 62),.load false 1 (.t 12),none⟩, ⟨(some 63),.mv (.t 13),none⟩, ⟨(some 64),.bslice (b+6) 1 1 [.int .i64 0] [(0,1,.t 63)],none⟩, ⟨(some 65),.append (b+7) 1 8 (.t 62) (.t 64),none⟩, ⟨none,.store 1 (.t 12) (.t 65),none⟩]
def WV(b:Nat):AR:=.seq (.reg false (WW b) []) (.seq (.cond (.t 59) (.skip) (.exit 4)) (.block 5 (.seq (.reg false (WX b) []) (.reg false (QO b) []))))
def g_(b:Nat):List Av:=[ ⟨(some 3),.mv (.t 0),none⟩, ⟨(some 4),.len false (.t 3),none⟩, ⟨(some 2),.mv (.t 4),none⟩]
def h_(b:Nat):List Av:=[ ⟨(some 5),.mv (.t 0),none⟩, ⟨(some 6),.mv (.t 2),none⟩, ⟨(some 7),.mv (.t 2),none⟩, ⟨(some 8),.conv .u64 (.t 7),none⟩, ⟨(some 9),.callf 79 [.t 8],none⟩, ⟨(some 10),.callf 78 [.t 5,.c (.int .i64 0),.t 6,.t 9],none⟩]
def c57(b:Nat):AR:=.seq (.reg false (g_ b) []) (.reg false (h_ b) [])
def rs57:List ARes:=[]
theorem ck57:∃c,Tryz.f57.body=some c/\∀b,A8 Tryz.prog c (c57 b)=true:=⟨_,rfl,fun b=>by kernel_rfl⟩
theorem cr57:ED Tryz.prog Tryz.f57.results.toList rs57=true:=by kernel_rfl
def fh(b:Nat):List Av:=[ ⟨(some 8),.mv (.c (.bool true)),none⟩]
def f9(b:Nat):List Av:=[ ⟨(some 9),.mv (.c (.bool true)),none⟩]
def fM(b:Nat):List Av:=[ ⟨(some 19),.mv (.t 2),none⟩, ⟨(some 20),.mv (.t 1),none⟩, ⟨(some 21),.bin .sub false (.t 19) (.t 20),none⟩, ⟨(some 10),.mv (.t 21),none⟩]
def f_(b:Nat):List Av:=[ ⟨(some 22),.mv (.t 10),none⟩, ⟨(some 23),.bin .leq false (.t 22) (.c (.int .i64 12)),none⟩]
def gt(b:Nat):List Av:=[ ⟨(some 24),.mv (.t 0),none⟩, ⟨(some 25),.mv (.t 1),none⟩, ⟨(some 26),.mv (.t 2),none⟩, ⟨(some 27),.callf 96 [.t 24,.t 25,.t 26],none⟩]
def vD(b:Nat):AR:=.block 1 (.seq (.reg false (fM b) []) (.seq (.seq (.reg false (f_ b) []) (.cond (.t 23) (.seq (.reg false (gt b) []) (.ret)) (.skip))) (.any)))
def c78(b:Nat):AR:=.seq (.reg false (fh b) []) (.seq (.reg false (f9 b) []) (.block 0 (.loop (vD b))))
def rs78:List ARes:=[]
theorem ck78:∃c,Tryz.f78.body=some c/\∀b,A8 Tryz.prog c (c78 b)=true:=⟨_,rfl,fun b=>by kernel_rfl⟩
theorem cr78:ED Tryz.prog Tryz.f78.results.toList rs78=true:=by kernel_rfl
def d_(b:Nat):List Av:=[ ⟨(some 8),.mv (.t 1),none⟩, ⟨(some 9),.bin .add false (.t 8) (.c (.int .i64 1)),none⟩, ⟨(some 6),.mv (.t 9),none⟩]
def e_(b:Nat):List Av:=[ ⟨(some 10),.mv (.t 6),none⟩, ⟨(some 11),.mv (.t 2),none⟩, ⟨(some 12),.bin .lss false (.t 10) (.t 11),none⟩]
def vE(b:Nat):AR:=.seq (.seq (.reg false (e_ b) []) (.cond (.t 12) (.skip) (.exit 0))) (.any)
def c96(b:Nat):AR:=.seq (.reg false (d_ b) []) (.block 0 (.loop (vE b)))
def rs96:List ARes:=[]
theorem ck96:∃c,Tryz.f96.body=some c/\∀b,A8 Tryz.prog c (c96 b)=true:=⟨_,rfl,fun b=>by kernel_rfl⟩
theorem cr96:ED Tryz.prog Tryz.f96.results.toList rs96=true:=by kernel_rfl
end Go.Am

