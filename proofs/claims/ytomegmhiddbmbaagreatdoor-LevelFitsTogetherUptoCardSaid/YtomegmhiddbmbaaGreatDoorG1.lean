/- Part G1: the code of some functions of this seat over abstract operations. No condition. -/
import Derived.Test.YtomegmhiddbmbaaGreatDoorF2
set_option linter.unusedVariables false
namespace Go.Am
open Go.Proofs
def Xv(b:Nat):List As:=[ ⟨(some 4),.mv (.c (.nils)),none⟩]
def Xw(b:Nat):List As:=[ ⟨(some 6),.mv (.t 0),none⟩, ⟨(some 7),.callf 84 [.t 6],none⟩, ⟨(some 5),.mv (.t 7),none⟩]
def Rk(b:Nat):List As:=[ ⟨(some 8),.mv (.t 5),none⟩, ⟨(some 9),.mv (.t 1),none⟩, ⟨(some 10),.callf 85 [.t 8,.t 9],none⟩]
def Rl(b:Nat):List As:=[ ⟨(some 11),.mv (.t 5),none⟩, ⟨(some 4),.mv (.t 11),none⟩]
def c56(b:Nat):AX:=.seq (.reg false (Xv b) []) (.seq (.reg false (Xw b) []) (.seq (.reg false (Rk b) []) (.seq (.reg false (Rl b) []) (.ret))))
def rs56:List ARes:=[.t 4]
theorem ck56:∃c,Tryz.f56.body=some c/\∀b,AA Tryz.prog c (c56 b)=true:=⟨_,rfl,fun b=>by kernel_rfl⟩
theorem cr56:Dm Tryz.prog Tryz.f56.results.toList rs56=true:=by kernel_rfl
def WR(b:Nat):List As:=[ ⟨(some 1),.box (b+0) (.t 0),none⟩, ⟨(some 2),.mv (.c (.nilfn)),none⟩]
def WS(b:Nat):List As:=[ ⟨(some 3),.mkfn 86 0 [.t 1],none⟩, ⟨(some 2),.mv (.t 3),none⟩]
def c57(b:Nat):AX:=.seq (.reg false (WR b) []) (.seq (.reg false (WS b) []) (.ret))
def rs57:List ARes:=[.t 2]
theorem ck57:∃c,Tryz.f57.body=some c/\∀b,AA Tryz.prog c (c57 b)=true:=⟨_,rfl,fun b=>by kernel_rfl⟩
theorem cr57:Dm Tryz.prog Tryz.f57.results.toList rs57=true:=by kernel_rfl
def Xc(b:Nat):List As:=[ ⟨(some 2),.mv (.c (.nils)),none⟩]
def Xd(b:Nat):List As:=[ ⟨(some 3),.mv (.t 0),none⟩, ⟨(some 4),.callf 111 [.c (.nils),.t 3],none⟩, ⟨(some 2),.mv (.t 4),none⟩]
def c84(b:Nat):AX:=.seq (.reg false (Xc b) []) (.seq (.reg false (Xd b) []) (.ret))
def rs84:List ARes:=[.t 2]
theorem ck84:∃c,Tryz.f84.body=some c/\∀b,AA Tryz.prog c (c84 b)=true:=⟨_,rfl,fun b=>by kernel_rfl⟩
theorem cr84:Dm Tryz.prog Tryz.f84.results.toList rs84=true:=by kernel_rfl
def WV(b:Nat):List As:=[ ⟨(some 4),.load false 1 (.t 1),none⟩, ⟨(some 5),.mrange (b+0) (.t 4),none⟩]
def WW(b:Nat):List As:=[ ⟨(some 6),.mnext (.t 5),none⟩, ⟨(some 7),.extract 0 (.t 6),none⟩]
def WX(b:Nat):List As:=[ ⟨(some 8),.mentry (.t 5),none⟩, ⟨(some 9),.extract 0 (.t 8),none⟩, ⟨(some 3),.alloc (b+1) [.bool false,.str [],.str []],none⟩, ⟨none,.store 3 (.t 3) (.t 9),none⟩]
def WY(b:Nat):List As:=[ ⟨(some 10),.mv (.t 0),none⟩, ⟨(some 11),.load true 3 (.t 3),none⟩, ⟨(some 12),.callv (.t 10) [.t 11],none⟩, ⟨(some 13),.not (.t 12),none⟩]
def jzj5(b:Nat):AX:=.seq (.reg false (WW b) []) (.seq (.cond (.t 7) (.skip) (.exit 0)) (.block 1 (.seq (.reg false (WX b) []) (.seq (.reg false (WY b) []) (.cond (.t 13) (.ret) (.skip))))))
def c86(b:Nat):AX:=.seq (.reg false (WV b) []) (.block 0 (.loop (jzj5 b)))
def rs86:List ARes:=[]
theorem ck86:∃c,Tryz.f86.body=some c/\∀b,AA Tryz.prog c (c86 b)=true:=⟨_,rfl,fun b=>by kernel_rfl⟩
theorem cr86:Dm Tryz.prog Tryz.f86.results.toList rs86=true:=by kernel_rfl
def WM(b:Nat):List As:=[ ⟨(some 4),.mv (.c (.str [])),none⟩]
def WN(b:Nat):List As:=[ ⟨(some 5),.alloc (b+0) [.nilfn],none⟩]
def WP(b:Nat):List As:=[ ⟨(some 6),.mkfn 116 0 [.t 5],none⟩, ⟨none,.store 1 (.t 5) (.t 6),none⟩]
def WQ(b:Nat):List As:=[ ⟨(some 7),.load false 1 (.t 5),none⟩, ⟨(some 8),.mv (.t 0),none⟩, ⟨(some 9),.callf 118 [.t 8],none⟩, ⟨(some 10),.mv (.t 1),none⟩, ⟨(some 11),.callf 118 [.t 10],none⟩, ⟨(some 12),.callv (.t 7) [.t 9,.t 11],none⟩, ⟨(some 13),.callf 119 [.t 12],none⟩, ⟨(some 4),.mv (.t 13),none⟩]
def jzhu:List (List Nat):=[[],[],[1],[],[1,2,3],[0,1,2,3,4],[0,1,2,3,4,5],[0,1,2,3,4,5,6]]
def c89(b:Nat):AX:=.seq (.reg false (WM b) []) (.seq (.reg false (WN b) []) (.seq (.reg false (WP b) []) (.seq (.reg true (WQ b) jzhu) (.ret))))
def rs89:List ARes:=[.t 4]
theorem ck89:∃c,Tryz.f89.body=some c/\∀b,AA Tryz.prog c (c89 b)=true:=⟨_,rfl,fun b=>by kernel_rfl⟩
theorem cr89:Dm Tryz.prog Tryz.f89.results.toList rs89=true:=by kernel_rfl
def WZ(b:Nat):List As:=[ ⟨(some 2),.box (b+0) (.t 0),none⟩, ⟨(some 4),.mv (.c (.nils)),none⟩]
def Xa(b:Nat):List As:=[ ⟨(some 6),.mv (.t 1),none⟩]
def NZ(b:Nat):List As:=[ ⟨(some 5),.alloc (b+1) [.bool false,.str [],.str []],none⟩, ⟨none,.store 3 (.t 5) (.t 7),none⟩]
def Rh(b:Nat):List As:=[ ⟨(some 8),.load false 1 (.t 2),none⟩, ⟨(some 9),.load true 3 (.t 5),none⟩, ⟨(some 10),.bslice (b+2) 3 1 [.bool false,.str [],.str []] [(0,3,.t 9)],none⟩, ⟨(some 11),.append (b+3) 3 40 (.t 8) (.t 10),none⟩, ⟨none,.store 1 (.t 2) (.t 11),none⟩]
def Rg(b:Nat):AX:=.block 1 (.reg false (Rh b) [])
def Xb(b:Nat):List As:=[ ⟨(some 12),.load false 1 (.t 2),none⟩, ⟨(some 4),.mv (.t 12),none⟩]
def c111(b:Nat):AX:=.seq (.reg false (WZ b) []) (.seq (.seq (.reg false (Xa b) []) (.block 0 (.rfunc (.t 6) [7] (.reg false (NZ b) []) (Rg b)))) (.seq (.reg false (Xb b) []) (.ret)))
def Ri:List ARes:=[.t 4]
theorem jzjh:∃c,Tryz.f111.body=some c/\∀b,AA Tryz.prog c (c111 b)=true:=⟨_,rfl,fun b=>by kernel_rfl⟩
theorem jzje:Dm Tryz.prog Tryz.f111.results.toList Ri=true:=by kernel_rfl
def WH(b:Nat):List As:=[ ⟨(some 5),.mv (.c (.nils)),none⟩]
def WI(b:Nat):List As:=[ ⟨(some 8),.mv (.t 1),none⟩, ⟨(some 9),.len false (.t 8),none⟩, ⟨(some 10),.bin .eql false (.t 9) (.c (.int .i64 0)),none⟩]
def WJ(b:Nat):List As:=[ ⟨(some 11),.mv (.t 0),none⟩, ⟨(some 5),.mv (.t 11),none⟩]
def WK(b:Nat):List As:=[ ⟨(some 13),.mv (.t 0),none⟩, ⟨(some 14),.mv (.t 1),none⟩, ⟨(some 15),.callf 117 [.t 13,.t 14],none⟩, ⟨(some 12),.mv (.t 15),none⟩, ⟨(some 16),.extract 0 (.t 12),none⟩, ⟨(some 17),.extract 1 (.t 12),none⟩, ⟨(some 6),.mv (.t 16),none⟩, ⟨(some 7),.mv (.t 17),none⟩]
def WL(b:Nat):List As:=[ ⟨(some 18),.load false 1 (.t 2),none⟩, ⟨(some 19),.mv (.t 1),none⟩, ⟨(some 20),.mv (.t 7),none⟩, ⟨(some 21),.callv (.t 18) [.t 19,.t 20],none⟩, ⟨(some 5),.mv (.t 21),none⟩]
def c116(b:Nat):AX:=.seq (.reg false (WH b) []) (.seq (.seq (.reg false (WI b) []) (.cond (.t 10) (.seq (.reg false (WJ b) []) (.ret)) (.skip))) (.seq (.reg false (WK b) []) (.seq (.reg false (WL b) []) (.ret))))
def Me:List ARes:=[.t 5]
theorem wzf8:∃c,Tryz.f116.body=some c/\∀b,AA Tryz.prog c (c116 b)=true:=⟨_,rfl,fun b=>by kernel_rfl⟩
theorem wzfv:Dm Tryz.prog Tryz.f116.results.toList Me=true:=by kernel_rfl
def WF(b:Nat):List As:=[ ⟨(some 2),.mv (.c (.nils)),none⟩]
def Rd(b:Nat):List As:=[ ⟨(some 3),.mv (.t 0),none⟩, ⟨(some 4),.isnil false (.t 3),none⟩]
def jzh9(b:Nat):List As:=[ ⟨(some 2),.mv (.c (.nils)),none⟩]
def Re(b:Nat):List As:=[ ⟨(some 5),.bslice (b+0) 1 0 [] [],none⟩, ⟨(some 6),.mv (.t 0),none⟩, ⟨(some 7),.append (b+0) 1 4 (.t 5) (.t 6),none⟩, ⟨(some 2),.mv (.t 7),none⟩]
def c161(b:Nat):AX:=.seq (.reg false (WF b) []) (.seq (.seq (.reg false (Rd b) []) (.cond (.t 4) (.seq (.reg false (jzh9 b) []) (.ret)) (.skip))) (.seq (.reg false (Re b) []) (.ret)))
def Md:List ARes:=[.t 2]
theorem jzkr:∃c,Tryz.f161.body=some c/\∀b,AA Tryz.prog c (c161 b)=true:=⟨_,rfl,fun b=>by kernel_rfl⟩
theorem jzjz:Dm Tryz.prog Tryz.f161.results.toList Md=true:=by kernel_rfl
def Xp(b:Nat):List As:=[ ⟨(some 5),.mv (.t 0),none⟩, ⟨(some 6),.len false (.t 5),none⟩, ⟨(some 4),.mv (.t 6),none⟩]
def Xq(b:Nat):List As:=[ ⟨(some 7),.mv (.t 0),none⟩, ⟨(some 8),.mv (.t 4),none⟩, ⟨(some 9),.mv (.t 4),none⟩, ⟨(some 10),.conv .u64 (.t 9),none⟩, ⟨(some 11),.callf 113 [.t 10],none⟩, ⟨(some 12),.mv (.t 1),none⟩, ⟨(some 13),.callf 112 [.t 7,.c (.int .i64 0),.t 8,.t 11,.t 12],none⟩]
def c85(b:Nat):AX:=.seq (.reg false (Xp b) []) (.reg false (Xq b) [])
def rs85:List ARes:=[]
theorem ck85:∃c,Tryz.f85.body=some c/\∀b,AA Tryz.prog c (c85 b)=true:=⟨_,rfl,fun b=>by kernel_rfl⟩
theorem cr85:Dm Tryz.prog Tryz.f85.results.toList rs85=true:=by kernel_rfl
def Xi(b:Nat):List As:=[ ⟨(some 10),.mv (.c (.bool true)),none⟩]
def Xj(b:Nat):List As:=[ ⟨(some 11),.mv (.c (.bool true)),none⟩]
def Xk(b:Nat):List As:=[ ⟨(some 21),.mv (.t 2),none⟩, ⟨(some 22),.mv (.t 1),none⟩, ⟨(some 23),.bin .sub false (.t 21) (.t 22),none⟩, ⟨(some 12),.mv (.t 23),none⟩]
def Xl(b:Nat):List As:=[ ⟨(some 24),.mv (.t 12),none⟩, ⟨(some 25),.bin .leq false (.t 24) (.c (.int .i64 12)),none⟩]
def Xm(b:Nat):List As:=[ ⟨(some 26),.mv (.t 0),none⟩, ⟨(some 27),.mv (.t 1),none⟩, ⟨(some 28),.mv (.t 2),none⟩, ⟨(some 29),.mv (.t 4),none⟩, ⟨(some 30),.callf 147 [.t 26,.t 27,.t 28,.t 29],none⟩]
def qzxq(b:Nat):List As:=[ ⟨(some 31),.mv (.t 3),none⟩, ⟨(some 32),.bin .eql false (.t 31) (.c (.int .i64 0)),none⟩]
def qz0y(b:Nat):List As:=[ ⟨(some 33),.mv (.t 0),none⟩, ⟨(some 34),.mv (.t 1),none⟩, ⟨(some 35),.mv (.t 2),none⟩, ⟨(some 36),.mv (.t 4),none⟩, ⟨(some 37),.callf 148 [.t 33,.t 34,.t 35,.t 36],none⟩]
def qz13(b:Nat):List As:=[ ⟨(some 38),.mv (.t 10),none⟩, ⟨(some 39),.not (.t 38),none⟩]
def qzxm(b:Nat):List As:=[ ⟨(some 40),.mv (.t 0),none⟩, ⟨(some 41),.mv (.t 1),none⟩, ⟨(some 42),.mv (.t 2),none⟩, ⟨(some 43),.mv (.t 4),none⟩, ⟨(some 44),.callf 149 [.t 40,.t 41,.t 42,.t 43],none⟩]
def qz1b(b:Nat):List As:=[ ⟨(some 45),.mv (.t 3),none⟩, ⟨(some 46),.bin .sub false (.t 45) (.c (.int .i64 1)),none⟩, ⟨(some 3),.mv (.t 46),none⟩]
def qzv6(b:Nat):List As:=[ ⟨(some 48),.mv (.t 0),none⟩, ⟨(some 49),.mv (.t 1),none⟩, ⟨(some 50),.mv (.t 2),none⟩, ⟨(some 51),.mv (.t 4),none⟩, ⟨(some 52),.callf 150 [.t 48,.t 49,.t 50,.t 51],none⟩, ⟨(some 47),.mv (.t 52),none⟩, ⟨(some 53),.extract 0 (.t 47),none⟩, ⟨(some 54),.extract 1 (.t 47),none⟩, ⟨(some 13),.mv (.t 53),none⟩, ⟨(some 14),.mv (.t 54),none⟩]
def jzhm(b:Nat):List As:=[ ⟨(some 55),.mv (.t 14),none⟩, ⟨(some 56),.bin .eql false (.t 55) (.c (.int .i64 2)),none⟩]
def jzhj(b:Nat):List As:=[ ⟨(some 57),.mv (.t 0),none⟩, ⟨(some 58),.mv (.t 1),none⟩, ⟨(some 59),.mv (.t 2),none⟩, ⟨(some 60),.mv (.t 4),none⟩, ⟨(some 61),.callf 151 [.t 57,.t 58,.t 59,.t 60],none⟩]
def jzgw(b:Nat):List As:=[ ⟨(some 62),.mv (.t 2),none⟩, ⟨(some 63),.bin .sub false (.t 62) (.c (.int .i64 1)),none⟩, ⟨(some 64),.mv (.t 13),none⟩, ⟨(some 65),.mv (.t 1),none⟩, ⟨(some 66),.bin .sub false (.t 64) (.t 65),none⟩, ⟨(some 67),.bin .sub false (.t 63) (.t 66),none⟩, ⟨(some 13),.mv (.t 67),none⟩]
def jzgk(b:Nat):List As:=[ ⟨(some 14),.mv (.c (.int .i64 1)),none⟩]
def jzf7(b:Nat):List As:=[ ⟨(some 68),.mv (.t 10),none⟩, ⟨(some 69),.mv (.t 68),none⟩, ⟨(some 70),.mv (.t 11),(some (69,true))⟩, ⟨(some 71),.pick (.t 69) (.t 70) (.c (.bool false)),none⟩, ⟨(some 72),.mv (.t 71),none⟩, ⟨(some 73),.mv (.t 14),(some (72,true))⟩, ⟨(some 74),.bin .eql false (.t 73) (.c (.int .i64 1)),(some (72,true))⟩, ⟨(some 75),.pick (.t 72) (.t 74) (.c (.bool false)),none⟩]
def jzgo(b:Nat):List As:=[ ⟨(some 76),.mv (.t 0),none⟩, ⟨(some 77),.mv (.t 1),none⟩, ⟨(some 78),.mv (.t 2),none⟩, ⟨(some 79),.mv (.t 4),none⟩, ⟨(some 80),.callf 152 [.t 76,.t 77,.t 78,.t 79],none⟩]
def jzhe(b:Nat):List As:=[ ⟨(some 81),.mv (.t 1),none⟩, ⟨(some 82),.bin .gtr false (.t 81) (.c (.int .i64 0)),none⟩, ⟨(some 83),.mv (.t 82),none⟩, ⟨(some 84),.mv (.t 4),(some (83,true))⟩, ⟨(some 85),.mv (.t 0),(some (83,true))⟩, ⟨(some 86),.mv (.t 1),(some (83,true))⟩, ⟨(some 87),.bin .sub false (.t 86) (.c (.int .i64 1)),(some (83,true))⟩, ⟨(some 88),.iaddrS 3 (.t 85) (.t 87),(some (83,true))⟩, ⟨(some 89),.load true 3 (.t 88),(some (83,true))⟩, ⟨(some 90),.mv (.t 0),(some (83,true))⟩, ⟨(some 91),.mv (.t 13),(some (83,true))⟩, ⟨(some 92),.iaddrS 3 (.t 90) (.t 91),(some (83,true))⟩, ⟨(some 93),.load true 3 (.t 92),(some (83,true))⟩, ⟨(some 94),.callv (.t 84) [.t 89,.t 93],(some (83,true))⟩, ⟨(some 95),.bin .lss false (.t 94) (.c (.int .i64 0)),(some (83,true))⟩, ⟨(some 96),.not (.t 95),(some (83,true))⟩, ⟨(some 97),.pick (.t 83) (.t 96) (.c (.bool false)),none⟩]
def jzed:List (List Nat):=[[],[0],[0,1],[0,1,2],[0,1,2],[0,1,2],[0,1,2,5],[0,1,2,4,5,6],[0,1,2,4,5,6,7],[0,1,2],[0,1,2],[0,1,2,9,10],[0,1,2,9,10,11],[0,1,2,3,4,5,6,7,8,9,10,11,12],[0,1,2,3,4,5,6,7,8,9,10,11,12,13],[0,1,2,3,4,5,6,7,8,9,10,11,12,13,14],[0,1,2,3,4,5,6,7,8,9,10,11,12,13,14,15]]
def jzgj(b:Nat):List As:=[ ⟨(some 98),.mv (.t 0),none⟩, ⟨(some 99),.mv (.t 1),none⟩, ⟨(some 100),.mv (.t 2),none⟩, ⟨(some 101),.mv (.t 13),none⟩, ⟨(some 102),.mv (.t 4),none⟩, ⟨(some 103),.callf 153 [.t 98,.t 99,.t 100,.t 101,.t 102],none⟩, ⟨(some 15),.mv (.t 103),none⟩]
def jzga(b:Nat):List As:=[ ⟨(some 104),.mv (.t 15),none⟩, ⟨(some 1),.mv (.t 104),none⟩]
def jzgc(b:Nat):List As:=[ ⟨(some 106),.mv (.t 0),none⟩, ⟨(some 107),.mv (.t 1),none⟩, ⟨(some 108),.mv (.t 2),none⟩, ⟨(some 109),.mv (.t 13),none⟩, ⟨(some 110),.mv (.t 4),none⟩, ⟨(some 111),.callf 154 [.t 106,.t 107,.t 108,.t 109,.t 110],none⟩, ⟨(some 105),.mv (.t 111),none⟩, ⟨(some 112),.extract 0 (.t 105),none⟩, ⟨(some 113),.extract 1 (.t 105),none⟩, ⟨(some 16),.mv (.t 112),none⟩, ⟨(some 17),.mv (.t 113),none⟩]
def jzg8(b:Nat):List As:=[ ⟨(some 114),.mv (.t 17),none⟩, ⟨(some 11),.mv (.t 114),none⟩]
def jzgt(b:Nat):List As:=[ ⟨(some 115),.mv (.t 16),none⟩, ⟨(some 116),.mv (.t 1),none⟩, ⟨(some 117),.bin .sub false (.t 115) (.t 116),none⟩, ⟨(some 118),.mv (.t 2),none⟩, ⟨(some 119),.mv (.t 16),none⟩, ⟨(some 120),.bin .sub false (.t 118) (.t 119),none⟩, ⟨(some 18),.mv (.t 117),none⟩, ⟨(some 19),.mv (.t 120),none⟩]
def jzhb(b:Nat):List As:=[ ⟨(some 121),.mv (.t 12),none⟩, ⟨(some 122),.bin .quo false (.t 121) (.c (.int .i64 8)),none⟩, ⟨(some 20),.mv (.t 122),none⟩]
def jzgx(b:Nat):List As:=[ ⟨(some 123),.mv (.t 18),none⟩, ⟨(some 124),.mv (.t 19),none⟩, ⟨(some 125),.bin .lss false (.t 123) (.t 124),none⟩]
def jzg7(b:Nat):List As:=[ ⟨(some 126),.mv (.t 18),none⟩, ⟨(some 127),.mv (.t 20),none⟩, ⟨(some 128),.bin .geq false (.t 126) (.t 127),none⟩, ⟨(some 10),.mv (.t 128),none⟩]
def jzhf(b:Nat):List As:=[ ⟨(some 129),.mv (.t 0),none⟩, ⟨(some 130),.mv (.t 1),none⟩, ⟨(some 131),.mv (.t 16),none⟩, ⟨(some 132),.mv (.t 3),none⟩, ⟨(some 133),.mv (.t 4),none⟩, ⟨(some 134),.callf 112 [.t 129,.t 130,.t 131,.t 132,.t 133],none⟩]
def jzhh(b:Nat):List As:=[ ⟨(some 135),.mv (.t 16),none⟩, ⟨(some 136),.bin .add false (.t 135) (.c (.int .i64 1)),none⟩, ⟨(some 1),.mv (.t 136),none⟩]
def jzhi(b:Nat):List As:=[ ⟨(some 137),.mv (.t 19),none⟩, ⟨(some 138),.mv (.t 20),none⟩, ⟨(some 139),.bin .geq false (.t 137) (.t 138),none⟩, ⟨(some 10),.mv (.t 139),none⟩]
def jzgg(b:Nat):List As:=[ ⟨(some 140),.mv (.t 0),none⟩, ⟨(some 141),.mv (.t 16),none⟩, ⟨(some 142),.bin .add false (.t 141) (.c (.int .i64 1)),none⟩, ⟨(some 143),.mv (.t 2),none⟩, ⟨(some 144),.mv (.t 3),none⟩, ⟨(some 145),.mv (.t 4),none⟩, ⟨(some 146),.callf 112 [.t 140,.t 142,.t 143,.t 144,.t 145],none⟩]
def jzgs(b:Nat):List As:=[ ⟨(some 147),.mv (.t 16),none⟩, ⟨(some 2),.mv (.t 147),none⟩]
def qz2l(b:Nat):AX:=.block 1 (.seq (.reg false (Xk b) []) (.seq (.seq (.reg false (Xl b) []) (.cond (.t 25) (.seq (.reg false (Xm b) []) (.ret)) (.skip))) (.seq (.seq (.reg false (qzxq b) []) (.cond (.t 32) (.seq (.reg false (qz0y b) []) (.ret)) (.skip))) (.seq (.seq (.reg false (qz13 b) []) (.cond (.t 39) (.seq (.reg false (qzxm b) []) (.reg false (qz1b b) [])) (.skip))) (.seq (.reg false (qzv6 b) []) (.seq (.seq (.reg false (jzhm b) []) (.cond (.t 56) (.seq (.reg false (jzhj b) []) (.seq (.reg false (jzgw b) []) (.reg false (jzgk b) []))) (.skip))) (.seq (.seq (.reg false (jzf7 b) []) (.cond (.t 75) (.seq (.reg false (jzgo b) []) (.cond (.t 80) (.ret) (.skip))) (.skip))) (.seq (.seq (.reg true (jzhe b) jzed) (.cond (.t 97) (.seq (.reg false (jzgj b) []) (.seq (.reg false (jzga b) []) (.exit 1))) (.skip))) (.seq (.reg false (jzgc b) []) (.seq (.reg false (jzg8 b) []) (.seq (.reg false (jzgt b) []) (.seq (.reg false (jzhb b) []) (.seq (.reg false (jzgx b) []) (.cond (.t 125) (.seq (.reg false (jzg7 b) []) (.seq (.reg false (jzhf b) []) (.reg false (jzhh b) []))) (.seq (.reg false (jzhi b) []) (.seq (.reg false (jzgg b) []) (.reg false (jzgs b) [])))))))))))))))))
def c112(b:Nat):AX:=.seq (.reg false (Xi b) []) (.seq (.reg false (Xj b) []) (.block 0 (.loop (qz2l b))))
def Xo:List ARes:=[]
theorem wzgi:∃c,Tryz.f112.body=some c/\∀b,AA Tryz.prog c (c112 b)=true:=⟨_,rfl,fun b=>by kernel_rfl⟩
theorem wzgb:Dm Tryz.prog Tryz.f112.results.toList Xo=true:=by kernel_rfl
def Xf(b:Nat):List As:=[ ⟨(some 10),.mv (.t 1),none⟩, ⟨(some 11),.bin .add false (.t 10) (.c (.int .i64 1)),none⟩, ⟨(some 8),.mv (.t 11),none⟩]
def Xg(b:Nat):List As:=[ ⟨(some 12),.mv (.t 8),none⟩, ⟨(some 13),.mv (.t 2),none⟩, ⟨(some 14),.bin .lss false (.t 12) (.t 13),none⟩]
def jzia(b:Nat):List As:=[ ⟨(some 17),.mv (.t 8),none⟩, ⟨(some 9),.mv (.t 17),none⟩]
def jzh2(b:Nat):List As:=[ ⟨(some 18),.mv (.t 9),none⟩, ⟨(some 19),.mv (.t 1),none⟩, ⟨(some 20),.bin .gtr false (.t 18) (.t 19),none⟩, ⟨(some 21),.mv (.t 20),none⟩, ⟨(some 22),.mv (.t 3),(some (21,true))⟩, ⟨(some 23),.mv (.t 0),(some (21,true))⟩, ⟨(some 24),.mv (.t 9),(some (21,true))⟩, ⟨(some 25),.iaddrS 3 (.t 23) (.t 24),(some (21,true))⟩, ⟨(some 26),.load true 3 (.t 25),(some (21,true))⟩, ⟨(some 27),.mv (.t 0),(some (21,true))⟩, ⟨(some 28),.mv (.t 9),(some (21,true))⟩, ⟨(some 29),.bin .sub false (.t 28) (.c (.int .i64 1)),(some (21,true))⟩, ⟨(some 30),.iaddrS 3 (.t 27) (.t 29),(some (21,true))⟩, ⟨(some 31),.load true 3 (.t 30),(some (21,true))⟩, ⟨(some 32),.callv (.t 22) [.t 26,.t 31],(some (21,true))⟩, ⟨(some 33),.bin .lss false (.t 32) (.c (.int .i64 0)),(some (21,true))⟩, ⟨(some 34),.pick (.t 21) (.t 33) (.c (.bool false)),none⟩]
def jzgp:List (List Nat):=[[],[],[0,1],[0,1,2],[0,1,2,3],[0,1,2,3],[0,1,2,3],[0,1,2,3,5,6],[0,1,2,3,5,6,7],[0,1,2,3],[0,1,2,3],[0,1,2,3,10],[0,1,2,3,9,10,11],[0,1,2,3,9,10,11,12],[0,1,2,3,4,5,6,7,8,9,10,11,12,13],[0,1,2,3,4,5,6,7,8,9,10,11,12,13,14],[0,1,2,3,4,5,6,7,8,9,10,11,12,13,14,15]]
def jzhx(b:Nat):List As:=[ ⟨(some 37),.mv (.t 0),none⟩, ⟨(some 38),.mv (.t 9),none⟩, ⟨(some 39),.mv (.t 0),none⟩, ⟨(some 40),.mv (.t 9),none⟩, ⟨(some 41),.bin .sub false (.t 40) (.c (.int .i64 1)),none⟩, ⟨(some 42),.mv (.t 0),none⟩, ⟨(some 43),.mv (.t 9),none⟩, ⟨(some 44),.bin .sub false (.t 43) (.c (.int .i64 1)),none⟩, ⟨(some 45),.iaddrS 3 (.t 42) (.t 44),none⟩, ⟨(some 46),.load true 3 (.t 45),none⟩, ⟨(some 47),.mv (.t 0),none⟩, ⟨(some 48),.mv (.t 9),none⟩, ⟨(some 49),.iaddrS 3 (.t 47) (.t 48),none⟩, ⟨(some 50),.load true 3 (.t 49),none⟩, ⟨(some 51),.iaddrS 3 (.t 37) (.t 38),none⟩, ⟨none,.store 3 (.t 51) (.t 46),none⟩, ⟨(some 52),.iaddrS 3 (.t 39) (.t 41),none⟩, ⟨none,.store 3 (.t 52) (.t 50),none⟩]
def jzgr:List (List Nat):=[[],[],[],[],[3],[],[],[6],[5,6,7],[5,6,7,8],[],[],[10,11],[10,11,12],[0,1,5,6,7,8,9,10,11,12,13],[0,1,5,6,7,8,9,10,11,12,13,14],[0,1,2,3,4,5,6,7,8,9,10,11,12,13,14,15],[0,1,2,3,4,5,6,7,8,9,10,11,12,13,14,15,16]]
def jzhr(b:Nat):List As:=[ ⟨(some 35),.mv (.t 9),none⟩, ⟨(some 36),.bin .sub false (.t 35) (.c (.int .i64 1)),none⟩, ⟨(some 9),.mv (.t 36),none⟩]
def jzh3(b:Nat):AX:=.seq (.seq (.reg true (jzh2 b) jzgp) (.cond (.t 34) (.skip) (.exit 2))) (.seq (.block 3 (.reg true (jzhx b) jzgr)) (.reg false (jzhr b) []))
def jzh4(b:Nat):List As:=[ ⟨(some 15),.mv (.t 8),none⟩, ⟨(some 16),.bin .add false (.t 15) (.c (.int .i64 1)),none⟩, ⟨(some 8),.mv (.t 16),none⟩]
def jzhw(b:Nat):AX:=.seq (.seq (.reg false (Xg b) []) (.cond (.t 14) (.skip) (.exit 0))) (.seq (.block 1 (.seq (.reg false (jzia b) []) (.block 2 (.loop (jzh3 b))))) (.reg false (jzh4 b) []))
def c147(b:Nat):AX:=.seq (.reg false (Xf b) []) (.block 0 (.loop (jzhw b)))
def Xh:List ARes:=[]
theorem jzk8:∃c,Tryz.f147.body=some c/\∀b,AA Tryz.prog c (c147 b)=true:=⟨_,rfl,fun b=>by kernel_rfl⟩
theorem jzkt:Dm Tryz.prog Tryz.f147.results.toList Xh=true:=by kernel_rfl
def XU(b:Nat):List As:=[ ⟨(some 2),.box (b+0) (.t 0),none⟩, ⟨(some 4),.alloc (b+1) [.bool false,.str [],.str []],none⟩, ⟨(some 5),.mv (.c (.int .i64 0)),none⟩]
def XV(b:Nat):List As:=[ ⟨(some 17),.mv (.t 1),none⟩, ⟨(some 18),.callf 64 [.t 17],none⟩, ⟨(some 6),.mv (.t 18),none⟩]
def XW(b:Nat):List As:=[ ⟨(some 19),.mv (.t 6),none⟩, ⟨(some 20),.bin .neq false (.t 19) (.c (.int .i64 0)),none⟩]
def XX(b:Nat):List As:=[ ⟨(some 21),.build [.bool false,.str [],.str []] [],none⟩, ⟨(some 22),.mv (.t 6),none⟩, ⟨none,.store 3 (.t 4) (.t 21),none⟩, ⟨(some 5),.mv (.t 22),none⟩]
def XY(b:Nat):List As:=[ ⟨(some 24),.load true 2 (.t 2),none⟩, ⟨(some 25),.callf 70 [.t 24],none⟩, ⟨(some 23),.mv (.t 25),none⟩, ⟨(some 26),.extract 0 (.t 23),none⟩, ⟨(some 27),.extract 1 (.t 23),none⟩, ⟨(some 7),.mv (.t 26),none⟩, ⟨(some 8),.mv (.t 27),none⟩]
def XZ(b:Nat):List As:=[ ⟨(some 28),.mv (.t 8),none⟩, ⟨(some 29),.bin .neq false (.t 28) (.c (.int .i64 0)),none⟩]
def Ya(b:Nat):List As:=[ ⟨(some 30),.build [.bool false,.str [],.str []] [],none⟩, ⟨none,.store 3 (.t 4) (.t 30),none⟩, ⟨(some 5),.mv (.c (.int .i64 1)),none⟩]
def Yb(b:Nat):List As:=[ ⟨(some 31),.mv (.t 1),none⟩, ⟨(some 32),.callf 71 [.t 31],none⟩, ⟨(some 9),.mv (.t 32),none⟩]
def Yc(b:Nat):List As:=[ ⟨(some 33),.mv (.t 1),none⟩, ⟨(some 34),.len false (.t 33),none⟩, ⟨(some 35),.mv (.c (.int .i64 0)),none⟩]
def Yd(b:Nat):List As:=[ ⟨(some 36),.bin .lss false (.t 35) (.t 34),none⟩]
def Yf(b:Nat):List As:=[ ⟨(some 37),.mv (.t 35),none⟩, ⟨(some 38),.iaddrS 7 (.t 33) (.t 35),none⟩, ⟨(some 39),.load true 7 (.t 38),none⟩, ⟨(some 11),.alloc (b+2) [.int .i64 0,.int .i64 0,.bool false,.str [],.str [],.int .i64 0,.nils],none⟩, ⟨(some 10),.mv (.t 37),none⟩, ⟨none,.store 7 (.t 11) (.t 39),none⟩]
def Yg(b:Nat):List As:=[ ⟨(some 40),.faddr 0 (.t 11),none⟩, ⟨(some 41),.load false 1 (.t 40),none⟩, ⟨(some 42),.faddr 0 (.t 2),none⟩, ⟨(some 43),.load false 1 (.t 42),none⟩, ⟨(some 44),.bin .lss false (.t 41) (.t 43),none⟩, ⟨(some 45),.mv (.t 44),none⟩, ⟨(some 46),.faddr 1 (.t 11),(some (45,false))⟩, ⟨(some 47),.load false 1 (.t 46),(some (45,false))⟩, ⟨(some 48),.faddr 0 (.t 2),(some (45,false))⟩, ⟨(some 49),.load false 1 (.t 48),(some (45,false))⟩, ⟨(some 50),.faddr 1 (.t 2),(some (45,false))⟩, ⟨(some 51),.load false 1 (.t 50),(some (45,false))⟩, ⟨(some 52),.len false (.t 51),(some (45,false))⟩, ⟨(some 53),.bin .add false (.t 49) (.t 52),(some (45,false))⟩, ⟨(some 54),.bin .gtr false (.t 47) (.t 53),(some (45,false))⟩, ⟨(some 55),.pick (.t 45) (.c (.bool true)) (.t 54),none⟩]
def Yh(b:Nat):List As:=[ ⟨(some 56),.build [.bool false,.str [],.str []] [],none⟩, ⟨none,.store 3 (.t 4) (.t 56),none⟩, ⟨(some 5),.mv (.c (.int .i64 19)),none⟩]
def Yi(b:Nat):List As:=[ ⟨(some 57),.mkmap (b+3),none⟩, ⟨(some 12),.mv (.t 57),none⟩]
def Yj(b:Nat):List As:=[ ⟨(some 58),.faddr 1 (.t 2),none⟩, ⟨(some 59),.load false 1 (.t 58),none⟩, ⟨(some 60),.faddr 0 (.t 11),none⟩, ⟨(some 61),.load false 1 (.t 60),none⟩, ⟨(some 62),.faddr 0 (.t 2),none⟩, ⟨(some 63),.load false 1 (.t 62),none⟩, ⟨(some 64),.bin .sub false (.t 61) (.t 63),none⟩, ⟨(some 65),.faddr 1 (.t 11),none⟩, ⟨(some 66),.load false 1 (.t 65),none⟩, ⟨(some 67),.faddr 0 (.t 2),none⟩, ⟨(some 68),.load false 1 (.t 67),none⟩, ⟨(some 69),.bin .sub false (.t 66) (.t 68),none⟩, ⟨(some 70),.slice false 1 (.t 59) (some (.t 64)) (some (.t 69)),none⟩, ⟨(some 71),.len false (.t 70),none⟩, ⟨(some 72),.mv (.c (.int .i64 0)),none⟩]
def Yk(b:Nat):List As:=[ ⟨(some 73),.bin .lss false (.t 72) (.t 71),none⟩]
def Yl(b:Nat):List As:=[ ⟨(some 74),.iaddrS 1 (.t 70) (.t 72),none⟩, ⟨(some 75),.load false 1 (.t 74),none⟩, ⟨(some 14),.mv (.t 75),none⟩]
def Ym(b:Nat):List As:=[ ⟨(some 76),.mv (.t 12),none⟩, ⟨(some 77),.mv (.t 14),none⟩, ⟨(some 78),.mlook 1 false (.int .i64 0) (.t 76) (.t 77),none⟩, ⟨(some 79),.bin .add false (.t 78) (.c (.int .i64 1)),none⟩, ⟨none,.mupd 1 (.t 76) (.t 77) (.t 79),none⟩]
def Yn(b:Nat):List As:=[ ⟨(some 80),.bin .add false (.t 72) (.c (.int .i64 1)),none⟩, ⟨(some 72),.mv (.t 80),none⟩]
def kz09(b:Nat):AX:=.seq (.reg false (Yk b) []) (.seq (.cond (.t 73) (.skip) (.exit 2)) (.seq (.block 3 (.seq (.reg false (Yl b) []) (.reg false (Ym b) []))) (.reg false (Yn b) [])))
def Yo(b:Nat):List As:=[ ⟨(some 81),.mv (.t 12),none⟩, ⟨(some 82),.mrange (b+4) (.t 81),none⟩]
def Yp(b:Nat):List As:=[ ⟨(some 83),.mnext (.t 82),none⟩, ⟨(some 84),.extract 0 (.t 83),none⟩]
def Yq(b:Nat):List As:=[ ⟨(some 85),.mentry (.t 82),none⟩, ⟨(some 86),.extract 0 (.t 85),none⟩, ⟨(some 87),.extract 1 (.t 85),none⟩, ⟨(some 15),.mv (.t 86),none⟩, ⟨(some 16),.mv (.t 87),none⟩]
def Yr(b:Nat):List As:=[ ⟨(some 88),.mv (.t 9),none⟩, ⟨(some 89),.mv (.t 16),none⟩, ⟨(some 90),.mv (.t 10),none⟩, ⟨(some 91),.mv (.t 15),none⟩, ⟨(some 92),.callf 72 [.t 88,.t 89,.t 90,.t 91],none⟩]
def kz06(b:Nat):AX:=.seq (.reg false (Yp b) []) (.seq (.cond (.t 84) (.skip) (.exit 4)) (.block 5 (.seq (.reg false (Yq b) []) (.reg false (Yr b) []))))
def Ys(b:Nat):List As:=[ ⟨(some 93),.bin .add false (.t 35) (.c (.int .i64 1)),none⟩, ⟨(some 35),.mv (.t 93),none⟩]
def kz1a(b:Nat):AX:=.seq (.reg false (Yd b) []) (.seq (.cond (.t 36) (.skip) (.exit 0)) (.seq (.block 1 (.seq (.reg false (Yf b) []) (.seq (.seq (.reg false (Yg b) []) (.cond (.t 55) (.seq (.reg false (Yh b) []) (.ret)) (.skip))) (.seq (.reg false (Yi b) []) (.seq (.seq (.reg false (Yj b) []) (.block 2 (.loop (kz09 b)))) (.seq (.reg false (Yo b) []) (.block 4 (.loop (kz06 b))))))))) (.reg false (Ys b) [])))
def Ye(b:Nat):List As:=[ ⟨(some 94),.mv (.t 9),none⟩, ⟨(some 95),.nilck (.t 94),none⟩, ⟨(some 96),.faddr 2 (.t 95),none⟩, ⟨(some 97),.load true 3 (.t 96),none⟩, ⟨none,.store 3 (.t 4) (.t 97),none⟩, ⟨(some 5),.mv (.c (.int .i64 0)),none⟩]
def c39(b:Nat):AX:=.seq (.reg false (XU b) []) (.seq (.seq (.reg false (XV b) []) (.seq (.reg false (XW b) []) (.cond (.t 20) (.seq (.reg false (XX b) []) (.ret)) (.skip)))) (.seq (.seq (.reg false (XY b) []) (.seq (.reg false (XZ b) []) (.cond (.t 29) (.seq (.reg false (Ya b) []) (.ret)) (.skip)))) (.seq (.reg false (Yb b) []) (.seq (.seq (.reg false (Yc b) []) (.block 0 (.loop (kz1a b)))) (.seq (.reg false (Ye b) []) (.ret))))))
def rs39:List ARes:=[.c 4 true 3,.t 5]
theorem ck39:∃c,Tryz.f39.body=some c/\∀b,AA Tryz.prog c (c39 b)=true:=⟨_,rfl,fun b=>by kernel_rfl⟩
theorem cr39:Dm Tryz.prog Tryz.f39.results.toList rs39=true:=by kernel_rfl
def Xz(b:Nat):List As:=[ ⟨(some 1),.box (b+0) (.t 0),none⟩, ⟨(some 2),.mv (.c (.nils)),none⟩, ⟨(some 3),.mv (.c (.int .i64 0)),none⟩]
def X0(b:Nat):List As:=[ ⟨(some 10),.load true 2 (.t 1),none⟩, ⟨(some 11),.callf 96 [.t 10],none⟩, ⟨(some 12),.not (.t 11),none⟩]
def X2(b:Nat):List As:=[ ⟨(some 2),.mv (.c (.nils)),none⟩, ⟨(some 3),.mv (.c (.int .i64 1)),none⟩]
def X3(b:Nat):List As:=[ ⟨(some 4),.mv (.c (.nils)),none⟩]
def X4(b:Nat):List As:=[ ⟨(some 13),.faddr 1 (.t 1),none⟩, ⟨(some 14),.load false 1 (.t 13),none⟩, ⟨(some 15),.len false (.t 14),none⟩, ⟨(some 16),.mv (.c (.int .i64 0)),none⟩]
def X5(b:Nat):List As:=[ ⟨(some 17),.bin .lss false (.t 16) (.t 15),none⟩]
def X6(b:Nat):List As:=[ ⟨(some 18),.mv (.t 16),none⟩, ⟨(some 19),.iaddrS 1 (.t 14) (.t 16),none⟩, ⟨(some 20),.load false 1 (.t 19),none⟩, ⟨(some 5),.mv (.t 18),none⟩, ⟨(some 6),.mv (.t 20),none⟩]
def Ob(b:Nat):List As:=[ ⟨(some 21),.mv (.t 4),none⟩, ⟨(some 22),.faddr 0 (.t 1),none⟩, ⟨(some 23),.load false 1 (.t 22),none⟩, ⟨(some 24),.mv (.t 5),none⟩, ⟨(some 25),.bin .add false (.t 23) (.t 24),none⟩, ⟨(some 26),.faddr 0 (.t 1),none⟩, ⟨(some 27),.load false 1 (.t 26),none⟩, ⟨(some 28),.mv (.t 5),none⟩, ⟨(some 29),.bin .add false (.t 27) (.t 28),none⟩, ⟨(some 30),.bin .add false (.t 29) (.c (.int .i64 1)),none⟩, ⟨(some 31),.mv (.t 6),none⟩, ⟨(some 32),.callf 97 [.t 25,.t 30,.t 31],none⟩, ⟨(some 33),.bslice (b+1) 5 1 [.int .i64 0,.int .i64 0,.nils,.int .i64 0,.int .i64 0] [(0,5,.t 32)],none⟩, ⟨(some 34),.append (b+2) 5 56 (.t 21) (.t 33),none⟩, ⟨(some 4),.mv (.t 34),none⟩]
def X7(b:Nat):List As:=[ ⟨(some 35),.mv (.t 4),none⟩, ⟨(some 36),.len false (.t 35),none⟩, ⟨(some 7),.mv (.t 36),none⟩]
def X8(b:Nat):List As:=[ ⟨(some 37),.mv (.t 7),none⟩, ⟨(some 38),.bin .gtr false (.t 37) (.c (.int .i64 1)),none⟩]
def X9(b:Nat):List As:=[ ⟨(some 40),.mv (.t 4),none⟩, ⟨(some 41),.mv (.t 7),none⟩, ⟨(some 42),.bin .sub false (.t 41) (.c (.int .i64 2)),none⟩, ⟨(some 43),.iaddrS 5 (.t 40) (.t 42),none⟩, ⟨(some 44),.load true 5 (.t 43),none⟩, ⟨(some 45),.mv (.t 4),none⟩, ⟨(some 46),.mv (.t 7),none⟩, ⟨(some 47),.bin .sub false (.t 46) (.c (.int .i64 1)),none⟩, ⟨(some 48),.iaddrS 5 (.t 45) (.t 47),none⟩, ⟨(some 49),.load true 5 (.t 48),none⟩, ⟨(some 50),.callf 98 [.t 44,.t 49],none⟩, ⟨(some 39),.mv (.t 50),none⟩, ⟨(some 51),.extract 0 (.t 39),none⟩, ⟨(some 52),.extract 1 (.t 39),none⟩, ⟨(some 8),.alloc (b+3) [.int .i64 0,.int .i64 0,.nils,.int .i64 0,.int .i64 0],none⟩, ⟨none,.store 5 (.t 8) (.t 51),none⟩, ⟨(some 9),.mv (.t 52),none⟩]
def kz0e:List (List Nat):=[[],[],[1],[0,1,2],[0,1,2,3],[],[],[6],[5,6,7],[5,6,7,8],[0,1,2,3,4,5,6,7,8,9],[0,1,2,3,4,5,6,7,8,9,10],[0,1,2,3,4,5,6,7,8,9,10,11],[0,1,2,3,4,5,6,7,8,9,10,11],[],[0,1,2,3,4,5,6,7,8,9,10,11,12,14],[0,1,2,3,4,5,6,7,8,9,10,11,12,13,14,15]]
def XA(b:Nat):List As:=[ ⟨(some 53),.mv (.t 9),none⟩]
def XB(b:Nat):List As:=[ ⟨(some 54),.mv (.t 4),none⟩, ⟨(some 55),.mv (.t 7),none⟩, ⟨(some 56),.bin .sub false (.t 55) (.c (.int .i64 2)),none⟩, ⟨(some 57),.slice false 5 (.t 54) none (some (.t 56)),none⟩, ⟨(some 58),.load true 5 (.t 8),none⟩, ⟨(some 59),.bslice (b+4) 5 1 [.int .i64 0,.int .i64 0,.nils,.int .i64 0,.int .i64 0] [(0,5,.t 58)],none⟩, ⟨(some 60),.append (b+5) 5 56 (.t 57) (.t 59),none⟩, ⟨(some 4),.mv (.t 60),none⟩]
def kz0k:List (List Nat):=[[],[],[1],[0,1,2],[],[4],[0,1,2,3,4,5],[0,1,2,3,4,5,6]]
def Od(b:Nat):List As:=[ ⟨(some 61),.bin .add false (.t 16) (.c (.int .i64 1)),none⟩, ⟨(some 16),.mv (.t 61),none⟩]
def kz05(b:Nat):AX:=.seq (.reg false (X5 b) []) (.seq (.cond (.t 17) (.skip) (.exit 0)) (.seq (.block 1 (.seq (.reg false (X6 b) []) (.seq (.reg false (Ob b) []) (.seq (.reg false (X7 b) []) (.seq (.reg false (X8 b) []) (.cond (.t 38) (.seq (.reg true (X9 b) kz0e) (.seq (.reg false (XA b) []) (.cond (.t 53) (.reg true (XB b) kz0k) (.skip)))) (.skip))))))) (.reg false (Od b) [])))
def Rm(b:Nat):List As:=[ ⟨(some 62),.mv (.t 4),none⟩, ⟨(some 63),.len false (.t 62),none⟩, ⟨(some 64),.bin .gtr false (.t 63) (.c (.int .i64 2000)),none⟩]
def XC(b:Nat):List As:=[ ⟨(some 2),.mv (.c (.nils)),none⟩, ⟨(some 3),.mv (.c (.int .i64 2)),none⟩]
def Rn(b:Nat):List As:=[ ⟨(some 65),.mv (.t 4),none⟩, ⟨(some 2),.mv (.t 65),none⟩, ⟨(some 3),.mv (.c (.int .i64 0)),none⟩]
def c70(b:Nat):AX:=.seq (.reg false (Xz b) []) (.seq (.seq (.reg false (X0 b) []) (.cond (.t 12) (.seq (.reg false (X2 b) []) (.ret)) (.skip))) (.seq (.reg false (X3 b) []) (.seq (.seq (.reg false (X4 b) []) (.block 0 (.loop (kz05 b)))) (.seq (.seq (.reg false (Rm b) []) (.cond (.t 64) (.seq (.reg false (XC b) []) (.ret)) (.skip))) (.seq (.reg false (Rn b) []) (.ret))))))
def rs70:List ARes:=[.t 2,.t 3]
theorem ck70:∃c,Tryz.f70.body=some c/\∀b,AA Tryz.prog c (c70 b)=true:=⟨_,rfl,fun b=>by kernel_rfl⟩
theorem cr70:Dm Tryz.prog Tryz.f70.results.toList rs70=true:=by kernel_rfl
def XN(b:Nat):List As:=[ ⟨(some 2),.mv (.c (.nilp)),none⟩]
def XO(b:Nat):List As:=[ ⟨(some 3),.mv (.t 0),none⟩, ⟨(some 4),.mkmap (b+0),none⟩, ⟨(some 5),.build [.nils,.nilmp,.bool false,.str [],.str []] [(0,1,.t 3),(1,1,.t 4)],none⟩, ⟨(some 6),.box (b+1) (.t 5),none⟩, ⟨(some 2),.mv (.t 6),none⟩]
def c71(b:Nat):AX:=.seq (.reg false (XN b) []) (.seq (.reg false (XO b) []) (.ret))
def rs71:List ARes:=[.t 2]
theorem ck71:∃c,Tryz.f71.body=some c/\∀b,AA Tryz.prog c (c71 b)=true:=⟨_,rfl,fun b=>by kernel_rfl⟩
theorem cr71:Dm Tryz.prog Tryz.f71.results.toList rs71=true:=by kernel_rfl
def IV(b:Nat):List As:=[ ⟨(some 8),.mv (.t 0),none⟩, ⟨(some 9),.mv (.t 0),none⟩, ⟨(some 10),.nilck (.t 9),none⟩, ⟨(some 11),.faddr 2 (.t 10),none⟩, ⟨(some 12),.load true 3 (.t 11),none⟩, ⟨(some 13),.mv (.t 1),none⟩, ⟨(some 14),.callf 38 [.t 13],none⟩, ⟨(some 15),.mv (.t 0),none⟩, ⟨(some 16),.mv (.t 2),none⟩, ⟨(some 17),.mv (.t 3),none⟩, ⟨(some 18),.callf 99 [.t 15,.t 16,.t 17],none⟩, ⟨(some 19),.callf 40 [.t 14,.t 18],none⟩, ⟨(some 20),.callf 37 [.t 12,.t 19],none⟩, ⟨(some 21),.nilck (.t 8),none⟩, ⟨(some 22),.faddr 2 (.t 21),none⟩, ⟨none,.store 3 (.t 22) (.t 20),none⟩]
def kz0y:List (List Nat):=[[],[],[1],[1,2],[1,2,3],[],[5],[],[],[],[5,6,7,8,9],[5,6,7,8,9,10],[1,2,3,4,5,6,7,8,9,10,11],[0,1,2,3,4,5,6,7,8,9,10,11,12],[0,1,2,3,4,5,6,7,8,9,10,11,12,13],[0,1,2,3,4,5,6,7,8,9,10,11,12,13,14]]
def c72(b:Nat):AX:=.reg true (IV b) kz0y
def rs72:List ARes:=[]
theorem ck72:∃c,Tryz.f72.body=some c/\∀b,AA Tryz.prog c (c72 b)=true:=⟨_,rfl,fun b=>by kernel_rfl⟩
theorem cr72:Dm Tryz.prog Tryz.f72.results.toList rs72=true:=by kernel_rfl
def XF(b:Nat):List As:=[ ⟨(some 6),.alloc (b+0) [.bool false,.str [],.str []],none⟩]
def XG(b:Nat):List As:=[ ⟨(some 10),.mv (.t 1),none⟩, ⟨(some 11),.bin .lss false (.t 10) (.c (.int .i64 0)),none⟩]
def kz03(b:Nat):List As:=[ ⟨(some 12),.build [.bool false,.str [],.str []] [],none⟩, ⟨none,.store 3 (.t 6) (.t 12),none⟩]
def XH(b:Nat):List As:=[ ⟨(some 13),.mv (.t 1),none⟩, ⟨(some 14),.mv (.t 2),none⟩, ⟨(some 15),.build [.int .i64 0,.int .i64 0] [(0,1,.t 13),(1,1,.t 14)],none⟩, ⟨(some 7),.alloc (b+1) [.int .i64 0,.int .i64 0],none⟩, ⟨none,.store 2 (.t 7) (.t 15),none⟩]
def Ro(b:Nat):List As:=[ ⟨(some 17),.mv (.t 0),none⟩, ⟨(some 18),.nilck (.t 17),none⟩, ⟨(some 19),.faddr 1 (.t 18),none⟩, ⟨(some 20),.load false 1 (.t 19),none⟩, ⟨(some 21),.load true 2 (.t 7),none⟩, ⟨(some 22),.mlook 16 true (.agg [.bool false,.str [],.str []]) (.t 20) (.t 21),none⟩, ⟨(some 16),.mv (.t 22),none⟩, ⟨(some 23),.extract 0 (.t 16),none⟩, ⟨(some 24),.extract 1 (.t 16),none⟩, ⟨(some 8),.alloc (b+2) [.bool false,.str [],.str []],none⟩, ⟨none,.store 3 (.t 8) (.t 23),none⟩, ⟨(some 9),.mv (.t 24),none⟩]
def kz0w:List (List Nat):=[[],[0],[0,1],[0,1,2],[],[0,1,2,3,4],[0,1,2,3,4,5],[0,1,2,3,4,5,6],[0,1,2,3,4,5,6],[],[0,1,2,3,4,5,6,7,9],[0,1,2,3,4,5,6,7,8,9,10]]
def Rp(b:Nat):List As:=[ ⟨(some 25),.mv (.t 9),none⟩, ⟨(some 26),.not (.t 25),none⟩]
def XI(b:Nat):List As:=[ ⟨(some 27),.mv (.t 0),none⟩, ⟨(some 28),.nilck (.t 27),none⟩, ⟨(some 29),.faddr 0 (.t 28),none⟩, ⟨(some 30),.load false 1 (.t 29),none⟩, ⟨(some 31),.mv (.t 1),none⟩, ⟨(some 32),.iaddrS 7 (.t 30) (.t 31),none⟩, ⟨(some 33),.load true 7 (.t 32),none⟩, ⟨(some 34),.mv (.t 2),none⟩, ⟨(some 35),.callf 129 [.t 33,.t 34],none⟩, ⟨none,.store 3 (.t 8) (.t 35),none⟩]
def XJ(b:Nat):List As:=[ ⟨(some 36),.mv (.t 0),none⟩, ⟨(some 37),.nilck (.t 36),none⟩, ⟨(some 38),.faddr 1 (.t 37),none⟩, ⟨(some 39),.load false 1 (.t 38),none⟩, ⟨(some 40),.load true 2 (.t 7),none⟩, ⟨(some 41),.load true 3 (.t 8),none⟩, ⟨none,.mupd 16 (.t 39) (.t 40) (.t 41),none⟩]
def kz0s:List (List Nat):=[[],[0],[0,1],[0,1,2],[],[],[0,1,2,3,4,5]]
def Rq(b:Nat):List As:=[ ⟨(some 42),.load true 3 (.t 8),none⟩, ⟨none,.store 3 (.t 6) (.t 42),none⟩]
def c99(b:Nat):AX:=.seq (.reg false (XF b) []) (.seq (.seq (.reg false (XG b) []) (.cond (.t 11) (.seq (.reg false (kz03 b) []) (.ret)) (.skip))) (.seq (.reg false (XH b) []) (.seq (.reg true (Ro b) kz0w) (.seq (.seq (.reg false (Rp b) []) (.cond (.t 26) (.seq (.reg false (XI b) []) (.reg true (XJ b) kz0s)) (.skip))) (.seq (.reg false (Rq b) []) (.ret))))))
def rs99:List ARes:=[.c 6 true 3]
theorem ck99:∃c,Tryz.f99.body=some c/\∀b,AA Tryz.prog c (c99 b)=true:=⟨_,rfl,fun b=>by kernel_rfl⟩
theorem cr99:Dm Tryz.prog Tryz.f99.results.toList rs99=true:=by kernel_rfl
end Go.Am

