/- Part G1: the code of some functions of this seat over abstract operations. No condition. -/
import Derived.Test.YtjlgleghnenojaaDoorF2
set_option linter.unusedVariables false
namespace Go.Am
open Go.Proofs
def qz8h(b:Nat):List qzc:=[ ⟨(some 2),.mv (.c (.nils)),none⟩]
def qz6q(b:Nat):List qzc:=[ ⟨(some 4),.mv (.t 0),none⟩, ⟨(some 5),.callf 52 [.t 4],none⟩, ⟨(some 3),.mv (.t 5),none⟩]
def kzhi(b:Nat):List qzc:=[ ⟨(some 6),.mv (.t 3),none⟩, ⟨(some 7),.callf 53 [.t 6],none⟩]
def kzhh(b:Nat):List qzc:=[ ⟨(some 8),.mv (.t 3),none⟩, ⟨(some 2),.mv (.t 8),none⟩]
def c35(b:Nat):qzk:=.seq (.reg false (qz8h b) []) (.seq (.reg false (qz6q b) []) (.seq (.reg false (kzhi b) []) (.seq (.reg false (kzhh b) []) (.ret))))
def rs35:List ARes:=[.t 2]
theorem ck35:∃c,Tryd.f35.body=some c/\∀b,qzg Tryd.prog c (c35 b)=true:=⟨_,rfl,fun b=>by kernel_rfl⟩
theorem cr35:qzi Tryd.prog Tryd.f35.results.toList rs35=true:=by kernel_rfl
def qz8l(b:Nat):List qzc:=[ ⟨(some 1),.box (b+0) (.t 0),none⟩, ⟨(some 2),.mv (.c (.nilfn)),none⟩]
def qz71(b:Nat):List qzc:=[ ⟨(some 3),.mkfn 54 0 [.t 1],none⟩, ⟨(some 2),.mv (.t 3),none⟩]
def c36(b:Nat):qzk:=.seq (.reg false (qz8l b) []) (.seq (.reg false (qz71 b) []) (.ret))
def rs36:List ARes:=[.t 2]
theorem ck36:∃c,Tryd.f36.body=some c/\∀b,qzg Tryd.prog c (c36 b)=true:=⟨_,rfl,fun b=>by kernel_rfl⟩
theorem cr36:qzi Tryd.prog Tryd.f36.results.toList rs36=true:=by kernel_rfl
def qz5d(b:Nat):List qzc:=[ ⟨(some 2),.mv (.c (.nils)),none⟩]
def qz46(b:Nat):List qzc:=[ ⟨(some 3),.mv (.t 0),none⟩, ⟨(some 4),.callf 65 [.c (.nils),.t 3],none⟩, ⟨(some 2),.mv (.t 4),none⟩]
def c52(b:Nat):qzk:=.seq (.reg false (qz5d b) []) (.seq (.reg false (qz46 b) []) (.ret))
def rs52:List ARes:=[.t 2]
theorem ck52:∃c,Tryd.f52.body=some c/\∀b,qzg Tryd.prog c (c52 b)=true:=⟨_,rfl,fun b=>by kernel_rfl⟩
theorem cr52:qzi Tryd.prog Tryd.f52.results.toList rs52=true:=by kernel_rfl
def qz62(b:Nat):List qzc:=[ ⟨(some 3),.mv (.t 0),none⟩, ⟨(some 4),.len false (.t 3),none⟩, ⟨(some 2),.mv (.t 4),none⟩]
def wzby(b:Nat):List qzc:=[ ⟨(some 5),.mv (.t 0),none⟩, ⟨(some 6),.mv (.t 2),none⟩, ⟨(some 7),.mv (.t 2),none⟩, ⟨(some 8),.conv .u64 (.t 7),none⟩, ⟨(some 9),.callf 67 [.t 8],none⟩, ⟨(some 10),.callf 66 [.t 5,.c (.int .i64 0),.t 6,.t 9],none⟩]
def c53(b:Nat):qzk:=.seq (.reg false (qz62 b) []) (.reg false (wzby b) [])
def rs53:List ARes:=[]
theorem ck53:∃c,Tryd.f53.body=some c/\∀b,qzg Tryd.prog c (c53 b)=true:=⟨_,rfl,fun b=>by kernel_rfl⟩
theorem cr53:qzi Tryd.prog Tryd.f53.results.toList rs53=true:=by kernel_rfl
def jzun(b:Nat):List qzc:=[ ⟨(some 4),.load false 1 (.t 1),none⟩, ⟨(some 5),.mrange (b+0) (.t 4),none⟩]
def jzui(b:Nat):List qzc:=[ ⟨(some 6),.mnext (.t 5),none⟩, ⟨(some 7),.extract 0 (.t 6),none⟩]
def jzsy(b:Nat):List qzc:=[ ⟨(some 8),.mentry (.t 5),none⟩, ⟨(some 9),.extract 0 (.t 8),none⟩, ⟨(some 3),.mv (.t 9),none⟩]
def jzs5(b:Nat):List qzc:=[ ⟨(some 10),.mv (.t 0),none⟩, ⟨(some 11),.mv (.t 3),none⟩, ⟨(some 12),.callv (.t 10) [.t 11],none⟩, ⟨(some 13),.not (.t 12),none⟩]
def kzw0(b:Nat):qzk:=.seq (.reg false (jzui b) []) (.seq (.cond (.t 7) (.skip) (.exit 0)) (.block 1 (.seq (.reg false (jzsy b) []) (.seq (.reg false (jzs5 b) []) (.cond (.t 13) (.ret) (.skip))))))
def c54(b:Nat):qzk:=.seq (.reg false (jzun b) []) (.block 0 (.loop (kzw0 b)))
def rs54:List ARes:=[]
theorem ck54:∃c,Tryd.f54.body=some c/\∀b,qzg Tryd.prog c (c54 b)=true:=⟨_,rfl,fun b=>by kernel_rfl⟩
theorem cr54:qzi Tryd.prog Tryd.f54.results.toList rs54=true:=by kernel_rfl
def wzac(b:Nat):List qzc:=[ ⟨(some 2),.mv (.c (.nils)),none⟩]
def wzbd(b:Nat):List qzc:=[ ⟨(some 3),.mv (.t 0),none⟩, ⟨(some 4),.isnil false (.t 3),none⟩]
def wzb5(b:Nat):List qzc:=[ ⟨(some 2),.mv (.c (.nils)),none⟩]
def qz57(b:Nat):List qzc:=[ ⟨(some 5),.bslice (b+0) 5 0 [] [],none⟩, ⟨(some 6),.mv (.t 0),none⟩, ⟨(some 7),.append (b+1) 5 56 (.t 5) (.t 6),none⟩, ⟨(some 2),.mv (.t 7),none⟩]
def c55(b:Nat):qzk:=.seq (.reg false (wzac b) []) (.seq (.seq (.reg false (wzbd b) []) (.cond (.t 4) (.seq (.reg false (wzb5 b) []) (.ret)) (.skip))) (.seq (.reg false (qz57 b) []) (.ret)))
def rs55:List ARes:=[.t 2]
theorem ck55:∃c,Tryd.f55.body=some c/\∀b,qzg Tryd.prog c (c55 b)=true:=⟨_,rfl,fun b=>by kernel_rfl⟩
theorem cr55:qzi Tryd.prog Tryd.f55.results.toList rs55=true:=by kernel_rfl
def jzft(b:Nat):List qzc:=[ ⟨(some 2),.mv (.c (.nils)),none⟩]
def jze4(b:Nat):List qzc:=[ ⟨(some 3),.mv (.t 0),none⟩, ⟨(some 4),.isnil false (.t 3),none⟩]
def jzco(b:Nat):List qzc:=[ ⟨(some 2),.mv (.c (.nils)),none⟩]
def jzcj(b:Nat):List qzc:=[ ⟨(some 5),.bslice (b+0) 2 0 [] [],none⟩, ⟨(some 6),.mv (.t 0),none⟩, ⟨(some 7),.append (b+1) 2 16 (.t 5) (.t 6),none⟩, ⟨(some 2),.mv (.t 7),none⟩]
def c56(b:Nat):qzk:=.seq (.reg false (jzft b) []) (.seq (.seq (.reg false (jze4 b) []) (.cond (.t 4) (.seq (.reg false (jzco b) []) (.ret)) (.skip))) (.seq (.reg false (jzcj b) []) (.ret)))
def rs56:List ARes:=[.t 2]
theorem ck56:∃c,Tryd.f56.body=some c/\∀b,qzg Tryd.prog c (c56 b)=true:=⟨_,rfl,fun b=>by kernel_rfl⟩
theorem cr56:qzi Tryd.prog Tryd.f56.results.toList rs56=true:=by kernel_rfl
def qz55(b:Nat):List qzc:=[ ⟨(some 2),.box (b+0) (.t 0),none⟩, ⟨(some 4),.mv (.c (.nils)),none⟩]
def qz9q(b:Nat):List qzc:=[ ⟨(some 6),.mv (.t 1),none⟩]
def wzb7(b:Nat):List qzc:=[ ⟨(some 5),.mv (.t 7),none⟩]
def wzco(b:Nat):List qzc:=[ ⟨(some 8),.load false 1 (.t 2),none⟩, ⟨(some 9),.mv (.t 5),none⟩, ⟨(some 10),.bslice (b+1) 1 1 [.int .i64 0] [(0,1,.t 9)],none⟩, ⟨(some 11),.append (b+2) 1 8 (.t 8) (.t 10),none⟩, ⟨none,.store 1 (.t 2) (.t 11),none⟩]
def qz4b(b:Nat):qzk:=.block 1 (.reg false (wzco b) [])
def wzag(b:Nat):List qzc:=[ ⟨(some 12),.load false 1 (.t 2),none⟩, ⟨(some 4),.mv (.t 12),none⟩]
def c65(b:Nat):qzk:=.seq (.reg false (qz55 b) []) (.seq (.seq (.reg false (qz9q b) []) (.block 0 (.rfunc (.t 6) [7] (.reg false (wzb7 b) []) (qz4b b)))) (.seq (.reg false (wzag b) []) (.ret)))
def rs65:List ARes:=[.t 4]
theorem ck65:∃c,Tryd.f65.body=some c/\∀b,qzg Tryd.prog c (c65 b)=true:=⟨_,rfl,fun b=>by kernel_rfl⟩
theorem cr65:qzi Tryd.prog Tryd.f65.results.toList rs65=true:=by kernel_rfl
def wzb6(b:Nat):List qzc:=[ ⟨(some 8),.mv (.c (.bool true)),none⟩]
def qz6m(b:Nat):List qzc:=[ ⟨(some 9),.mv (.c (.bool true)),none⟩]
def qz6c(b:Nat):List qzc:=[ ⟨(some 19),.mv (.t 2),none⟩, ⟨(some 20),.mv (.t 1),none⟩, ⟨(some 21),.bin .sub false (.t 19) (.t 20),none⟩, ⟨(some 10),.mv (.t 21),none⟩]
def kzs3(b:Nat):List qzc:=[ ⟨(some 22),.mv (.t 10),none⟩, ⟨(some 23),.bin .leq false (.t 22) (.c (.int .i64 12)),none⟩]
def kzth(b:Nat):List qzc:=[ ⟨(some 24),.mv (.t 0),none⟩, ⟨(some 25),.mv (.t 1),none⟩, ⟨(some 26),.mv (.t 2),none⟩, ⟨(some 27),.callf 69 [.t 24,.t 25,.t 26],none⟩]
def kzw2(b:Nat):List qzc:=[ ⟨(some 28),.mv (.t 3),none⟩, ⟨(some 29),.bin .eql false (.t 28) (.c (.int .i64 0)),none⟩]
def kzwt(b:Nat):List qzc:=[ ⟨(some 30),.mv (.t 0),none⟩, ⟨(some 31),.mv (.t 1),none⟩, ⟨(some 32),.mv (.t 2),none⟩, ⟨(some 33),.callf 70 [.t 30,.t 31,.t 32],none⟩]
def kzwz(b:Nat):List qzc:=[ ⟨(some 34),.mv (.t 8),none⟩, ⟨(some 35),.not (.t 34),none⟩]
def kzwq(b:Nat):List qzc:=[ ⟨(some 36),.mv (.t 0),none⟩, ⟨(some 37),.mv (.t 1),none⟩, ⟨(some 38),.mv (.t 2),none⟩, ⟨(some 39),.callf 71 [.t 36,.t 37,.t 38],none⟩]
def kzwn(b:Nat):List qzc:=[ ⟨(some 40),.mv (.t 3),none⟩, ⟨(some 41),.bin .sub false (.t 40) (.c (.int .i64 1)),none⟩, ⟨(some 3),.mv (.t 41),none⟩]
def kzvp(b:Nat):List qzc:=[ ⟨(some 43),.mv (.t 0),none⟩, ⟨(some 44),.mv (.t 1),none⟩, ⟨(some 45),.mv (.t 2),none⟩, ⟨(some 46),.callf 72 [.t 43,.t 44,.t 45],none⟩, ⟨(some 42),.mv (.t 46),none⟩, ⟨(some 47),.extract 0 (.t 42),none⟩, ⟨(some 48),.extract 1 (.t 42),none⟩, ⟨(some 11),.mv (.t 47),none⟩, ⟨(some 12),.mv (.t 48),none⟩]
def kzuv(b:Nat):List qzc:=[ ⟨(some 49),.mv (.t 12),none⟩, ⟨(some 50),.bin .eql false (.t 49) (.c (.int .i64 2)),none⟩]
def kzve(b:Nat):List qzc:=[ ⟨(some 51),.mv (.t 0),none⟩, ⟨(some 52),.mv (.t 1),none⟩, ⟨(some 53),.mv (.t 2),none⟩, ⟨(some 54),.callf 73 [.t 51,.t 52,.t 53],none⟩]
def kzu7(b:Nat):List qzc:=[ ⟨(some 55),.mv (.t 2),none⟩, ⟨(some 56),.bin .sub false (.t 55) (.c (.int .i64 1)),none⟩, ⟨(some 57),.mv (.t 11),none⟩, ⟨(some 58),.mv (.t 1),none⟩, ⟨(some 59),.bin .sub false (.t 57) (.t 58),none⟩, ⟨(some 60),.bin .sub false (.t 56) (.t 59),none⟩, ⟨(some 11),.mv (.t 60),none⟩]
def kzun(b:Nat):List qzc:=[ ⟨(some 12),.mv (.c (.int .i64 1)),none⟩]
def kzuq(b:Nat):List qzc:=[ ⟨(some 61),.mv (.t 8),none⟩, ⟨(some 62),.mv (.t 61),none⟩, ⟨(some 63),.mv (.t 9),(some (62,true))⟩, ⟨(some 64),.pick (.t 62) (.t 63) (.c (.bool false)),none⟩, ⟨(some 65),.mv (.t 64),none⟩, ⟨(some 66),.mv (.t 12),(some (65,true))⟩, ⟨(some 67),.bin .eql false (.t 66) (.c (.int .i64 1)),(some (65,true))⟩, ⟨(some 68),.pick (.t 65) (.t 67) (.c (.bool false)),none⟩]
def kzvu(b:Nat):List qzc:=[ ⟨(some 69),.mv (.t 0),none⟩, ⟨(some 70),.mv (.t 1),none⟩, ⟨(some 71),.mv (.t 2),none⟩, ⟨(some 72),.callf 74 [.t 69,.t 70,.t 71],none⟩]
def kzva(b:Nat):List qzc:=[ ⟨(some 73),.mv (.t 1),none⟩, ⟨(some 74),.bin .gtr false (.t 73) (.c (.int .i64 0)),none⟩, ⟨(some 75),.mv (.t 74),none⟩, ⟨(some 76),.mv (.t 0),(some (75,true))⟩, ⟨(some 77),.mv (.t 1),(some (75,true))⟩, ⟨(some 78),.bin .sub false (.t 77) (.c (.int .i64 1)),(some (75,true))⟩, ⟨(some 79),.iaddrS 1 (.t 76) (.t 78),(some (75,true))⟩, ⟨(some 80),.load false 1 (.t 79),(some (75,true))⟩, ⟨(some 81),.mv (.t 0),(some (75,true))⟩, ⟨(some 82),.mv (.t 11),(some (75,true))⟩, ⟨(some 83),.iaddrS 1 (.t 81) (.t 82),(some (75,true))⟩, ⟨(some 84),.load false 1 (.t 83),(some (75,true))⟩, ⟨(some 85),.callf 75 [.t 80,.t 84],(some (75,true))⟩, ⟨(some 86),.not (.t 85),(some (75,true))⟩, ⟨(some 87),.pick (.t 75) (.t 86) (.c (.bool false)),none⟩]
def kzua:List (List Nat):=[[],[0],[0,1],[0,1,2],[0,1,2],[0,1,2,4],[0,1,2,3,4,5],[0,1,2,3,4,5,6],[0,1,2],[0,1,2],[0,1,2,8,9],[0,1,2,8,9,10],[0,1,2,3,4,5,6,7,8,9,10,11],[0,1,2,3,4,5,6,7,8,9,10,11,12],[0,1,2,3,4,5,6,7,8,9,10,11,12,13]]
def kzup(b:Nat):List qzc:=[ ⟨(some 88),.mv (.t 0),none⟩, ⟨(some 89),.mv (.t 1),none⟩, ⟨(some 90),.mv (.t 2),none⟩, ⟨(some 91),.mv (.t 11),none⟩, ⟨(some 92),.callf 76 [.t 88,.t 89,.t 90,.t 91],none⟩, ⟨(some 13),.mv (.t 92),none⟩]
def kzuw(b:Nat):List qzc:=[ ⟨(some 93),.mv (.t 13),none⟩, ⟨(some 1),.mv (.t 93),none⟩]
def kzuz(b:Nat):List qzc:=[ ⟨(some 95),.mv (.t 0),none⟩, ⟨(some 96),.mv (.t 1),none⟩, ⟨(some 97),.mv (.t 2),none⟩, ⟨(some 98),.mv (.t 11),none⟩, ⟨(some 99),.callf 77 [.t 95,.t 96,.t 97,.t 98],none⟩, ⟨(some 94),.mv (.t 99),none⟩, ⟨(some 100),.extract 0 (.t 94),none⟩, ⟨(some 101),.extract 1 (.t 94),none⟩, ⟨(some 14),.mv (.t 100),none⟩, ⟨(some 15),.mv (.t 101),none⟩]
def kzu6(b:Nat):List qzc:=[ ⟨(some 102),.mv (.t 15),none⟩, ⟨(some 9),.mv (.t 102),none⟩]
def kzu3(b:Nat):List qzc:=[ ⟨(some 103),.mv (.t 14),none⟩, ⟨(some 104),.mv (.t 1),none⟩, ⟨(some 105),.bin .sub false (.t 103) (.t 104),none⟩, ⟨(some 106),.mv (.t 2),none⟩, ⟨(some 107),.mv (.t 14),none⟩, ⟨(some 108),.bin .sub false (.t 106) (.t 107),none⟩, ⟨(some 16),.mv (.t 105),none⟩, ⟨(some 17),.mv (.t 108),none⟩]
def kzvv(b:Nat):List qzc:=[ ⟨(some 109),.mv (.t 10),none⟩, ⟨(some 110),.bin .quo false (.t 109) (.c (.int .i64 8)),none⟩, ⟨(some 18),.mv (.t 110),none⟩]
def kzvr(b:Nat):List qzc:=[ ⟨(some 111),.mv (.t 16),none⟩, ⟨(some 112),.mv (.t 17),none⟩, ⟨(some 113),.bin .lss false (.t 111) (.t 112),none⟩]
def kzvz(b:Nat):List qzc:=[ ⟨(some 114),.mv (.t 16),none⟩, ⟨(some 115),.mv (.t 18),none⟩, ⟨(some 116),.bin .geq false (.t 114) (.t 115),none⟩, ⟨(some 8),.mv (.t 116),none⟩]
def kzu9(b:Nat):List qzc:=[ ⟨(some 117),.mv (.t 0),none⟩, ⟨(some 118),.mv (.t 1),none⟩, ⟨(some 119),.mv (.t 14),none⟩, ⟨(some 120),.mv (.t 3),none⟩, ⟨(some 121),.callf 66 [.t 117,.t 118,.t 119,.t 120],none⟩]
def kzur(b:Nat):List qzc:=[ ⟨(some 122),.mv (.t 14),none⟩, ⟨(some 123),.bin .add false (.t 122) (.c (.int .i64 1)),none⟩, ⟨(some 1),.mv (.t 123),none⟩]
def kzum(b:Nat):List qzc:=[ ⟨(some 124),.mv (.t 17),none⟩, ⟨(some 125),.mv (.t 18),none⟩, ⟨(some 126),.bin .geq false (.t 124) (.t 125),none⟩, ⟨(some 8),.mv (.t 126),none⟩]
def kzui(b:Nat):List qzc:=[ ⟨(some 127),.mv (.t 0),none⟩, ⟨(some 128),.mv (.t 14),none⟩, ⟨(some 129),.bin .add false (.t 128) (.c (.int .i64 1)),none⟩, ⟨(some 130),.mv (.t 2),none⟩, ⟨(some 131),.mv (.t 3),none⟩, ⟨(some 132),.callf 66 [.t 127,.t 129,.t 130,.t 131],none⟩]
def kzu4(b:Nat):List qzc:=[ ⟨(some 133),.mv (.t 14),none⟩, ⟨(some 2),.mv (.t 133),none⟩]
def kzw1(b:Nat):qzk:=.block 1 (.seq (.reg false (qz6c b) []) (.seq (.seq (.reg false (kzs3 b) []) (.cond (.t 23) (.seq (.reg false (kzth b) []) (.ret)) (.skip))) (.seq (.seq (.reg false (kzw2 b) []) (.cond (.t 29) (.seq (.reg false (kzwt b) []) (.ret)) (.skip))) (.seq (.seq (.reg false (kzwz b) []) (.cond (.t 35) (.seq (.reg false (kzwq b) []) (.reg false (kzwn b) [])) (.skip))) (.seq (.reg false (kzvp b) []) (.seq (.seq (.reg false (kzuv b) []) (.cond (.t 50) (.seq (.reg false (kzve b) []) (.seq (.reg false (kzu7 b) []) (.reg false (kzun b) []))) (.skip))) (.seq (.seq (.reg false (kzuq b) []) (.cond (.t 68) (.seq (.reg false (kzvu b) []) (.cond (.t 72) (.ret) (.skip))) (.skip))) (.seq (.seq (.reg true (kzva b) kzua) (.cond (.t 87) (.seq (.reg false (kzup b) []) (.seq (.reg false (kzuw b) []) (.exit 1))) (.skip))) (.seq (.reg false (kzuz b) []) (.seq (.reg false (kzu6 b) []) (.seq (.reg false (kzu3 b) []) (.seq (.reg false (kzvv b) []) (.seq (.reg false (kzvr b) []) (.cond (.t 113) (.seq (.reg false (kzvz b) []) (.seq (.reg false (kzu9 b) []) (.reg false (kzur b) []))) (.seq (.reg false (kzum b) []) (.seq (.reg false (kzui b) []) (.reg false (kzu4 b) [])))))))))))))))))
def c66(b:Nat):qzk:=.seq (.reg false (wzb6 b) []) (.seq (.reg false (qz6m b) []) (.block 0 (.loop (kzw1 b))))
def rs66:List ARes:=[]
theorem ck66:∃c,Tryd.f66.body=some c/\∀b,qzg Tryd.prog c (c66 b)=true:=⟨_,rfl,fun b=>by kernel_rfl⟩
theorem cr66:qzi Tryd.prog Tryd.f66.results.toList rs66=true:=by kernel_rfl
def wzcm(b:Nat):List qzc:=[ ⟨(some 8),.mv (.t 1),none⟩, ⟨(some 9),.bin .add false (.t 8) (.c (.int .i64 1)),none⟩, ⟨(some 6),.mv (.t 9),none⟩]
def qz64(b:Nat):List qzc:=[ ⟨(some 10),.mv (.t 6),none⟩, ⟨(some 11),.mv (.t 2),none⟩, ⟨(some 12),.bin .lss false (.t 10) (.t 11),none⟩]
def kzgw(b:Nat):List qzc:=[ ⟨(some 15),.mv (.t 6),none⟩, ⟨(some 7),.mv (.t 15),none⟩]
def kzww(b:Nat):List qzc:=[ ⟨(some 16),.mv (.t 7),none⟩, ⟨(some 17),.mv (.t 1),none⟩, ⟨(some 18),.bin .gtr false (.t 16) (.t 17),none⟩, ⟨(some 19),.mv (.t 18),none⟩, ⟨(some 20),.mv (.t 0),(some (19,true))⟩, ⟨(some 21),.mv (.t 7),(some (19,true))⟩, ⟨(some 22),.iaddrS 1 (.t 20) (.t 21),(some (19,true))⟩, ⟨(some 23),.load false 1 (.t 22),(some (19,true))⟩, ⟨(some 24),.mv (.t 0),(some (19,true))⟩, ⟨(some 25),.mv (.t 7),(some (19,true))⟩, ⟨(some 26),.bin .sub false (.t 25) (.c (.int .i64 1)),(some (19,true))⟩, ⟨(some 27),.iaddrS 1 (.t 24) (.t 26),(some (19,true))⟩, ⟨(some 28),.load false 1 (.t 27),(some (19,true))⟩, ⟨(some 29),.callf 75 [.t 23,.t 28],(some (19,true))⟩, ⟨(some 30),.pick (.t 19) (.t 29) (.c (.bool false)),none⟩]
def kzv1:List (List Nat):=[[],[],[0,1],[0,1,2],[0,1,2,3],[0,1,2,3],[0,1,2,3,4,5],[0,1,2,3,4,5,6],[0,1,2,3],[0,1,2,3],[0,1,2,3,9],[0,1,2,3,8,9,10],[0,1,2,3,8,9,10,11],[0,1,2,3,4,5,6,7,8,9,10,11,12],[0,1,2,3,4,5,6,7,8,9,10,11,12,13]]
def kzwm(b:Nat):List qzc:=[ ⟨(some 33),.mv (.t 0),none⟩, ⟨(some 34),.mv (.t 7),none⟩, ⟨(some 35),.mv (.t 0),none⟩, ⟨(some 36),.mv (.t 7),none⟩, ⟨(some 37),.bin .sub false (.t 36) (.c (.int .i64 1)),none⟩, ⟨(some 38),.mv (.t 0),none⟩, ⟨(some 39),.mv (.t 7),none⟩, ⟨(some 40),.bin .sub false (.t 39) (.c (.int .i64 1)),none⟩, ⟨(some 41),.iaddrS 1 (.t 38) (.t 40),none⟩, ⟨(some 42),.load false 1 (.t 41),none⟩, ⟨(some 43),.mv (.t 0),none⟩, ⟨(some 44),.mv (.t 7),none⟩, ⟨(some 45),.iaddrS 1 (.t 43) (.t 44),none⟩, ⟨(some 46),.load false 1 (.t 45),none⟩, ⟨(some 47),.iaddrS 1 (.t 33) (.t 34),none⟩, ⟨none,.store 1 (.t 47) (.t 42),none⟩, ⟨(some 48),.iaddrS 1 (.t 35) (.t 37),none⟩, ⟨none,.store 1 (.t 48) (.t 46),none⟩]
def kzul:List (List Nat):=[[],[],[],[],[3],[],[],[6],[5,6,7],[5,6,7,8],[],[],[10,11],[10,11,12],[0,1,5,6,7,8,9,10,11,12,13],[0,1,5,6,7,8,9,10,11,12,13,14],[0,1,2,3,4,5,6,7,8,9,10,11,12,13,14,15],[0,1,2,3,4,5,6,7,8,9,10,11,12,13,14,15,16]]
def kzwp(b:Nat):List qzc:=[ ⟨(some 31),.mv (.t 7),none⟩, ⟨(some 32),.bin .sub false (.t 31) (.c (.int .i64 1)),none⟩, ⟨(some 7),.mv (.t 32),none⟩]
def kzwj(b:Nat):qzk:=.seq (.seq (.reg true (kzww b) kzv1) (.cond (.t 30) (.skip) (.exit 2))) (.seq (.block 3 (.reg true (kzwm b) kzul)) (.reg false (kzwp b) []))
def qz54(b:Nat):List qzc:=[ ⟨(some 13),.mv (.t 6),none⟩, ⟨(some 14),.bin .add false (.t 13) (.c (.int .i64 1)),none⟩, ⟨(some 6),.mv (.t 14),none⟩]
def kzwa(b:Nat):qzk:=.seq (.seq (.reg false (qz64 b) []) (.cond (.t 12) (.skip) (.exit 0))) (.seq (.block 1 (.seq (.reg false (kzgw b) []) (.block 2 (.loop (kzwj b))))) (.reg false (qz54 b) []))
def c69(b:Nat):qzk:=.seq (.reg false (wzcm b) []) (.block 0 (.loop (kzwa b)))
def rs69:List ARes:=[]
theorem ck69:∃c,Tryd.f69.body=some c/\∀b,qzg Tryd.prog c (c69 b)=true:=⟨_,rfl,fun b=>by kernel_rfl⟩
theorem cr69:qzi Tryd.prog Tryd.f69.results.toList rs69=true:=by kernel_rfl
def r7_0(b:Nat):List qzc:=[ ⟨(some 1),.box (b+0) (.t 0),none⟩, ⟨(some 2),.mv (.c (.nils)),none⟩, ⟨(some 3),.mv (.c (.int .i64 0)),none⟩]
def r7_1(b:Nat):List qzc:=[ ⟨(some 10),.load true 2 (.t 1),none⟩, ⟨(some 11),.callf 22 [.t 10],none⟩, ⟨(some 12),.not (.t 11),none⟩]
def r7_2(b:Nat):List qzc:=[ ⟨(some 2),.mv (.c (.nils)),none⟩, ⟨(some 3),.mv (.c (.int .i64 1)),none⟩]
def r7_3(b:Nat):List qzc:=[ ⟨(some 4),.mv (.c (.nils)),none⟩]
def r7_4(b:Nat):List qzc:=[ ⟨(some 13),.faddr 1 (.t 1),none⟩, ⟨(some 14),.load false 1 (.t 13),none⟩, ⟨(some 15),.len false (.t 14),none⟩, ⟨(some 16),.mv (.c (.int .i64 0)),none⟩]
def r7_5(b:Nat):List qzc:=[ ⟨(some 17),.bin .lss false (.t 16) (.t 15),none⟩]
def r7_6(b:Nat):List qzc:=[ ⟨(some 18),.mv (.t 16),none⟩, ⟨(some 19),.iaddrS 1 (.t 14) (.t 16),none⟩, ⟨(some 20),.load false 1 (.t 19),none⟩, ⟨(some 5),.mv (.t 18),none⟩, ⟨(some 6),.mv (.t 20),none⟩]
def r7_7(b:Nat):List qzc:=[ ⟨(some 21),.mv (.t 4),none⟩, ⟨(some 22),.faddr 0 (.t 1),none⟩, ⟨(some 23),.load false 1 (.t 22),none⟩, ⟨(some 24),.mv (.t 5),none⟩, ⟨(some 25),.bin .add false (.t 23) (.t 24),none⟩, ⟨(some 26),.faddr 0 (.t 1),none⟩, ⟨(some 27),.load false 1 (.t 26),none⟩, ⟨(some 28),.mv (.t 5),none⟩, ⟨(some 29),.bin .add false (.t 27) (.t 28),none⟩, ⟨(some 30),.bin .add false (.t 29) (.c (.int .i64 1)),none⟩, ⟨(some 31),.mv (.t 6),none⟩, ⟨(some 32),.callf 23 [.t 25,.t 30,.t 31],none⟩, ⟨(some 33),.bslice (b+1) 5 1 [.int .i64 0,.int .i64 0,.nils,.int .i64 0,.int .i64 0] [(0,5,.t 32)],none⟩, ⟨(some 34),.append (b+2) 5 56 (.t 21) (.t 33),none⟩, ⟨(some 4),.mv (.t 34),none⟩]
def r7_8(b:Nat):List qzc:=[ ⟨(some 35),.mv (.t 4),none⟩, ⟨(some 36),.len false (.t 35),none⟩, ⟨(some 7),.mv (.t 36),none⟩]
def r7_9(b:Nat):List qzc:=[ ⟨(some 37),.mv (.t 7),none⟩, ⟨(some 38),.bin .gtr false (.t 37) (.c (.int .i64 1)),none⟩]
def kzsr(b:Nat):List qzc:=[ ⟨(some 40),.mv (.t 4),none⟩, ⟨(some 41),.mv (.t 7),none⟩, ⟨(some 42),.bin .sub false (.t 41) (.c (.int .i64 2)),none⟩, ⟨(some 43),.iaddrS 5 (.t 40) (.t 42),none⟩, ⟨(some 44),.load true 5 (.t 43),none⟩, ⟨(some 45),.mv (.t 4),none⟩, ⟨(some 46),.mv (.t 7),none⟩, ⟨(some 47),.bin .sub false (.t 46) (.c (.int .i64 1)),none⟩, ⟨(some 48),.iaddrS 5 (.t 45) (.t 47),none⟩, ⟨(some 49),.load true 5 (.t 48),none⟩, ⟨(some 50),.callf 24 [.t 44,.t 49],none⟩, ⟨(some 39),.mv (.t 50),none⟩, ⟨(some 51),.extract 0 (.t 39),none⟩, ⟨(some 52),.extract 1 (.t 39),none⟩, ⟨(some 8),.alloc (b+3) [.int .i64 0,.int .i64 0,.nils,.int .i64 0,.int .i64 0],none⟩, ⟨none,.store 5 (.t 8) (.t 51),none⟩, ⟨(some 9),.mv (.t 52),none⟩]
def kzvt:List (List Nat):=[[],[],[1],[0,1,2],[0,1,2,3],[],[],[6],[5,6,7],[5,6,7,8],[0,1,2,3,4,5,6,7,8,9],[0,1,2,3,4,5,6,7,8,9,10],[0,1,2,3,4,5,6,7,8,9,10,11],[0,1,2,3,4,5,6,7,8,9,10,11],[],[0,1,2,3,4,5,6,7,8,9,10,11,12,14],[0,1,2,3,4,5,6,7,8,9,10,11,12,13,14,15]]
def kzsx(b:Nat):List qzc:=[ ⟨(some 53),.mv (.t 9),none⟩]
def kzsu(b:Nat):List qzc:=[ ⟨(some 54),.mv (.t 4),none⟩, ⟨(some 55),.mv (.t 7),none⟩, ⟨(some 56),.bin .sub false (.t 55) (.c (.int .i64 2)),none⟩, ⟨(some 57),.slice false 5 (.t 54) none (some (.t 56)),none⟩, ⟨(some 58),.load true 5 (.t 8),none⟩, ⟨(some 59),.bslice (b+4) 5 1 [.int .i64 0,.int .i64 0,.nils,.int .i64 0,.int .i64 0] [(0,5,.t 58)],none⟩, ⟨(some 60),.append (b+5) 5 56 (.t 57) (.t 59),none⟩, ⟨(some 4),.mv (.t 60),none⟩]
def kzvf:List (List Nat):=[[],[],[1],[0,1,2],[],[4],[0,1,2,3,4,5],[0,1,2,3,4,5,6]]
def kzni(b:Nat):List qzc:=[ ⟨(some 61),.bin .add false (.t 16) (.c (.int .i64 1)),none⟩, ⟨(some 16),.mv (.t 61),none⟩]
def l7_0(b:Nat):qzk:=.seq (.reg false (r7_5 b) []) (.seq (.cond (.t 17) (.skip) (.exit 0)) (.seq (.block 1 (.seq (.reg false (r7_6 b) []) (.seq (.reg false (r7_7 b) []) (.seq (.reg false (r7_8 b) []) (.seq (.reg false (r7_9 b) []) (.cond (.t 38) (.seq (.reg true (kzsr b) kzvt) (.seq (.reg false (kzsx b) []) (.cond (.t 53) (.reg true (kzsu b) kzvf) (.skip)))) (.skip))))))) (.reg false (kzni b) [])))
def kzoz(b:Nat):List qzc:=[ ⟨(some 62),.mv (.t 4),none⟩, ⟨(some 63),.len false (.t 62),none⟩, ⟨(some 64),.bin .gtr false (.t 63) (.c (.int .i64 2000)),none⟩]
def kzs7(b:Nat):List qzc:=[ ⟨(some 2),.mv (.c (.nils)),none⟩, ⟨(some 3),.mv (.c (.int .i64 2)),none⟩]
def kzo6(b:Nat):List qzc:=[ ⟨(some 65),.mv (.t 4),none⟩, ⟨(some 2),.mv (.t 65),none⟩, ⟨(some 3),.mv (.c (.int .i64 0)),none⟩]
def c7(b:Nat):qzk:=.seq (.reg false (r7_0 b) []) (.seq (.seq (.reg false (r7_1 b) []) (.cond (.t 12) (.seq (.reg false (r7_2 b) []) (.ret)) (.skip))) (.seq (.reg false (r7_3 b) []) (.seq (.seq (.reg false (r7_4 b) []) (.block 0 (.loop (l7_0 b)))) (.seq (.seq (.reg false (kzoz b) []) (.cond (.t 64) (.seq (.reg false (kzs7 b) []) (.ret)) (.skip))) (.seq (.reg false (kzo6 b) []) (.ret))))))
def rs7:List ARes:=[.t 2,.t 3]
theorem ck7:∃c,Tryd.f7.body=some c/\∀b,qzg Tryd.prog c (c7 b)=true:=⟨_,rfl,fun b=>by kernel_rfl⟩
theorem cr7:qzi Tryd.prog Tryd.f7.results.toList rs7=true:=by kernel_rfl
def qz4v(b:Nat):List qzc:=[ ⟨(some 4),.mv (.c (.bool false)),none⟩, ⟨(some 5),.mv (.c (.int .i64 0)),none⟩]
def wzbe(b:Nat):List qzc:=[ ⟨(some 24),.mv (.t 0),none⟩, ⟨(some 25),.mv (.t 1),none⟩, ⟨(some 26),.bslice (b+0) 1 2 [.nils,.nils] [(0,1,.t 24),(1,1,.t 25)],none⟩, ⟨(some 27),.len false (.t 26),none⟩, ⟨(some 28),.mv (.c (.int .i64 0)),none⟩]
def qz76(b:Nat):List qzc:=[ ⟨(some 29),.bin .lss false (.t 28) (.t 27),none⟩]
def qz7n(b:Nat):List qzc:=[ ⟨(some 30),.iaddrS 1 (.t 26) (.t 28),none⟩, ⟨(some 31),.load false 1 (.t 30),none⟩, ⟨(some 7),.mv (.t 31),none⟩]
def qz98(b:Nat):List qzc:=[ ⟨(some 32),.mv (.t 7),none⟩, ⟨(some 33),.callf 25 [.t 32],none⟩, ⟨(some 8),.mv (.t 33),none⟩]
def qz8z(b:Nat):List qzc:=[ ⟨(some 34),.mv (.t 8),none⟩, ⟨(some 35),.bin .neq false (.t 34) (.c (.int .i64 0)),none⟩]
def qz59(b:Nat):List qzc:=[ ⟨(some 36),.mv (.t 8),none⟩, ⟨(some 4),.mv (.c (.bool false)),none⟩, ⟨(some 5),.mv (.t 36),none⟩]
def wza6(b:Nat):List qzc:=[ ⟨(some 37),.bin .add false (.t 28) (.c (.int .i64 1)),none⟩, ⟨(some 28),.mv (.t 37),none⟩]
def kzwx(b:Nat):qzk:=.seq (.reg false (qz76 b) []) (.seq (.cond (.t 29) (.skip) (.exit 0)) (.seq (.block 1 (.seq (.reg false (qz7n b) []) (.seq (.reg false (qz98 b) []) (.seq (.reg false (qz8z b) []) (.cond (.t 35) (.seq (.reg false (qz59 b) []) (.ret)) (.skip)))))) (.reg false (wza6 b) [])))
def qz6e(b:Nat):List qzc:=[ ⟨(some 38),.mv (.t 0),none⟩, ⟨(some 39),.len false (.t 38),none⟩, ⟨(some 40),.bin .eql false (.t 39) (.c (.int .i64 0)),none⟩, ⟨(some 41),.mv (.t 40),none⟩, ⟨(some 42),.mv (.t 1),(some (41,false))⟩, ⟨(some 43),.len false (.t 42),(some (41,false))⟩, ⟨(some 44),.bin .eql false (.t 43) (.c (.int .i64 0)),(some (41,false))⟩, ⟨(some 45),.pick (.t 41) (.c (.bool true)) (.t 44),none⟩]
def qz8o(b:Nat):List qzc:=[ ⟨(some 46),.mv (.t 0),none⟩, ⟨(some 47),.len false (.t 46),none⟩, ⟨(some 48),.mv (.t 1),none⟩, ⟨(some 49),.len false (.t 48),none⟩, ⟨(some 50),.bin .eql false (.t 47) (.t 49),none⟩, ⟨(some 4),.mv (.t 50),none⟩, ⟨(some 5),.mv (.c (.int .i64 0)),none⟩]
def qzz9(b:Nat):List qzc:=[ ⟨(some 51),.mv (.t 0),none⟩, ⟨(some 52),.iaddrS 5 (.t 51) (.c (.int .i64 0)),none⟩, ⟨(some 53),.faddr 0 (.t 52),none⟩, ⟨(some 54),.load false 1 (.t 53),none⟩, ⟨(some 55),.mv (.t 1),none⟩, ⟨(some 56),.iaddrS 5 (.t 55) (.c (.int .i64 0)),none⟩, ⟨(some 57),.faddr 0 (.t 56),none⟩, ⟨(some 58),.load false 1 (.t 57),none⟩, ⟨(some 59),.bin .neq false (.t 54) (.t 58),none⟩, ⟨(some 60),.mv (.t 59),none⟩, ⟨(some 61),.mv (.t 0),(some (60,false))⟩, ⟨(some 62),.mv (.t 0),(some (60,false))⟩, ⟨(some 63),.len false (.t 62),(some (60,false))⟩, ⟨(some 64),.bin .sub false (.t 63) (.c (.int .i64 1)),(some (60,false))⟩, ⟨(some 65),.iaddrS 5 (.t 61) (.t 64),(some (60,false))⟩, ⟨(some 66),.faddr 1 (.t 65),(some (60,false))⟩, ⟨(some 67),.load false 1 (.t 66),(some (60,false))⟩, ⟨(some 68),.mv (.t 1),(some (60,false))⟩, ⟨(some 69),.mv (.t 1),(some (60,false))⟩, ⟨(some 70),.len false (.t 69),(some (60,false))⟩, ⟨(some 71),.bin .sub false (.t 70) (.c (.int .i64 1)),(some (60,false))⟩, ⟨(some 72),.iaddrS 5 (.t 68) (.t 71),(some (60,false))⟩, ⟨(some 73),.faddr 1 (.t 72),(some (60,false))⟩, ⟨(some 74),.load false 1 (.t 73),(some (60,false))⟩, ⟨(some 75),.bin .neq false (.t 67) (.t 74),(some (60,false))⟩, ⟨(some 76),.pick (.t 60) (.c (.bool true)) (.t 75),none⟩]
def wzd6:List (List Nat):=[[],[0],[0,1],[0,1,2],[],[4],[4,5],[4,5,6],[0,1,2,3,4,5,6,7],[0,1,2,3,4,5,6,7,8],[0,1,2,3,4,5,6,7,8,9],[0,1,2,3,4,5,6,7,8,9],[0,1,2,3,4,5,6,7,8,9,11],[0,1,2,3,4,5,6,7,8,9,11,12],[0,1,2,3,4,5,6,7,8,9,10,11,12,13],[0,1,2,3,4,5,6,7,8,9,10,11,12,13,14],[0,1,2,3,4,5,6,7,8,9,10,11,12,13,14,15],[0,1,2,3,4,5,6,7,8,9],[0,1,2,3,4,5,6,7,8,9],[0,1,2,3,4,5,6,7,8,9,18],[0,1,2,3,4,5,6,7,8,9,18,19],[0,1,2,3,4,5,6,7,8,9,17,18,19,20],[0,1,2,3,4,5,6,7,8,9,17,18,19,20,21],[0,1,2,3,4,5,6,7,8,9,17,18,19,20,21,22],[0,1,2,3,4,5,6,7,8,9,10,11,12,13,14,15,16,17,18,19,20,21,22,23],[0,1,2,3,4,5,6,7,8,9,10,11,12,13,14,15,16,17,18,19,20,21,22,23,24]]
def qz0c(b:Nat):List qzc:=[ ⟨(some 4),.mv (.c (.bool false)),none⟩, ⟨(some 5),.mv (.c (.int .i64 0)),none⟩]
def kzpu(b:Nat):List qzc:=[ ⟨(some 77),.mv (.t 1),none⟩, ⟨(some 78),.len false (.t 77),none⟩, ⟨(some 79),.mv (.c (.int .i64 0)),none⟩]
def kzpg(b:Nat):List qzc:=[ ⟨(some 80),.bin .lss false (.t 79) (.t 78),none⟩]
def kzqu(b:Nat):List qzc:=[ ⟨(some 81),.iaddrS 5 (.t 77) (.t 79),none⟩, ⟨(some 82),.load true 5 (.t 81),none⟩, ⟨(some 10),.alloc (b+1) [.int .i64 0,.int .i64 0,.nils,.int .i64 0,.int .i64 0],none⟩, ⟨none,.store 5 (.t 10) (.t 82),none⟩]
def kzpp(b:Nat):List qzc:=[ ⟨(some 83),.mkmap (b+2),none⟩, ⟨(some 11),.mv (.t 83),none⟩]
def kzr1(b:Nat):List qzc:=[ ⟨(some 84),.faddr 2 (.t 10),none⟩, ⟨(some 85),.load false 1 (.t 84),none⟩, ⟨(some 86),.len false (.t 85),none⟩, ⟨(some 87),.mv (.c (.int .i64 0)),none⟩]
def kzrf(b:Nat):List qzc:=[ ⟨(some 88),.bin .lss false (.t 87) (.t 86),none⟩]
def kzpt(b:Nat):List qzc:=[ ⟨(some 89),.iaddrS 2 (.t 85) (.t 87),none⟩, ⟨(some 90),.load true 2 (.t 89),none⟩, ⟨(some 13),.alloc (b+3) [.int .i64 0,.int .i64 0],none⟩, ⟨none,.store 2 (.t 13) (.t 90),none⟩]
def kzqj(b:Nat):List qzc:=[ ⟨(some 91),.mv (.t 11),none⟩, ⟨(some 92),.faddr 0 (.t 13),none⟩, ⟨(some 93),.load false 1 (.t 92),none⟩, ⟨(some 94),.faddr 1 (.t 13),none⟩, ⟨(some 95),.load false 1 (.t 94),none⟩, ⟨none,.mupd 1 (.t 91) (.t 93) (.t 95),none⟩]
def kzru(b:Nat):List qzc:=[ ⟨(some 96),.bin .add false (.t 87) (.c (.int .i64 1)),none⟩, ⟨(some 87),.mv (.t 96),none⟩]
def kzws(b:Nat):qzk:=.seq (.reg false (kzrf b) []) (.seq (.cond (.t 88) (.skip) (.exit 4)) (.seq (.block 5 (.seq (.reg false (kzpt b) []) (.reg false (kzqj b) []))) (.reg false (kzru b) [])))
def kzq1(b:Nat):List qzc:=[ ⟨(some 97),.mv (.t 0),none⟩, ⟨(some 98),.len false (.t 97),none⟩, ⟨(some 99),.mv (.c (.int .i64 0)),none⟩]
def kzpl(b:Nat):List qzc:=[ ⟨(some 100),.bin .lss false (.t 99) (.t 98),none⟩]
def kzqa(b:Nat):List qzc:=[ ⟨(some 101),.iaddrS 5 (.t 97) (.t 99),none⟩, ⟨(some 102),.load true 5 (.t 101),none⟩, ⟨(some 15),.alloc (b+4) [.int .i64 0,.int .i64 0,.nils,.int .i64 0,.int .i64 0],none⟩, ⟨none,.store 5 (.t 15) (.t 102),none⟩]
def kzpc(b:Nat):List qzc:=[ ⟨(some 103),.faddr 0 (.t 15),none⟩, ⟨(some 104),.load false 1 (.t 103),none⟩, ⟨(some 105),.faddr 0 (.t 10),none⟩, ⟨(some 106),.load false 1 (.t 105),none⟩, ⟨(some 107),.max (.t 104) (.t 106),none⟩, ⟨(some 108),.faddr 1 (.t 15),none⟩, ⟨(some 109),.load false 1 (.t 108),none⟩, ⟨(some 110),.faddr 1 (.t 10),none⟩, ⟨(some 111),.load false 1 (.t 110),none⟩, ⟨(some 112),.min (.t 109) (.t 111),none⟩, ⟨(some 16),.mv (.t 107),none⟩, ⟨(some 17),.mv (.t 112),none⟩]
def kzt6:List (List Nat):=[[],[0],[],[2],[0,1,2,3],[],[5],[],[7],[5,6,7,8],[0,1,2,3,4],[0,1,2,3,4,5,6,7,8,9,10]]
def kzqq(b:Nat):List qzc:=[ ⟨(some 113),.mv (.t 16),none⟩, ⟨(some 114),.mv (.t 17),none⟩, ⟨(some 115),.bin .geq false (.t 113) (.t 114),none⟩]
def kzq7(b:Nat):List qzc:=[ ⟨(some 117),.load true 5 (.t 15),none⟩, ⟨(some 118),.callf 29 [.t 117],none⟩, ⟨(some 116),.mv (.t 118),none⟩, ⟨(some 119),.extract 0 (.t 116),none⟩, ⟨(some 120),.extract 1 (.t 116),none⟩, ⟨(some 18),.mv (.t 119),none⟩, ⟨(some 19),.mv (.t 120),none⟩]
def kzp2(b:Nat):List qzc:=[ ⟨(some 137),.load true 5 (.t 10),none⟩, ⟨(some 138),.callf 30 [.t 137],none⟩, ⟨(some 136),.mv (.t 138),none⟩]
def kzra(b:Nat):List qzc:=[ ⟨(some 139),.mv (.t 18),none⟩, ⟨(some 140),.faddr 3 (.t 10),none⟩, ⟨(some 141),.load false 1 (.t 140),none⟩, ⟨(some 142),.bin .lss false (.t 139) (.t 141),none⟩, ⟨(some 143),.mv (.t 142),none⟩, ⟨(some 144),.mv (.t 19),(some (143,false))⟩, ⟨(some 145),.faddr 4 (.t 10),(some (143,false))⟩, ⟨(some 146),.load false 1 (.t 145),(some (143,false))⟩, ⟨(some 147),.bin .gtr false (.t 144) (.t 146),(some (143,false))⟩, ⟨(some 148),.pick (.t 143) (.c (.bool true)) (.t 147),none⟩]
def kzqc(b:Nat):List qzc:=[ ⟨(some 4),.mv (.c (.bool false)),none⟩, ⟨(some 5),.mv (.c (.int .i64 0)),none⟩]
def kzp3(b:Nat):List qzc:=[ ⟨(some 150),.mv (.t 18),none⟩, ⟨(some 151),.mv (.t 19),none⟩, ⟨(some 152),.bin .eql false (.t 150) (.t 151),none⟩, ⟨(some 149),.mv (.t 152),none⟩]
def kzpo(b:Nat):List qzc:=[ ⟨(some 153),.mv (.t 11),none⟩, ⟨(some 154),.mv (.t 18),none⟩, ⟨(some 155),.mlook 1 false (.int .i64 0) (.t 153) (.t 154),none⟩, ⟨(some 156),.mv (.t 17),none⟩, ⟨(some 157),.mv (.t 16),none⟩, ⟨(some 158),.bin .sub false (.t 156) (.t 157),none⟩, ⟨(some 159),.bin .sub false (.t 155) (.t 158),none⟩, ⟨none,.mupd 1 (.t 153) (.t 154) (.t 159),none⟩]
def kzp1(b:Nat):List qzc:=[ ⟨(some 161),.load true 5 (.t 15),none⟩, ⟨(some 162),.callf 30 [.t 161],none⟩, ⟨(some 163),.mv (.t 162),none⟩, ⟨(some 164),.mv (.t 16),(some (163,false))⟩, ⟨(some 165),.faddr 0 (.t 15),(some (163,false))⟩, ⟨(some 166),.load false 1 (.t 165),(some (163,false))⟩, ⟨(some 167),.bin .neq false (.t 164) (.t 166),(some (163,false))⟩, ⟨(some 168),.pick (.t 163) (.c (.bool true)) (.t 167),none⟩, ⟨(some 169),.mv (.t 168),none⟩, ⟨(some 170),.mv (.t 17),(some (169,false))⟩, ⟨(some 171),.faddr 1 (.t 15),(some (169,false))⟩, ⟨(some 172),.load false 1 (.t 171),(some (169,false))⟩, ⟨(some 173),.bin .neq false (.t 170) (.t 172),(some (169,false))⟩, ⟨(some 174),.pick (.t 169) (.c (.bool true)) (.t 173),none⟩, ⟨(some 160),.mv (.t 174),none⟩]
def kzr0(b:Nat):List qzc:=[ ⟨(some 4),.mv (.c (.bool false)),none⟩, ⟨(some 5),.mv (.c (.int .i64 0)),none⟩]
def kzrq(b:Nat):List qzc:=[ ⟨(some 121),.faddr 2 (.t 15),none⟩, ⟨(some 122),.load false 1 (.t 121),none⟩, ⟨(some 123),.len false (.t 122),none⟩, ⟨(some 124),.mv (.c (.int .i64 0)),none⟩]
def kzrc(b:Nat):List qzc:=[ ⟨(some 125),.bin .lss false (.t 124) (.t 123),none⟩]
def kzq5(b:Nat):List qzc:=[ ⟨(some 126),.iaddrS 2 (.t 122) (.t 124),none⟩, ⟨(some 127),.load true 2 (.t 126),none⟩, ⟨(some 21),.alloc (b+5) [.int .i64 0,.int .i64 0],none⟩, ⟨none,.store 2 (.t 21) (.t 127),none⟩]
def kzqh(b:Nat):List qzc:=[ ⟨(some 128),.mv (.t 11),none⟩, ⟨(some 129),.faddr 0 (.t 21),none⟩, ⟨(some 130),.load false 1 (.t 129),none⟩, ⟨(some 131),.mlook 1 false (.int .i64 0) (.t 128) (.t 130),none⟩, ⟨(some 132),.faddr 1 (.t 21),none⟩, ⟨(some 133),.load false 1 (.t 132),none⟩, ⟨(some 134),.bin .sub false (.t 131) (.t 133),none⟩, ⟨none,.mupd 1 (.t 128) (.t 130) (.t 134),none⟩]
def kzqr(b:Nat):List qzc:=[ ⟨(some 135),.bin .add false (.t 124) (.c (.int .i64 1)),none⟩, ⟨(some 124),.mv (.t 135),none⟩]
def kzwr(b:Nat):qzk:=.seq (.reg false (kzrc b) []) (.seq (.cond (.t 125) (.skip) (.exit 9)) (.seq (.block 10 (.seq (.reg false (kzq5 b) []) (.reg false (kzqh b) []))) (.reg false (kzqr b) [])))
def kzls(b:Nat):List qzc:=[ ⟨(some 175),.bin .add false (.t 99) (.c (.int .i64 1)),none⟩, ⟨(some 99),.mv (.t 175),none⟩]
def kzwk(b:Nat):qzk:=.seq (.reg false (kzpl b) []) (.seq (.cond (.t 100) (.skip) (.exit 6)) (.seq (.block 7 (.seq (.reg false (kzqa b) []) (.seq (.reg true (kzpc b) kzt6) (.seq (.seq (.reg false (kzqq b) []) (.cond (.t 115) (.exit 7) (.skip))) (.seq (.reg false (kzq7 b) []) (.block 8 (.seq (.reg false (kzp2 b) []) (.cond (.t 136) (.seq (.reg false (kzra b) []) (.cond (.t 148) (.seq (.reg false (kzqc b) []) (.ret)) (.skip))) (.seq (.reg false (kzp3 b) []) (.cond (.t 149) (.reg false (kzpo b) []) (.seq (.reg false (kzp1 b) []) (.cond (.t 160) (.seq (.reg false (kzr0 b) []) (.ret)) (.seq (.reg false (kzrq b) []) (.block 9 (.loop (kzwr b)))))))))))))))) (.reg false (kzls b) [])))
def kzpd(b:Nat):List qzc:=[ ⟨(some 176),.mv (.t 11),none⟩, ⟨(some 177),.mrange (b+6) (.t 176),none⟩]
def kzrb(b:Nat):List qzc:=[ ⟨(some 178),.mnext (.t 177),none⟩, ⟨(some 179),.extract 0 (.t 178),none⟩]
def kzpk(b:Nat):List qzc:=[ ⟨(some 180),.mentry (.t 177),none⟩, ⟨(some 181),.extract 1 (.t 180),none⟩, ⟨(some 23),.mv (.t 181),none⟩]
def kzph(b:Nat):List qzc:=[ ⟨(some 182),.mv (.t 23),none⟩, ⟨(some 183),.bin .neq false (.t 182) (.c (.int .i64 0)),none⟩]
def kzrx(b:Nat):List qzc:=[ ⟨(some 4),.mv (.c (.bool false)),none⟩, ⟨(some 5),.mv (.c (.int .i64 0)),none⟩]
def kzv7(b:Nat):qzk:=.seq (.reg false (kzrb b) []) (.seq (.cond (.t 179) (.skip) (.exit 11)) (.block 12 (.seq (.reg false (kzpk b) []) (.seq (.reg false (kzph b) []) (.cond (.t 183) (.seq (.reg false (kzrx b) []) (.ret)) (.skip))))))
def kzq0(b:Nat):List qzc:=[ ⟨(some 184),.bin .add false (.t 79) (.c (.int .i64 1)),none⟩, ⟨(some 79),.mv (.t 184),none⟩]
def kzwe(b:Nat):qzk:=.seq (.reg false (kzpg b) []) (.seq (.cond (.t 80) (.skip) (.exit 2)) (.seq (.block 3 (.seq (.reg false (kzqu b) []) (.seq (.reg false (kzpp b) []) (.seq (.seq (.reg false (kzr1 b) []) (.block 4 (.loop (kzws b)))) (.seq (.seq (.reg false (kzq1 b) []) (.block 6 (.loop (kzwk b)))) (.seq (.reg false (kzpd b) []) (.block 11 (.loop (kzv7 b))))))))) (.reg false (kzq0 b) [])))
def kzqy(b:Nat):List qzc:=[ ⟨(some 4),.mv (.c (.bool true)),none⟩, ⟨(some 5),.mv (.c (.int .i64 0)),none⟩]
def c12(b:Nat):qzk:=.seq (.reg false (qz4v b) []) (.seq (.seq (.reg false (wzbe b) []) (.block 0 (.loop (kzwx b)))) (.seq (.seq (.reg false (qz6e b) []) (.cond (.t 45) (.seq (.reg false (qz8o b) []) (.ret)) (.skip))) (.seq (.seq (.reg true (qzz9 b) wzd6) (.cond (.t 76) (.seq (.reg false (qz0c b) []) (.ret)) (.skip))) (.seq (.seq (.reg false (kzpu b) []) (.block 2 (.loop (kzwe b)))) (.seq (.reg false (kzqy b) []) (.ret))))))
def rs12:List ARes:=[.t 4,.t 5]
theorem ck12:∃c,Tryd.f12.body=some c/\∀b,qzg Tryd.prog c (c12 b)=true:=⟨_,rfl,fun b=>by kernel_rfl⟩
theorem cr12:qzi Tryd.prog Tryd.f12.results.toList rs12=true:=by kernel_rfl
def qz7h(b:Nat):List qzc:=[ ⟨(some 2),.alloc (b+0) [.nils],none⟩, ⟨(some 3),.alloc (b+1) [.int .i64 0],none⟩]
def qz67(b:Nat):List qzc:=[ ⟨(some 19),.mv (.t 0),none⟩, ⟨(some 20),.callf 25 [.t 19],none⟩, ⟨(some 4),.mv (.t 20),none⟩]
def wzat(b:Nat):List qzc:=[ ⟨(some 21),.mv (.t 4),none⟩, ⟨(some 22),.bin .neq false (.t 21) (.c (.int .i64 0)),none⟩]
def qz6h(b:Nat):List qzc:=[ ⟨(some 23),.mv (.t 4),none⟩, ⟨none,.store 1 (.t 2) (.c (.nils)),none⟩, ⟨none,.store 1 (.t 3) (.t 23),none⟩]
def qz7v(b:Nat):List qzc:=[ ⟨(some 5),.alloc (b+2) [.nils],none⟩]
def wzaj(b:Nat):List qzc:=[ ⟨(some 24),.mv (.t 0),none⟩, ⟨(some 25),.callf 33 [.t 24],none⟩]
def wza4(b:Nat):List qzc:=[ ⟨(some 6),.mv (.t 26),none⟩]
def qz53(b:Nat):List qzc:=[ ⟨(some 27),.mv (.t 6),none⟩, ⟨(some 28),.iaddrS 5 (.t 27) (.c (.int .i64 0)),none⟩, ⟨(some 29),.load true 5 (.t 28),none⟩, ⟨(some 30),.mv (.t 6),none⟩, ⟨(some 31),.mv (.t 6),none⟩, ⟨(some 32),.len false (.t 31),none⟩, ⟨(some 33),.bin .sub false (.t 32) (.c (.int .i64 1)),none⟩, ⟨(some 34),.iaddrS 5 (.t 30) (.t 33),none⟩, ⟨(some 35),.load true 5 (.t 34),none⟩, ⟨(some 7),.alloc (b+3) [.int .i64 0,.int .i64 0,.nils,.int .i64 0,.int .i64 0],none⟩, ⟨(some 8),.alloc (b+4) [.int .i64 0,.int .i64 0,.nils,.int .i64 0,.int .i64 0],none⟩, ⟨none,.store 5 (.t 7) (.t 29),none⟩, ⟨none,.store 5 (.t 8) (.t 35),none⟩]
def kzvi:List (List Nat):=[[],[0],[0,1],[],[],[4],[4,5],[3,4,5,6],[3,4,5,6,7],[],[],[0,1,2,9,10],[0,1,2,3,4,5,6,7,8,9,10,11]]
def qz9h(b:Nat):List qzc:=[ ⟨(some 36),.load true 5 (.t 7),none⟩, ⟨(some 37),.callf 30 [.t 36],none⟩]
def qz5h(b:Nat):List qzc:=[ ⟨(some 38),.load false 1 (.t 5),none⟩, ⟨(some 39),.load true 5 (.t 7),none⟩, ⟨(some 40),.bslice (b+5) 5 1 [.int .i64 0,.int .i64 0,.nils,.int .i64 0,.int .i64 0] [(0,5,.t 39)],none⟩, ⟨(some 41),.append (b+6) 5 56 (.t 38) (.t 40),none⟩, ⟨none,.store 1 (.t 5) (.t 41),none⟩]
def qzy7(b:Nat):List qzc:=[ ⟨(some 42),.load true 5 (.t 7),none⟩, ⟨(some 43),.callf 34 [.t 42],none⟩, ⟨(some 44),.not (.t 43),none⟩, ⟨(some 45),.mv (.t 44),none⟩, ⟨(some 46),.load true 5 (.t 8),(some (45,false))⟩, ⟨(some 47),.callf 34 [.t 46],(some (45,false))⟩, ⟨(some 48),.not (.t 47),(some (45,false))⟩, ⟨(some 49),.pick (.t 45) (.c (.bool true)) (.t 48),none⟩]
def qzx6(b:Nat):List qzc:=[ ⟨none,.store 1 (.t 2) (.c (.nils)),none⟩, ⟨none,.store 1 (.t 3) (.c (.int .i64 29)),none⟩]
def qzza(b:Nat):List qzc:=[ ⟨(some 50),.faddr 2 (.t 7),none⟩, ⟨(some 51),.load false 1 (.t 50),none⟩, ⟨(some 52),.iaddrS 2 (.t 51) (.c (.int .i64 0)),none⟩, ⟨(some 53),.faddr 0 (.t 52),none⟩, ⟨(some 54),.load false 1 (.t 53),none⟩, ⟨(some 55),.faddr 2 (.t 8),none⟩, ⟨(some 56),.load false 1 (.t 55),none⟩, ⟨(some 57),.iaddrS 2 (.t 56) (.c (.int .i64 0)),none⟩, ⟨(some 58),.faddr 0 (.t 57),none⟩, ⟨(some 59),.load false 1 (.t 58),none⟩, ⟨(some 9),.mv (.t 54),none⟩, ⟨(some 10),.mv (.t 59),none⟩]
def kzub:List (List Nat):=[[],[0],[0,1],[0,1,2],[0,1,2,3],[],[5],[5,6],[5,6,7],[5,6,7,8],[0,1,2,3,4],[0,1,2,3,4,5,6,7,8,9,10]]
def qzxx(b:Nat):List qzc:=[ ⟨(some 60),.load false 1 (.t 5),none⟩, ⟨(some 61),.faddr 0 (.t 7),none⟩, ⟨(some 62),.load false 1 (.t 61),none⟩, ⟨(some 63),.faddr 0 (.t 7),none⟩, ⟨(some 64),.load false 1 (.t 63),none⟩, ⟨(some 65),.bin .add false (.t 64) (.c (.int .i64 1)),none⟩, ⟨(some 66),.mv (.t 9),none⟩, ⟨(some 67),.callf 23 [.t 62,.t 65,.t 66],none⟩, ⟨(some 68),.bslice (b+7) 5 1 [.int .i64 0,.int .i64 0,.nils,.int .i64 0,.int .i64 0] [(0,5,.t 67)],none⟩, ⟨(some 69),.append (b+6) 5 56 (.t 60) (.t 68),none⟩, ⟨none,.store 1 (.t 5) (.t 69),none⟩]
def kzt9:List (List Nat):=[[],[],[1],[],[3],[3,4],[],[1,2,3,4,5,6],[1,2,3,4,5,6,7],[0,1,2,3,4,5,6,7,8],[0,1,2,3,4,5,6,7,8,9]]
def qzz5(b:Nat):List qzc:=[ ⟨(some 70),.mkmap (b+9),none⟩, ⟨(some 11),.mv (.t 70),none⟩]
def kzrz(b:Nat):List qzc:=[ ⟨(some 71),.mv (.t 6),none⟩, ⟨(some 72),.len false (.t 71),none⟩, ⟨(some 73),.mv (.c (.int .i64 0)),none⟩]
def kzrs(b:Nat):List qzc:=[ ⟨(some 74),.bin .lss false (.t 73) (.t 72),none⟩]
def kzpa(b:Nat):List qzc:=[ ⟨(some 75),.iaddrS 5 (.t 71) (.t 73),none⟩, ⟨(some 76),.load true 5 (.t 75),none⟩, ⟨(some 13),.alloc (b+10) [.int .i64 0,.int .i64 0,.nils,.int .i64 0,.int .i64 0],none⟩, ⟨none,.store 5 (.t 13) (.t 76),none⟩]
def kzqe(b:Nat):List qzc:=[ ⟨(some 77),.faddr 2 (.t 13),none⟩, ⟨(some 78),.load false 1 (.t 77),none⟩, ⟨(some 79),.len false (.t 78),none⟩, ⟨(some 80),.mv (.c (.int .i64 0)),none⟩]
def kzp8(b:Nat):List qzc:=[ ⟨(some 81),.bin .lss false (.t 80) (.t 79),none⟩]
def kzq3(b:Nat):List qzc:=[ ⟨(some 82),.iaddrS 2 (.t 78) (.t 80),none⟩, ⟨(some 83),.load true 2 (.t 82),none⟩, ⟨(some 15),.alloc (b+11) [.int .i64 0,.int .i64 0],none⟩, ⟨none,.store 2 (.t 15) (.t 83),none⟩]
def kzqk(b:Nat):List qzc:=[ ⟨(some 84),.mv (.t 11),none⟩, ⟨(some 85),.faddr 0 (.t 15),none⟩, ⟨(some 86),.load false 1 (.t 85),none⟩, ⟨(some 87),.mlook 1 false (.int .i64 0) (.t 84) (.t 86),none⟩, ⟨(some 88),.faddr 1 (.t 15),none⟩, ⟨(some 89),.load false 1 (.t 88),none⟩, ⟨(some 90),.bin .add false (.t 87) (.t 89),none⟩, ⟨none,.mupd 1 (.t 84) (.t 86) (.t 90),none⟩]
def kzrh(b:Nat):List qzc:=[ ⟨(some 91),.bin .add false (.t 80) (.c (.int .i64 1)),none⟩, ⟨(some 80),.mv (.t 91),none⟩]
def kzwo(b:Nat):qzk:=.seq (.reg false (kzp8 b) []) (.seq (.cond (.t 81) (.skip) (.exit 4)) (.seq (.block 5 (.seq (.reg false (kzq3 b) []) (.reg false (kzqk b) []))) (.reg false (kzrh b) [])))
def kzrl(b:Nat):List qzc:=[ ⟨(some 92),.bin .add false (.t 73) (.c (.int .i64 1)),none⟩, ⟨(some 73),.mv (.t 92),none⟩]
def kzwf(b:Nat):qzk:=.seq (.reg false (kzrs b) []) (.seq (.cond (.t 74) (.skip) (.exit 2)) (.seq (.block 3 (.seq (.reg false (kzpa b) []) (.seq (.reg false (kzqe b) []) (.block 4 (.loop (kzwo b)))))) (.reg false (kzrl b) [])))
def kzri(b:Nat):List qzc:=[ ⟨(some 93),.mv (.t 11),none⟩, ⟨(some 94),.mv (.t 9),none⟩, ⟨(some 95),.mlook 1 false (.int .i64 0) (.t 93) (.t 94),none⟩, ⟨(some 96),.bin .sub false (.t 95) (.c (.int .i64 1)),none⟩, ⟨none,.mupd 1 (.t 93) (.t 94) (.t 96),none⟩]
def kzr5(b:Nat):List qzc:=[ ⟨(some 97),.mv (.t 11),none⟩, ⟨(some 98),.mv (.t 10),none⟩, ⟨(some 99),.mlook 1 false (.int .i64 0) (.t 97) (.t 98),none⟩, ⟨(some 100),.bin .sub false (.t 99) (.c (.int .i64 1)),none⟩, ⟨none,.mupd 1 (.t 97) (.t 98) (.t 100),none⟩]
def kzqg(b:Nat):List qzc:=[ ⟨(some 101),.faddr 0 (.t 7),none⟩, ⟨(some 102),.load false 1 (.t 101),none⟩, ⟨(some 103),.bin .add false (.t 102) (.c (.int .i64 1)),none⟩, ⟨(some 104),.faddr 1 (.t 8),none⟩, ⟨(some 105),.load false 1 (.t 104),none⟩, ⟨(some 106),.bin .sub false (.t 105) (.c (.int .i64 1)),none⟩, ⟨(some 107),.build [.int .i64 0,.int .i64 0,.nils,.int .i64 0,.int .i64 0] [(0,1,.t 103),(1,1,.t 106)],none⟩, ⟨(some 16),.alloc (b+12) [.int .i64 0,.int .i64 0,.nils,.int .i64 0,.int .i64 0],none⟩, ⟨none,.store 5 (.t 16) (.t 107),none⟩]
def kzpx(b:Nat):List qzc:=[ ⟨(some 108),.mv (.t 11),none⟩, ⟨(some 109),.callf 36 [.t 108],none⟩, ⟨(some 110),.callf 35 [.t 109],none⟩, ⟨(some 111),.len false (.t 110),none⟩, ⟨(some 112),.mv (.c (.int .i64 0)),none⟩]
def kzqx(b:Nat):List qzc:=[ ⟨(some 113),.bin .lss false (.t 112) (.t 111),none⟩]
def kzpm(b:Nat):List qzc:=[ ⟨(some 114),.iaddrS 1 (.t 110) (.t 112),none⟩, ⟨(some 115),.load false 1 (.t 114),none⟩, ⟨(some 18),.mv (.t 115),none⟩]
def kzrt(b:Nat):List qzc:=[ ⟨(some 116),.mv (.t 11),none⟩, ⟨(some 117),.mv (.t 18),none⟩, ⟨(some 118),.mlook 1 false (.int .i64 0) (.t 116) (.t 117),none⟩, ⟨(some 119),.bin .gtr false (.t 118) (.c (.int .i64 0)),none⟩]
def kzn0(b:Nat):List qzc:=[ ⟨(some 120),.faddr 2 (.t 16),none⟩, ⟨(some 121),.load false 1 (.t 120),none⟩, ⟨(some 122),.mv (.t 18),none⟩, ⟨(some 123),.mv (.t 11),none⟩, ⟨(some 124),.mv (.t 18),none⟩, ⟨(some 125),.mlook 1 false (.int .i64 0) (.t 123) (.t 124),none⟩, ⟨(some 126),.build [.int .i64 0,.int .i64 0] [(0,1,.t 122),(1,1,.t 125)],none⟩, ⟨(some 127),.bslice (b+13) 2 1 [.int .i64 0,.int .i64 0] [(0,2,.t 126)],none⟩, ⟨(some 128),.append (b+14) 2 16 (.t 121) (.t 127),none⟩, ⟨(some 129),.faddr 2 (.t 16),none⟩, ⟨none,.store 1 (.t 129) (.t 128),none⟩]
def kzmj(b:Nat):List qzc:=[ ⟨(some 130),.bin .add false (.t 112) (.c (.int .i64 1)),none⟩, ⟨(some 112),.mv (.t 130),none⟩]
def kzwc(b:Nat):qzk:=.seq (.reg false (kzqx b) []) (.seq (.cond (.t 113) (.skip) (.exit 6)) (.seq (.block 7 (.seq (.reg false (kzpm b) []) (.seq (.reg false (kzrt b) []) (.cond (.t 119) (.reg false (kzn0 b) []) (.skip))))) (.reg false (kzmj b) [])))
def kzqs(b:Nat):List qzc:=[ ⟨(some 131),.faddr 0 (.t 16),none⟩, ⟨(some 132),.load false 1 (.t 131),none⟩, ⟨(some 133),.faddr 1 (.t 16),none⟩, ⟨(some 134),.load false 1 (.t 133),none⟩, ⟨(some 135),.bin .lss false (.t 132) (.t 134),none⟩]
def kzq2(b:Nat):List qzc:=[ ⟨(some 136),.load false 1 (.t 5),none⟩, ⟨(some 137),.load true 5 (.t 16),none⟩, ⟨(some 138),.bslice (b+15) 5 1 [.int .i64 0,.int .i64 0,.nils,.int .i64 0,.int .i64 0] [(0,5,.t 137)],none⟩, ⟨(some 139),.append (b+6) 5 56 (.t 136) (.t 138),none⟩, ⟨none,.store 1 (.t 5) (.t 139),none⟩]
def kzr3(b:Nat):List qzc:=[ ⟨(some 140),.faddr 0 (.t 7),none⟩, ⟨(some 141),.load false 1 (.t 140),none⟩, ⟨(some 142),.bin .add false (.t 141) (.c (.int .i64 1)),none⟩, ⟨(some 143),.faddr 1 (.t 8),none⟩, ⟨(some 144),.load false 1 (.t 143),none⟩, ⟨(some 145),.bin .lss false (.t 142) (.t 144),none⟩]
def kzqn(b:Nat):List qzc:=[ ⟨(some 146),.load false 1 (.t 5),none⟩, ⟨(some 147),.faddr 1 (.t 8),none⟩, ⟨(some 148),.load false 1 (.t 147),none⟩, ⟨(some 149),.bin .sub false (.t 148) (.c (.int .i64 1)),none⟩, ⟨(some 150),.faddr 1 (.t 8),none⟩, ⟨(some 151),.load false 1 (.t 150),none⟩, ⟨(some 152),.mv (.t 10),none⟩, ⟨(some 153),.callf 23 [.t 149,.t 151,.t 152],none⟩, ⟨(some 154),.bslice (b+17) 5 1 [.int .i64 0,.int .i64 0,.nils,.int .i64 0,.int .i64 0] [(0,5,.t 153)],none⟩, ⟨(some 155),.append (b+6) 5 56 (.t 146) (.t 154),none⟩, ⟨none,.store 1 (.t 5) (.t 155),none⟩]
def kzuh:List (List Nat):=[[],[],[1],[1,2],[],[4],[],[1,2,3,4,5,6],[1,2,3,4,5,6,7],[0,1,2,3,4,5,6,7,8],[0,1,2,3,4,5,6,7,8,9]]
def wzbl(b:Nat):qzk:=.block 1 (.seq (.reg true (qz53 b) kzvi) (.seq (.seq (.reg false (qz9h b) []) (.cond (.t 37) (.seq (.reg false (qz5h b) []) (.exit 1)) (.skip))) (.seq (.seq (.reg false (qzy7 b) []) (.cond (.t 49) (.seq (.reg false (qzx6 b) []) (.ret)) (.skip))) (.seq (.reg true (qzza b) kzub) (.seq (.reg true (qzxx b) kzt9) (.seq (.reg false (qzz5 b) []) (.seq (.seq (.reg false (kzrz b) []) (.block 2 (.loop (kzwf b)))) (.seq (.reg false (kzri b) []) (.seq (.reg false (kzr5 b) []) (.seq (.reg false (kzqg b) []) (.seq (.seq (.reg false (kzpx b) []) (.block 6 (.loop (kzwc b)))) (.seq (.seq (.reg false (kzqs b) []) (.cond (.t 135) (.reg false (kzq2 b) []) (.skip))) (.seq (.reg false (kzr3 b) []) (.cond (.t 145) (.reg true (kzqn b) kzuh) (.skip)))))))))))))))
def kzr2(b:Nat):List qzc:=[ ⟨(some 156),.load false 1 (.t 5),none⟩, ⟨(some 157),.callf 37 [.t 156,.c (.fn 24 0 [])],none⟩, ⟨none,.store 1 (.t 5) (.t 157),none⟩]
def kzqd(b:Nat):List qzc:=[ ⟨(some 158),.load false 1 (.t 5),none⟩, ⟨(some 159),.len false (.t 158),none⟩, ⟨(some 160),.bin .gtr false (.t 159) (.c (.int .i64 2000)),none⟩]
def kzpy(b:Nat):List qzc:=[ ⟨none,.store 1 (.t 2) (.c (.nils)),none⟩, ⟨none,.store 1 (.t 3) (.c (.int .i64 2)),none⟩]
def kzpv(b:Nat):List qzc:=[ ⟨(some 161),.load false 1 (.t 5),none⟩, ⟨none,.store 1 (.t 2) (.t 161),none⟩, ⟨none,.store 1 (.t 3) (.c (.int .i64 0)),none⟩]
def c16(b:Nat):qzk:=.seq (.reg false (qz7h b) []) (.seq (.seq (.reg false (qz67 b) []) (.seq (.reg false (wzat b) []) (.cond (.t 22) (.seq (.reg false (qz6h b) []) (.ret)) (.skip)))) (.seq (.reg false (qz7v b) []) (.seq (.seq (.reg false (wzaj b) []) (.block 0 (.rfunc (.t 25) [26] (.reg false (wza4 b) []) (wzbl b)))) (.seq (.reg false (kzr2 b) []) (.seq (.seq (.reg false (kzqd b) []) (.cond (.t 160) (.seq (.reg false (kzpy b) []) (.ret)) (.skip))) (.seq (.reg false (kzpv b) []) (.ret)))))))
def rs16:List ARes:=[.c 2 false 1,.c 3 false 1]
theorem ck16:∃c,Tryd.f16.body=some c/\∀b,qzg Tryd.prog c (c16 b)=true:=⟨_,rfl,fun b=>by kernel_rfl⟩
theorem cr16:qzi Tryd.prog Tryd.f16.results.toList rs16=true:=by kernel_rfl
def kzto(b:Nat):List qzc:=[ ⟨(some 4),.mv (.c (.nils)),none⟩, ⟨(some 5),.mv (.c (.int .i64 0)),none⟩]
def kztd(b:Nat):List qzc:=[ ⟨(some 10),.mv (.t 0),none⟩, ⟨(some 11),.mv (.t 1),none⟩, ⟨(some 12),.bslice (b+0) 1 2 [.nils,.nils] [(0,1,.t 10),(1,1,.t 11)],none⟩, ⟨(some 13),.len false (.t 12),none⟩, ⟨(some 14),.mv (.c (.int .i64 0)),none⟩]
def kzs0(b:Nat):List qzc:=[ ⟨(some 15),.bin .lss false (.t 14) (.t 13),none⟩]
def kzss(b:Nat):List qzc:=[ ⟨(some 16),.iaddrS 1 (.t 12) (.t 14),none⟩, ⟨(some 17),.load false 1 (.t 16),none⟩, ⟨(some 7),.mv (.t 17),none⟩]
def kztk(b:Nat):List qzc:=[ ⟨(some 18),.mv (.t 7),none⟩, ⟨(some 19),.callf 25 [.t 18],none⟩, ⟨(some 8),.mv (.t 19),none⟩]
def kztf(b:Nat):List qzc:=[ ⟨(some 20),.mv (.t 8),none⟩, ⟨(some 21),.bin .neq false (.t 20) (.c (.int .i64 0)),none⟩]
def kztg(b:Nat):List qzc:=[ ⟨(some 22),.mv (.t 8),none⟩, ⟨(some 4),.mv (.c (.nils)),none⟩, ⟨(some 5),.mv (.t 22),none⟩]
def kzti(b:Nat):List qzc:=[ ⟨(some 23),.bin .add false (.t 14) (.c (.int .i64 1)),none⟩, ⟨(some 14),.mv (.t 23),none⟩]
def kzwh(b:Nat):qzk:=.seq (.reg false (kzs0 b) []) (.seq (.cond (.t 15) (.skip) (.exit 0)) (.seq (.block 1 (.seq (.reg false (kzss b) []) (.seq (.reg false (kztk b) []) (.seq (.reg false (kztf b) []) (.cond (.t 21) (.seq (.reg false (kztg b) []) (.ret)) (.skip)))))) (.reg false (kzti b) [])))
def kzs5(b:Nat):List qzc:=[ ⟨(some 24),.mv (.t 0),none⟩, ⟨(some 25),.callf 38 [.t 24],none⟩, ⟨(some 26),.mv (.t 1),none⟩, ⟨(some 27),.callf 38 [.t 26],none⟩, ⟨(some 28),.append (b+1) 5 56 (.t 25) (.t 27),none⟩, ⟨(some 9),.mv (.t 28),none⟩]
def kzsw(b:Nat):List qzc:=[ ⟨(some 29),.mv (.t 0),none⟩, ⟨(some 30),.len false (.t 29),none⟩, ⟨(some 31),.bin .gtr false (.t 30) (.c (.int .i64 0)),none⟩, ⟨(some 32),.mv (.t 31),none⟩, ⟨(some 33),.mv (.t 1),(some (32,true))⟩, ⟨(some 34),.len false (.t 33),(some (32,true))⟩, ⟨(some 35),.bin .gtr false (.t 34) (.c (.int .i64 0)),(some (32,true))⟩, ⟨(some 36),.pick (.t 32) (.t 35) (.c (.bool false)),none⟩]
def kzr4(b:Nat):List qzc:=[ ⟨(some 37),.mv (.t 0),none⟩, ⟨(some 38),.mv (.t 0),none⟩, ⟨(some 39),.len false (.t 38),none⟩, ⟨(some 40),.bin .sub false (.t 39) (.c (.int .i64 1)),none⟩, ⟨(some 41),.iaddrS 5 (.t 37) (.t 40),none⟩, ⟨(some 42),.faddr 1 (.t 41),none⟩, ⟨(some 43),.load false 1 (.t 42),none⟩, ⟨(some 44),.mv (.t 1),none⟩, ⟨(some 45),.iaddrS 5 (.t 44) (.c (.int .i64 0)),none⟩, ⟨(some 46),.faddr 0 (.t 45),none⟩, ⟨(some 47),.load false 1 (.t 46),none⟩, ⟨(some 48),.bin .neq false (.t 43) (.t 47),none⟩]
def kzue:List (List Nat):=[[],[],[1],[1,2],[0,1,2,3],[0,1,2,3,4],[0,1,2,3,4,5],[],[7],[7,8],[7,8,9],[0,1,2,3,4,5,6,7,8,9,10]]
def kzrp(b:Nat):List qzc:=[ ⟨(some 4),.mv (.c (.nils)),none⟩, ⟨(some 5),.mv (.c (.int .i64 1)),none⟩]
def kzql(b:Nat):List qzc:=[ ⟨(some 49),.mv (.t 1),none⟩, ⟨(some 50),.mv (.t 1),none⟩, ⟨(some 51),.len false (.t 50),none⟩, ⟨(some 52),.bin .sub false (.t 51) (.c (.int .i64 1)),none⟩, ⟨(some 53),.iaddrS 5 (.t 49) (.t 52),none⟩, ⟨(some 54),.faddr 1 (.t 53),none⟩, ⟨(some 55),.load false 1 (.t 54),none⟩, ⟨(some 56),.mv (.t 0),none⟩, ⟨(some 57),.iaddrS 5 (.t 56) (.c (.int .i64 0)),none⟩, ⟨(some 58),.faddr 0 (.t 57),none⟩, ⟨(some 59),.load false 1 (.t 58),none⟩, ⟨(some 60),.bin .sub false (.t 55) (.t 59),none⟩, ⟨(some 61),.bin .gtr false (.t 60) (.c (.int .i64 40000)),none⟩]
def kztv:List (List Nat):=[[],[],[1],[1,2],[0,1,2,3],[0,1,2,3,4],[0,1,2,3,4,5],[],[7],[7,8],[7,8,9],[0,1,2,3,4,5,6,7,8,9,10],[0,1,2,3,4,5,6,7,8,9,10,11]]
def kzqo(b:Nat):List qzc:=[ ⟨(some 4),.mv (.c (.nils)),none⟩, ⟨(some 5),.mv (.c (.int .i64 2)),none⟩]
def kzpn(b:Nat):List qzc:=[ ⟨(some 62),.mv (.t 9),none⟩, ⟨(some 63),.callf 37 [.t 62,.c (.fn 24 0 [])],none⟩, ⟨(some 9),.mv (.t 63),none⟩]
def kzqz(b:Nat):List qzc:=[ ⟨(some 64),.mv (.t 9),none⟩, ⟨(some 65),.len false (.t 64),none⟩, ⟨(some 66),.bin .gtr false (.t 65) (.c (.int .i64 2000)),none⟩]
def kzry(b:Nat):List qzc:=[ ⟨(some 4),.mv (.c (.nils)),none⟩, ⟨(some 5),.mv (.c (.int .i64 2)),none⟩]
def kzre(b:Nat):List qzc:=[ ⟨(some 67),.mv (.t 9),none⟩, ⟨(some 4),.mv (.t 67),none⟩, ⟨(some 5),.mv (.c (.int .i64 0)),none⟩]
def c17(b:Nat):qzk:=.seq (.reg false (kzto b) []) (.seq (.seq (.reg false (kztd b) []) (.block 0 (.loop (kzwh b)))) (.seq (.reg false (kzs5 b) []) (.seq (.seq (.reg false (kzsw b) []) (.cond (.t 36) (.seq (.seq (.reg true (kzr4 b) kzue) (.cond (.t 48) (.seq (.reg false (kzrp b) []) (.ret)) (.skip))) (.seq (.reg true (kzql b) kztv) (.cond (.t 61) (.seq (.reg false (kzqo b) []) (.ret)) (.skip)))) (.skip))) (.seq (.reg false (kzpn b) []) (.seq (.seq (.reg false (kzqz b) []) (.cond (.t 66) (.seq (.reg false (kzry b) []) (.ret)) (.skip))) (.seq (.reg false (kzre b) []) (.ret)))))))
def rs17:List ARes:=[.t 4,.t 5]
theorem ck17:∃c,Tryd.f17.body=some c/\∀b,qzg Tryd.prog c (c17 b)=true:=⟨_,rfl,fun b=>by kernel_rfl⟩
theorem cr17:qzi Tryd.prog Tryd.f17.results.toList rs17=true:=by kernel_rfl
def qz5q(b:Nat):List qzc:=[ ⟨(some 4),.box (b+0) (.t 0),none⟩, ⟨(some 8),.alloc (b+1) [.int .i64 0,.int .i64 0,.int .i64 0,.int .i64 0,.int .i64 0,.nils,.int .i64 0],none⟩, ⟨(some 9),.mv (.c (.int .i64 0)),none⟩]
def wza7(b:Nat):List qzc:=[ ⟨(some 14),.load true 4 (.t 4),none⟩, ⟨(some 15),.mv (.t 1),none⟩, ⟨(some 16),.callf 18 [.t 14,.t 15],none⟩, ⟨(some 10),.mv (.t 16),none⟩]
def qz4h(b:Nat):List qzc:=[ ⟨(some 17),.mv (.t 10),none⟩, ⟨(some 18),.bin .neq false (.t 17) (.c (.int .i64 0)),none⟩]
def kztl(b:Nat):List qzc:=[ ⟨(some 19),.build [.int .i64 0,.int .i64 0,.int .i64 0,.int .i64 0,.int .i64 0,.nils,.int .i64 0] [],none⟩, ⟨(some 20),.mv (.t 10),none⟩, ⟨none,.store 7 (.t 8) (.t 19),none⟩, ⟨(some 9),.mv (.t 20),none⟩]
def kzsp(b:Nat):List qzc:=[ ⟨(some 21),.mv (.t 2),none⟩, ⟨(some 22),.callf 41 [.t 21],none⟩, ⟨(some 23),.not (.t 22),none⟩, ⟨(some 24),.mv (.t 23),none⟩, ⟨(some 25),.mv (.t 3),(some (24,false))⟩, ⟨(some 26),.bin .lss false (.t 25) (.c (.int .i64 0)),(some (24,false))⟩, ⟨(some 27),.pick (.t 24) (.c (.bool true)) (.t 26),none⟩, ⟨(some 28),.mv (.t 27),none⟩, ⟨(some 29),.mv (.t 3),(some (28,false))⟩, ⟨(some 30),.bin .gtr false (.t 29) (.c (.int .i64 14609)),(some (28,false))⟩, ⟨(some 31),.pick (.t 28) (.c (.bool true)) (.t 30),none⟩]
def kztq(b:Nat):List qzc:=[ ⟨(some 32),.build [.int .i64 0,.int .i64 0,.int .i64 0,.int .i64 0,.int .i64 0,.nils,.int .i64 0] [],none⟩, ⟨none,.store 7 (.t 8) (.t 32),none⟩, ⟨(some 9),.mv (.c (.int .i64 3)),none⟩]
def kzs4(b:Nat):List qzc:=[ ⟨(some 33),.faddr 0 (.t 4),none⟩, ⟨(some 34),.load false 1 (.t 33),none⟩, ⟨(some 35),.faddr 1 (.t 4),none⟩, ⟨(some 36),.load false 1 (.t 35),none⟩, ⟨(some 37),.faddr 2 (.t 4),none⟩, ⟨(some 38),.load false 1 (.t 37),none⟩, ⟨(some 39),.faddr 3 (.t 4),none⟩, ⟨(some 40),.load false 1 (.t 39),none⟩, ⟨(some 41),.build [.int .i64 0,.int .i64 0,.int .i64 0,.int .i64 0,.int .i64 0] [(0,1,.c (.int .i64 0)),(1,1,.t 34),(2,1,.t 36),(3,1,.t 38),(4,1,.t 40)],none⟩, ⟨(some 42),.mv (.t 3),none⟩, ⟨(some 43),.build [.int .i64 0,.int .i64 0,.int .i64 0,.int .i64 0,.int .i64 0,.nils,.int .i64 0] [(0,5,.t 41),(6,1,.t 42)],none⟩, ⟨(some 11),.alloc (b+2) [.int .i64 0,.int .i64 0,.int .i64 0,.int .i64 0,.int .i64 0,.nils,.int .i64 0],none⟩, ⟨none,.store 7 (.t 11) (.t 43),none⟩]
def kzs2(b:Nat):List qzc:=[ ⟨(some 44),.mv (.t 1),none⟩, ⟨(some 45),.len false (.t 44),none⟩, ⟨(some 46),.mv (.c (.int .i64 0)),none⟩]
def kztc(b:Nat):List qzc:=[ ⟨(some 47),.bin .lss false (.t 46) (.t 45),none⟩]
def kztj(b:Nat):List qzc:=[ ⟨(some 48),.iaddrS 3 (.t 44) (.t 46),none⟩, ⟨(some 49),.load true 3 (.t 48),none⟩, ⟨(some 13),.alloc (b+3) [.int .i64 0,.int .i64 0,.int .i64 0],none⟩, ⟨none,.store 3 (.t 13) (.t 49),none⟩]
def kzrr(b:Nat):List qzc:=[ ⟨(some 50),.faddr 0 (.t 13),none⟩, ⟨(some 51),.load false 1 (.t 50),none⟩, ⟨(some 52),.mv (.t 2),none⟩, ⟨(some 53),.bin .eql false (.t 51) (.t 52),none⟩]
def kzn1(b:Nat):List qzc:=[ ⟨(some 54),.faddr 5 (.t 11),none⟩, ⟨(some 55),.load false 1 (.t 54),none⟩, ⟨(some 56),.load true 3 (.t 13),none⟩, ⟨(some 57),.bslice (b+4) 3 1 [.int .i64 0,.int .i64 0,.int .i64 0] [(0,3,.t 56)],none⟩, ⟨(some 58),.append (b+5) 3 24 (.t 55) (.t 57),none⟩, ⟨(some 59),.faddr 5 (.t 11),none⟩, ⟨none,.store 1 (.t 59) (.t 58),none⟩]
def kzms(b:Nat):List qzc:=[ ⟨(some 60),.bin .add false (.t 46) (.c (.int .i64 1)),none⟩, ⟨(some 46),.mv (.t 60),none⟩]
def kzwu(b:Nat):qzk:=.seq (.reg false (kztc b) []) (.seq (.cond (.t 47) (.skip) (.exit 0)) (.seq (.block 1 (.seq (.reg false (kztj b) []) (.seq (.reg false (kzrr b) []) (.cond (.t 53) (.reg false (kzn1 b) []) (.skip))))) (.reg false (kzms b) [])))
def kznp(b:Nat):List qzc:=[ ⟨(some 61),.load true 7 (.t 11),none⟩, ⟨none,.store 7 (.t 8) (.t 61),none⟩, ⟨(some 9),.mv (.c (.int .i64 0)),none⟩]
def c19(b:Nat):qzk:=.seq (.reg false (qz5q b) []) (.seq (.seq (.reg false (wza7 b) []) (.seq (.reg false (qz4h b) []) (.cond (.t 18) (.seq (.reg false (kztl b) []) (.ret)) (.skip)))) (.seq (.seq (.reg false (kzsp b) []) (.cond (.t 31) (.seq (.reg false (kztq b) []) (.ret)) (.skip))) (.seq (.reg false (kzs4 b) []) (.seq (.seq (.reg false (kzs2 b) []) (.block 0 (.loop (kzwu b)))) (.seq (.reg false (kznp b) []) (.ret))))))
def rs19:List ARes:=[.c 8 true 7,.t 9]
theorem ck19:∃c,Tryd.f19.body=some c/\∀b,qzg Tryd.prog c (c19 b)=true:=⟨_,rfl,fun b=>by kernel_rfl⟩
theorem cr19:qzi Tryd.prog Tryd.f19.results.toList rs19=true:=by kernel_rfl
def qz91(b:Nat):List qzc:=[ ⟨(some 2),.mv (.c (.nils)),none⟩]
def wzca(b:Nat):List qzc:=[ ⟨(some 3),.mv (.c (.nils)),none⟩]
def qz9t(b:Nat):List qzc:=[ ⟨(some 9),.mv (.t 0),none⟩, ⟨(some 10),.len false (.t 9),none⟩, ⟨(some 11),.mv (.c (.int .i64 0)),none⟩]
def wzbw(b:Nat):List qzc:=[ ⟨(some 12),.bin .lss false (.t 11) (.t 10),none⟩]
def kztp(b:Nat):List qzc:=[ ⟨(some 13),.iaddrS 5 (.t 9) (.t 11),none⟩, ⟨(some 14),.load true 5 (.t 13),none⟩, ⟨(some 5),.alloc (b+0) [.int .i64 0,.int .i64 0,.nils,.int .i64 0,.int .i64 0],none⟩, ⟨none,.store 5 (.t 5) (.t 14),none⟩]
def kzo2(b:Nat):List qzc:=[ ⟨(some 15),.mv (.t 3),none⟩, ⟨(some 16),.len false (.t 15),none⟩, ⟨(some 6),.mv (.t 16),none⟩]
def kzo8(b:Nat):List qzc:=[ ⟨(some 17),.mv (.t 6),none⟩, ⟨(some 18),.bin .gtr false (.t 17) (.c (.int .i64 0)),none⟩]
def kzsz(b:Nat):List qzc:=[ ⟨(some 20),.mv (.t 3),none⟩, ⟨(some 21),.mv (.t 6),none⟩, ⟨(some 22),.bin .sub false (.t 21) (.c (.int .i64 1)),none⟩, ⟨(some 23),.slice false 5 (.t 20) (some (.t 22)) none,none⟩, ⟨(some 24),.load true 5 (.t 5),none⟩, ⟨(some 25),.fslice (b+1) 5 1 [.int .i64 0,.int .i64 0,.nils,.int .i64 0,.int .i64 0] [(0,5,.t 24)],none⟩, ⟨(some 26),.callf 17 [.t 23,.t 25],none⟩, ⟨(some 19),.mv (.t 26),none⟩, ⟨(some 27),.extract 0 (.t 19),none⟩, ⟨(some 28),.extract 1 (.t 19),none⟩, ⟨(some 7),.mv (.t 27),none⟩, ⟨(some 8),.mv (.t 28),none⟩]
def kzuk:List (List Nat):=[[],[],[1],[0,1,2],[],[4],[0,1,2,3,4,5],[0,1,2,3,4,5,6],[0,1,2,3,4,5,6,7],[0,1,2,3,4,5,6,7],[0,1,2,3,4,5,6,7,8],[0,1,2,3,4,5,6,7,8,9,10]]
def kzsy(b:Nat):List qzc:=[ ⟨(some 29),.mv (.t 8),none⟩, ⟨(some 30),.bin .eql false (.t 29) (.c (.int .i64 0)),none⟩, ⟨(some 31),.mv (.t 30),none⟩, ⟨(some 32),.mv (.t 7),(some (31,true))⟩, ⟨(some 33),.len false (.t 32),(some (31,true))⟩, ⟨(some 34),.bin .eql false (.t 33) (.c (.int .i64 1)),(some (31,true))⟩, ⟨(some 35),.pick (.t 31) (.t 34) (.c (.bool false)),none⟩]
def kzsq(b:Nat):List qzc:=[ ⟨(some 36),.mv (.t 3),none⟩, ⟨(some 37),.mv (.t 6),none⟩, ⟨(some 38),.bin .sub false (.t 37) (.c (.int .i64 1)),none⟩, ⟨(some 39),.mv (.t 7),none⟩, ⟨(some 40),.iaddrS 5 (.t 39) (.c (.int .i64 0)),none⟩, ⟨(some 41),.load true 5 (.t 40),none⟩, ⟨(some 42),.iaddrS 5 (.t 36) (.t 38),none⟩, ⟨none,.store 5 (.t 42) (.t 41),none⟩]
def kzn4(b:Nat):List qzc:=[ ⟨(some 43),.mv (.t 3),none⟩, ⟨(some 44),.load true 5 (.t 5),none⟩, ⟨(some 45),.bslice (b+2) 5 1 [.int .i64 0,.int .i64 0,.nils,.int .i64 0,.int .i64 0] [(0,5,.t 44)],none⟩, ⟨(some 46),.append (b+3) 5 56 (.t 43) (.t 45),none⟩, ⟨(some 3),.mv (.t 46),none⟩]
def kzmn(b:Nat):List qzc:=[ ⟨(some 47),.bin .add false (.t 11) (.c (.int .i64 1)),none⟩, ⟨(some 11),.mv (.t 47),none⟩]
def kzv5(b:Nat):qzk:=.seq (.reg false (wzbw b) []) (.seq (.cond (.t 12) (.skip) (.exit 0)) (.seq (.block 1 (.seq (.reg false (kztp b) []) (.seq (.seq (.reg false (kzo2 b) []) (.seq (.reg false (kzo8 b) []) (.cond (.t 18) (.seq (.reg true (kzsz b) kzuk) (.seq (.reg false (kzsy b) []) (.cond (.t 35) (.seq (.reg false (kzsq b) []) (.exit 1)) (.skip)))) (.skip)))) (.reg false (kzn4 b) [])))) (.reg false (kzmn b) [])))
def kzno(b:Nat):List qzc:=[ ⟨(some 48),.mv (.t 3),none⟩, ⟨(some 2),.mv (.t 48),none⟩]
def c28(b:Nat):qzk:=.seq (.reg false (qz91 b) []) (.seq (.reg false (wzca b) []) (.seq (.seq (.reg false (qz9t b) []) (.block 0 (.loop (kzv5 b)))) (.seq (.reg false (kzno b) []) (.ret))))
def rs28:List ARes:=[.t 2]
theorem ck28:∃c,Tryd.f28.body=some c/\∀b,qzg Tryd.prog c (c28 b)=true:=⟨_,rfl,fun b=>by kernel_rfl⟩
theorem cr28:qzi Tryd.prog Tryd.f28.results.toList rs28=true:=by kernel_rfl
def qz5b(b:Nat):List qzc:=[ ⟨(some 2),.box (b+0) (.t 0),none⟩, ⟨(some 3),.box (b+1) (.t 1),none⟩, ⟨(some 4),.alloc (b+2) [.int .i64 0,.int .i64 0,.int .i64 0],none⟩]
def wzbt(b:Nat):List qzc:=[ ⟨(some 5),.alloc (b+3) [.nilfn],none⟩]
def wzam(b:Nat):List qzc:=[ ⟨(some 6),.mkfn 48 0 [.t 3,.t 2,.t 5],none⟩, ⟨none,.store 1 (.t 5) (.t 6),none⟩]
def qz5r(b:Nat):List qzc:=[ ⟨(some 7),.load false 1 (.t 5),none⟩, ⟨(some 8),.callv (.t 7) [.c (.int .i64 4)],none⟩, ⟨none,.store 3 (.t 4) (.t 8),none⟩]
def c32(b:Nat):qzk:=.seq (.reg false (qz5b b) []) (.seq (.reg false (wzbt b) []) (.seq (.reg false (wzam b) []) (.seq (.reg false (qz5r b) []) (.ret))))
def rs32:List ARes:=[.c 4 true 3]
theorem ck32:∃c,Tryd.f32.body=some c/\∀b,qzg Tryd.prog c (c32 b)=true:=⟨_,rfl,fun b=>by kernel_rfl⟩
theorem cr32:qzi Tryd.prog Tryd.f32.results.toList rs32=true:=by kernel_rfl
def qz6w(b:Nat):List qzc:=[ ⟨(some 1),.box (b+0) (.t 0),none⟩, ⟨(some 2),.mv (.c (.nilfn)),none⟩]
def qz4z(b:Nat):List qzc:=[ ⟨(some 3),.mkfn 51 0 [.t 1],none⟩, ⟨(some 2),.mv (.t 3),none⟩]
def c33(b:Nat):qzk:=.seq (.reg false (qz6w b) []) (.seq (.reg false (qz4z b) []) (.ret))
def rs33:List ARes:=[.t 2]
theorem ck33:∃c,Tryd.f33.body=some c/\∀b,qzg Tryd.prog c (c33 b)=true:=⟨_,rfl,fun b=>by kernel_rfl⟩
theorem cr33:qzi Tryd.prog Tryd.f33.results.toList rs33=true:=by kernel_rfl
def kzaq(b:Nat):List qzc:=[ ⟨(some 5),.alloc (b+0) [.int .i64 0,.int .i64 0,.int .i64 0],none⟩]
def kzah(b:Nat):List qzc:=[ ⟨(some 9),.mv (.t 0),none⟩, ⟨(some 10),.load false 1 (.t 1),none⟩, ⟨(some 11),.callf 49 [.t 9,.t 10],none⟩, ⟨(some 8),.mv (.t 11),none⟩, ⟨(some 12),.extract 0 (.t 8),none⟩, ⟨(some 13),.extract 1 (.t 8),none⟩, ⟨(some 6),.alloc (b+1) [.int .i64 0,.int .i64 0,.int .i64 0],none⟩, ⟨none,.store 3 (.t 6) (.t 12),none⟩, ⟨(some 7),.mv (.t 13),none⟩]
def kzat(b:Nat):List qzc:=[ ⟨(some 15),.load true 7 (.t 2),none⟩, ⟨(some 16),.load true 3 (.t 6),none⟩, ⟨(some 17),.callf 50 [.t 15,.t 16],none⟩, ⟨(some 14),.mv (.t 17),none⟩]
def kzar(b:Nat):List qzc:=[ ⟨(some 18),.load true 3 (.t 6),none⟩, ⟨none,.store 3 (.t 5) (.t 18),none⟩]
def kzaf(b:Nat):List qzc:=[ ⟨(some 20),.mv (.t 0),none⟩, ⟨(some 21),.bin .eql false (.t 20) (.c (.int .i64 1)),none⟩, ⟨(some 19),.mv (.t 21),none⟩]
def kzag(b:Nat):List qzc:=[ ⟨(some 22),.faddr 0 (.t 6),none⟩, ⟨none,.store 1 (.t 22) (.c (.int .i64 0)),none⟩]
def kzal(b:Nat):List qzc:=[ ⟨(some 23),.load true 3 (.t 6),none⟩, ⟨none,.store 3 (.t 5) (.t 23),none⟩]
def kztb(b:Nat):List qzc:=[ ⟨(some 24),.load false 1 (.t 3),none⟩, ⟨(some 25),.mv (.t 0),none⟩, ⟨(some 26),.bin .sub false (.t 25) (.c (.int .i64 1)),none⟩, ⟨(some 27),.callv (.t 24) [.t 26],none⟩, ⟨none,.store 3 (.t 5) (.t 27),none⟩]
def c48(b:Nat):qzk:=.seq (.reg false (kzaq b) []) (.seq (.reg false (kzah b) []) (.seq (.block 0 (.seq (.reg false (kzat b) []) (.cond (.t 14) (.seq (.reg false (kzar b) []) (.ret)) (.seq (.reg false (kzaf b) []) (.cond (.t 19) (.seq (.reg false (kzag b) []) (.seq (.reg false (kzal b) []) (.ret))) (.skip)))))) (.seq (.reg false (kztb b) []) (.ret))))
def rs48:List ARes:=[.c 5 true 3]
theorem ck48:∃c,Tryd.f48.body=some c/\∀b,qzg Tryd.prog c (c48 b)=true:=⟨_,rfl,fun b=>by kernel_rfl⟩
theorem cr48:qzi Tryd.prog Tryd.f48.results.toList rs48=true:=by kernel_rfl
def kzst(b:Nat):List qzc:=[ ⟨(some 2),.box (b+0) (.t 0),none⟩, ⟨(some 3),.box (b+1) (.t 1),none⟩, ⟨(some 4),.mv (.c (.bool false)),none⟩]
def kzso(b:Nat):List qzc:=[ ⟨(some 6),.faddr 6 (.t 2),none⟩, ⟨(some 7),.load false 1 (.t 6),none⟩, ⟨(some 8),.faddr 2 (.t 3),none⟩, ⟨(some 9),.load false 1 (.t 8),none⟩, ⟨(some 10),.bin .sub false (.t 9) (.c (.int .i64 1)),none⟩, ⟨(some 11),.bin .quo false (.t 10) (.c (.int .i64 96)),none⟩, ⟨(some 12),.bin .sub false (.t 7) (.t 11),none⟩, ⟨(some 13),.faddr 0 (.t 3),none⟩, ⟨(some 14),.load false 1 (.t 13),none⟩, ⟨(some 15),.faddr 0 (.t 2),none⟩, ⟨(some 16),.iaddrA 5 1 (.t 15) (.t 14),none⟩, ⟨(some 17),.load false 1 (.t 16),none⟩, ⟨(some 18),.bin .gtr false (.t 12) (.t 17),none⟩, ⟨(some 5),.mv (.t 18),none⟩]
def kzu5:List (List Nat):=[[],[0],[],[2],[2,3],[2,3,4],[0,1,2,3,4,5],[],[7],[],[7,8,9],[7,8,9,10],[0,1,2,3,4,5,6,7,8,9,10,11],[0,1,2,3,4,5,6,7,8,9,10,11,12]]
def kzs9(b:Nat):List qzc:=[ ⟨(some 19),.mv (.t 5),none⟩, ⟨(some 20),.mv (.t 19),none⟩, ⟨(some 21),.faddr 5 (.t 2),(some (20,true))⟩, ⟨(some 22),.load false 1 (.t 21),(some (20,true))⟩, ⟨(some 23),.mkfn 64 0 [.t 3],(some (20,true))⟩, ⟨(some 24),.callf 39 [.t 22,.t 23],(some (20,true))⟩, ⟨(some 25),.not (.t 24),(some (20,true))⟩, ⟨(some 26),.pick (.t 20) (.t 25) (.c (.bool false)),none⟩, ⟨(some 4),.mv (.t 26),none⟩]
def c50(b:Nat):qzk:=.seq (.reg false (kzst b) []) (.seq (.reg true (kzso b) kzu5) (.seq (.reg false (kzs9 b) []) (.ret)))
def rs50:List ARes:=[.t 4]
theorem ck50:∃c,Tryd.f50.body=some c/\∀b,qzg Tryd.prog c (c50 b)=true:=⟨_,rfl,fun b=>by kernel_rfl⟩
theorem cr50:qzi Tryd.prog Tryd.f50.results.toList rs50=true:=by kernel_rfl
def qz52(b:Nat):List qzc:=[ ⟨(some 4),.load false 1 (.t 1),none⟩, ⟨(some 5),.len false (.t 4),none⟩, ⟨(some 6),.bin .gtr false (.t 5) (.c (.int .i64 0)),none⟩]
def qz8k(b:Nat):List qzc:=[ ⟨(some 3),.mv (.c (.int .i64 1)),none⟩]
def jz89(b:Nat):List qzc:=[ ⟨(some 7),.mv (.t 3),none⟩, ⟨(some 8),.load false 1 (.t 1),none⟩, ⟨(some 9),.len false (.t 8),none⟩, ⟨(some 10),.bin .lss false (.t 7) (.t 9),none⟩, ⟨(some 11),.mv (.t 10),none⟩, ⟨(some 12),.load false 1 (.t 1),(some (11,true))⟩, ⟨(some 13),.iaddrS 5 (.t 12) (.c (.int .i64 0)),(some (11,true))⟩, ⟨(some 14),.load true 5 (.t 13),(some (11,true))⟩, ⟨(some 15),.callf 30 [.t 14],(some (11,true))⟩, ⟨(some 16),.not (.t 15),(some (11,true))⟩, ⟨(some 17),.pick (.t 11) (.t 16) (.c (.bool false)),none⟩, ⟨(some 18),.mv (.t 17),none⟩, ⟨(some 19),.load false 1 (.t 1),(some (18,true))⟩, ⟨(some 20),.mv (.t 3),(some (18,true))⟩, ⟨(some 21),.iaddrS 5 (.t 19) (.t 20),(some (18,true))⟩, ⟨(some 22),.load true 5 (.t 21),(some (18,true))⟩, ⟨(some 23),.callf 30 [.t 22],(some (18,true))⟩, ⟨(some 24),.not (.t 23),(some (18,true))⟩, ⟨(some 25),.pick (.t 18) (.t 24) (.c (.bool false)),none⟩]
def kzam(b:Nat):List qzc:=[ ⟨(some 26),.mv (.t 3),none⟩, ⟨(some 27),.bin .add false (.t 26) (.c (.int .i64 1)),none⟩, ⟨(some 3),.mv (.t 27),none⟩]
def kzb1(b:Nat):qzk:=.seq (.seq (.reg false (jz89 b) []) (.cond (.t 25) (.skip) (.exit 2))) (.block 3 (.reg false (kzam b) []))
def kzai(b:Nat):List qzc:=[ ⟨(some 28),.mv (.t 0),none⟩, ⟨(some 29),.load false 1 (.t 1),none⟩, ⟨(some 30),.mv (.t 3),none⟩, ⟨(some 31),.slice false 5 (.t 29) none (some (.t 30)),none⟩, ⟨(some 32),.callv (.t 28) [.t 31],none⟩, ⟨(some 33),.not (.t 32),none⟩]
def kzan(b:Nat):List qzc:=[ ⟨(some 34),.load false 1 (.t 1),none⟩, ⟨(some 35),.mv (.t 3),none⟩, ⟨(some 36),.slice false 5 (.t 34) (some (.t 35)) none,none⟩, ⟨none,.store 1 (.t 1) (.t 36),none⟩]
def kzbz(b:Nat):qzk:=.seq (.seq (.reg false (qz52 b) []) (.cond (.t 6) (.skip) (.exit 0))) (.block 1 (.seq (.reg false (qz8k b) []) (.seq (.block 2 (.loop (kzb1 b))) (.seq (.seq (.reg false (kzai b) []) (.cond (.t 33) (.ret) (.skip))) (.reg false (kzan b) [])))))
def c51(b:Nat):qzk:=.block 0 (.loop (kzbz b))
def rs51:List ARes:=[]
theorem ck51:∃c,Tryd.f51.body=some c/\∀b,qzg Tryd.prog c (c51 b)=true:=⟨_,rfl,fun b=>by kernel_rfl⟩
theorem cr51:qzi Tryd.prog Tryd.f51.results.toList rs51=true:=by kernel_rfl
def qz56(b:Nat):List qzc:=[ ⟨(some 4),.mv (.c (.int .i64 0)),none⟩]
def qz77(b:Nat):List qzc:=[ ⟨(some 5),.mv (.t 1),none⟩, ⟨(some 6),.bin .eql false (.t 5) (.c (.int .i64 2)),none⟩, ⟨(some 7),.mv (.t 6),none⟩, ⟨(some 8),.mv (.t 0),(some (7,true))⟩, ⟨(some 9),.callf 68 [.t 8],(some (7,true))⟩, ⟨(some 10),.pick (.t 7) (.t 9) (.c (.bool false)),none⟩]
def wzbg(b:Nat):List qzc:=[ ⟨(some 4),.mv (.c (.int .i64 29)),none⟩]
def qz9k(b:Nat):List qzc:=[ ⟨(some 11),.mv (.t 1),none⟩, ⟨(some 12),.bin .sub false (.t 11) (.c (.int .i64 1)),none⟩, ⟨(some 13),.iaddrA 12 1 (.g 0) (.t 12),none⟩, ⟨(some 14),.load false 1 (.t 13),none⟩, ⟨(some 4),.mv (.t 14),none⟩]
def c61(b:Nat):qzk:=.seq (.reg false (qz56 b) []) (.seq (.seq (.reg false (qz77 b) []) (.cond (.t 10) (.seq (.reg false (wzbg b) []) (.ret)) (.skip))) (.seq (.reg false (qz9k b) []) (.ret)))
def rs61:List ARes:=[.t 4]
theorem ck61:∃c,Tryd.f61.body=some c/\∀b,qzg Tryd.prog c (c61 b)=true:=⟨_,rfl,fun b=>by kernel_rfl⟩
theorem cr61:qzi Tryd.prog Tryd.f61.results.toList rs61=true:=by kernel_rfl
def wzae(b:Nat):List qzc:=[ ⟨(some 2),.mv (.c (.nils)),none⟩]
def qz7e(b:Nat):List qzc:=[ ⟨(some 5),.mv (.t 0),none⟩, ⟨(some 6),.callf 55 [.t 5],none⟩, ⟨(some 3),.mv (.t 6),none⟩]
def kzo1(b:Nat):List qzc:=[ ⟨(some 7),.mv (.t 3),none⟩, ⟨(some 8),.len false (.t 7),none⟩, ⟨(some 9),.mv (.c (.int .i64 0)),none⟩]
def kzox(b:Nat):List qzc:=[ ⟨(some 10),.bin .lss false (.t 9) (.t 8),none⟩]
def kztm(b:Nat):List qzc:=[ ⟨(some 11),.mv (.t 9),none⟩, ⟨(some 4),.mv (.t 11),none⟩]
def kzs1(b:Nat):List qzc:=[ ⟨(some 12),.mv (.t 3),none⟩, ⟨(some 13),.mv (.t 4),none⟩, ⟨(some 14),.mv (.t 3),none⟩, ⟨(some 15),.mv (.t 4),none⟩, ⟨(some 16),.iaddrS 5 (.t 14) (.t 15),none⟩, ⟨(some 17),.faddr 2 (.t 16),none⟩, ⟨(some 18),.load false 1 (.t 17),none⟩, ⟨(some 19),.callf 56 [.t 18],none⟩, ⟨(some 20),.iaddrS 5 (.t 12) (.t 13),none⟩, ⟨(some 21),.faddr 2 (.t 20),none⟩, ⟨none,.store 1 (.t 21) (.t 19),none⟩]
def kzta(b:Nat):List qzc:=[ ⟨(some 22),.bin .add false (.t 9) (.c (.int .i64 1)),none⟩, ⟨(some 9),.mv (.t 22),none⟩]
def kzwl(b:Nat):qzk:=.seq (.reg false (kzox b) []) (.seq (.cond (.t 10) (.skip) (.exit 0)) (.seq (.block 1 (.seq (.reg false (kztm b) []) (.reg false (kzs1 b) []))) (.reg false (kzta b) [])))
def kzo5(b:Nat):List qzc:=[ ⟨(some 23),.mv (.t 3),none⟩, ⟨(some 2),.mv (.t 23),none⟩]
def c38(b:Nat):qzk:=.seq (.reg false (wzae b) []) (.seq (.reg false (qz7e b) []) (.seq (.seq (.reg false (kzo1 b) []) (.block 0 (.loop (kzwl b)))) (.seq (.reg false (kzo5 b) []) (.ret))))
def rs38:List ARes:=[.t 2]
theorem ck38:∃c,Tryd.f38.body=some c/\∀b,qzg Tryd.prog c (c38 b)=true:=⟨_,rfl,fun b=>by kernel_rfl⟩
theorem cr38:qzi Tryd.prog Tryd.f38.results.toList rs38=true:=by kernel_rfl
end Go.Am

