/- Part G1 of the proof that the last part closes: the code of some functions of this seat over abstract operations. No condition. -/
import Derived.Test.YtiaclogojhfmfaaGreatDoorF2
import Derived.Test.YtiaclogojhfmfaaGreatDoorA5
set_option linter.unusedVariables false
namespace Go.Am
open Go.Proofs
def jzuk(b:Nat):List qzc:=[
 ⟨(some 2),.mv (.c (.nils)),none⟩]
def jzs3(b:Nat):List qzc:=[
 ⟨(some 3),.mv (.t 0),none⟩,
 ⟨(some 4),.isnil false (.t 3),none⟩]
def jzw1(b:Nat):List qzc:=[
 ⟨(some 2),.mv (.c (.nils)),none⟩]
def jzsx(b:Nat):List qzc:=[
 ⟨(some 5),.bslice (b+0) 6 0 [] [],none⟩,
 ⟨(some 6),.mv (.t 0),none⟩,
 ⟨(some 7),.append (b+1) 6 48 (.t 5) (.t 6),none⟩,
 ⟨(some 2),.mv (.t 7),none⟩]
def c49(b:Nat):qzk:=.seq (.reg false (jzuk b) []) (.seq (.seq (.reg false (jzs3 b) []) (.cond (.t 4) (.seq (.reg false (jzw1 b) []) (.ret)) (.skip))) (.seq (.reg false (jzsx b) []) (.ret)))
def rs49:List ARes:=[.t 2]
theorem ck49:∃c,Tryz.f49.body=some c∧∀b,qzg Tryz.prog c (c49 b)=true:=⟨_,rfl,fun b=>by kernel_rfl⟩
theorem cr49:qzi Tryz.prog Tryz.f49.results.toList rs49=true:=by kernel_rfl
def jzun(b:Nat):List qzc:=[
 ⟨(some 2),.mv (.c (.nils)),none⟩]
def jzui(b:Nat):List qzc:=[
 ⟨(some 4),.mv (.t 0),none⟩,
 ⟨(some 5),.callf 83 [.t 4],none⟩,
 ⟨(some 3),.mv (.t 5),none⟩]
def jzsy(b:Nat):List qzc:=[
 ⟨(some 6),.mv (.t 3),none⟩,
 ⟨(some 7),.callf 84 [.t 6],none⟩]
def jzs5(b:Nat):List qzc:=[
 ⟨(some 8),.mv (.t 3),none⟩,
 ⟨(some 2),.mv (.t 8),none⟩]
def c54(b:Nat):qzk:=.seq (.reg false (jzun b) []) (.seq (.reg false (jzui b) []) (.seq (.reg false (jzsy b) []) (.seq (.reg false (jzs5 b) []) (.ret))))
def rs54:List ARes:=[.t 2]
theorem ck54:∃c,Tryz.f54.body=some c∧∀b,qzg Tryz.prog c (c54 b)=true:=⟨_,rfl,fun b=>by kernel_rfl⟩
theorem cr54:qzi Tryz.prog Tryz.f54.results.toList rs54=true:=by kernel_rfl
def wzac(b:Nat):List qzc:=[
 ⟨(some 1),.box (b+0) (.t 0),none⟩,
 ⟨(some 2),.mv (.c (.nilfn)),none⟩]
def wzbd(b:Nat):List qzc:=[
 ⟨(some 3),.mkfn 85 0 [.t 1],none⟩,
 ⟨(some 2),.mv (.t 3),none⟩]
def c55(b:Nat):qzk:=.seq (.reg false (wzac b) []) (.seq (.reg false (wzbd b) []) (.ret))
def rs55:List ARes:=[.t 2]
theorem ck55:∃c,Tryz.f55.body=some c∧∀b,qzg Tryz.prog c (c55 b)=true:=⟨_,rfl,fun b=>by kernel_rfl⟩
theorem cr55:qzi Tryz.prog Tryz.f55.results.toList rs55=true:=by kernel_rfl
def jzue(b:Nat):List qzc:=[
 ⟨(some 2),.mv (.c (.nils)),none⟩]
def jzuh(b:Nat):List qzc:=[
 ⟨(some 3),.mv (.t 0),none⟩,
 ⟨(some 4),.callf 102 [.c (.nils),.t 3],none⟩,
 ⟨(some 2),.mv (.t 4),none⟩]
def c83(b:Nat):qzk:=.seq (.reg false (jzue b) []) (.seq (.reg false (jzuh b) []) (.ret))
def rs83:List ARes:=[.t 2]
theorem ck83:∃c,Tryz.f83.body=some c∧∀b,qzg Tryz.prog c (c83 b)=true:=⟨_,rfl,fun b=>by kernel_rfl⟩
theorem cr83:qzi Tryz.prog Tryz.f83.results.toList rs83=true:=by kernel_rfl
def jzfa(b:Nat):List qzc:=[
 ⟨(some 3),.mv (.t 0),none⟩,
 ⟨(some 4),.len false (.t 3),none⟩,
 ⟨(some 2),.mv (.t 4),none⟩]
def jzfm(b:Nat):List qzc:=[
 ⟨(some 5),.mv (.t 0),none⟩,
 ⟨(some 6),.mv (.t 2),none⟩,
 ⟨(some 7),.mv (.t 2),none⟩,
 ⟨(some 8),.conv .u64 (.t 7),none⟩,
 ⟨(some 9),.callf 104 [.t 8],none⟩,
 ⟨(some 10),.callf 103 [.t 5,.c (.int .i64 0),.t 6,.t 9],none⟩]
def c84(b:Nat):qzk:=.seq (.reg false (jzfa b) []) (.reg false (jzfm b) [])
def rs84:List ARes:=[]
theorem ck84:∃c,Tryz.f84.body=some c∧∀b,qzg Tryz.prog c (c84 b)=true:=⟨_,rfl,fun b=>by kernel_rfl⟩
theorem cr84:qzi Tryz.prog Tryz.f84.results.toList rs84=true:=by kernel_rfl
def wzuz(b:Nat):List qzc:=[
 ⟨(some 4),.load false 1 (.t 1),none⟩,
 ⟨(some 5),.mrange (b+0) (.t 4),none⟩]
def wzum(b:Nat):List qzc:=[
 ⟨(some 6),.mnext (.t 5),none⟩,
 ⟨(some 7),.extract 0 (.t 6),none⟩]
def wzul(b:Nat):List qzc:=[
 ⟨(some 8),.mentry (.t 5),none⟩,
 ⟨(some 9),.extract 0 (.t 8),none⟩,
 ⟨(some 3),.mv (.t 9),none⟩]
def wzug(b:Nat):List qzc:=[
 ⟨(some 10),.mv (.t 0),none⟩,
 ⟨(some 11),.mv (.t 3),none⟩,
 ⟨(some 12),.callv (.t 10) [.t 11],none⟩,
 ⟨(some 13),.not (.t 12),none⟩]
def wzuj(b:Nat):qzk:=.seq (.reg false (wzum b) []) (.seq (.cond (.t 7) (.skip) (.exit 0)) (.block 1 (.seq (.reg false (wzul b) []) (.seq (.reg false (wzug b) []) (.cond (.t 13) (.ret) (.skip))))))
def c85(b:Nat):qzk:=.seq (.reg false (wzuz b) []) (.block 0 (.loop (wzuj b)))
def rs85:List ARes:=[]
theorem ck85:∃c,Tryz.f85.body=some c∧∀b,qzg Tryz.prog c (c85 b)=true:=⟨_,rfl,fun b=>by kernel_rfl⟩
theorem cr85:qzi Tryz.prog Tryz.f85.results.toList rs85=true:=by kernel_rfl
def qz90(b:Nat):List qzc:=[
 ⟨(some 2),.mv (.c (.nils)),none⟩]
def wzbv(b:Nat):List qzc:=[
 ⟨(some 3),.mv (.t 0),none⟩,
 ⟨(some 4),.callf 110 [.c (.nils),.t 3],none⟩,
 ⟨(some 2),.mv (.t 4),none⟩]
def c93(b:Nat):qzk:=.seq (.reg false (qz90 b) []) (.seq (.reg false (wzbv b) []) (.ret))
def rs93:List ARes:=[.t 2]
theorem ck93:∃c,Tryz.f93.body=some c∧∀b,qzg Tryz.prog c (c93 b)=true:=⟨_,rfl,fun b=>by kernel_rfl⟩
theorem cr93:qzi Tryz.prog Tryz.f93.results.toList rs93=true:=by kernel_rfl
def qzz3(b:Nat):List qzc:=[
 ⟨(some 2),.box (b+0) (.t 0),none⟩,
 ⟨(some 4),.mv (.c (.nils)),none⟩]
def qz2t(b:Nat):List qzc:=[
 ⟨(some 6),.mv (.t 1),none⟩]
def jzrt(b:Nat):List qzc:=[
 ⟨(some 5),.mv (.t 7),none⟩]
def jzsm(b:Nat):List qzc:=[
 ⟨(some 8),.load false 1 (.t 2),none⟩,
 ⟨(some 9),.mv (.t 5),none⟩,
 ⟨(some 10),.bslice (b+1) 1 1 [.int .i64 0] [(0,1,.t 9)],none⟩,
 ⟨(some 11),.append (b+2) 1 8 (.t 8) (.t 10),none⟩,
 ⟨none,.store 1 (.t 2) (.t 11),none⟩]
def jzsk(b:Nat):qzk:=.block 1 (.reg false (jzsm b) [])
def jztn(b:Nat):List qzc:=[
 ⟨(some 12),.load false 1 (.t 2),none⟩,
 ⟨(some 4),.mv (.t 12),none⟩]
def c102(b:Nat):qzk:=.seq (.reg false (qzz3 b) []) (.seq (.seq (.reg false (qz2t b) []) (.block 0 (.rfunc (.t 6) [7] (.reg false (jzrt b) []) (jzsk b)))) (.seq (.reg false (jztn b) []) (.ret)))
def qzse:List ARes:=[.t 4]
theorem wzf5:∃c,Tryz.f102.body=some c∧∀b,qzg Tryz.prog c (c102 b)=true:=⟨_,rfl,fun b=>by kernel_rfl⟩
theorem wzge:qzi Tryz.prog Tryz.f102.results.toList qzse=true:=by kernel_rfl
def jzti(b:Nat):List qzc:=[
 ⟨(some 8),.mv (.c (.bool true)),none⟩]
def jzt5(b:Nat):List qzc:=[
 ⟨(some 9),.mv (.c (.bool true)),none⟩]
def jzt2(b:Nat):List qzc:=[
 ⟨(some 19),.mv (.t 2),none⟩,
 ⟨(some 20),.mv (.t 1),none⟩,
 ⟨(some 21),.bin .sub false (.t 19) (.t 20),none⟩,
 ⟨(some 10),.mv (.t 21),none⟩]
def jztp(b:Nat):List qzc:=[
 ⟨(some 22),.mv (.t 10),none⟩,
 ⟨(some 23),.bin .leq false (.t 22) (.c (.int .i64 12)),none⟩]
def jztz(b:Nat):List qzc:=[
 ⟨(some 24),.mv (.t 0),none⟩,
 ⟨(some 25),.mv (.t 1),none⟩,
 ⟨(some 26),.mv (.t 2),none⟩,
 ⟨(some 27),.callf 118 [.t 24,.t 25,.t 26],none⟩]
def jzvw(b:Nat):List qzc:=[
 ⟨(some 28),.mv (.t 3),none⟩,
 ⟨(some 29),.bin .eql false (.t 28) (.c (.int .i64 0)),none⟩]
def jzv1(b:Nat):List qzc:=[
 ⟨(some 30),.mv (.t 0),none⟩,
 ⟨(some 31),.mv (.t 1),none⟩,
 ⟨(some 32),.mv (.t 2),none⟩,
 ⟨(some 33),.callf 119 [.t 30,.t 31,.t 32],none⟩]
def jzwb(b:Nat):List qzc:=[
 ⟨(some 34),.mv (.t 8),none⟩,
 ⟨(some 35),.not (.t 34),none⟩]
def jzvt(b:Nat):List qzc:=[
 ⟨(some 36),.mv (.t 0),none⟩,
 ⟨(some 37),.mv (.t 1),none⟩,
 ⟨(some 38),.mv (.t 2),none⟩,
 ⟨(some 39),.callf 120 [.t 36,.t 37,.t 38],none⟩]
def jzv4(b:Nat):List qzc:=[
 ⟨(some 40),.mv (.t 3),none⟩,
 ⟨(some 41),.bin .sub false (.t 40) (.c (.int .i64 1)),none⟩,
 ⟨(some 3),.mv (.t 41),none⟩]
def jzup(b:Nat):List qzc:=[
 ⟨(some 43),.mv (.t 0),none⟩,
 ⟨(some 44),.mv (.t 1),none⟩,
 ⟨(some 45),.mv (.t 2),none⟩,
 ⟨(some 46),.callf 121 [.t 43,.t 44,.t 45],none⟩,
 ⟨(some 42),.mv (.t 46),none⟩,
 ⟨(some 47),.extract 0 (.t 42),none⟩,
 ⟨(some 48),.extract 1 (.t 42),none⟩,
 ⟨(some 11),.mv (.t 47),none⟩,
 ⟨(some 12),.mv (.t 48),none⟩]
def jzuv(b:Nat):List qzc:=[
 ⟨(some 49),.mv (.t 12),none⟩,
 ⟨(some 50),.bin .eql false (.t 49) (.c (.int .i64 2)),none⟩]
def jzu3(b:Nat):List qzc:=[
 ⟨(some 51),.mv (.t 0),none⟩,
 ⟨(some 52),.mv (.t 1),none⟩,
 ⟨(some 53),.mv (.t 2),none⟩,
 ⟨(some 54),.callf 122 [.t 51,.t 52,.t 53],none⟩]
def jzvn(b:Nat):List qzc:=[
 ⟨(some 55),.mv (.t 2),none⟩,
 ⟨(some 56),.bin .sub false (.t 55) (.c (.int .i64 1)),none⟩,
 ⟨(some 57),.mv (.t 11),none⟩,
 ⟨(some 58),.mv (.t 1),none⟩,
 ⟨(some 59),.bin .sub false (.t 57) (.t 58),none⟩,
 ⟨(some 60),.bin .sub false (.t 56) (.t 59),none⟩,
 ⟨(some 11),.mv (.t 60),none⟩]
def jzur(b:Nat):List qzc:=[
 ⟨(some 12),.mv (.c (.int .i64 1)),none⟩]
def jzvk(b:Nat):List qzc:=[
 ⟨(some 61),.mv (.t 8),none⟩,
 ⟨(some 62),.mv (.t 61),none⟩,
 ⟨(some 63),.mv (.t 9),(some (62,true))⟩,
 ⟨(some 64),.pick (.t 62) (.t 63) (.c (.bool false)),none⟩,
 ⟨(some 65),.mv (.t 64),none⟩,
 ⟨(some 66),.mv (.t 12),(some (65,true))⟩,
 ⟨(some 67),.bin .eql false (.t 66) (.c (.int .i64 1)),(some (65,true))⟩,
 ⟨(some 68),.pick (.t 65) (.t 67) (.c (.bool false)),none⟩]
def jzuw(b:Nat):List qzc:=[
 ⟨(some 69),.mv (.t 0),none⟩,
 ⟨(some 70),.mv (.t 1),none⟩,
 ⟨(some 71),.mv (.t 2),none⟩,
 ⟨(some 72),.callf 123 [.t 69,.t 70,.t 71],none⟩]
def jzva(b:Nat):List qzc:=[
 ⟨(some 73),.mv (.t 1),none⟩,
 ⟨(some 74),.bin .gtr false (.t 73) (.c (.int .i64 0)),none⟩,
 ⟨(some 75),.mv (.t 74),none⟩,
 ⟨(some 76),.mv (.t 0),(some (75,true))⟩,
 ⟨(some 77),.mv (.t 1),(some (75,true))⟩,
 ⟨(some 78),.bin .sub false (.t 77) (.c (.int .i64 1)),(some (75,true))⟩,
 ⟨(some 79),.iaddrS 1 (.t 76) (.t 78),(some (75,true))⟩,
 ⟨(some 80),.load false 1 (.t 79),(some (75,true))⟩,
 ⟨(some 81),.mv (.t 0),(some (75,true))⟩,
 ⟨(some 82),.mv (.t 11),(some (75,true))⟩,
 ⟨(some 83),.iaddrS 1 (.t 81) (.t 82),(some (75,true))⟩,
 ⟨(some 84),.load false 1 (.t 83),(some (75,true))⟩,
 ⟨(some 85),.callf 105 [.t 80,.t 84],(some (75,true))⟩,
 ⟨(some 86),.not (.t 85),(some (75,true))⟩,
 ⟨(some 87),.pick (.t 75) (.t 86) (.c (.bool false)),none⟩]
def jzt9:List (List Nat):=[[],[0],[0,1],[0,1,2],[0,1,2],[0,1,2,4],[0,1,2,3,4,5],[0,1,2,3,4,5,6],[0,1,2],[0,1,2],[0,1,2,8,9],[0,1,2,8,9,10],[0,1,2,3,4,5,6,7,8,9,10,11],[0,1,2,3,4,5,6,7,8,9,10,11,12],[0,1,2,3,4,5,6,7,8,9,10,11,12,13]]
def jzu5(b:Nat):List qzc:=[
 ⟨(some 88),.mv (.t 0),none⟩,
 ⟨(some 89),.mv (.t 1),none⟩,
 ⟨(some 90),.mv (.t 2),none⟩,
 ⟨(some 91),.mv (.t 11),none⟩,
 ⟨(some 92),.callf 124 [.t 88,.t 89,.t 90,.t 91],none⟩,
 ⟨(some 13),.mv (.t 92),none⟩]
def jzux(b:Nat):List qzc:=[
 ⟨(some 93),.mv (.t 13),none⟩,
 ⟨(some 1),.mv (.t 93),none⟩]
def jzvo(b:Nat):List qzc:=[
 ⟨(some 95),.mv (.t 0),none⟩,
 ⟨(some 96),.mv (.t 1),none⟩,
 ⟨(some 97),.mv (.t 2),none⟩,
 ⟨(some 98),.mv (.t 11),none⟩,
 ⟨(some 99),.callf 125 [.t 95,.t 96,.t 97,.t 98],none⟩,
 ⟨(some 94),.mv (.t 99),none⟩,
 ⟨(some 100),.extract 0 (.t 94),none⟩,
 ⟨(some 101),.extract 1 (.t 94),none⟩,
 ⟨(some 14),.mv (.t 100),none⟩,
 ⟨(some 15),.mv (.t 101),none⟩]
def jzuu(b:Nat):List qzc:=[
 ⟨(some 102),.mv (.t 15),none⟩,
 ⟨(some 9),.mv (.t 102),none⟩]
def jzvs(b:Nat):List qzc:=[
 ⟨(some 103),.mv (.t 14),none⟩,
 ⟨(some 104),.mv (.t 1),none⟩,
 ⟨(some 105),.bin .sub false (.t 103) (.t 104),none⟩,
 ⟨(some 106),.mv (.t 2),none⟩,
 ⟨(some 107),.mv (.t 14),none⟩,
 ⟨(some 108),.bin .sub false (.t 106) (.t 107),none⟩,
 ⟨(some 16),.mv (.t 105),none⟩,
 ⟨(some 17),.mv (.t 108),none⟩]
def jzvg(b:Nat):List qzc:=[
 ⟨(some 109),.mv (.t 10),none⟩,
 ⟨(some 110),.bin .quo false (.t 109) (.c (.int .i64 8)),none⟩,
 ⟨(some 18),.mv (.t 110),none⟩]
def jzu4(b:Nat):List qzc:=[
 ⟨(some 111),.mv (.t 16),none⟩,
 ⟨(some 112),.mv (.t 17),none⟩,
 ⟨(some 113),.bin .lss false (.t 111) (.t 112),none⟩]
def jzvj(b:Nat):List qzc:=[
 ⟨(some 114),.mv (.t 16),none⟩,
 ⟨(some 115),.mv (.t 18),none⟩,
 ⟨(some 116),.bin .geq false (.t 114) (.t 115),none⟩,
 ⟨(some 8),.mv (.t 116),none⟩]
def jzuz(b:Nat):List qzc:=[
 ⟨(some 117),.mv (.t 0),none⟩,
 ⟨(some 118),.mv (.t 1),none⟩,
 ⟨(some 119),.mv (.t 14),none⟩,
 ⟨(some 120),.mv (.t 3),none⟩,
 ⟨(some 121),.callf 103 [.t 117,.t 118,.t 119,.t 120],none⟩]
def jzvf(b:Nat):List qzc:=[
 ⟨(some 122),.mv (.t 14),none⟩,
 ⟨(some 123),.bin .add false (.t 122) (.c (.int .i64 1)),none⟩,
 ⟨(some 1),.mv (.t 123),none⟩]
def jzu0(b:Nat):List qzc:=[
 ⟨(some 124),.mv (.t 17),none⟩,
 ⟨(some 125),.mv (.t 18),none⟩,
 ⟨(some 126),.bin .geq false (.t 124) (.t 125),none⟩,
 ⟨(some 8),.mv (.t 126),none⟩]
def jzvd(b:Nat):List qzc:=[
 ⟨(some 127),.mv (.t 0),none⟩,
 ⟨(some 128),.mv (.t 14),none⟩,
 ⟨(some 129),.bin .add false (.t 128) (.c (.int .i64 1)),none⟩,
 ⟨(some 130),.mv (.t 2),none⟩,
 ⟨(some 131),.mv (.t 3),none⟩,
 ⟨(some 132),.callf 103 [.t 127,.t 129,.t 130,.t 131],none⟩]
def jzu6(b:Nat):List qzc:=[
 ⟨(some 133),.mv (.t 14),none⟩,
 ⟨(some 2),.mv (.t 133),none⟩]
def jzv3(b:Nat):qzk:=.block 1 (.seq (.reg false (jzt2 b) []) (.seq (.seq (.reg false (jztp b) []) (.cond (.t 23) (.seq (.reg false (jztz b) []) (.ret)) (.skip))) (.seq (.seq (.reg false (jzvw b) []) (.cond (.t 29) (.seq (.reg false (jzv1 b) []) (.ret)) (.skip))) (.seq (.seq (.reg false (jzwb b) []) (.cond (.t 35) (.seq (.reg false (jzvt b) []) (.reg false (jzv4 b) [])) (.skip))) (.seq (.reg false (jzup b) []) (.seq (.seq (.reg false (jzuv b) []) (.cond (.t 50) (.seq (.reg false (jzu3 b) []) (.seq (.reg false (jzvn b) []) (.reg false (jzur b) []))) (.skip))) (.seq (.seq (.reg false (jzvk b) []) (.cond (.t 68) (.seq (.reg false (jzuw b) []) (.cond (.t 72) (.ret) (.skip))) (.skip))) (.seq (.seq (.reg true (jzva b) jzt9) (.cond (.t 87) (.seq (.reg false (jzu5 b) []) (.seq (.reg false (jzux b) []) (.exit 1))) (.skip))) (.seq (.reg false (jzvo b) []) (.seq (.reg false (jzuu b) []) (.seq (.reg false (jzvs b) []) (.seq (.reg false (jzvg b) []) (.seq (.reg false (jzu4 b) []) (.cond (.t 113) (.seq (.reg false (jzvj b) []) (.seq (.reg false (jzuz b) []) (.reg false (jzvf b) []))) (.seq (.reg false (jzu0 b) []) (.seq (.reg false (jzvd b) []) (.reg false (jzu6 b) [])))))))))))))))))
def c103(b:Nat):qzk:=.seq (.reg false (jzti b) []) (.seq (.reg false (jzt5 b) []) (.block 0 (.loop (jzv3 b))))
def jzuj:List ARes:=[]
theorem jzw7:∃c,Tryz.f103.body=some c∧∀b,qzg Tryz.prog c (c103 b)=true:=⟨_,rfl,fun b=>by kernel_rfl⟩
theorem jzwo:qzi Tryz.prog Tryz.f103.results.toList jzuj=true:=by kernel_rfl
def jztf(b:Nat):List qzc:=[
 ⟨(some 2),.box (b+0) (.t 0),none⟩,
 ⟨(some 4),.mv (.c (.nils)),none⟩]
def jztq(b:Nat):List qzc:=[
 ⟨(some 6),.mv (.t 1),none⟩]
def jzry(b:Nat):List qzc:=[
 ⟨(some 5),.alloc (b+1) [.int .i64 0,.int .i64 0,.int .i64 0],none⟩,
 ⟨none,.store 3 (.t 5) (.t 7),none⟩]
def jzsn(b:Nat):List qzc:=[
 ⟨(some 8),.load false 1 (.t 2),none⟩,
 ⟨(some 9),.load true 3 (.t 5),none⟩,
 ⟨(some 10),.bslice (b+2) 3 1 [.int .i64 0,.int .i64 0,.int .i64 0] [(0,3,.t 9)],none⟩,
 ⟨(some 11),.append (b+3) 3 24 (.t 8) (.t 10),none⟩,
 ⟨none,.store 1 (.t 2) (.t 11),none⟩]
def jzsh(b:Nat):qzk:=.block 1 (.reg false (jzsn b) [])
def jztg(b:Nat):List qzc:=[
 ⟨(some 12),.load false 1 (.t 2),none⟩,
 ⟨(some 4),.mv (.t 12),none⟩]
def c110(b:Nat):qzk:=.seq (.reg false (jztf b) []) (.seq (.seq (.reg false (jztq b) []) (.block 0 (.rfunc (.t 6) [7] (.reg false (jzry b) []) (jzsh b)))) (.seq (.reg false (jztg b) []) (.ret)))
def jzs0:List ARes:=[.t 4]
theorem jzwd:∃c,Tryz.f110.body=some c∧∀b,qzg Tryz.prog c (c110 b)=true:=⟨_,rfl,fun b=>by kernel_rfl⟩
theorem jzw8:qzi Tryz.prog Tryz.f110.results.toList jzs0=true:=by kernel_rfl
def qzxg(b:Nat):List qzc:=[
 ⟨(some 8),.mv (.t 1),none⟩,
 ⟨(some 9),.bin .add false (.t 8) (.c (.int .i64 1)),none⟩,
 ⟨(some 6),.mv (.t 9),none⟩]
def qzz2(b:Nat):List qzc:=[
 ⟨(some 10),.mv (.t 6),none⟩,
 ⟨(some 11),.mv (.t 2),none⟩,
 ⟨(some 12),.bin .lss false (.t 10) (.t 11),none⟩]
def qzy8(b:Nat):List qzc:=[
 ⟨(some 15),.mv (.t 6),none⟩,
 ⟨(some 7),.mv (.t 15),none⟩]
def qzz1(b:Nat):List qzc:=[
 ⟨(some 16),.mv (.t 7),none⟩,
 ⟨(some 17),.mv (.t 1),none⟩,
 ⟨(some 18),.bin .gtr false (.t 16) (.t 17),none⟩,
 ⟨(some 19),.mv (.t 18),none⟩,
 ⟨(some 20),.mv (.t 0),(some (19,true))⟩,
 ⟨(some 21),.mv (.t 7),(some (19,true))⟩,
 ⟨(some 22),.iaddrS 1 (.t 20) (.t 21),(some (19,true))⟩,
 ⟨(some 23),.load false 1 (.t 22),(some (19,true))⟩,
 ⟨(some 24),.mv (.t 0),(some (19,true))⟩,
 ⟨(some 25),.mv (.t 7),(some (19,true))⟩,
 ⟨(some 26),.bin .sub false (.t 25) (.c (.int .i64 1)),(some (19,true))⟩,
 ⟨(some 27),.iaddrS 1 (.t 24) (.t 26),(some (19,true))⟩,
 ⟨(some 28),.load false 1 (.t 27),(some (19,true))⟩,
 ⟨(some 29),.callf 105 [.t 23,.t 28],(some (19,true))⟩,
 ⟨(some 30),.pick (.t 19) (.t 29) (.c (.bool false)),none⟩]
def jzvc:List (List Nat):=[[],[],[0,1],[0,1,2],[0,1,2,3],[0,1,2,3],[0,1,2,3,4,5],[0,1,2,3,4,5,6],[0,1,2,3],[0,1,2,3],[0,1,2,3,9],[0,1,2,3,8,9,10],[0,1,2,3,8,9,10,11],[0,1,2,3,4,5,6,7,8,9,10,11,12],[0,1,2,3,4,5,6,7,8,9,10,11,12,13]]
def qzx4(b:Nat):List qzc:=[
 ⟨(some 33),.mv (.t 0),none⟩,
 ⟨(some 34),.mv (.t 7),none⟩,
 ⟨(some 35),.mv (.t 0),none⟩,
 ⟨(some 36),.mv (.t 7),none⟩,
 ⟨(some 37),.bin .sub false (.t 36) (.c (.int .i64 1)),none⟩,
 ⟨(some 38),.mv (.t 0),none⟩,
 ⟨(some 39),.mv (.t 7),none⟩,
 ⟨(some 40),.bin .sub false (.t 39) (.c (.int .i64 1)),none⟩,
 ⟨(some 41),.iaddrS 1 (.t 38) (.t 40),none⟩,
 ⟨(some 42),.load false 1 (.t 41),none⟩,
 ⟨(some 43),.mv (.t 0),none⟩,
 ⟨(some 44),.mv (.t 7),none⟩,
 ⟨(some 45),.iaddrS 1 (.t 43) (.t 44),none⟩,
 ⟨(some 46),.load false 1 (.t 45),none⟩,
 ⟨(some 47),.iaddrS 1 (.t 33) (.t 34),none⟩,
 ⟨none,.store 1 (.t 47) (.t 42),none⟩,
 ⟨(some 48),.iaddrS 1 (.t 35) (.t 37),none⟩,
 ⟨none,.store 1 (.t 48) (.t 46),none⟩]
def wzcy:List (List Nat):=[[],[],[],[],[3],[],[],[6],[5,6,7],[5,6,7,8],[],[],[10,11],[10,11,12],[0,1,5,6,7,8,9,10,11,12,13],[0,1,5,6,7,8,9,10,11,12,13,14],[0,1,2,3,4,5,6,7,8,9,10,11,12,13,14,15],[0,1,2,3,4,5,6,7,8,9,10,11,12,13,14,15,16]]
def qzx5(b:Nat):List qzc:=[
 ⟨(some 31),.mv (.t 7),none⟩,
 ⟨(some 32),.bin .sub false (.t 31) (.c (.int .i64 1)),none⟩,
 ⟨(some 7),.mv (.t 32),none⟩]
def jzv6(b:Nat):qzk:=.seq (.seq (.reg true (qzz1 b) jzvc) (.cond (.t 30) (.skip) (.exit 2))) (.seq (.block 3 (.reg true (qzx4 b) wzcy)) (.reg false (qzx5 b) []))
def qz0v(b:Nat):List qzc:=[
 ⟨(some 13),.mv (.t 6),none⟩,
 ⟨(some 14),.bin .add false (.t 13) (.c (.int .i64 1)),none⟩,
 ⟨(some 6),.mv (.t 14),none⟩]
def qz1z(b:Nat):qzk:=.seq (.seq (.reg false (qzz2 b) []) (.cond (.t 12) (.skip) (.exit 0))) (.seq (.block 1 (.seq (.reg false (qzy8 b) []) (.block 2 (.loop (jzv6 b))))) (.reg false (qz0v b) []))
def c118(b:Nat):qzk:=.seq (.reg false (qzxg b) []) (.block 0 (.loop (qz1z b)))
def qzsl:List ARes:=[]
theorem wzgf:∃c,Tryz.f118.body=some c∧∀b,qzg Tryz.prog c (c118 b)=true:=⟨_,rfl,fun b=>by kernel_rfl⟩
theorem wzf7:qzi Tryz.prog Tryz.f118.results.toList qzsl=true:=by kernel_rfl
def qz06(b:Nat):List qzc:=[
 ⟨(some 4),.mv (.c (.str [])),none⟩]
def qzy0(b:Nat):List qzc:=[
 ⟨(some 5),.alloc (b+0) [.nilfn],none⟩]
def jzth(b:Nat):List qzc:=[
 ⟨(some 6),.mkfn 151 0 [.t 5],none⟩,
 ⟨none,.store 1 (.t 5) (.t 6),none⟩]
def jztm(b:Nat):List qzc:=[
 ⟨(some 7),.load false 1 (.t 5),none⟩,
 ⟨(some 8),.mv (.t 0),none⟩,
 ⟨(some 9),.callf 153 [.t 8],none⟩,
 ⟨(some 10),.mv (.t 1),none⟩,
 ⟨(some 11),.callf 153 [.t 10],none⟩,
 ⟨(some 12),.callv (.t 7) [.t 9,.t 11],none⟩,
 ⟨(some 13),.callf 154 [.t 12],none⟩,
 ⟨(some 4),.mv (.t 13),none⟩]
def jzu8:List (List Nat):=[[],[],[1],[],[1,2,3],[0,1,2,3,4],[0,1,2,3,4,5],[0,1,2,3,4,5,6]]
def c144(b:Nat):qzk:=.seq (.reg false (qz06 b) []) (.seq (.reg false (qzy0 b) []) (.seq (.reg false (jzth b) []) (.seq (.reg true (jztm b) jzu8) (.ret))))
def qzsa:List ARes:=[.t 4]
theorem wzgn:∃c,Tryz.f144.body=some c∧∀b,qzg Tryz.prog c (c144 b)=true:=⟨_,rfl,fun b=>by kernel_rfl⟩
theorem wzgy:qzi Tryz.prog Tryz.f144.results.toList qzsa=true:=by kernel_rfl
def jzte(b:Nat):List qzc:=[
 ⟨(some 5),.mv (.c (.nils)),none⟩]
def jztk(b:Nat):List qzc:=[
 ⟨(some 8),.mv (.t 1),none⟩,
 ⟨(some 9),.len false (.t 8),none⟩,
 ⟨(some 10),.bin .eql false (.t 9) (.c (.int .i64 0)),none⟩]
def jzty(b:Nat):List qzc:=[
 ⟨(some 11),.mv (.t 0),none⟩,
 ⟨(some 5),.mv (.t 11),none⟩]
def jzt4(b:Nat):List qzc:=[
 ⟨(some 13),.mv (.t 0),none⟩,
 ⟨(some 14),.mv (.t 1),none⟩,
 ⟨(some 15),.callf 152 [.t 13,.t 14],none⟩,
 ⟨(some 12),.mv (.t 15),none⟩,
 ⟨(some 16),.extract 0 (.t 12),none⟩,
 ⟨(some 17),.extract 1 (.t 12),none⟩,
 ⟨(some 6),.mv (.t 16),none⟩,
 ⟨(some 7),.mv (.t 17),none⟩]
def jztv(b:Nat):List qzc:=[
 ⟨(some 18),.load false 1 (.t 2),none⟩,
 ⟨(some 19),.mv (.t 1),none⟩,
 ⟨(some 20),.mv (.t 7),none⟩,
 ⟨(some 21),.callv (.t 18) [.t 19,.t 20],none⟩,
 ⟨(some 5),.mv (.t 21),none⟩]
def c151(b:Nat):qzk:=.seq (.reg false (jzte b) []) (.seq (.seq (.reg false (jztk b) []) (.cond (.t 10) (.seq (.reg false (jzty b) []) (.ret)) (.skip))) (.seq (.reg false (jzt4 b) []) (.seq (.reg false (jztv b) []) (.ret))))
def jzrx:List ARes:=[.t 5]
theorem jzwe:∃c,Tryz.f151.body=some c∧∀b,qzg Tryz.prog c (c151 b)=true:=⟨_,rfl,fun b=>by kernel_rfl⟩
theorem jzwg:qzi Tryz.prog Tryz.f151.results.toList jzrx=true:=by kernel_rfl
def jztx(b:Nat):List qzc:=[
 ⟨(some 2),.mv (.c (.nils)),none⟩]
def jzse(b:Nat):List qzc:=[
 ⟨(some 3),.mv (.t 0),none⟩,
 ⟨(some 4),.isnil false (.t 3),none⟩]
def jzv2(b:Nat):List qzc:=[
 ⟨(some 2),.mv (.c (.nils)),none⟩]
def jzsi(b:Nat):List qzc:=[
 ⟨(some 5),.bslice (b+0) 1 0 [] [],none⟩,
 ⟨(some 6),.mv (.t 0),none⟩,
 ⟨(some 7),.append (b+1) 1 4 (.t 5) (.t 6),none⟩,
 ⟨(some 2),.mv (.t 7),none⟩]
def c170(b:Nat):qzk:=.seq (.reg false (jztx b) []) (.seq (.seq (.reg false (jzse b) []) (.cond (.t 4) (.seq (.reg false (jzv2 b) []) (.ret)) (.skip))) (.seq (.reg false (jzsi b) []) (.ret)))
def jzrv:List ARes:=[.t 2]
theorem jzwj:∃c,Tryz.f170.body=some c∧∀b,qzg Tryz.prog c (c170 b)=true:=⟨_,rfl,fun b=>by kernel_rfl⟩
theorem jzw0:qzi Tryz.prog Tryz.f170.results.toList jzrv=true:=by kernel_rfl
end Go.Am

