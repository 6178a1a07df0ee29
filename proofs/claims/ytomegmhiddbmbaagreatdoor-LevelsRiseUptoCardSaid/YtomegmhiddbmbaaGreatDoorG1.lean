/- Part G1 of the proof that the last part closes: the code of some functions of this seat over abstract operations. No condition. -/
import Derived.Test.YtomegmhiddbmbaaGreatDoorF2
import Derived.Test.YtomegmhiddbmbaaGreatDoorA5
set_option linter.unusedVariables false
namespace Go.Am
open Go.Proofs
def jzft(b:Nat):List qzc:=[
 ⟨(some 4),.mv (.c (.nils)),none⟩]
def jze4(b:Nat):List qzc:=[
 ⟨(some 6),.mv (.t 0),none⟩,
 ⟨(some 7),.callf 84 [.t 6],none⟩,
 ⟨(some 5),.mv (.t 7),none⟩]
def jzco(b:Nat):List qzc:=[
 ⟨(some 8),.mv (.t 5),none⟩,
 ⟨(some 9),.mv (.t 1),none⟩,
 ⟨(some 10),.callf 85 [.t 8,.t 9],none⟩]
def jzcj(b:Nat):List qzc:=[
 ⟨(some 11),.mv (.t 5),none⟩,
 ⟨(some 4),.mv (.t 11),none⟩]
def c56(b:Nat):qzk:=.seq (.reg false (jzft b) []) (.seq (.reg false (jze4 b) []) (.seq (.reg false (jzco b) []) (.seq (.reg false (jzcj b) []) (.ret))))
def rs56:List ARes:=[.t 4]
theorem ck56:∃c,Tryz.f56.body=some c∧∀b,qzg Tryz.prog c (c56 b)=true:=⟨_,rfl,fun b=>by kernel_rfl⟩
theorem cr56:qzi Tryz.prog Tryz.f56.results.toList rs56=true:=by kernel_rfl
def jzfk(b:Nat):List qzc:=[
 ⟨(some 1),.box (b+0) (.t 0),none⟩,
 ⟨(some 2),.mv (.c (.nilfn)),none⟩]
def jze9(b:Nat):List qzc:=[
 ⟨(some 3),.mkfn 86 0 [.t 1],none⟩,
 ⟨(some 2),.mv (.t 3),none⟩]
def c57(b:Nat):qzk:=.seq (.reg false (jzfk b) []) (.seq (.reg false (jze9 b) []) (.ret))
def rs57:List ARes:=[.t 2]
theorem ck57:∃c,Tryz.f57.body=some c∧∀b,qzg Tryz.prog c (c57 b)=true:=⟨_,rfl,fun b=>by kernel_rfl⟩
theorem cr57:qzi Tryz.prog Tryz.f57.results.toList rs57=true:=by kernel_rfl
def jzfa(b:Nat):List qzc:=[
 ⟨(some 2),.mv (.c (.nils)),none⟩]
def jzfm(b:Nat):List qzc:=[
 ⟨(some 3),.mv (.t 0),none⟩,
 ⟨(some 4),.callf 111 [.c (.nils),.t 3],none⟩,
 ⟨(some 2),.mv (.t 4),none⟩]
def c84(b:Nat):qzk:=.seq (.reg false (jzfa b) []) (.seq (.reg false (jzfm b) []) (.ret))
def rs84:List ARes:=[.t 2]
theorem ck84:∃c,Tryz.f84.body=some c∧∀b,qzg Tryz.prog c (c84 b)=true:=⟨_,rfl,fun b=>by kernel_rfl⟩
theorem cr84:qzi Tryz.prog Tryz.f84.results.toList rs84=true:=by kernel_rfl
def jze7(b:Nat):List qzc:=[
 ⟨(some 4),.load false 1 (.t 1),none⟩,
 ⟨(some 5),.mrange (b+0) (.t 4),none⟩]
def jzf0(b:Nat):List qzc:=[
 ⟨(some 6),.mnext (.t 5),none⟩,
 ⟨(some 7),.extract 0 (.t 6),none⟩]
def jzfe(b:Nat):List qzc:=[
 ⟨(some 8),.mentry (.t 5),none⟩,
 ⟨(some 9),.extract 0 (.t 8),none⟩,
 ⟨(some 3),.alloc (b+1) [.bool false,.str [],.str []],none⟩,
 ⟨none,.store 3 (.t 3) (.t 9),none⟩]
def jzfi(b:Nat):List qzc:=[
 ⟨(some 10),.mv (.t 0),none⟩,
 ⟨(some 11),.load true 3 (.t 3),none⟩,
 ⟨(some 12),.callv (.t 10) [.t 11],none⟩,
 ⟨(some 13),.not (.t 12),none⟩]
def jzj5(b:Nat):qzk:=.seq (.reg false (jzf0 b) []) (.seq (.cond (.t 7) (.skip) (.exit 0)) (.block 1 (.seq (.reg false (jzfe b) []) (.seq (.reg false (jzfi b) []) (.cond (.t 13) (.ret) (.skip))))))
def c86(b:Nat):qzk:=.seq (.reg false (jze7 b) []) (.block 0 (.loop (jzj5 b)))
def rs86:List ARes:=[]
theorem ck86:∃c,Tryz.f86.body=some c∧∀b,qzg Tryz.prog c (c86 b)=true:=⟨_,rfl,fun b=>by kernel_rfl⟩
theorem cr86:qzi Tryz.prog Tryz.f86.results.toList rs86=true:=by kernel_rfl
def jzfo(b:Nat):List qzc:=[
 ⟨(some 4),.mv (.c (.str [])),none⟩]
def jzfu(b:Nat):List qzc:=[
 ⟨(some 5),.alloc (b+0) [.nilfn],none⟩]
def jzfp(b:Nat):List qzc:=[
 ⟨(some 6),.mkfn 116 0 [.t 5],none⟩,
 ⟨none,.store 1 (.t 5) (.t 6),none⟩]
def jzfb(b:Nat):List qzc:=[
 ⟨(some 7),.load false 1 (.t 5),none⟩,
 ⟨(some 8),.mv (.t 0),none⟩,
 ⟨(some 9),.callf 118 [.t 8],none⟩,
 ⟨(some 10),.mv (.t 1),none⟩,
 ⟨(some 11),.callf 118 [.t 10],none⟩,
 ⟨(some 12),.callv (.t 7) [.t 9,.t 11],none⟩,
 ⟨(some 13),.callf 119 [.t 12],none⟩,
 ⟨(some 4),.mv (.t 13),none⟩]
def jzhu:List (List Nat):=[[],[],[1],[],[1,2,3],[0,1,2,3,4],[0,1,2,3,4,5],[0,1,2,3,4,5,6]]
def c89(b:Nat):qzk:=.seq (.reg false (jzfo b) []) (.seq (.reg false (jzfu b) []) (.seq (.reg false (jzfp b) []) (.seq (.reg true (jzfb b) jzhu) (.ret))))
def rs89:List ARes:=[.t 4]
theorem ck89:∃c,Tryz.f89.body=some c∧∀b,qzg Tryz.prog c (c89 b)=true:=⟨_,rfl,fun b=>by kernel_rfl⟩
theorem cr89:qzi Tryz.prog Tryz.f89.results.toList rs89=true:=by kernel_rfl
def jzdr(b:Nat):List qzc:=[
 ⟨(some 2),.box (b+0) (.t 0),none⟩,
 ⟨(some 4),.mv (.c (.nils)),none⟩]
def jzde(b:Nat):List qzc:=[
 ⟨(some 6),.mv (.t 1),none⟩]
def wz8l(b:Nat):List qzc:=[
 ⟨(some 5),.alloc (b+1) [.bool false,.str [],.str []],none⟩,
 ⟨none,.store 3 (.t 5) (.t 7),none⟩]
def jza4(b:Nat):List qzc:=[
 ⟨(some 8),.load false 1 (.t 2),none⟩,
 ⟨(some 9),.load true 3 (.t 5),none⟩,
 ⟨(some 10),.bslice (b+2) 3 1 [.bool false,.str [],.str []] [(0,3,.t 9)],none⟩,
 ⟨(some 11),.append (b+3) 3 40 (.t 8) (.t 10),none⟩,
 ⟨none,.store 1 (.t 2) (.t 11),none⟩]
def jza6(b:Nat):qzk:=.block 1 (.reg false (jza4 b) [])
def jzdj(b:Nat):List qzc:=[
 ⟨(some 12),.load false 1 (.t 2),none⟩,
 ⟨(some 4),.mv (.t 12),none⟩]
def c111(b:Nat):qzk:=.seq (.reg false (jzdr b) []) (.seq (.seq (.reg false (jzde b) []) (.block 0 (.rfunc (.t 6) [7] (.reg false (wz8l b) []) (jza6 b)))) (.seq (.reg false (jzdj b) []) (.ret)))
def jzcv:List ARes:=[.t 4]
theorem jzjh:∃c,Tryz.f111.body=some c∧∀b,qzg Tryz.prog c (c111 b)=true:=⟨_,rfl,fun b=>by kernel_rfl⟩
theorem jzje:qzi Tryz.prog Tryz.f111.results.toList jzcv=true:=by kernel_rfl
def qzz0(b:Nat):List qzc:=[
 ⟨(some 5),.mv (.c (.nils)),none⟩]
def qzsp(b:Nat):List qzc:=[
 ⟨(some 8),.mv (.t 1),none⟩,
 ⟨(some 9),.len false (.t 8),none⟩,
 ⟨(some 10),.bin .eql false (.t 9) (.c (.int .i64 0)),none⟩]
def wzfp(b:Nat):List qzc:=[
 ⟨(some 11),.mv (.t 0),none⟩,
 ⟨(some 5),.mv (.t 11),none⟩]
def qzso(b:Nat):List qzc:=[
 ⟨(some 13),.mv (.t 0),none⟩,
 ⟨(some 14),.mv (.t 1),none⟩,
 ⟨(some 15),.callf 117 [.t 13,.t 14],none⟩,
 ⟨(some 12),.mv (.t 15),none⟩,
 ⟨(some 16),.extract 0 (.t 12),none⟩,
 ⟨(some 17),.extract 1 (.t 12),none⟩,
 ⟨(some 6),.mv (.t 16),none⟩,
 ⟨(some 7),.mv (.t 17),none⟩]
def jzdy(b:Nat):List qzc:=[
 ⟨(some 18),.load false 1 (.t 2),none⟩,
 ⟨(some 19),.mv (.t 1),none⟩,
 ⟨(some 20),.mv (.t 7),none⟩,
 ⟨(some 21),.callv (.t 18) [.t 19,.t 20],none⟩,
 ⟨(some 5),.mv (.t 21),none⟩]
def c116(b:Nat):qzk:=.seq (.reg false (qzz0 b) []) (.seq (.seq (.reg false (qzsp b) []) (.cond (.t 10) (.seq (.reg false (wzfp b) []) (.ret)) (.skip))) (.seq (.reg false (qzso b) []) (.seq (.reg false (jzdy b) []) (.ret))))
def qzpj:List ARes:=[.t 5]
theorem wzf8:∃c,Tryz.f116.body=some c∧∀b,qzg Tryz.prog c (c116 b)=true:=⟨_,rfl,fun b=>by kernel_rfl⟩
theorem wzfv:qzi Tryz.prog Tryz.f116.results.toList qzpj=true:=by kernel_rfl
def jzdz(b:Nat):List qzc:=[
 ⟨(some 2),.mv (.c (.nils)),none⟩]
def jzav(b:Nat):List qzc:=[
 ⟨(some 3),.mv (.t 0),none⟩,
 ⟨(some 4),.isnil false (.t 3),none⟩]
def jzh9(b:Nat):List qzc:=[
 ⟨(some 2),.mv (.c (.nils)),none⟩]
def jzap(b:Nat):List qzc:=[
 ⟨(some 5),.bslice (b+0) 1 0 [] [],none⟩,
 ⟨(some 6),.mv (.t 0),none⟩,
 ⟨(some 7),.append (b+0) 1 4 (.t 5) (.t 6),none⟩,
 ⟨(some 2),.mv (.t 7),none⟩]
def c161(b:Nat):qzk:=.seq (.reg false (jzdz b) []) (.seq (.seq (.reg false (jzav b) []) (.cond (.t 4) (.seq (.reg false (jzh9 b) []) (.ret)) (.skip))) (.seq (.reg false (jzap b) []) (.ret)))
def wz85:List ARes:=[.t 2]
theorem jzkr:∃c,Tryz.f161.body=some c∧∀b,qzg Tryz.prog c (c161 b)=true:=⟨_,rfl,fun b=>by kernel_rfl⟩
theorem jzjz:qzi Tryz.prog Tryz.f161.results.toList wz85=true:=by kernel_rfl
def wzuz(b:Nat):List qzc:=[
 ⟨(some 5),.mv (.t 0),none⟩,
 ⟨(some 6),.len false (.t 5),none⟩,
 ⟨(some 4),.mv (.t 6),none⟩]
def wzum(b:Nat):List qzc:=[
 ⟨(some 7),.mv (.t 0),none⟩,
 ⟨(some 8),.mv (.t 4),none⟩,
 ⟨(some 9),.mv (.t 4),none⟩,
 ⟨(some 10),.conv .u64 (.t 9),none⟩,
 ⟨(some 11),.callf 113 [.t 10],none⟩,
 ⟨(some 12),.mv (.t 1),none⟩,
 ⟨(some 13),.callf 112 [.t 7,.c (.int .i64 0),.t 8,.t 11,.t 12],none⟩]
def c85(b:Nat):qzk:=.seq (.reg false (wzuz b) []) (.reg false (wzum b) [])
def rs85:List ARes:=[]
theorem ck85:∃c,Tryz.f85.body=some c∧∀b,qzg Tryz.prog c (c85 b)=true:=⟨_,rfl,fun b=>by kernel_rfl⟩
theorem cr85:qzi Tryz.prog Tryz.f85.results.toList rs85=true:=by kernel_rfl
def qzx1(b:Nat):List qzc:=[
 ⟨(some 10),.mv (.c (.bool true)),none⟩]
def qz0i(b:Nat):List qzc:=[
 ⟨(some 11),.mv (.c (.bool true)),none⟩]
def qz2g(b:Nat):List qzc:=[
 ⟨(some 21),.mv (.t 2),none⟩,
 ⟨(some 22),.mv (.t 1),none⟩,
 ⟨(some 23),.bin .sub false (.t 21) (.t 22),none⟩,
 ⟨(some 12),.mv (.t 23),none⟩]
def qzzr(b:Nat):List qzc:=[
 ⟨(some 24),.mv (.t 12),none⟩,
 ⟨(some 25),.bin .leq false (.t 24) (.c (.int .i64 12)),none⟩]
def qz1r(b:Nat):List qzc:=[
 ⟨(some 26),.mv (.t 0),none⟩,
 ⟨(some 27),.mv (.t 1),none⟩,
 ⟨(some 28),.mv (.t 2),none⟩,
 ⟨(some 29),.mv (.t 4),none⟩,
 ⟨(some 30),.callf 147 [.t 26,.t 27,.t 28,.t 29],none⟩]
def qzxq(b:Nat):List qzc:=[
 ⟨(some 31),.mv (.t 3),none⟩,
 ⟨(some 32),.bin .eql false (.t 31) (.c (.int .i64 0)),none⟩]
def qz0y(b:Nat):List qzc:=[
 ⟨(some 33),.mv (.t 0),none⟩,
 ⟨(some 34),.mv (.t 1),none⟩,
 ⟨(some 35),.mv (.t 2),none⟩,
 ⟨(some 36),.mv (.t 4),none⟩,
 ⟨(some 37),.callf 148 [.t 33,.t 34,.t 35,.t 36],none⟩]
def qz13(b:Nat):List qzc:=[
 ⟨(some 38),.mv (.t 10),none⟩,
 ⟨(some 39),.not (.t 38),none⟩]
def qzxm(b:Nat):List qzc:=[
 ⟨(some 40),.mv (.t 0),none⟩,
 ⟨(some 41),.mv (.t 1),none⟩,
 ⟨(some 42),.mv (.t 2),none⟩,
 ⟨(some 43),.mv (.t 4),none⟩,
 ⟨(some 44),.callf 149 [.t 40,.t 41,.t 42,.t 43],none⟩]
def qz1b(b:Nat):List qzc:=[
 ⟨(some 45),.mv (.t 3),none⟩,
 ⟨(some 46),.bin .sub false (.t 45) (.c (.int .i64 1)),none⟩,
 ⟨(some 3),.mv (.t 46),none⟩]
def qzv6(b:Nat):List qzc:=[
 ⟨(some 48),.mv (.t 0),none⟩,
 ⟨(some 49),.mv (.t 1),none⟩,
 ⟨(some 50),.mv (.t 2),none⟩,
 ⟨(some 51),.mv (.t 4),none⟩,
 ⟨(some 52),.callf 150 [.t 48,.t 49,.t 50,.t 51],none⟩,
 ⟨(some 47),.mv (.t 52),none⟩,
 ⟨(some 53),.extract 0 (.t 47),none⟩,
 ⟨(some 54),.extract 1 (.t 47),none⟩,
 ⟨(some 13),.mv (.t 53),none⟩,
 ⟨(some 14),.mv (.t 54),none⟩]
def jzhm(b:Nat):List qzc:=[
 ⟨(some 55),.mv (.t 14),none⟩,
 ⟨(some 56),.bin .eql false (.t 55) (.c (.int .i64 2)),none⟩]
def jzhj(b:Nat):List qzc:=[
 ⟨(some 57),.mv (.t 0),none⟩,
 ⟨(some 58),.mv (.t 1),none⟩,
 ⟨(some 59),.mv (.t 2),none⟩,
 ⟨(some 60),.mv (.t 4),none⟩,
 ⟨(some 61),.callf 151 [.t 57,.t 58,.t 59,.t 60],none⟩]
def jzgw(b:Nat):List qzc:=[
 ⟨(some 62),.mv (.t 2),none⟩,
 ⟨(some 63),.bin .sub false (.t 62) (.c (.int .i64 1)),none⟩,
 ⟨(some 64),.mv (.t 13),none⟩,
 ⟨(some 65),.mv (.t 1),none⟩,
 ⟨(some 66),.bin .sub false (.t 64) (.t 65),none⟩,
 ⟨(some 67),.bin .sub false (.t 63) (.t 66),none⟩,
 ⟨(some 13),.mv (.t 67),none⟩]
def jzgk(b:Nat):List qzc:=[
 ⟨(some 14),.mv (.c (.int .i64 1)),none⟩]
def jzf7(b:Nat):List qzc:=[
 ⟨(some 68),.mv (.t 10),none⟩,
 ⟨(some 69),.mv (.t 68),none⟩,
 ⟨(some 70),.mv (.t 11),(some (69,true))⟩,
 ⟨(some 71),.pick (.t 69) (.t 70) (.c (.bool false)),none⟩,
 ⟨(some 72),.mv (.t 71),none⟩,
 ⟨(some 73),.mv (.t 14),(some (72,true))⟩,
 ⟨(some 74),.bin .eql false (.t 73) (.c (.int .i64 1)),(some (72,true))⟩,
 ⟨(some 75),.pick (.t 72) (.t 74) (.c (.bool false)),none⟩]
def jzgo(b:Nat):List qzc:=[
 ⟨(some 76),.mv (.t 0),none⟩,
 ⟨(some 77),.mv (.t 1),none⟩,
 ⟨(some 78),.mv (.t 2),none⟩,
 ⟨(some 79),.mv (.t 4),none⟩,
 ⟨(some 80),.callf 152 [.t 76,.t 77,.t 78,.t 79],none⟩]
def jzhe(b:Nat):List qzc:=[
 ⟨(some 81),.mv (.t 1),none⟩,
 ⟨(some 82),.bin .gtr false (.t 81) (.c (.int .i64 0)),none⟩,
 ⟨(some 83),.mv (.t 82),none⟩,
 ⟨(some 84),.mv (.t 4),(some (83,true))⟩,
 ⟨(some 85),.mv (.t 0),(some (83,true))⟩,
 ⟨(some 86),.mv (.t 1),(some (83,true))⟩,
 ⟨(some 87),.bin .sub false (.t 86) (.c (.int .i64 1)),(some (83,true))⟩,
 ⟨(some 88),.iaddrS 3 (.t 85) (.t 87),(some (83,true))⟩,
 ⟨(some 89),.load true 3 (.t 88),(some (83,true))⟩,
 ⟨(some 90),.mv (.t 0),(some (83,true))⟩,
 ⟨(some 91),.mv (.t 13),(some (83,true))⟩,
 ⟨(some 92),.iaddrS 3 (.t 90) (.t 91),(some (83,true))⟩,
 ⟨(some 93),.load true 3 (.t 92),(some (83,true))⟩,
 ⟨(some 94),.callv (.t 84) [.t 89,.t 93],(some (83,true))⟩,
 ⟨(some 95),.bin .lss false (.t 94) (.c (.int .i64 0)),(some (83,true))⟩,
 ⟨(some 96),.not (.t 95),(some (83,true))⟩,
 ⟨(some 97),.pick (.t 83) (.t 96) (.c (.bool false)),none⟩]
def jzed:List (List Nat):=[[],[0],[0,1],[0,1,2],[0,1,2],[0,1,2],[0,1,2,5],[0,1,2,4,5,6],[0,1,2,4,5,6,7],[0,1,2],[0,1,2],[0,1,2,9,10],[0,1,2,9,10,11],[0,1,2,3,4,5,6,7,8,9,10,11,12],[0,1,2,3,4,5,6,7,8,9,10,11,12,13],[0,1,2,3,4,5,6,7,8,9,10,11,12,13,14],[0,1,2,3,4,5,6,7,8,9,10,11,12,13,14,15]]
def jzgj(b:Nat):List qzc:=[
 ⟨(some 98),.mv (.t 0),none⟩,
 ⟨(some 99),.mv (.t 1),none⟩,
 ⟨(some 100),.mv (.t 2),none⟩,
 ⟨(some 101),.mv (.t 13),none⟩,
 ⟨(some 102),.mv (.t 4),none⟩,
 ⟨(some 103),.callf 153 [.t 98,.t 99,.t 100,.t 101,.t 102],none⟩,
 ⟨(some 15),.mv (.t 103),none⟩]
def jzga(b:Nat):List qzc:=[
 ⟨(some 104),.mv (.t 15),none⟩,
 ⟨(some 1),.mv (.t 104),none⟩]
def jzgc(b:Nat):List qzc:=[
 ⟨(some 106),.mv (.t 0),none⟩,
 ⟨(some 107),.mv (.t 1),none⟩,
 ⟨(some 108),.mv (.t 2),none⟩,
 ⟨(some 109),.mv (.t 13),none⟩,
 ⟨(some 110),.mv (.t 4),none⟩,
 ⟨(some 111),.callf 154 [.t 106,.t 107,.t 108,.t 109,.t 110],none⟩,
 ⟨(some 105),.mv (.t 111),none⟩,
 ⟨(some 112),.extract 0 (.t 105),none⟩,
 ⟨(some 113),.extract 1 (.t 105),none⟩,
 ⟨(some 16),.mv (.t 112),none⟩,
 ⟨(some 17),.mv (.t 113),none⟩]
def jzg8(b:Nat):List qzc:=[
 ⟨(some 114),.mv (.t 17),none⟩,
 ⟨(some 11),.mv (.t 114),none⟩]
def jzgt(b:Nat):List qzc:=[
 ⟨(some 115),.mv (.t 16),none⟩,
 ⟨(some 116),.mv (.t 1),none⟩,
 ⟨(some 117),.bin .sub false (.t 115) (.t 116),none⟩,
 ⟨(some 118),.mv (.t 2),none⟩,
 ⟨(some 119),.mv (.t 16),none⟩,
 ⟨(some 120),.bin .sub false (.t 118) (.t 119),none⟩,
 ⟨(some 18),.mv (.t 117),none⟩,
 ⟨(some 19),.mv (.t 120),none⟩]
def jzhb(b:Nat):List qzc:=[
 ⟨(some 121),.mv (.t 12),none⟩,
 ⟨(some 122),.bin .quo false (.t 121) (.c (.int .i64 8)),none⟩,
 ⟨(some 20),.mv (.t 122),none⟩]
def jzgx(b:Nat):List qzc:=[
 ⟨(some 123),.mv (.t 18),none⟩,
 ⟨(some 124),.mv (.t 19),none⟩,
 ⟨(some 125),.bin .lss false (.t 123) (.t 124),none⟩]
def jzg7(b:Nat):List qzc:=[
 ⟨(some 126),.mv (.t 18),none⟩,
 ⟨(some 127),.mv (.t 20),none⟩,
 ⟨(some 128),.bin .geq false (.t 126) (.t 127),none⟩,
 ⟨(some 10),.mv (.t 128),none⟩]
def jzhf(b:Nat):List qzc:=[
 ⟨(some 129),.mv (.t 0),none⟩,
 ⟨(some 130),.mv (.t 1),none⟩,
 ⟨(some 131),.mv (.t 16),none⟩,
 ⟨(some 132),.mv (.t 3),none⟩,
 ⟨(some 133),.mv (.t 4),none⟩,
 ⟨(some 134),.callf 112 [.t 129,.t 130,.t 131,.t 132,.t 133],none⟩]
def jzhh(b:Nat):List qzc:=[
 ⟨(some 135),.mv (.t 16),none⟩,
 ⟨(some 136),.bin .add false (.t 135) (.c (.int .i64 1)),none⟩,
 ⟨(some 1),.mv (.t 136),none⟩]
def jzhi(b:Nat):List qzc:=[
 ⟨(some 137),.mv (.t 19),none⟩,
 ⟨(some 138),.mv (.t 20),none⟩,
 ⟨(some 139),.bin .geq false (.t 137) (.t 138),none⟩,
 ⟨(some 10),.mv (.t 139),none⟩]
def jzgg(b:Nat):List qzc:=[
 ⟨(some 140),.mv (.t 0),none⟩,
 ⟨(some 141),.mv (.t 16),none⟩,
 ⟨(some 142),.bin .add false (.t 141) (.c (.int .i64 1)),none⟩,
 ⟨(some 143),.mv (.t 2),none⟩,
 ⟨(some 144),.mv (.t 3),none⟩,
 ⟨(some 145),.mv (.t 4),none⟩,
 ⟨(some 146),.callf 112 [.t 140,.t 142,.t 143,.t 144,.t 145],none⟩]
def jzgs(b:Nat):List qzc:=[
 ⟨(some 147),.mv (.t 16),none⟩,
 ⟨(some 2),.mv (.t 147),none⟩]
def qz2l(b:Nat):qzk:=.block 1 (.seq (.reg false (qz2g b) []) (.seq (.seq (.reg false (qzzr b) []) (.cond (.t 25) (.seq (.reg false (qz1r b) []) (.ret)) (.skip))) (.seq (.seq (.reg false (qzxq b) []) (.cond (.t 32) (.seq (.reg false (qz0y b) []) (.ret)) (.skip))) (.seq (.seq (.reg false (qz13 b) []) (.cond (.t 39) (.seq (.reg false (qzxm b) []) (.reg false (qz1b b) [])) (.skip))) (.seq (.reg false (qzv6 b) []) (.seq (.seq (.reg false (jzhm b) []) (.cond (.t 56) (.seq (.reg false (jzhj b) []) (.seq (.reg false (jzgw b) []) (.reg false (jzgk b) []))) (.skip))) (.seq (.seq (.reg false (jzf7 b) []) (.cond (.t 75) (.seq (.reg false (jzgo b) []) (.cond (.t 80) (.ret) (.skip))) (.skip))) (.seq (.seq (.reg true (jzhe b) jzed) (.cond (.t 97) (.seq (.reg false (jzgj b) []) (.seq (.reg false (jzga b) []) (.exit 1))) (.skip))) (.seq (.reg false (jzgc b) []) (.seq (.reg false (jzg8 b) []) (.seq (.reg false (jzgt b) []) (.seq (.reg false (jzhb b) []) (.seq (.reg false (jzgx b) []) (.cond (.t 125) (.seq (.reg false (jzg7 b) []) (.seq (.reg false (jzhf b) []) (.reg false (jzhh b) []))) (.seq (.reg false (jzhi b) []) (.seq (.reg false (jzgg b) []) (.reg false (jzgs b) [])))))))))))))))))
def c112(b:Nat):qzk:=.seq (.reg false (qzx1 b) []) (.seq (.reg false (qz0i b) []) (.block 0 (.loop (qz2l b))))
def qzex:List ARes:=[]
theorem wzgi:∃c,Tryz.f112.body=some c∧∀b,qzg Tryz.prog c (c112 b)=true:=⟨_,rfl,fun b=>by kernel_rfl⟩
theorem wzgb:qzi Tryz.prog Tryz.f112.results.toList qzex=true:=by kernel_rfl
def jzdx(b:Nat):List qzc:=[
 ⟨(some 10),.mv (.t 1),none⟩,
 ⟨(some 11),.bin .add false (.t 10) (.c (.int .i64 1)),none⟩,
 ⟨(some 8),.mv (.t 11),none⟩]
def jzdo(b:Nat):List qzc:=[
 ⟨(some 12),.mv (.t 8),none⟩,
 ⟨(some 13),.mv (.t 2),none⟩,
 ⟨(some 14),.bin .lss false (.t 12) (.t 13),none⟩]
def jzia(b:Nat):List qzc:=[
 ⟨(some 17),.mv (.t 8),none⟩,
 ⟨(some 9),.mv (.t 17),none⟩]
def jzh2(b:Nat):List qzc:=[
 ⟨(some 18),.mv (.t 9),none⟩,
 ⟨(some 19),.mv (.t 1),none⟩,
 ⟨(some 20),.bin .gtr false (.t 18) (.t 19),none⟩,
 ⟨(some 21),.mv (.t 20),none⟩,
 ⟨(some 22),.mv (.t 3),(some (21,true))⟩,
 ⟨(some 23),.mv (.t 0),(some (21,true))⟩,
 ⟨(some 24),.mv (.t 9),(some (21,true))⟩,
 ⟨(some 25),.iaddrS 3 (.t 23) (.t 24),(some (21,true))⟩,
 ⟨(some 26),.load true 3 (.t 25),(some (21,true))⟩,
 ⟨(some 27),.mv (.t 0),(some (21,true))⟩,
 ⟨(some 28),.mv (.t 9),(some (21,true))⟩,
 ⟨(some 29),.bin .sub false (.t 28) (.c (.int .i64 1)),(some (21,true))⟩,
 ⟨(some 30),.iaddrS 3 (.t 27) (.t 29),(some (21,true))⟩,
 ⟨(some 31),.load true 3 (.t 30),(some (21,true))⟩,
 ⟨(some 32),.callv (.t 22) [.t 26,.t 31],(some (21,true))⟩,
 ⟨(some 33),.bin .lss false (.t 32) (.c (.int .i64 0)),(some (21,true))⟩,
 ⟨(some 34),.pick (.t 21) (.t 33) (.c (.bool false)),none⟩]
def jzgp:List (List Nat):=[[],[],[0,1],[0,1,2],[0,1,2,3],[0,1,2,3],[0,1,2,3],[0,1,2,3,5,6],[0,1,2,3,5,6,7],[0,1,2,3],[0,1,2,3],[0,1,2,3,10],[0,1,2,3,9,10,11],[0,1,2,3,9,10,11,12],[0,1,2,3,4,5,6,7,8,9,10,11,12,13],[0,1,2,3,4,5,6,7,8,9,10,11,12,13,14],[0,1,2,3,4,5,6,7,8,9,10,11,12,13,14,15]]
def jzhx(b:Nat):List qzc:=[
 ⟨(some 37),.mv (.t 0),none⟩,
 ⟨(some 38),.mv (.t 9),none⟩,
 ⟨(some 39),.mv (.t 0),none⟩,
 ⟨(some 40),.mv (.t 9),none⟩,
 ⟨(some 41),.bin .sub false (.t 40) (.c (.int .i64 1)),none⟩,
 ⟨(some 42),.mv (.t 0),none⟩,
 ⟨(some 43),.mv (.t 9),none⟩,
 ⟨(some 44),.bin .sub false (.t 43) (.c (.int .i64 1)),none⟩,
 ⟨(some 45),.iaddrS 3 (.t 42) (.t 44),none⟩,
 ⟨(some 46),.load true 3 (.t 45),none⟩,
 ⟨(some 47),.mv (.t 0),none⟩,
 ⟨(some 48),.mv (.t 9),none⟩,
 ⟨(some 49),.iaddrS 3 (.t 47) (.t 48),none⟩,
 ⟨(some 50),.load true 3 (.t 49),none⟩,
 ⟨(some 51),.iaddrS 3 (.t 37) (.t 38),none⟩,
 ⟨none,.store 3 (.t 51) (.t 46),none⟩,
 ⟨(some 52),.iaddrS 3 (.t 39) (.t 41),none⟩,
 ⟨none,.store 3 (.t 52) (.t 50),none⟩]
def jzgr:List (List Nat):=[[],[],[],[],[3],[],[],[6],[5,6,7],[5,6,7,8],[],[],[10,11],[10,11,12],[0,1,5,6,7,8,9,10,11,12,13],[0,1,5,6,7,8,9,10,11,12,13,14],[0,1,2,3,4,5,6,7,8,9,10,11,12,13,14,15],[0,1,2,3,4,5,6,7,8,9,10,11,12,13,14,15,16]]
def jzhr(b:Nat):List qzc:=[
 ⟨(some 35),.mv (.t 9),none⟩,
 ⟨(some 36),.bin .sub false (.t 35) (.c (.int .i64 1)),none⟩,
 ⟨(some 9),.mv (.t 36),none⟩]
def jzh3(b:Nat):qzk:=.seq (.seq (.reg true (jzh2 b) jzgp) (.cond (.t 34) (.skip) (.exit 2))) (.seq (.block 3 (.reg true (jzhx b) jzgr)) (.reg false (jzhr b) []))
def jzh4(b:Nat):List qzc:=[
 ⟨(some 15),.mv (.t 8),none⟩,
 ⟨(some 16),.bin .add false (.t 15) (.c (.int .i64 1)),none⟩,
 ⟨(some 8),.mv (.t 16),none⟩]
def jzhw(b:Nat):qzk:=.seq (.seq (.reg false (jzdo b) []) (.cond (.t 14) (.skip) (.exit 0))) (.seq (.block 1 (.seq (.reg false (jzia b) []) (.block 2 (.loop (jzh3 b))))) (.reg false (jzh4 b) []))
def c147(b:Nat):qzk:=.seq (.reg false (jzdx b) []) (.block 0 (.loop (jzhw b)))
def jzfl:List ARes:=[]
theorem jzk8:∃c,Tryz.f147.body=some c∧∀b,qzg Tryz.prog c (c147 b)=true:=⟨_,rfl,fun b=>by kernel_rfl⟩
theorem jzkt:qzi Tryz.prog Tryz.f147.results.toList jzfl=true:=by kernel_rfl
end Go.Am

