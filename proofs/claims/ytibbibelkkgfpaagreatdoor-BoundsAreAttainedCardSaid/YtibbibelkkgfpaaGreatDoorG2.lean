/- Part G2: the code of some functions of this seat over abstract operations. No condition. -/
import Derived.Test.YtibbibelkkgfpaaGreatDoorG1
set_option linter.unusedVariables false
namespace Go.Am
open Go.Proofs
def Vv(b:Nat):List Ak:=[
    sO 2 (.box (b+0) (.t 0)),sO 4 (.alloc (b+1) [.bool false,.str [],.str []]),sO 5 (.mv (.c (.int .i64 0)))]
def Vw(b:Nat):List Ak:=[
    sO 17 (.mv (.t 1)),sO 18 (.callf 37 [.t 17]),sO 6 (.mv (.t 18))]
def Vy(b:Nat):List Ak:=[
    sO 19 (.mv (.t 6)),sO 20 (.bin .neq false (.t 19) (.c (.int .i64 0)))]
def Vz(b:Nat):List Ak:=[
    sO 21 (.build [.bool false,.str [],.str []] []),sO 22 (.mv (.t 6)),⟨none,.store 3 (.t 4) (.t 21),none⟩,sO 5 (.mv (.t 22))]
def V0(b:Nat):List Ak:=[
    sO 24 (.load true 2 (.t 2)),sO 25 (.callf 34 [.t 24]),sO 23 (.mv (.t 25)),sO 26 (.extract 0 (.t 23)),sO 27 (.extract 1 (.t 23)),sO 7 (.mv (.t 26)),sO 8 (.mv (.t 27))]
def V6(b:Nat):List Ak:=[
    sO 28 (.mv (.t 8)),sO 29 (.bin .neq false (.t 28) (.c (.int .i64 0)))]
def V7(b:Nat):List Ak:=[
    sO 30 (.build [.bool false,.str [],.str []] []),⟨none,.store 3 (.t 4) (.t 30),none⟩,sO 5 (.mv (.c (.int .i64 1)))]
def V8(b:Nat):List Ak:=[
    sO 31 (.mv (.t 1)),sO 32 (.callf 51 [.t 31]),sO 9 (.mv (.t 32))]
def V9(b:Nat):List Ak:=[
    sO 33 (.mv (.t 1)),sO 34 (.len false (.t 33)),sO 35 (.mv (.c (.int .i64 0)))]
def VA(b:Nat):List Ak:=[
    sO 36 (.bin .lss false (.t 35) (.t 34))]
def VC(b:Nat):List Ak:=[
    sO 37 (.mv (.t 35)),sO 38 (.iaddrS 7 (.t 33) (.t 35)),sO 39 (.load true 7 (.t 38)),sO 11 (.alloc (b+2) [.int .i64 0,.int .i64 0,.bool false,.str [],.str [],.int .i64 0,.nils]),sO 10 (.mv (.t 37)),⟨none,.store 7 (.t 11) (.t 39),none⟩]
def VD(b:Nat):List Ak:=[
    sO 40 (.faddr 0 (.t 11)),sO 41 (.load false 1 (.t 40)),sO 42 (.faddr 0 (.t 2)),sO 43 (.load false 1 (.t 42)),sO 44 (.bin .lss false (.t 41) (.t 43)),sO 45 (.mv (.t 44)),⟨(some 46),.faddr 1 (.t 11),(some (45,false))⟩,⟨(some 47),.load false 1 (.t 46),(some (45,false))⟩,⟨(some 48),.faddr 0 (.t 2),(some (45,false))⟩,⟨(some 49),.load false 1 (.t 48),(some (45,false))⟩,⟨(some 50),.faddr 1 (.t 2),(some (45,false))⟩,⟨(some 51),.load false 1 (.t 50),(some (45,false))⟩,⟨(some 52),.len false (.t 51),(some (45,false))⟩,⟨(some 53),.bin .add false (.t 49) (.t 52),(some (45,false))⟩,⟨(some 54),.bin .gtr false (.t 47) (.t 53),(some (45,false))⟩,sO 55 (.pick (.t 45) (.c (.bool true)) (.t 54))]
def VE(b:Nat):List Ak:=[
    sO 56 (.build [.bool false,.str [],.str []] []),⟨none,.store 3 (.t 4) (.t 56),none⟩,sO 5 (.mv (.c (.int .i64 19)))]
def VF(b:Nat):List Ak:=[
    sO 57 (.mkmap (b+3)),sO 12 (.mv (.t 57))]
def VG(b:Nat):List Ak:=[
    sO 58 (.faddr 1 (.t 2)),sO 59 (.load false 1 (.t 58)),sO 60 (.faddr 0 (.t 11)),sO 61 (.load false 1 (.t 60)),sO 62 (.faddr 0 (.t 2)),sO 63 (.load false 1 (.t 62)),sO 64 (.bin .sub false (.t 61) (.t 63)),sO 65 (.faddr 1 (.t 11)),sO 66 (.load false 1 (.t 65)),sO 67 (.faddr 0 (.t 2)),sO 68 (.load false 1 (.t 67)),sO 69 (.bin .sub false (.t 66) (.t 68)),sO 70 (.slice false 1 (.t 59) (some (.t 64)) (some (.t 69))),sO 71 (.len false (.t 70)),sO 72 (.mv (.c (.int .i64 0)))]
def VH(b:Nat):List Ak:=[
    sO 73 (.bin .lss false (.t 72) (.t 71))]
def VI(b:Nat):List Ak:=[
    sO 74 (.iaddrS 1 (.t 70) (.t 72)),sO 75 (.load false 1 (.t 74)),sO 14 (.mv (.t 75))]
def VJ(b:Nat):List Ak:=[
    sO 76 (.mv (.t 12)),sO 77 (.mv (.t 14)),sO 78 (.mlook 1 false (.int .i64 0) (.t 76) (.t 77)),sO 79 (.bin .add false (.t 78) (.c (.int .i64 1))),⟨none,.mupd 1 (.t 76) (.t 77) (.t 79),none⟩]
def VK(b:Nat):List Ak:=[
    sO 80 (.bin .add false (.t 72) (.c (.int .i64 1))),sO 72 (.mv (.t 80))]
def wzuz(b:Nat):AO:=.seq (.reg false (VH b) []) (.seq (.cond (.t 73) (.skip) (.exit 2)) (.seq (.block 3 (.seq (.reg false (VI b) []) (.reg false (VJ b) []))) (.reg false (VK b) [])))
def VL(b:Nat):List Ak:=[
    sO 81 (.mv (.t 12)),sO 82 (.mrange (b+4) (.t 81))]
def VM(b:Nat):List Ak:=[
    sO 83 (.mnext (.t 82)),sO 84 (.extract 0 (.t 83))]
def VN(b:Nat):List Ak:=[
    sO 85 (.mentry (.t 82)),sO 86 (.extract 0 (.t 85)),sO 87 (.extract 1 (.t 85)),sO 15 (.mv (.t 86)),sO 16 (.mv (.t 87))]
def VP(b:Nat):List Ak:=[
    sO 88 (.mv (.t 9)),sO 89 (.mv (.t 16)),sO 90 (.mv (.t 10)),sO 91 (.mv (.t 15)),sO 92 (.callf 52 [.t 88,.t 89,.t 90,.t 91])]
def wzv4(b:Nat):AO:=.seq (.reg false (VM b) []) (.seq (.cond (.t 84) (.skip) (.exit 4)) (.block 5 (.seq (.reg false (VN b) []) (.reg false (VP b) []))))
def VQ(b:Nat):List Ak:=[
    sO 93 (.bin .add false (.t 35) (.c (.int .i64 1))),sO 35 (.mv (.t 93))]
def wzup(b:Nat):AO:=.seq (.reg false (VA b) []) (.seq (.cond (.t 36) (.skip) (.exit 0)) (.seq (.block 1 (.seq (.reg false (VC b) []) (.seq (.seq (.reg false (VD b) []) (.cond (.t 55) (.seq (.reg false (VE b) []) (.ret)) (.skip))) (.seq (.reg false (VF b) []) (.seq (.seq (.reg false (VG b) []) (.block 2 (.loop (wzuz b)))) (.seq (.reg false (VL b) []) (.block 4 (.loop (wzv4 b))))))))) (.reg false (VQ b) [])))
def VB(b:Nat):List Ak:=[
    sO 94 (.mv (.t 9)),sO 95 (.nilck (.t 94)),sO 96 (.faddr 2 (.t 95)),sO 97 (.load true 3 (.t 96)),⟨none,.store 3 (.t 4) (.t 97),none⟩,sO 5 (.mv (.c (.int .i64 0)))]
def c21(b:Nat):AO:=.seq (.reg false (Vv b) []) (.seq (.seq (.reg false (Vw b) []) (.seq (.reg false (Vy b) []) (.cond (.t 20) (.seq (.reg false (Vz b) []) (.ret)) (.skip)))) (.seq (.seq (.reg false (V0 b) []) (.seq (.reg false (V6 b) []) (.cond (.t 29) (.seq (.reg false (V7 b) []) (.ret)) (.skip)))) (.seq (.reg false (V8 b) []) (.seq (.seq (.reg false (V9 b) []) (.block 0 (.loop (wzup b)))) (.seq (.reg false (VB b) []) (.ret))))))
def rs21:List ARes:=[.c 4 true 3,.t 5]
theorem ck21:∃c,Tryz.f21.body=some c/\∀b,AF Tryz.prog c (c21 b)=true:=⟨_,rfl,fun b=>by kernel_rfl⟩
theorem cr21:DT Tryz.prog Tryz.f21.results.toList rs21=true:=by kernel_rfl
def UP(b:Nat):List Ak:=[
    sO 1 (.box (b+0) (.t 0)),sO 2 (.mv (.c (.nils))),sO 3 (.mv (.c (.int .i64 0)))]
def UQ(b:Nat):List Ak:=[
    sO 10 (.load true 2 (.t 1)),sO 11 (.callf 53 [.t 10]),sO 12 (.not (.t 11))]
def UR(b:Nat):List Ak:=[
    sO 2 (.mv (.c (.nils))),sO 3 (.mv (.c (.int .i64 1)))]
def US(b:Nat):List Ak:=[
    sO 4 (.mv (.c (.nils)))]
def UT(b:Nat):List Ak:=[
    sO 13 (.faddr 1 (.t 1)),sO 14 (.load false 1 (.t 13)),sO 15 (.len false (.t 14)),sO 16 (.mv (.c (.int .i64 0)))]
def UU(b:Nat):List Ak:=[
    sO 17 (.bin .lss false (.t 16) (.t 15))]
def UV(b:Nat):List Ak:=[
    sO 18 (.mv (.t 16)),sO 19 (.iaddrS 1 (.t 14) (.t 16)),sO 20 (.load false 1 (.t 19)),sO 5 (.mv (.t 18)),sO 6 (.mv (.t 20))]
def LE(b:Nat):List Ak:=[
    sO 21 (.mv (.t 4)),sO 22 (.faddr 0 (.t 1)),sO 23 (.load false 1 (.t 22)),sO 24 (.mv (.t 5)),sO 25 (.bin .add false (.t 23) (.t 24)),sO 26 (.faddr 0 (.t 1)),sO 27 (.load false 1 (.t 26)),sO 28 (.mv (.t 5)),sO 29 (.bin .add false (.t 27) (.t 28)),sO 30 (.bin .add false (.t 29) (.c (.int .i64 1))),sO 31 (.mv (.t 6)),sO 32 (.callf 67 [.t 25,.t 30,.t 31]),sO 33 (.bslice (b+1) 5 1 [.int .i64 0,.int .i64 0,.nils,.int .i64 0,.int .i64 0] [(0,5,.t 32)]),sO 34 (.append (b+2) 5 56 (.t 21) (.t 33)),sO 4 (.mv (.t 34))]
def UW(b:Nat):List Ak:=[
    sO 35 (.mv (.t 4)),sO 36 (.len false (.t 35)),sO 7 (.mv (.t 36))]
def UX(b:Nat):List Ak:=[
    sO 37 (.mv (.t 7)),sO 38 (.bin .gtr false (.t 37) (.c (.int .i64 1)))]
def UY(b:Nat):List Ak:=[
    sO 40 (.mv (.t 4)),sO 41 (.mv (.t 7)),sO 42 (.bin .sub false (.t 41) (.c (.int .i64 2))),sO 43 (.iaddrS 5 (.t 40) (.t 42)),sO 44 (.load true 5 (.t 43)),sO 45 (.mv (.t 4)),sO 46 (.mv (.t 7)),sO 47 (.bin .sub false (.t 46) (.c (.int .i64 1))),sO 48 (.iaddrS 5 (.t 45) (.t 47)),sO 49 (.load true 5 (.t 48)),sO 50 (.callf 68 [.t 44,.t 49]),sO 39 (.mv (.t 50)),sO 51 (.extract 0 (.t 39)),sO 52 (.extract 1 (.t 39)),sO 8 (.alloc (b+3) [.int .i64 0,.int .i64 0,.nils,.int .i64 0,.int .i64 0]),⟨none,.store 5 (.t 8) (.t 51),none⟩,sO 9 (.mv (.t 52))]
def wzru:List (List Nat):=[[],[],[1],[0,1,2],[0,1,2,3],[],[],[6],[5,6,7],[5,6,7,8],[0,1,2,3,4,5,6,7,8,9],[0,1,2,3,4,5,6,7,8,9,10],[0,1,2,3,4,5,6,7,8,9,10,11],[0,1,2,3,4,5,6,7,8,9,10,11],[],[0,1,2,3,4,5,6,7,8,9,10,11,12,14],[0,1,2,3,4,5,6,7,8,9,10,11,12,13,14,15]]
def Va(b:Nat):List Ak:=[
    sO 53 (.mv (.t 9))]
def Vb(b:Nat):List Ak:=[
    sO 54 (.mv (.t 4)),sO 55 (.mv (.t 7)),sO 56 (.bin .sub false (.t 55) (.c (.int .i64 2))),sO 57 (.slice false 5 (.t 54) none (some (.t 56))),sO 58 (.load true 5 (.t 8)),sO 59 (.bslice (b+4) 5 1 [.int .i64 0,.int .i64 0,.nils,.int .i64 0,.int .i64 0] [(0,5,.t 58)]),sO 60 (.append (b+5) 5 56 (.t 57) (.t 59)),sO 4 (.mv (.t 60))]
def wzp9:List (List Nat):=[[],[],[1],[0,1,2],[],[4],[0,1,2,3,4,5],[0,1,2,3,4,5,6]]
def LF(b:Nat):List Ak:=[
    sO 61 (.bin .add false (.t 16) (.c (.int .i64 1))),sO 16 (.mv (.t 61))]
def wzuu(b:Nat):AO:=.seq (.reg false (UU b) []) (.seq (.cond (.t 17) (.skip) (.exit 0)) (.seq (.block 1 (.seq (.reg false (UV b) []) (.seq (.reg false (LE b) []) (.seq (.reg false (UW b) []) (.seq (.reg false (UX b) []) (.cond (.t 38) (.seq (.reg true (UY b) wzru) (.seq (.reg false (Va b) []) (.cond (.t 53) (.reg true (Vb b) wzp9) (.skip)))) (.skip))))))) (.reg false (LF b) [])))
def OO(b:Nat):List Ak:=[
    sO 62 (.mv (.t 4)),sO 63 (.len false (.t 62)),sO 64 (.bin .gtr false (.t 63) (.c (.int .i64 2000)))]
def Ve(b:Nat):List Ak:=[
    sO 2 (.mv (.c (.nils))),sO 3 (.mv (.c (.int .i64 2)))]
def OP(b:Nat):List Ak:=[
    sO 65 (.mv (.t 4)),sO 2 (.mv (.t 65)),sO 3 (.mv (.c (.int .i64 0)))]
def c34(b:Nat):AO:=.seq (.reg false (UP b) []) (.seq (.seq (.reg false (UQ b) []) (.cond (.t 12) (.seq (.reg false (UR b) []) (.ret)) (.skip))) (.seq (.reg false (US b) []) (.seq (.seq (.reg false (UT b) []) (.block 0 (.loop (wzuu b)))) (.seq (.seq (.reg false (OO b) []) (.cond (.t 64) (.seq (.reg false (Ve b) []) (.ret)) (.skip))) (.seq (.reg false (OP b) []) (.ret))))))
def rs34:List ARes:=[.t 2,.t 3]
theorem ck34:∃c,Tryz.f34.body=some c/\∀b,AF Tryz.prog c (c34 b)=true:=⟨_,rfl,fun b=>by kernel_rfl⟩
theorem cr34:DT Tryz.prog Tryz.f34.results.toList rs34=true:=by kernel_rfl
def Vo(b:Nat):List Ak:=[
    sO 2 (.mv (.c (.nilp)))]
def Vp(b:Nat):List Ak:=[
    sO 3 (.mv (.t 0)),sO 4 (.mkmap (b+0)),sO 5 (.build [.nils,.nilmp,.bool false,.str [],.str []] [(0,1,.t 3),(1,1,.t 4)]),sO 6 (.box (b+1) (.t 5)),sO 2 (.mv (.t 6))]
def c51(b:Nat):AO:=.seq (.reg false (Vo b) []) (.seq (.reg false (Vp b) []) (.ret))
def rs51:List ARes:=[.t 2]
theorem ck51:∃c,Tryz.f51.body=some c/\∀b,AF Tryz.prog c (c51 b)=true:=⟨_,rfl,fun b=>by kernel_rfl⟩
theorem cr51:DT Tryz.prog Tryz.f51.results.toList rs51=true:=by kernel_rfl
def Ih(b:Nat):List Ak:=[
    sO 8 (.mv (.t 0)),sO 9 (.mv (.t 0)),sO 10 (.nilck (.t 9)),sO 11 (.faddr 2 (.t 10)),sO 12 (.load true 3 (.t 11)),sO 13 (.mv (.t 1)),sO 14 (.callf 42 [.t 13]),sO 15 (.mv (.t 0)),sO 16 (.mv (.t 2)),sO 17 (.mv (.t 3)),sO 18 (.callf 97 [.t 15,.t 16,.t 17]),sO 19 (.callf 30 [.t 14,.t 18]),sO 20 (.callf 31 [.t 12,.t 19]),sO 21 (.nilck (.t 8)),sO 22 (.faddr 2 (.t 21)),⟨none,.store 3 (.t 22) (.t 20),none⟩]
def wzsb:List (List Nat):=[[],[],[1],[1,2],[1,2,3],[],[5],[],[],[],[5,6,7,8,9],[5,6,7,8,9,10],[1,2,3,4,5,6,7,8,9,10,11],[0,1,2,3,4,5,6,7,8,9,10,11,12],[0,1,2,3,4,5,6,7,8,9,10,11,12,13],[0,1,2,3,4,5,6,7,8,9,10,11,12,13,14]]
def c52(b:Nat):AO:=.reg true (Ih b) wzsb
def rs52:List ARes:=[]
theorem ck52:∃c,Tryz.f52.body=some c/\∀b,AF Tryz.prog c (c52 b)=true:=⟨_,rfl,fun b=>by kernel_rfl⟩
theorem cr52:DT Tryz.prog Tryz.f52.results.toList rs52=true:=by kernel_rfl
def UJ(b:Nat):List Ak:=[
    sO 4 (.mv (.c (.str [])))]
def UK(b:Nat):List Ak:=[
    sO 5 (.alloc (b+0) [.nilfn])]
def UL(b:Nat):List Ak:=[
    sO 6 (.mkfn 102 0 [.t 5]),⟨none,.store 1 (.t 5) (.t 6),none⟩]
def UM(b:Nat):List Ak:=[
    sO 7 (.load false 1 (.t 5)),sO 8 (.mv (.t 0)),sO 9 (.callf 104 [.t 8]),sO 10 (.mv (.t 1)),sO 11 (.callf 104 [.t 10]),sO 12 (.callv (.t 7) [.t 9,.t 11]),sO 13 (.callf 105 [.t 12]),sO 4 (.mv (.t 13))]
def wzsf:List (List Nat):=[[],[],[1],[],[1,2,3],[0,1,2,3,4],[0,1,2,3,4,5],[0,1,2,3,4,5,6]]
def c61(b:Nat):AO:=.seq (.reg false (UJ b) []) (.seq (.reg false (UK b) []) (.seq (.reg false (UL b) []) (.seq (.reg true (UM b) wzsf) (.ret))))
def rs61:List ARes:=[.t 4]
theorem ck61:∃c,Tryz.f61.body=some c/\∀b,AF Tryz.prog c (c61 b)=true:=⟨_,rfl,fun b=>by kernel_rfl⟩
theorem cr61:DT Tryz.prog Tryz.f61.results.toList rs61=true:=by kernel_rfl
def Vh(b:Nat):List Ak:=[
    sO 6 (.alloc (b+0) [.bool false,.str [],.str []])]
def Vi(b:Nat):List Ak:=[
    sO 10 (.mv (.t 1)),sO 11 (.bin .lss false (.t 10) (.c (.int .i64 0)))]
def wzut(b:Nat):List Ak:=[
    sO 12 (.build [.bool false,.str [],.str []] []),⟨none,.store 3 (.t 6) (.t 12),none⟩]
def Vj(b:Nat):List Ak:=[
    sO 13 (.mv (.t 1)),sO 14 (.mv (.t 2)),sO 15 (.build [.int .i64 0,.int .i64 0] [(0,1,.t 13),(1,1,.t 14)]),sO 7 (.alloc (b+1) [.int .i64 0,.int .i64 0]),⟨none,.store 2 (.t 7) (.t 15),none⟩]
def OQ(b:Nat):List Ak:=[
    sO 17 (.mv (.t 0)),sO 18 (.nilck (.t 17)),sO 19 (.faddr 1 (.t 18)),sO 20 (.load false 1 (.t 19)),sO 21 (.load true 2 (.t 7)),sO 22 (.mlook 16 true (.agg [.bool false,.str [],.str []]) (.t 20) (.t 21)),sO 16 (.mv (.t 22)),sO 23 (.extract 0 (.t 16)),sO 24 (.extract 1 (.t 16)),sO 8 (.alloc (b+2) [.bool false,.str [],.str []]),⟨none,.store 3 (.t 8) (.t 23),none⟩,sO 9 (.mv (.t 24))]
def wztd:List (List Nat):=[[],[0],[0,1],[0,1,2],[],[0,1,2,3,4],[0,1,2,3,4,5],[0,1,2,3,4,5,6],[0,1,2,3,4,5,6],[],[0,1,2,3,4,5,6,7,9],[0,1,2,3,4,5,6,7,8,9,10]]
def OS(b:Nat):List Ak:=[
    sO 25 (.mv (.t 9)),sO 26 (.not (.t 25))]
def Vk(b:Nat):List Ak:=[
    sO 27 (.mv (.t 0)),sO 28 (.nilck (.t 27)),sO 29 (.faddr 0 (.t 28)),sO 30 (.load false 1 (.t 29)),sO 31 (.mv (.t 1)),sO 32 (.iaddrS 7 (.t 30) (.t 31)),sO 33 (.load true 7 (.t 32)),sO 34 (.mv (.t 2)),sO 35 (.callf 132 [.t 33,.t 34]),⟨none,.store 3 (.t 8) (.t 35),none⟩]
def Vl(b:Nat):List Ak:=[
    sO 36 (.mv (.t 0)),sO 37 (.nilck (.t 36)),sO 38 (.faddr 1 (.t 37)),sO 39 (.load false 1 (.t 38)),sO 40 (.load true 2 (.t 7)),sO 41 (.load true 3 (.t 8)),⟨none,.mupd 16 (.t 39) (.t 40) (.t 41),none⟩]
def wztr:List (List Nat):=[[],[0],[0,1],[0,1,2],[],[],[0,1,2,3,4,5]]
def OT(b:Nat):List Ak:=[
    sO 42 (.load true 3 (.t 8)),⟨none,.store 3 (.t 6) (.t 42),none⟩]
def c97(b:Nat):AO:=.seq (.reg false (Vh b) []) (.seq (.seq (.reg false (Vi b) []) (.cond (.t 11) (.seq (.reg false (wzut b) []) (.ret)) (.skip))) (.seq (.reg false (Vj b) []) (.seq (.reg true (OQ b) wztd) (.seq (.seq (.reg false (OS b) []) (.cond (.t 26) (.seq (.reg false (Vk b) []) (.reg true (Vl b) wztr)) (.skip))) (.seq (.reg false (OT b) []) (.ret))))))
def rs97:List ARes:=[.c 6 true 3]
theorem ck97:∃c,Tryz.f97.body=some c/\∀b,AF Tryz.prog c (c97 b)=true:=⟨_,rfl,fun b=>by kernel_rfl⟩
theorem cr97:DT Tryz.prog Tryz.f97.results.toList rs97=true:=by kernel_rfl
def UE(b:Nat):List Ak:=[
    sO 5 (.mv (.c (.nils)))]
def UF(b:Nat):List Ak:=[
    sO 8 (.mv (.t 1)),sO 9 (.len false (.t 8)),sO 10 (.bin .eql false (.t 9) (.c (.int .i64 0)))]
def UG(b:Nat):List Ak:=[
    sO 11 (.mv (.t 0)),sO 5 (.mv (.t 11))]
def UH(b:Nat):List Ak:=[
    sO 13 (.mv (.t 0)),sO 14 (.mv (.t 1)),sO 15 (.callf 103 [.t 13,.t 14]),sO 12 (.mv (.t 15)),sO 16 (.extract 0 (.t 12)),sO 17 (.extract 1 (.t 12)),sO 6 (.mv (.t 16)),sO 7 (.mv (.t 17))]
def UI(b:Nat):List Ak:=[
    sO 18 (.load false 1 (.t 2)),sO 19 (.mv (.t 1)),sO 20 (.mv (.t 7)),sO 21 (.callv (.t 18) [.t 19,.t 20]),sO 5 (.mv (.t 21))]
def c102(b:Nat):AO:=.seq (.reg false (UE b) []) (.seq (.seq (.reg false (UF b) []) (.cond (.t 10) (.seq (.reg false (UG b) []) (.ret)) (.skip))) (.seq (.reg false (UH b) []) (.seq (.reg false (UI b) []) (.ret))))
def JN:List ARes:=[.t 5]
theorem wzwx:∃c,Tryz.f102.body=some c/\∀b,AF Tryz.prog c (c102 b)=true:=⟨_,rfl,fun b=>by kernel_rfl⟩
theorem wzuo:DT Tryz.prog Tryz.f102.results.toList JN=true:=by kernel_rfl
def UC(b:Nat):List Ak:=[
    sO 2 (.mv (.c (.nils)))]
def OL(b:Nat):List Ak:=[
    sO 3 (.mv (.t 0)),sO 4 (.isnil false (.t 3))]
def wzr0(b:Nat):List Ak:=[
    sO 2 (.mv (.c (.nils)))]
def ON(b:Nat):List Ak:=[
    sO 5 (.bslice (b+0) 1 0 [] []),sO 6 (.mv (.t 0)),sO 7 (.append (b+1) 1 4 (.t 5) (.t 6)),sO 2 (.mv (.t 7))]
def c140(b:Nat):AO:=.seq (.reg false (UC b) []) (.seq (.seq (.reg false (OL b) []) (.cond (.t 4) (.seq (.reg false (wzr0 b) []) (.ret)) (.skip))) (.seq (.reg false (ON b) []) (.ret)))
def JM:List ARes:=[.t 2]
theorem wzub:∃c,Tryz.f140.body=some c/\∀b,AF Tryz.prog c (c140 b)=true:=⟨_,rfl,fun b=>by kernel_rfl⟩
theorem wzus:DT Tryz.prog Tryz.f140.results.toList JM=true:=by kernel_rfl
end Go.Am

