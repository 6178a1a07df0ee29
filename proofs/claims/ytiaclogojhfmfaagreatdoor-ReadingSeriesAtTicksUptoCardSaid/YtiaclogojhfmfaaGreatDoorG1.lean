/- Part G1: the code of some functions of this seat over abstract operations. No condition. -/
import Derived.Test.YtiaclogojhfmfaaGreatDoorF2
set_option linter.unusedVariables false
namespace Go.Am
open Go.Proofs
def jzuk(b:Nat):List qzc:=[ ⟨(some 2),.mv (.c (.nils)),none⟩]
def jzs3(b:Nat):List qzc:=[ ⟨(some 3),.mv (.t 0),none⟩, ⟨(some 4),.isnil false (.t 3),none⟩]
def jzw1(b:Nat):List qzc:=[ ⟨(some 2),.mv (.c (.nils)),none⟩]
def jzsx(b:Nat):List qzc:=[ ⟨(some 5),.bslice (b+0) 6 0 [] [],none⟩, ⟨(some 6),.mv (.t 0),none⟩, ⟨(some 7),.append (b+1) 6 48 (.t 5) (.t 6),none⟩, ⟨(some 2),.mv (.t 7),none⟩]
def c49(b:Nat):qzk:=.seq (.reg false (jzuk b) []) (.seq (.seq (.reg false (jzs3 b) []) (.cond (.t 4) (.seq (.reg false (jzw1 b) []) (.ret)) (.skip))) (.seq (.reg false (jzsx b) []) (.ret)))
def rs49:List ARes:=[.t 2]
theorem ck49:∃c,Tryz.f49.body=some c/\∀b,qzg Tryz.prog c (c49 b)=true:=⟨_,rfl,fun b=>by kernel_rfl⟩
theorem cr49:qzi Tryz.prog Tryz.f49.results.toList rs49=true:=by kernel_rfl
def jzun(b:Nat):List qzc:=[ ⟨(some 2),.mv (.c (.nils)),none⟩]
def jzui(b:Nat):List qzc:=[ ⟨(some 4),.mv (.t 0),none⟩, ⟨(some 5),.callf 83 [.t 4],none⟩, ⟨(some 3),.mv (.t 5),none⟩]
def jzsy(b:Nat):List qzc:=[ ⟨(some 6),.mv (.t 3),none⟩, ⟨(some 7),.callf 84 [.t 6],none⟩]
def jzs5(b:Nat):List qzc:=[ ⟨(some 8),.mv (.t 3),none⟩, ⟨(some 2),.mv (.t 8),none⟩]
def c54(b:Nat):qzk:=.seq (.reg false (jzun b) []) (.seq (.reg false (jzui b) []) (.seq (.reg false (jzsy b) []) (.seq (.reg false (jzs5 b) []) (.ret))))
def rs54:List ARes:=[.t 2]
theorem ck54:∃c,Tryz.f54.body=some c/\∀b,qzg Tryz.prog c (c54 b)=true:=⟨_,rfl,fun b=>by kernel_rfl⟩
theorem cr54:qzi Tryz.prog Tryz.f54.results.toList rs54=true:=by kernel_rfl
def wzac(b:Nat):List qzc:=[ ⟨(some 1),.box (b+0) (.t 0),none⟩, ⟨(some 2),.mv (.c (.nilfn)),none⟩]
def wzbd(b:Nat):List qzc:=[ ⟨(some 3),.mkfn 85 0 [.t 1],none⟩, ⟨(some 2),.mv (.t 3),none⟩]
def c55(b:Nat):qzk:=.seq (.reg false (wzac b) []) (.seq (.reg false (wzbd b) []) (.ret))
def rs55:List ARes:=[.t 2]
theorem ck55:∃c,Tryz.f55.body=some c/\∀b,qzg Tryz.prog c (c55 b)=true:=⟨_,rfl,fun b=>by kernel_rfl⟩
theorem cr55:qzi Tryz.prog Tryz.f55.results.toList rs55=true:=by kernel_rfl
def jzue(b:Nat):List qzc:=[ ⟨(some 2),.mv (.c (.nils)),none⟩]
def jzuh(b:Nat):List qzc:=[ ⟨(some 3),.mv (.t 0),none⟩, ⟨(some 4),.callf 102 [.c (.nils),.t 3],none⟩, ⟨(some 2),.mv (.t 4),none⟩]
def c83(b:Nat):qzk:=.seq (.reg false (jzue b) []) (.seq (.reg false (jzuh b) []) (.ret))
def rs83:List ARes:=[.t 2]
theorem ck83:∃c,Tryz.f83.body=some c/\∀b,qzg Tryz.prog c (c83 b)=true:=⟨_,rfl,fun b=>by kernel_rfl⟩
theorem cr83:qzi Tryz.prog Tryz.f83.results.toList rs83=true:=by kernel_rfl
def wzuz(b:Nat):List qzc:=[ ⟨(some 4),.load false 1 (.t 1),none⟩, ⟨(some 5),.mrange (b+0) (.t 4),none⟩]
def wzum(b:Nat):List qzc:=[ ⟨(some 6),.mnext (.t 5),none⟩, ⟨(some 7),.extract 0 (.t 6),none⟩]
def wzul(b:Nat):List qzc:=[ ⟨(some 8),.mentry (.t 5),none⟩, ⟨(some 9),.extract 0 (.t 8),none⟩, ⟨(some 3),.mv (.t 9),none⟩]
def wzug(b:Nat):List qzc:=[ ⟨(some 10),.mv (.t 0),none⟩, ⟨(some 11),.mv (.t 3),none⟩, ⟨(some 12),.callv (.t 10) [.t 11],none⟩, ⟨(some 13),.not (.t 12),none⟩]
def wzuj(b:Nat):qzk:=.seq (.reg false (wzum b) []) (.seq (.cond (.t 7) (.skip) (.exit 0)) (.block 1 (.seq (.reg false (wzul b) []) (.seq (.reg false (wzug b) []) (.cond (.t 13) (.ret) (.skip))))))
def c85(b:Nat):qzk:=.seq (.reg false (wzuz b) []) (.block 0 (.loop (wzuj b)))
def rs85:List ARes:=[]
theorem ck85:∃c,Tryz.f85.body=some c/\∀b,qzg Tryz.prog c (c85 b)=true:=⟨_,rfl,fun b=>by kernel_rfl⟩
theorem cr85:qzi Tryz.prog Tryz.f85.results.toList rs85=true:=by kernel_rfl
def qz90(b:Nat):List qzc:=[ ⟨(some 2),.mv (.c (.nils)),none⟩]
def wzbv(b:Nat):List qzc:=[ ⟨(some 3),.mv (.t 0),none⟩, ⟨(some 4),.callf 110 [.c (.nils),.t 3],none⟩, ⟨(some 2),.mv (.t 4),none⟩]
def c93(b:Nat):qzk:=.seq (.reg false (qz90 b) []) (.seq (.reg false (wzbv b) []) (.ret))
def rs93:List ARes:=[.t 2]
theorem ck93:∃c,Tryz.f93.body=some c/\∀b,qzg Tryz.prog c (c93 b)=true:=⟨_,rfl,fun b=>by kernel_rfl⟩
theorem cr93:qzi Tryz.prog Tryz.f93.results.toList rs93=true:=by kernel_rfl
def qzz3(b:Nat):List qzc:=[ ⟨(some 2),.box (b+0) (.t 0),none⟩, ⟨(some 4),.mv (.c (.nils)),none⟩]
def qz2t(b:Nat):List qzc:=[ ⟨(some 6),.mv (.t 1),none⟩]
def jzrt(b:Nat):List qzc:=[ ⟨(some 5),.mv (.t 7),none⟩]
def jzsm(b:Nat):List qzc:=[ ⟨(some 8),.load false 1 (.t 2),none⟩, ⟨(some 9),.mv (.t 5),none⟩, ⟨(some 10),.bslice (b+1) 1 1 [.int .i64 0] [(0,1,.t 9)],none⟩, ⟨(some 11),.append (b+2) 1 8 (.t 8) (.t 10),none⟩, ⟨none,.store 1 (.t 2) (.t 11),none⟩]
def jzsk(b:Nat):qzk:=.block 1 (.reg false (jzsm b) [])
def jztn(b:Nat):List qzc:=[ ⟨(some 12),.load false 1 (.t 2),none⟩, ⟨(some 4),.mv (.t 12),none⟩]
def c102(b:Nat):qzk:=.seq (.reg false (qzz3 b) []) (.seq (.seq (.reg false (qz2t b) []) (.block 0 (.rfunc (.t 6) [7] (.reg false (jzrt b) []) (jzsk b)))) (.seq (.reg false (jztn b) []) (.ret)))
def qzse:List ARes:=[.t 4]
theorem wzf5:∃c,Tryz.f102.body=some c/\∀b,qzg Tryz.prog c (c102 b)=true:=⟨_,rfl,fun b=>by kernel_rfl⟩
theorem wzge:qzi Tryz.prog Tryz.f102.results.toList qzse=true:=by kernel_rfl
def jztf(b:Nat):List qzc:=[ ⟨(some 2),.box (b+0) (.t 0),none⟩, ⟨(some 4),.mv (.c (.nils)),none⟩]
def jztq(b:Nat):List qzc:=[ ⟨(some 6),.mv (.t 1),none⟩]
def jzry(b:Nat):List qzc:=[ ⟨(some 5),.alloc (b+1) [.int .i64 0,.int .i64 0,.int .i64 0],none⟩, ⟨none,.store 3 (.t 5) (.t 7),none⟩]
def jzsn(b:Nat):List qzc:=[ ⟨(some 8),.load false 1 (.t 2),none⟩, ⟨(some 9),.load true 3 (.t 5),none⟩, ⟨(some 10),.bslice (b+2) 3 1 [.int .i64 0,.int .i64 0,.int .i64 0] [(0,3,.t 9)],none⟩, ⟨(some 11),.append (b+3) 3 24 (.t 8) (.t 10),none⟩, ⟨none,.store 1 (.t 2) (.t 11),none⟩]
def jzsh(b:Nat):qzk:=.block 1 (.reg false (jzsn b) [])
def jztg(b:Nat):List qzc:=[ ⟨(some 12),.load false 1 (.t 2),none⟩, ⟨(some 4),.mv (.t 12),none⟩]
def c110(b:Nat):qzk:=.seq (.reg false (jztf b) []) (.seq (.seq (.reg false (jztq b) []) (.block 0 (.rfunc (.t 6) [7] (.reg false (jzry b) []) (jzsh b)))) (.seq (.reg false (jztg b) []) (.ret)))
def jzs0:List ARes:=[.t 4]
theorem jzwd:∃c,Tryz.f110.body=some c/\∀b,qzg Tryz.prog c (c110 b)=true:=⟨_,rfl,fun b=>by kernel_rfl⟩
theorem jzw8:qzi Tryz.prog Tryz.f110.results.toList jzs0=true:=by kernel_rfl
def qz06(b:Nat):List qzc:=[ ⟨(some 4),.mv (.c (.str [])),none⟩]
def qzy0(b:Nat):List qzc:=[ ⟨(some 5),.alloc (b+0) [.nilfn],none⟩]
def jzth(b:Nat):List qzc:=[ ⟨(some 6),.mkfn 151 0 [.t 5],none⟩, ⟨none,.store 1 (.t 5) (.t 6),none⟩]
def jztm(b:Nat):List qzc:=[ ⟨(some 7),.load false 1 (.t 5),none⟩, ⟨(some 8),.mv (.t 0),none⟩, ⟨(some 9),.callf 153 [.t 8],none⟩, ⟨(some 10),.mv (.t 1),none⟩, ⟨(some 11),.callf 153 [.t 10],none⟩, ⟨(some 12),.callv (.t 7) [.t 9,.t 11],none⟩, ⟨(some 13),.callf 154 [.t 12],none⟩, ⟨(some 4),.mv (.t 13),none⟩]
def jzu8:List (List Nat):=[[],[],[1],[],[1,2,3],[0,1,2,3,4],[0,1,2,3,4,5],[0,1,2,3,4,5,6]]
def c144(b:Nat):qzk:=.seq (.reg false (qz06 b) []) (.seq (.reg false (qzy0 b) []) (.seq (.reg false (jzth b) []) (.seq (.reg true (jztm b) jzu8) (.ret))))
def qzsa:List ARes:=[.t 4]
theorem wzgn:∃c,Tryz.f144.body=some c/\∀b,qzg Tryz.prog c (c144 b)=true:=⟨_,rfl,fun b=>by kernel_rfl⟩
theorem wzgy:qzi Tryz.prog Tryz.f144.results.toList qzsa=true:=by kernel_rfl
def jzte(b:Nat):List qzc:=[ ⟨(some 5),.mv (.c (.nils)),none⟩]
def jztk(b:Nat):List qzc:=[ ⟨(some 8),.mv (.t 1),none⟩, ⟨(some 9),.len false (.t 8),none⟩, ⟨(some 10),.bin .eql false (.t 9) (.c (.int .i64 0)),none⟩]
def jzty(b:Nat):List qzc:=[ ⟨(some 11),.mv (.t 0),none⟩, ⟨(some 5),.mv (.t 11),none⟩]
def jzt4(b:Nat):List qzc:=[ ⟨(some 13),.mv (.t 0),none⟩, ⟨(some 14),.mv (.t 1),none⟩, ⟨(some 15),.callf 152 [.t 13,.t 14],none⟩, ⟨(some 12),.mv (.t 15),none⟩, ⟨(some 16),.extract 0 (.t 12),none⟩, ⟨(some 17),.extract 1 (.t 12),none⟩, ⟨(some 6),.mv (.t 16),none⟩, ⟨(some 7),.mv (.t 17),none⟩]
def jztv(b:Nat):List qzc:=[ ⟨(some 18),.load false 1 (.t 2),none⟩, ⟨(some 19),.mv (.t 1),none⟩, ⟨(some 20),.mv (.t 7),none⟩, ⟨(some 21),.callv (.t 18) [.t 19,.t 20],none⟩, ⟨(some 5),.mv (.t 21),none⟩]
def c151(b:Nat):qzk:=.seq (.reg false (jzte b) []) (.seq (.seq (.reg false (jztk b) []) (.cond (.t 10) (.seq (.reg false (jzty b) []) (.ret)) (.skip))) (.seq (.reg false (jzt4 b) []) (.seq (.reg false (jztv b) []) (.ret))))
def jzrx:List ARes:=[.t 5]
theorem jzwe:∃c,Tryz.f151.body=some c/\∀b,qzg Tryz.prog c (c151 b)=true:=⟨_,rfl,fun b=>by kernel_rfl⟩
theorem jzwg:qzi Tryz.prog Tryz.f151.results.toList jzrx=true:=by kernel_rfl
def jztx(b:Nat):List qzc:=[ ⟨(some 2),.mv (.c (.nils)),none⟩]
def jzse(b:Nat):List qzc:=[ ⟨(some 3),.mv (.t 0),none⟩, ⟨(some 4),.isnil false (.t 3),none⟩]
def jzv2(b:Nat):List qzc:=[ ⟨(some 2),.mv (.c (.nils)),none⟩]
def jzsi(b:Nat):List qzc:=[ ⟨(some 5),.bslice (b+0) 1 0 [] [],none⟩, ⟨(some 6),.mv (.t 0),none⟩, ⟨(some 7),.append (b+1) 1 4 (.t 5) (.t 6),none⟩, ⟨(some 2),.mv (.t 7),none⟩]
def c170(b:Nat):qzk:=.seq (.reg false (jztx b) []) (.seq (.seq (.reg false (jzse b) []) (.cond (.t 4) (.seq (.reg false (jzv2 b) []) (.ret)) (.skip))) (.seq (.reg false (jzsi b) []) (.ret)))
def jzrv:List ARes:=[.t 2]
theorem jzwj:∃c,Tryz.f170.body=some c/\∀b,qzg Tryz.prog c (c170 b)=true:=⟨_,rfl,fun b=>by kernel_rfl⟩
theorem jzw0:qzi Tryz.prog Tryz.f170.results.toList jzrv=true:=by kernel_rfl
end Go.Am

