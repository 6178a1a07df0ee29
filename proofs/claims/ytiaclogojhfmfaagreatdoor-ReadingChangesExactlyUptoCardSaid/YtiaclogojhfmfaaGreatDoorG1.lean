/- Part G1: the code of some functions of this seat over abstract operations. No condition. -/
import Derived.Test.YtiaclogojhfmfaaGreatDoorF2
set_option linter.unusedVariables false
namespace Go.Am
open Go.Proofs
def Vr(b:Nat):List Ax:=[ ⟨(some 2),.mv (.c (.nils)),none⟩]
def Ph(b:Nat):List Ax:=[ ⟨(some 3),.mv (.t 0),none⟩, ⟨(some 4),.isnil false (.t 3),none⟩]
def jzw1(b:Nat):List Ax:=[ ⟨(some 2),.mv (.c (.nils)),none⟩]
def Pi(b:Nat):List Ax:=[ ⟨(some 5),.bslice (b+0) 6 0 [] [],none⟩, ⟨(some 6),.mv (.t 0),none⟩, ⟨(some 7),.append (b+1) 6 48 (.t 5) (.t 6),none⟩, ⟨(some 2),.mv (.t 7),none⟩]
def c49(b:Nat):Bc:=.seq (.reg false (Vr b) []) (.seq (.seq (.reg false (Ph b) []) (.cond (.t 4) (.seq (.reg false (jzw1 b) []) (.ret)) (.skip))) (.seq (.reg false (Pi b) []) (.ret)))
def rs49:List ARes:=[.t 2]
theorem ck49:∃c,Tryz.f49.body=some c/\∀b,A7 Tryz.prog c (c49 b)=true:=⟨_,rfl,fun b=>by kernel_rfl⟩
theorem cr49:Ei Tryz.prog Tryz.f49.results.toList rs49=true:=by kernel_rfl
def Vn(b:Nat):List Ax:=[ ⟨(some 2),.mv (.c (.nils)),none⟩]
def Vo(b:Nat):List Ax:=[ ⟨(some 4),.mv (.t 0),none⟩, ⟨(some 5),.callf 83 [.t 4],none⟩, ⟨(some 3),.mv (.t 5),none⟩]
def Vp(b:Nat):List Ax:=[ ⟨(some 6),.mv (.t 3),none⟩, ⟨(some 7),.callf 84 [.t 6],none⟩]
def Vq(b:Nat):List Ax:=[ ⟨(some 8),.mv (.t 3),none⟩, ⟨(some 2),.mv (.t 8),none⟩]
def c54(b:Nat):Bc:=.seq (.reg false (Vn b) []) (.seq (.reg false (Vo b) []) (.seq (.reg false (Vp b) []) (.seq (.reg false (Vq b) []) (.ret))))
def rs54:List ARes:=[.t 2]
theorem ck54:∃c,Tryz.f54.body=some c/\∀b,A7 Tryz.prog c (c54 b)=true:=⟨_,rfl,fun b=>by kernel_rfl⟩
theorem cr54:Ei Tryz.prog Tryz.f54.results.toList rs54=true:=by kernel_rfl
def UX(b:Nat):List Ax:=[ ⟨(some 1),.box (b+0) (.t 0),none⟩, ⟨(some 2),.mv (.c (.nilfn)),none⟩]
def UY(b:Nat):List Ax:=[ ⟨(some 3),.mkfn 85 0 [.t 1],none⟩, ⟨(some 2),.mv (.t 3),none⟩]
def c55(b:Nat):Bc:=.seq (.reg false (UX b) []) (.seq (.reg false (UY b) []) (.ret))
def rs55:List ARes:=[.t 2]
theorem ck55:∃c,Tryz.f55.body=some c/\∀b,A7 Tryz.prog c (c55 b)=true:=⟨_,rfl,fun b=>by kernel_rfl⟩
theorem cr55:Ei Tryz.prog Tryz.f55.results.toList rs55=true:=by kernel_rfl
def Vj(b:Nat):List Ax:=[ ⟨(some 2),.mv (.c (.nils)),none⟩]
def Vk(b:Nat):List Ax:=[ ⟨(some 3),.mv (.t 0),none⟩, ⟨(some 4),.callf 102 [.c (.nils),.t 3],none⟩, ⟨(some 2),.mv (.t 4),none⟩]
def c83(b:Nat):Bc:=.seq (.reg false (Vj b) []) (.seq (.reg false (Vk b) []) (.ret))
def rs83:List ARes:=[.t 2]
theorem ck83:∃c,Tryz.f83.body=some c/\∀b,A7 Tryz.prog c (c83 b)=true:=⟨_,rfl,fun b=>by kernel_rfl⟩
theorem cr83:Ei Tryz.prog Tryz.f83.results.toList rs83=true:=by kernel_rfl
def Vb(b:Nat):List Ax:=[ ⟨(some 4),.load false 1 (.t 1),none⟩, ⟨(some 5),.mrange (b+0) (.t 4),none⟩]
def Vc(b:Nat):List Ax:=[ ⟨(some 6),.mnext (.t 5),none⟩, ⟨(some 7),.extract 0 (.t 6),none⟩]
def Ve(b:Nat):List Ax:=[ ⟨(some 8),.mentry (.t 5),none⟩, ⟨(some 9),.extract 0 (.t 8),none⟩, ⟨(some 3),.mv (.t 9),none⟩]
def Vf(b:Nat):List Ax:=[ ⟨(some 10),.mv (.t 0),none⟩, ⟨(some 11),.mv (.t 3),none⟩, ⟨(some 12),.callv (.t 10) [.t 11],none⟩, ⟨(some 13),.not (.t 12),none⟩]
def wzuj(b:Nat):Bc:=.seq (.reg false (Vc b) []) (.seq (.cond (.t 7) (.skip) (.exit 0)) (.block 1 (.seq (.reg false (Ve b) []) (.seq (.reg false (Vf b) []) (.cond (.t 13) (.ret) (.skip))))))
def c85(b:Nat):Bc:=.seq (.reg false (Vb b) []) (.block 0 (.loop (wzuj b)))
def rs85:List ARes:=[]
theorem ck85:∃c,Tryz.f85.body=some c/\∀b,A7 Tryz.prog c (c85 b)=true:=⟨_,rfl,fun b=>by kernel_rfl⟩
theorem cr85:Ei Tryz.prog Tryz.f85.results.toList rs85=true:=by kernel_rfl
def Vw(b:Nat):List Ax:=[ ⟨(some 2),.mv (.c (.nils)),none⟩]
def Vx(b:Nat):List Ax:=[ ⟨(some 3),.mv (.t 0),none⟩, ⟨(some 4),.callf 110 [.c (.nils),.t 3],none⟩, ⟨(some 2),.mv (.t 4),none⟩]
def c93(b:Nat):Bc:=.seq (.reg false (Vw b) []) (.seq (.reg false (Vx b) []) (.ret))
def rs93:List ARes:=[.t 2]
theorem ck93:∃c,Tryz.f93.body=some c/\∀b,A7 Tryz.prog c (c93 b)=true:=⟨_,rfl,fun b=>by kernel_rfl⟩
theorem cr93:Ei Tryz.prog Tryz.f93.results.toList rs93=true:=by kernel_rfl
def Vg(b:Nat):List Ax:=[ ⟨(some 2),.box (b+0) (.t 0),none⟩, ⟨(some 4),.mv (.c (.nils)),none⟩]
def Vh(b:Nat):List Ax:=[ ⟨(some 6),.mv (.t 1),none⟩]
def LR(b:Nat):List Ax:=[ ⟨(some 5),.mv (.t 7),none⟩]
def Pe(b:Nat):List Ax:=[ ⟨(some 8),.load false 1 (.t 2),none⟩, ⟨(some 9),.mv (.t 5),none⟩, ⟨(some 10),.bslice (b+1) 1 1 [.int .i64 0] [(0,1,.t 9)],none⟩, ⟨(some 11),.append (b+2) 1 8 (.t 8) (.t 10),none⟩, ⟨none,.store 1 (.t 2) (.t 11),none⟩]
def Pd(b:Nat):Bc:=.block 1 (.reg false (Pe b) [])
def Vi(b:Nat):List Ax:=[ ⟨(some 12),.load false 1 (.t 2),none⟩, ⟨(some 4),.mv (.t 12),none⟩]
def c102(b:Nat):Bc:=.seq (.reg false (Vg b) []) (.seq (.seq (.reg false (Vh b) []) (.block 0 (.rfunc (.t 6) [7] (.reg false (LR b) []) (Pd b)))) (.seq (.reg false (Vi b) []) (.ret)))
def Pf:List ARes:=[.t 4]
theorem wzf5:∃c,Tryz.f102.body=some c/\∀b,A7 Tryz.prog c (c102 b)=true:=⟨_,rfl,fun b=>by kernel_rfl⟩
theorem wzge:Ei Tryz.prog Tryz.f102.results.toList Pf=true:=by kernel_rfl
def Vt(b:Nat):List Ax:=[ ⟨(some 2),.box (b+0) (.t 0),none⟩, ⟨(some 4),.mv (.c (.nils)),none⟩]
def Vu(b:Nat):List Ax:=[ ⟨(some 6),.mv (.t 1),none⟩]
def LT(b:Nat):List Ax:=[ ⟨(some 5),.alloc (b+1) [.int .i64 0,.int .i64 0,.int .i64 0],none⟩, ⟨none,.store 3 (.t 5) (.t 7),none⟩]
def Pn(b:Nat):List Ax:=[ ⟨(some 8),.load false 1 (.t 2),none⟩, ⟨(some 9),.load true 3 (.t 5),none⟩, ⟨(some 10),.bslice (b+2) 3 1 [.int .i64 0,.int .i64 0,.int .i64 0] [(0,3,.t 9)],none⟩, ⟨(some 11),.append (b+3) 3 24 (.t 8) (.t 10),none⟩, ⟨none,.store 1 (.t 2) (.t 11),none⟩]
def Pm(b:Nat):Bc:=.block 1 (.reg false (Pn b) [])
def Vv(b:Nat):List Ax:=[ ⟨(some 12),.load false 1 (.t 2),none⟩, ⟨(some 4),.mv (.t 12),none⟩]
def c110(b:Nat):Bc:=.seq (.reg false (Vt b) []) (.seq (.seq (.reg false (Vu b) []) (.block 0 (.rfunc (.t 6) [7] (.reg false (LT b) []) (Pm b)))) (.seq (.reg false (Vv b) []) (.ret)))
def Po:List ARes:=[.t 4]
theorem jzwd:∃c,Tryz.f110.body=some c/\∀b,A7 Tryz.prog c (c110 b)=true:=⟨_,rfl,fun b=>by kernel_rfl⟩
theorem jzw8:Ei Tryz.prog Tryz.f110.results.toList Po=true:=by kernel_rfl
def UT(b:Nat):List Ax:=[ ⟨(some 4),.mv (.c (.str [])),none⟩]
def UU(b:Nat):List Ax:=[ ⟨(some 5),.alloc (b+0) [.nilfn],none⟩]
def UV(b:Nat):List Ax:=[ ⟨(some 6),.mkfn 151 0 [.t 5],none⟩, ⟨none,.store 1 (.t 5) (.t 6),none⟩]
def UW(b:Nat):List Ax:=[ ⟨(some 7),.load false 1 (.t 5),none⟩, ⟨(some 8),.mv (.t 0),none⟩, ⟨(some 9),.callf 153 [.t 8],none⟩, ⟨(some 10),.mv (.t 1),none⟩, ⟨(some 11),.callf 153 [.t 10],none⟩, ⟨(some 12),.callv (.t 7) [.t 9,.t 11],none⟩, ⟨(some 13),.callf 154 [.t 12],none⟩, ⟨(some 4),.mv (.t 13),none⟩]
def jzu8:List (List Nat):=[[],[],[1],[],[1,2,3],[0,1,2,3,4],[0,1,2,3,4,5],[0,1,2,3,4,5,6]]
def c144(b:Nat):Bc:=.seq (.reg false (UT b) []) (.seq (.reg false (UU b) []) (.seq (.reg false (UV b) []) (.seq (.reg true (UW b) jzu8) (.ret))))
def LQ:List ARes:=[.t 4]
theorem wzgn:∃c,Tryz.f144.body=some c/\∀b,A7 Tryz.prog c (c144 b)=true:=⟨_,rfl,fun b=>by kernel_rfl⟩
theorem wzgy:Ei Tryz.prog Tryz.f144.results.toList LQ=true:=by kernel_rfl
def UO(b:Nat):List Ax:=[ ⟨(some 5),.mv (.c (.nils)),none⟩]
def UP(b:Nat):List Ax:=[ ⟨(some 8),.mv (.t 1),none⟩, ⟨(some 9),.len false (.t 8),none⟩, ⟨(some 10),.bin .eql false (.t 9) (.c (.int .i64 0)),none⟩]
def UQ(b:Nat):List Ax:=[ ⟨(some 11),.mv (.t 0),none⟩, ⟨(some 5),.mv (.t 11),none⟩]
def UR(b:Nat):List Ax:=[ ⟨(some 13),.mv (.t 0),none⟩, ⟨(some 14),.mv (.t 1),none⟩, ⟨(some 15),.callf 152 [.t 13,.t 14],none⟩, ⟨(some 12),.mv (.t 15),none⟩, ⟨(some 16),.extract 0 (.t 12),none⟩, ⟨(some 17),.extract 1 (.t 12),none⟩, ⟨(some 6),.mv (.t 16),none⟩, ⟨(some 7),.mv (.t 17),none⟩]
def US(b:Nat):List Ax:=[ ⟨(some 18),.load false 1 (.t 2),none⟩, ⟨(some 19),.mv (.t 1),none⟩, ⟨(some 20),.mv (.t 7),none⟩, ⟨(some 21),.callv (.t 18) [.t 19,.t 20],none⟩, ⟨(some 5),.mv (.t 21),none⟩]
def c151(b:Nat):Bc:=.seq (.reg false (UO b) []) (.seq (.seq (.reg false (UP b) []) (.cond (.t 10) (.seq (.reg false (UQ b) []) (.ret)) (.skip))) (.seq (.reg false (UR b) []) (.seq (.reg false (US b) []) (.ret))))
def Kb:List ARes:=[.t 5]
theorem jzwe:∃c,Tryz.f151.body=some c/\∀b,A7 Tryz.prog c (c151 b)=true:=⟨_,rfl,fun b=>by kernel_rfl⟩
theorem jzwg:Ei Tryz.prog Tryz.f151.results.toList Kb=true:=by kernel_rfl
def UM(b:Nat):List Ax:=[ ⟨(some 2),.mv (.c (.nils)),none⟩]
def OZ(b:Nat):List Ax:=[ ⟨(some 3),.mv (.t 0),none⟩, ⟨(some 4),.isnil false (.t 3),none⟩]
def jzv2(b:Nat):List Ax:=[ ⟨(some 2),.mv (.c (.nils)),none⟩]
def Pa(b:Nat):List Ax:=[ ⟨(some 5),.bslice (b+0) 1 0 [] [],none⟩, ⟨(some 6),.mv (.t 0),none⟩, ⟨(some 7),.append (b+1) 1 4 (.t 5) (.t 6),none⟩, ⟨(some 2),.mv (.t 7),none⟩]
def c170(b:Nat):Bc:=.seq (.reg false (UM b) []) (.seq (.seq (.reg false (OZ b) []) (.cond (.t 4) (.seq (.reg false (jzv2 b) []) (.ret)) (.skip))) (.seq (.reg false (Pa b) []) (.ret)))
def Ka:List ARes:=[.t 2]
theorem jzwj:∃c,Tryz.f170.body=some c/\∀b,A7 Tryz.prog c (c170 b)=true:=⟨_,rfl,fun b=>by kernel_rfl⟩
theorem jzw0:Ei Tryz.prog Tryz.f170.results.toList Ka=true:=by kernel_rfl
end Go.Am

