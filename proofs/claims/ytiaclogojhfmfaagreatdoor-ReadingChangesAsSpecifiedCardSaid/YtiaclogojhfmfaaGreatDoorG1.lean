/- Part G1: the code of some functions of this seat over abstract operations. No condition. -/
import Derived.Test.YtiaclogojhfmfaaGreatDoorF2
set_option linter.unusedVariables false
namespace Go.Am
open Go.Proofs
def V6(b:Nat):List Ay:=[ ⟨(some 2),.mv (.c (.nils)),none⟩]
def Py(b:Nat):List Ay:=[ ⟨(some 3),.mv (.t 0),none⟩, ⟨(some 4),.isnil false (.t 3),none⟩]
def jzw1(b:Nat):List Ay:=[ ⟨(some 2),.mv (.c (.nils)),none⟩]
def Pz(b:Nat):List Ay:=[ ⟨(some 5),.bslice (b+0) 6 0 [] [],none⟩, ⟨(some 6),.mv (.t 0),none⟩, ⟨(some 7),.append (b+1) 6 48 (.t 5) (.t 6),none⟩, ⟨(some 2),.mv (.t 7),none⟩]
def c49(b:Nat):Bb:=.seq (.reg false (V6 b) []) (.seq (.seq (.reg false (Py b) []) (.cond (.t 4) (.seq (.reg false (jzw1 b) []) (.ret)) (.skip))) (.seq (.reg false (Pz b) []) (.ret)))
def rs49:List ARes:=[.t 2]
theorem ck49:∃c,Tryz.f49.body=some c/\∀b,A8 Tryz.prog c (c49 b)=true:=⟨_,rfl,fun b=>by kernel_rfl⟩
theorem cr49:Eh Tryz.prog Tryz.f49.results.toList rs49=true:=by kernel_rfl
def V2(b:Nat):List Ay:=[ ⟨(some 2),.mv (.c (.nils)),none⟩]
def V3(b:Nat):List Ay:=[ ⟨(some 4),.mv (.t 0),none⟩, ⟨(some 5),.callf 83 [.t 4],none⟩, ⟨(some 3),.mv (.t 5),none⟩]
def V4(b:Nat):List Ay:=[ ⟨(some 6),.mv (.t 3),none⟩, ⟨(some 7),.callf 84 [.t 6],none⟩]
def V5(b:Nat):List Ay:=[ ⟨(some 8),.mv (.t 3),none⟩, ⟨(some 2),.mv (.t 8),none⟩]
def c54(b:Nat):Bb:=.seq (.reg false (V2 b) []) (.seq (.reg false (V3 b) []) (.seq (.reg false (V4 b) []) (.seq (.reg false (V5 b) []) (.ret))))
def rs54:List ARes:=[.t 2]
theorem ck54:∃c,Tryz.f54.body=some c/\∀b,A8 Tryz.prog c (c54 b)=true:=⟨_,rfl,fun b=>by kernel_rfl⟩
theorem cr54:Eh Tryz.prog Tryz.f54.results.toList rs54=true:=by kernel_rfl
def Vn(b:Nat):List Ay:=[ ⟨(some 1),.box (b+0) (.t 0),none⟩, ⟨(some 2),.mv (.c (.nilfn)),none⟩]
def Vo(b:Nat):List Ay:=[ ⟨(some 3),.mkfn 85 0 [.t 1],none⟩, ⟨(some 2),.mv (.t 3),none⟩]
def c55(b:Nat):Bb:=.seq (.reg false (Vn b) []) (.seq (.reg false (Vo b) []) (.ret))
def rs55:List ARes:=[.t 2]
theorem ck55:∃c,Tryz.f55.body=some c/\∀b,A8 Tryz.prog c (c55 b)=true:=⟨_,rfl,fun b=>by kernel_rfl⟩
theorem cr55:Eh Tryz.prog Tryz.f55.results.toList rs55=true:=by kernel_rfl
def Vy(b:Nat):List Ay:=[ ⟨(some 2),.mv (.c (.nils)),none⟩]
def Vz(b:Nat):List Ay:=[ ⟨(some 3),.mv (.t 0),none⟩, ⟨(some 4),.callf 102 [.c (.nils),.t 3],none⟩, ⟨(some 2),.mv (.t 4),none⟩]
def c83(b:Nat):Bb:=.seq (.reg false (Vy b) []) (.seq (.reg false (Vz b) []) (.ret))
def rs83:List ARes:=[.t 2]
theorem ck83:∃c,Tryz.f83.body=some c/\∀b,A8 Tryz.prog c (c83 b)=true:=⟨_,rfl,fun b=>by kernel_rfl⟩
theorem cr83:Eh Tryz.prog Tryz.f83.results.toList rs83=true:=by kernel_rfl
def Vr(b:Nat):List Ay:=[ ⟨(some 4),.load false 1 (.t 1),none⟩, ⟨(some 5),.mrange (b+0) (.t 4),none⟩]
def Vs(b:Nat):List Ay:=[ ⟨(some 6),.mnext (.t 5),none⟩, ⟨(some 7),.extract 0 (.t 6),none⟩]
def Vt(b:Nat):List Ay:=[ ⟨(some 8),.mentry (.t 5),none⟩, ⟨(some 9),.extract 0 (.t 8),none⟩, ⟨(some 3),.mv (.t 9),none⟩]
def Vu(b:Nat):List Ay:=[ ⟨(some 10),.mv (.t 0),none⟩, ⟨(some 11),.mv (.t 3),none⟩, ⟨(some 12),.callv (.t 10) [.t 11],none⟩, ⟨(some 13),.not (.t 12),none⟩]
def wzuj(b:Nat):Bb:=.seq (.reg false (Vs b) []) (.seq (.cond (.t 7) (.skip) (.exit 0)) (.block 1 (.seq (.reg false (Vt b) []) (.seq (.reg false (Vu b) []) (.cond (.t 13) (.ret) (.skip))))))
def c85(b:Nat):Bb:=.seq (.reg false (Vr b) []) (.block 0 (.loop (wzuj b)))
def rs85:List ARes:=[]
theorem ck85:∃c,Tryz.f85.body=some c/\∀b,A8 Tryz.prog c (c85 b)=true:=⟨_,rfl,fun b=>by kernel_rfl⟩
theorem cr85:Eh Tryz.prog Tryz.f85.results.toList rs85=true:=by kernel_rfl
def VB(b:Nat):List Ay:=[ ⟨(some 2),.mv (.c (.nils)),none⟩]
def VC(b:Nat):List Ay:=[ ⟨(some 3),.mv (.t 0),none⟩, ⟨(some 4),.callf 110 [.c (.nils),.t 3],none⟩, ⟨(some 2),.mv (.t 4),none⟩]
def c93(b:Nat):Bb:=.seq (.reg false (VB b) []) (.seq (.reg false (VC b) []) (.ret))
def rs93:List ARes:=[.t 2]
theorem ck93:∃c,Tryz.f93.body=some c/\∀b,A8 Tryz.prog c (c93 b)=true:=⟨_,rfl,fun b=>by kernel_rfl⟩
theorem cr93:Eh Tryz.prog Tryz.f93.results.toList rs93=true:=by kernel_rfl
def Vv(b:Nat):List Ay:=[ ⟨(some 2),.box (b+0) (.t 0),none⟩, ⟨(some 4),.mv (.c (.nils)),none⟩]
def Vw(b:Nat):List Ay:=[ ⟨(some 6),.mv (.t 1),none⟩]
def Mc(b:Nat):List Ay:=[ ⟨(some 5),.mv (.t 7),none⟩]
def Pv(b:Nat):List Ay:=[ ⟨(some 8),.load false 1 (.t 2),none⟩, ⟨(some 9),.mv (.t 5),none⟩, ⟨(some 10),.bslice (b+1) 1 1 [.int .i64 0] [(0,1,.t 9)],none⟩, ⟨(some 11),.append (b+2) 1 8 (.t 8) (.t 10),none⟩, ⟨none,.store 1 (.t 2) (.t 11),none⟩]
def Pu(b:Nat):Bb:=.block 1 (.reg false (Pv b) [])
def Vx(b:Nat):List Ay:=[ ⟨(some 12),.load false 1 (.t 2),none⟩, ⟨(some 4),.mv (.t 12),none⟩]
def c102(b:Nat):Bb:=.seq (.reg false (Vv b) []) (.seq (.seq (.reg false (Vw b) []) (.block 0 (.rfunc (.t 6) [7] (.reg false (Mc b) []) (Pu b)))) (.seq (.reg false (Vx b) []) (.ret)))
def Pw:List ARes:=[.t 4]
theorem wzf5:∃c,Tryz.f102.body=some c/\∀b,A8 Tryz.prog c (c102 b)=true:=⟨_,rfl,fun b=>by kernel_rfl⟩
theorem wzge:Eh Tryz.prog Tryz.f102.results.toList Pw=true:=by kernel_rfl
def V8(b:Nat):List Ay:=[ ⟨(some 2),.box (b+0) (.t 0),none⟩, ⟨(some 4),.mv (.c (.nils)),none⟩]
def V9(b:Nat):List Ay:=[ ⟨(some 6),.mv (.t 1),none⟩]
def Me(b:Nat):List Ay:=[ ⟨(some 5),.alloc (b+1) [.int .i64 0,.int .i64 0,.int .i64 0],none⟩, ⟨none,.store 3 (.t 5) (.t 7),none⟩]
def P5(b:Nat):List Ay:=[ ⟨(some 8),.load false 1 (.t 2),none⟩, ⟨(some 9),.load true 3 (.t 5),none⟩, ⟨(some 10),.bslice (b+2) 3 1 [.int .i64 0,.int .i64 0,.int .i64 0] [(0,3,.t 9)],none⟩, ⟨(some 11),.append (b+3) 3 24 (.t 8) (.t 10),none⟩, ⟨none,.store 1 (.t 2) (.t 11),none⟩]
def P4(b:Nat):Bb:=.block 1 (.reg false (P5 b) [])
def VA(b:Nat):List Ay:=[ ⟨(some 12),.load false 1 (.t 2),none⟩, ⟨(some 4),.mv (.t 12),none⟩]
def c110(b:Nat):Bb:=.seq (.reg false (V8 b) []) (.seq (.seq (.reg false (V9 b) []) (.block 0 (.rfunc (.t 6) [7] (.reg false (Me b) []) (P4 b)))) (.seq (.reg false (VA b) []) (.ret)))
def P6:List ARes:=[.t 4]
theorem jzwd:∃c,Tryz.f110.body=some c/\∀b,A8 Tryz.prog c (c110 b)=true:=⟨_,rfl,fun b=>by kernel_rfl⟩
theorem jzw8:Eh Tryz.prog Tryz.f110.results.toList P6=true:=by kernel_rfl
def Vj(b:Nat):List Ay:=[ ⟨(some 4),.mv (.c (.str [])),none⟩]
def Vk(b:Nat):List Ay:=[ ⟨(some 5),.alloc (b+0) [.nilfn],none⟩]
def Vl(b:Nat):List Ay:=[ ⟨(some 6),.mkfn 151 0 [.t 5],none⟩, ⟨none,.store 1 (.t 5) (.t 6),none⟩]
def Vm(b:Nat):List Ay:=[ ⟨(some 7),.load false 1 (.t 5),none⟩, ⟨(some 8),.mv (.t 0),none⟩, ⟨(some 9),.callf 153 [.t 8],none⟩, ⟨(some 10),.mv (.t 1),none⟩, ⟨(some 11),.callf 153 [.t 10],none⟩, ⟨(some 12),.callv (.t 7) [.t 9,.t 11],none⟩, ⟨(some 13),.callf 154 [.t 12],none⟩, ⟨(some 4),.mv (.t 13),none⟩]
def jzu8:List (List Nat):=[[],[],[1],[],[1,2,3],[0,1,2,3,4],[0,1,2,3,4,5],[0,1,2,3,4,5,6]]
def c144(b:Nat):Bb:=.seq (.reg false (Vj b) []) (.seq (.reg false (Vk b) []) (.seq (.reg false (Vl b) []) (.seq (.reg true (Vm b) jzu8) (.ret))))
def Mb:List ARes:=[.t 4]
theorem wzgn:∃c,Tryz.f144.body=some c/\∀b,A8 Tryz.prog c (c144 b)=true:=⟨_,rfl,fun b=>by kernel_rfl⟩
theorem wzgy:Eh Tryz.prog Tryz.f144.results.toList Mb=true:=by kernel_rfl
def Ve(b:Nat):List Ay:=[ ⟨(some 5),.mv (.c (.nils)),none⟩]
def Vf(b:Nat):List Ay:=[ ⟨(some 8),.mv (.t 1),none⟩, ⟨(some 9),.len false (.t 8),none⟩, ⟨(some 10),.bin .eql false (.t 9) (.c (.int .i64 0)),none⟩]
def Vg(b:Nat):List Ay:=[ ⟨(some 11),.mv (.t 0),none⟩, ⟨(some 5),.mv (.t 11),none⟩]
def Vh(b:Nat):List Ay:=[ ⟨(some 13),.mv (.t 0),none⟩, ⟨(some 14),.mv (.t 1),none⟩, ⟨(some 15),.callf 152 [.t 13,.t 14],none⟩, ⟨(some 12),.mv (.t 15),none⟩, ⟨(some 16),.extract 0 (.t 12),none⟩, ⟨(some 17),.extract 1 (.t 12),none⟩, ⟨(some 6),.mv (.t 16),none⟩, ⟨(some 7),.mv (.t 17),none⟩]
def Vi(b:Nat):List Ay:=[ ⟨(some 18),.load false 1 (.t 2),none⟩, ⟨(some 19),.mv (.t 1),none⟩, ⟨(some 20),.mv (.t 7),none⟩, ⟨(some 21),.callv (.t 18) [.t 19,.t 20],none⟩, ⟨(some 5),.mv (.t 21),none⟩]
def c151(b:Nat):Bb:=.seq (.reg false (Ve b) []) (.seq (.seq (.reg false (Vf b) []) (.cond (.t 10) (.seq (.reg false (Vg b) []) (.ret)) (.skip))) (.seq (.reg false (Vh b) []) (.seq (.reg false (Vi b) []) (.ret))))
def Ko:List ARes:=[.t 5]
theorem jzwe:∃c,Tryz.f151.body=some c/\∀b,A8 Tryz.prog c (c151 b)=true:=⟨_,rfl,fun b=>by kernel_rfl⟩
theorem jzwg:Eh Tryz.prog Tryz.f151.results.toList Ko=true:=by kernel_rfl
def Vb(b:Nat):List Ay:=[ ⟨(some 2),.mv (.c (.nils)),none⟩]
def Pq(b:Nat):List Ay:=[ ⟨(some 3),.mv (.t 0),none⟩, ⟨(some 4),.isnil false (.t 3),none⟩]
def jzv2(b:Nat):List Ay:=[ ⟨(some 2),.mv (.c (.nils)),none⟩]
def Pr(b:Nat):List Ay:=[ ⟨(some 5),.bslice (b+0) 1 0 [] [],none⟩, ⟨(some 6),.mv (.t 0),none⟩, ⟨(some 7),.append (b+1) 1 4 (.t 5) (.t 6),none⟩, ⟨(some 2),.mv (.t 7),none⟩]
def c170(b:Nat):Bb:=.seq (.reg false (Vb b) []) (.seq (.seq (.reg false (Pq b) []) (.cond (.t 4) (.seq (.reg false (jzv2 b) []) (.ret)) (.skip))) (.seq (.reg false (Pr b) []) (.ret)))
def Km:List ARes:=[.t 2]
theorem jzwj:∃c,Tryz.f170.body=some c/\∀b,A8 Tryz.prog c (c170 b)=true:=⟨_,rfl,fun b=>by kernel_rfl⟩
theorem jzw0:Eh Tryz.prog Tryz.f170.results.toList Km=true:=by kernel_rfl
end Go.Am

