/- Part A5: an abstract machine proved sound over the calculus of the guide. No condition. -/
import Derived.Test.YtibbibelkkgfpaaGreatDoorA4
import Derived.Shelf.SlicesE.Reverse
set_option linter.unusedSimpArgs false
set_option linter.unusedVariables false
namespace Go.Am
section
variable {E:Nat->Aa}{P:Program}{ρ:Option Nat}{m:List Ak}{preds:List (List Nat)}{S:As}{n:Nat}{V:Nat->Aa}{R:Nat->List Nat}{O:Nat->Option (Nat×Ad)}
def aseq(E:Nat->Aa)(P:Program):List Ak->As->(As->Prop)->Prop
 |[],S,K=>∃S',See E S S'/\K S'
 |o :: r,S,K=>∃S1,See E S S1/\aop E P o S1 (fun S2=>aseq E P r S2 K)
theorem aseq.see{S':As}{K:As->Prop}(s:See E S S')(h:aseq E P m S' K):aseq E P m S K:=by
 cases m with
 |nil=>obtain⟨S1,h1,h2⟩:=h;exact⟨S1,s.trans h1,h2⟩
 |cons o m=>obtain⟨S1,h1,h2⟩:=h;exact⟨S1,s.trans h1,h2⟩
theorem aseq.mono:∀{m:List Ak} {S:As} {K K':As->Prop},aseq E P m S K->(∀S',K S'->K' S')->aseq E P m S K'
 |[],S,K,K',⟨S',h1,h2⟩,hk=>⟨S',h1,hk _ h2⟩
 |o :: m,S,K,K',⟨S1,h1,h2⟩,hk=>⟨S1,h1,h2.mono fun _ h=>h.mono hk⟩
theorem SReg.nilS{K:As->Prop}{S':As}(s:See E S S')(h:K S'):SReg E P [] S K:=.see s (.nil h)
theorem aseq.sreg:∀{m:List Ak} {S:As} {K:As->Prop},aseq E P m S K->SReg E P m S K
 |[],S,K,⟨S',h1,h2⟩=>.nilS h1 h2
 |o :: m,S,K,⟨S1,h1,h2⟩=>.see h1 (.cons (h2.mono fun _ h=>h.sreg))
variable {ops:Array Oper}{Q:Exit->Act->World->Prop}
end
open Go.Sort Go.Proofs Go.Shelf
theorem wzfz{α:Type}[Inhabited α]{E:Nat->Aa}{P:Program}{ρ:Ren}(Ly:SlLaysE.n35 P ρ)(cs:α->Aa)(enc:α->Value)(h1:OneCell enc)(bA:∀g w x v,RV g w (cs x) v->v=enc x) (ld:∀g w x,RV g w (cs x) (enc x)){h:Aq} {id ep n:Nat} {f:Nat->List Aa} {l:List α} (hid:h id=.vec ep 1 n f) (cn:l.length=n) (hn:0<n) (fy:n<=9223372036854775807) (hf:∀j,j<n->f j=[cs l.toArray[j]!]) :
  ATr E P (ρ.f 35) [.vec id ep 0 n] h (fun r h'=>r=.tup []/\h'=hset h id (.vec ep 1 n (fun j=>[cs l.reverse.toArray[j]!]))):=by
 intro g w vs H hv
 obtain⟨v,rfl⟩:∃v,vs=[v]:=by
  have:=hv.1
  match vs,this with
  |[v],_=>exact⟨v,rfl⟩
 have gI:RV g w (.vec id ep 0 n) v:=hv.2 0 _ _ rfl rfl;have bJ:g.ep id=ep:=by rw[H.ep id,hid];rfl
 cases gI with
 |vec _ _ _ _ _ c9 he hV =>
 obtain⟨ad,cap,rfl,aG,ip⟩:=hV bJ.symm;have ho:=H.obj id;rw[hid]at ho;obtain⟨aL,_,lg,arr,ty,bR,cO,bC⟩:=ho;rcases ip with e0|⟨rfl,b5⟩
 ·omega
 have aU:(h id).owned=true:=by rw[hid];rfl
 have aK:∀j,j<n->arr[g.bo id+j]?=some (enc l.toArray[j]!):=by
  intro j hj;have hlt:g.bo id+j<arr.size:=by omega
  have h3:=(bC j hj).2 0 (cs l.toArray[j]!) arr[g.bo id+j] (by rw[hf j hj];rfl) (by simp[Gc hlt]);rw[Gc hlt,bA _ _ _ _ h3.2]
 have ef:(⟨g.blk id,g.bo id+0*g.st id,none⟩:Addr)=⟨g.blk id,g.bo id,none⟩:=by simp
 have aN:g.blk id<w.heap.size:=(Gr.1 bR).1
 have hH:Holds enc w (g.blk id) (g.bo id) l.toArray:=by
  intro j hj;have bc:j<n:=by simpa [cn] using hj
  refine⟨?_,by simp[World.frozen?,bR]⟩;simp only[World.cell?,bR];simp only[Option.isSome_none,Jy,C9];exact aK j bc
 have main:=AnyE.slices_Reverse Ly enc h1 (g.blk id) (g.bo id) cap l w hH (by rw[cn];exact fy);rw[cn]at main;rw[ef];refine main.mono ?_;rintro e w' ⟨rfl,m,rfl⟩;have nP:l.reverse.toArray.size=n:=by simp[cn]
 have aO:w.heap.size<=(putRow enc (Sort.ahead w m) (g.blk id) (g.bo id) l.reverse.toArray).heap.size:=by simp[putRow,mapBlock,Sort.ahead]
 have be:∀b,b<w.heap.size->b≠g.blk id->(putRow enc (Sort.ahead w m) (g.blk id) (g.bo id) l.reverse.toArray).heap[b]?=w.heap[b]?:=by intro b hb aH;have:g.blk id≠b:=fun e=>aH e.symm;simp[putRow,mapBlock,Sort.ahead,Gad,this]
 have aM:(putRow enc (Sort.ahead w m) (g.blk id) (g.bo id) l.reverse.toArray).heap[g.blk id]?=some (.cells (putCells enc (g.bo id) l.reverse.toArray arr) ty (0,0)):=by simp[putRow,mapBlock,Sort.ahead,Gad,bR,onCells]
 have aC:GLe g w g (putRow enc (Sort.ahead w m) (g.blk id) (g.bo id) l.reverse.toArray) := ⟨fun b hb=>⟨hb,be b (H.fzb b hb) (fun e=>H.sep id aU (e▸hb))⟩,fun _=>A8 _,fun _ _=>⟨rfl,rfl,rfl,rfl⟩⟩
 have ip:OR g (putRow enc (Sort.ahead w m) (g.blk id) (g.bo id) l.reverse.toArray) id (.vec ep 1 n (fun j=>[cs l.reverse.toArray[j]!])):=by
  refine⟨aL,by omega,lg,_,ty,aM,by simpa [putCells] using cO,fun k hk=>⟨rfl,fun j x v hx hv=>?_⟩⟩
  have hj:j=0:=by
   cases j with
   |zero=>rfl
   |succ j=>simp at hx
  subst hj;simp only[Gbc,Ba]at hx;subst hx;have iU:g.bo id+k<arr.size:=by omega
  have:v=enc l.reverse.toArray[k]! := by simp only[putCells,Array.getElem?_mapIdx,Nat.mul_one,Gg,Gc iU,DN,Ba]at hv;rw[Aj ⟨by omega,by rw[nP];omega⟩]at hv;rw[<-hv,show g.bo id+k-g.bo id=k by omega]
  subst this;exact⟨h1 _,ld _ _ _⟩
 obtain⟨H',S'⟩:=HR.upd (E:=E) (g':=g) (i:=id) (o':=.vec ep 1 n (fun j=>[cs l.reverse.toArray[j]!])) H aC (fun _ _=>rfl) bJ (fun b hb hn=>be b hb (hn aU)) aO ip (fun _=>.inl ⟨aU,rfl⟩) (fun _=>H.sep id aU) (fun b hb=>.inl hb) (fun b hb=>Gi (H.fzb b hb) aO) rfl rfl rfl (Nat.le_add_right _ _);exact⟨g,_,.tup [],.tuple #[],⟨rfl,rfl⟩,rfl,.tup [] #[] rfl (fun i x v hx _=>by simp at hx),H',S'⟩
theorem wzok{E:Nat->Aa}{P:Program}{ρ:Ren}(Ly:SlLaysE.n35 P ρ){h:Aq}:ATr E P (ρ.f 35) [.nils] h (fun r h'=>r=.tup []/\h'=h):=by
 intro g w vs H hv
 obtain⟨v,rfl⟩:∃v,vs=[v]:=by
  have:=hv.1
  match vs,this with
  |[v],_=>exact⟨v,rfl⟩
 have gI:RV g w .nils v:=hv.2 0 _ _ rfl rfl;cases gI;refine(AnyE.slices_Reverse_empty Ly none 0 w).mono ?_;rintro e w' ⟨rfl,rfl⟩;exact⟨g,h,.tup [],.tuple #[],⟨rfl,rfl⟩,rfl,.tup [] #[] rfl (fun i x v hx _=>by simp at hx),H,.refl _ _ _⟩
end Go.Am

