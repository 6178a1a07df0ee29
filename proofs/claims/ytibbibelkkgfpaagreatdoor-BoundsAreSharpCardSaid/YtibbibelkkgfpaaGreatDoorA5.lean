/- Part A5: an abstract machine proved sound over the calculus of the guide. No condition. -/
import Derived.Test.YtibbibelkkgfpaaGreatDoorA4
import Derived.Shelf.SlicesE.Reverse
set_option linter.unusedSimpArgs false
set_option linter.unusedVariables false
namespace Go.Am
section
variable {E:Nat->Aa}{P:Program}{ρ:Option Nat}{m:List Ak}{preds:List (List Nat)}{S:Au}{n:Nat}{V:Nat->Aa}{R:Nat->List Nat}{O:Nat->Option (Nat×Ad)}
def aseq(E:Nat->Aa)(P:Program):List Ak->Au->(Au->Prop)->Prop
 |[],S,K=>∃S',See E S S'/\K S'
 |o :: r,S,K=>∃S1,See E S S1/\aop E P o S1 (fun S2=>aseq E P r S2 K)
theorem aseq.see{S':Au}{K:Au->Prop}(s:See E S S')(h:aseq E P m S' K):aseq E P m S K:=by
 cases m with
 |nil=>obtain⟨S1,h1,h2⟩:=h;exact⟨S1,s.trans h1,h2⟩
 |cons o m=>obtain⟨S1,h1,h2⟩:=h;exact⟨S1,s.trans h1,h2⟩
theorem aseq.mono:∀{m:List Ak} {S:Au} {K K':Au->Prop},aseq E P m S K->(∀S',K S'->K' S')->aseq E P m S K'
 |[],S,K,K',⟨S',h1,h2⟩,hk=>⟨S',h1,hk _ h2⟩
 |o :: m,S,K,K',⟨S1,h1,h2⟩,hk=>⟨S1,h1,h2.mono fun _ h=>h.mono hk⟩
theorem SReg.nilS{K:Au->Prop}{S':Au}(s:See E S S')(h:K S'):SReg E P [] S K:=.see s (.nil h)
theorem aseq.sreg:∀{m:List Ak} {S:Au} {K:Au->Prop},aseq E P m S K->SReg E P m S K
 |[],S,K,⟨S',h1,h2⟩=>.nilS h1 h2
 |o :: m,S,K,⟨S1,h1,h2⟩=>.see h1 (.cons (h2.mono fun _ h=>h.sreg))
variable {ops:Array Oper}{Q:Exit->Act->World->Prop}
end
open Go.Sort Go.Proofs Go.Shelf
theorem wzfz{α:Type}[Inhabited α]{E:Nat->Aa}{P:Program}{ρ:Ren}(Ly:SlLaysE.n35 P ρ)(cs:α->Aa)(enc:α->Value)(h1:OneCell enc)(bB:∀g w x v,RV g w (cs x) v->v=enc x) (lm:∀g w x,RV g w (cs x) (enc x)){h:Aq} {id ep n:Nat} {f:Nat->List Aa} {l:List α} (hid:h id=.vec ep 1 n f) (cu:l.length=n) (hn:0<n) (fJ:n<=9223372036854775807) (hf:∀j,j<n->f j=[cs l.toArray[j]!]) :
  ATr E P (ρ.f 35) [.vec id ep 0 n] h (fun r h'=>r=.tup []/\h'=hset h id (.vec ep 1 n (fun j=>[cs l.reverse.toArray[j]!]))):=by
 intro g w vs H hv
 obtain⟨v,rfl⟩:∃v,vs=[v]:=by
  have:=hv.1
  match vs,this with
  |[v],_=>exact⟨v,rfl⟩
 have gQ:RV g w (.vec id ep 0 n) v:=hv.2 0 _ _ rfl rfl;have bK:g.ep id=ep:=by rw[H.ep id,hid];rfl
 cases gQ with
 |vec _ _ _ _ _ cC he hV =>
 obtain⟨ad,cap,rfl,aG,iv⟩:=hV bK.symm;have ho:=H.obj id;rw[hid]at ho;obtain⟨aL,_,lq,arr,ty,bU,cQ,bD⟩:=ho;rcases iv with e0|⟨rfl,b7⟩
 ·omega
 have aU:(h id).owned=true:=by rw[hid];rfl
 have aK:∀j,j<n->arr[g.bo id+j]?=some (enc l.toArray[j]!):=by
  intro j hj;have hlt:g.bo id+j<arr.size:=by omega
  have h3:=(bD j hj).2 0 (cs l.toArray[j]!) arr[g.bo id+j] (by rw[hf j hj];rfl) (by simp[Gc hlt]);rw[Gc hlt,bB _ _ _ _ h3.2]
 have eC:(⟨g.blk id,g.bo id+0*g.st id,none⟩:Addr)=⟨g.blk id,g.bo id,none⟩:=by simp
 have aN:g.blk id<w.heap.size:=(Gt.1 bU).1
 have hH:Holds enc w (g.blk id) (g.bo id) l.toArray:=by
  intro j hj;have aX:j<n:=by simpa [cu] using hj
  refine⟨?_,by simp[World.frozen?,bU]⟩;simp only[World.cell?,bU];simp only[Option.isSome_none,J3,CG];exact aK j aX
 have main:=AnyE.slices_Reverse Ly enc h1 (g.blk id) (g.bo id) cap l w hH (by rw[cu];exact fJ);rw[cu]at main;rw[eC];refine main.mono ?_;rintro e w' ⟨rfl,m,rfl⟩;have od:l.reverse.toArray.size=n:=by simp[cu]
 have aO:w.heap.size<=(putRow enc (Sort.ahead w m) (g.blk id) (g.bo id) l.reverse.toArray).heap.size:=by simp[putRow,mapBlock,Sort.ahead]
 have be:∀b,b<w.heap.size->b≠g.blk id->(putRow enc (Sort.ahead w m) (g.blk id) (g.bo id) l.reverse.toArray).heap[b]?=w.heap[b]?:=by intro b hb aI;have:g.blk id≠b:=fun e=>aI e.symm;simp[putRow,mapBlock,Sort.ahead,Gad,this]
 have aM:(putRow enc (Sort.ahead w m) (g.blk id) (g.bo id) l.reverse.toArray).heap[g.blk id]?=some (.cells (putCells enc (g.bo id) l.reverse.toArray arr) ty (0,0)):=by simp[putRow,mapBlock,Sort.ahead,Gad,bU,onCells]
 have aC:GLe g w g (putRow enc (Sort.ahead w m) (g.blk id) (g.bo id) l.reverse.toArray) := ⟨fun b hb=>⟨hb,be b (H.fzb b hb) (fun e=>H.sep id aU (e▸hb))⟩,fun _=>AA _,fun _ _=>⟨rfl,rfl,rfl,rfl⟩⟩
 have iv:OR g (putRow enc (Sort.ahead w m) (g.blk id) (g.bo id) l.reverse.toArray) id (.vec ep 1 n (fun j=>[cs l.reverse.toArray[j]!])):=by
  refine⟨aL,by omega,lq,_,ty,aM,by simpa [putCells] using cQ,fun k hk=>⟨rfl,fun j x v hx hv=>?_⟩⟩
  have hj:j=0:=by
   cases j with
   |zero=>rfl
   |succ j=>simp at hx
  subst hj;simp only[Gbc,Ba]at hx;subst hx;have jb:g.bo id+k<arr.size:=by omega
  have:v=enc l.reverse.toArray[k]! := by simp only[putCells,Array.getElem?_mapIdx,Nat.mul_one,Gg,Gc jb,DS,Ba]at hv;rw[Aj ⟨by omega,by rw[od];omega⟩]at hv;rw[<-hv,show g.bo id+k-g.bo id=k by omega]
  subst this;exact⟨h1 _,lm _ _ _⟩
 obtain⟨H',S'⟩:=HR.upd (E:=E) (g':=g) (i:=id) (o':=.vec ep 1 n (fun j=>[cs l.reverse.toArray[j]!])) H aC (fun _ _=>rfl) bK (fun b hb hn=>be b hb (hn aU)) aO iv (fun _=>.inl ⟨aU,rfl⟩) (fun _=>H.sep id aU) (fun b hb=>.inl hb) (fun b hb=>Gi (H.fzb b hb) aO) rfl rfl rfl (Nat.le_add_right _ _);exact⟨g,_,.tup [],.tuple #[],⟨rfl,rfl⟩,rfl,.tup [] #[] rfl (fun i x v hx _=>by simp at hx),H',S'⟩
theorem wzok{E:Nat->Aa}{P:Program}{ρ:Ren}(Ly:SlLaysE.n35 P ρ){h:Aq}:ATr E P (ρ.f 35) [.nils] h (fun r h'=>r=.tup []/\h'=h):=by
 intro g w vs H hv
 obtain⟨v,rfl⟩:∃v,vs=[v]:=by
  have:=hv.1
  match vs,this with
  |[v],_=>exact⟨v,rfl⟩
 have gQ:RV g w .nils v:=hv.2 0 _ _ rfl rfl;cases gQ;refine(AnyE.slices_Reverse_empty Ly none 0 w).mono ?_;rintro e w' ⟨rfl,rfl⟩;exact⟨g,h,.tup [],.tuple #[],⟨rfl,rfl⟩,rfl,.tup [] #[] rfl (fun i x v hx _=>by simp at hx),H,.refl _ _ _⟩
end Go.Am

