/- Part C2: contracts of some functions of this seat. No condition. -/
import Derived.Test.YtbidhbeoimpjbaaGreatDoorC1
set_option linter.unusedSimpArgs false
set_option linter.unusedVariables false
set_option maxRecDepth 8000
namespace Go.Am
open Go.Proofs
attribute [local simp] areg aop dreg dop Ak.req Ag argU Ak.args BL Ak.unAll Req.val Req.when putT putH Bc ablk CA Cf BG unc unv Cm EK ARes.ok F5 ARes.val cut inr Ak.quiet
attribute [local simp] Gq Gr Gs Hl Gn Gp LR PS
attribute [local simp] QH VSub.refl TSub QI
attribute [local simp] Ai.plain Ai.owned Ai.ep hset h0 C0 Cs Cn AZ Aa.one lay Cr ldv fzv fzl fz1
theorem ATr.wv{E:Nat->Aa}{P:Program}{f:FuncId}{args:List Aa}{h:Ay}{R R':Aa->Ay->Prop}(H:ATr E P f args h R)(hr:∀v h',R v h'->∃v',W v v'/\R' v' h'):ATr E P f args h R' :=
 fun g w vs hh hv=>(H g w vs hh hv).mono fun _ _ ⟨g',h',r,v,q,e,rv,rest⟩=>by obtain⟨v',w1,q'⟩:=hr r h' q;exact⟨g',h',v',v,q',e,RV.w w1 rv,rest⟩
theorem QJ(a:Int):∀l,(Bb a l).Perm (a :: l)
 |[]=>.refl _
 |b :: l=>by
  unfold Bb;cases decide (a<=b)
  ·exact((QJ a l).cons b).trans (List.Perm.swap a b l)
  ·exact .refl _
theorem QK:∀l,(Bm l).Perm l
 |[]=>.refl _
 |a :: l=>(QJ a (Bm l)).trans ((QK l).cons a)
theorem Wy(a:Int):∀l:List Int,l.Pairwise (·<=·)->(Bb a l).Pairwise (·<=·)
 |[],_=>PO _ _
 |b :: l,hp=>by
  obtain⟨h1,h2⟩:=JO.1 hp;unfold Bb;cases hd:decide (a<=b)
  ·have hd:=of_decide_eq_false hd;refine JO.2 ⟨fun c hc=>?_,Wy a l h2⟩;rcases AL.1 ((QJ a l).mem_iff.1 hc) with rfl|hc
   ·omega
   ·exact h1 c hc
  ·have hd:=GX hd;refine JO.2 ⟨fun c hc=>?_,hp⟩;rcases AL.1 hc with rfl|hc
   ·exact hd
   ·have:=h1 c hc;omega
theorem Wz:∀l:List Int,(Bm l).Pairwise (·<=·)
 |[]=>List.Pairwise.nil
 |a :: l=>Wy a _ (Wz l)
theorem jzsr{l m:List Int}(h:l.Perm m):Ct l=Bm m:=by
 have tr:∀a b c:Int,decide (a<=b)=true->decide (b<=c)=true->decide (a<=c)=true:=by intro a b c h1 h2;simp at *;omega
 have tot:∀a b:Int,(decide (a<=b)||decide (b<=a))=true:=by intro a b;simp;omega
 have p1:=List.pairwise_mergeSort tr tot l;have pm:(Ct l).Perm (Bm m):=(List.mergeSort_perm l _).trans (h.trans (QK m).symm);exact pm.eq_of_pairwise (le:=fun a b=>a<=b) (fun a b _ _ h1 h2=>by omega) (p1.imp fun h=>by simpa using h) (Wz m)
theorem kzb6{l r:List Int}(h:CF l=some r):r=Bm l/\List.length l<=1000000000:=by
 have key:∀c:Bool,ck c (some (Bm l))=some r->c=true/\r=Bm l:=by
  intro c e;cases c
  ·cases e
  ·cases e;exact⟨rfl,rfl⟩
 unfold CF at h;obtain⟨h1,h2⟩:=key _ h;simp at h1;exact⟨h2,by omega⟩
def w57:Wc:=⟨57,.int .i64,[],[],fun l _=>CF l⟩
theorem kzac(l r:List Int)(h:Ay)(id ep:Nat)(hF:CF l=some r)(hid:h id=ownO ep 1 (cI .i64) l) :
  ATr EE Tryz.prog 57 [ownV id ep l] h fun v h'=>v=.tup []/\h'=hset h id (ownO ep 1 (cI .i64) r)/\List.length r=List.length l:=by
 unfold CF at hF;cases hx:(decide (0<List.length l)&&decide (List.length l<=1000000000))
 ·rw[hx]at hF;cases hF
 rw[hx]at hF;obtain rfl:r=Bm l:=(BD hF).symm;simp only[AE,BE]at hx;have aD:(Bm l).length=l.length:=(QK l).length_eq;have mr:∀m:List Int,0<m.length->ownO ep 1 (cI .i64) m=.vec ep 1 m.length (Az (cI .i64) m):=fun m hm=>by cases m with | nil=>simp at hm | cons a m=>rfl
 have ie:ownV id ep l=.vec id ep 0 l.length:=by cases l with | nil=>simp at hx | cons a m=>rfl
 rw[ie];rw[mr l hx.1]at hid;rw[mr (Bm l) (by rw[aD];exact hx.1),aD];have hs:=jzt0 (E:=EE) Tryz.lays189 (h:=h) (id:=id) (ep:=ep) (n:=List.length l) (f:=Az (cI .i64) l) (a:=fun k=>l.getD k 0) hid hx.1 (by omega) (fun k hk=>by rw[D3 (AD hk)];simp[cI,hk]);have e1:Bl (List.length l) (fun k=>l.getD k 0)=l:=by apply List.ext_getElem (by simp[Bl]);intro i h1 h2;simp[Bl]at h1 ⊢;simp[h1]
 refine ATr.sub hs ?_;rintro v h' ⟨rfl,rfl⟩;refine⟨_,⟨rfl,rfl,rfl⟩,fun i=>?_⟩;simp only[hset];split
 ·refine .inr (.inr ⟨_,_,_,_,_,rfl,rfl,fun k hk=>?_⟩);rw[e1,jzsr (List.Perm.refl l)];have dr:k<(Bm l).length:=by rw[aD];exact hk
  rw[D3 (AD dr)];simp[cI,dr]
 ·exact .refl _
theorem kzbd:WcOk w57:=⟨by kernel_rfl,fun l x r h id ep a b=>kzac l r h id ep a b⟩
end Go.Am

