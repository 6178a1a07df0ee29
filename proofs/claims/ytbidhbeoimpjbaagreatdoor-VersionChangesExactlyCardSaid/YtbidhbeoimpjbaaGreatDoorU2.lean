/- Part U2: the mathematics of the functions of this seat. No condition. -/
import Derived.Test.YtbidhbeoimpjbaaGreatDoorU1
set_option linter.unusedSimpArgs false
set_option linter.unusedVariables false
namespace Go.Am
def isEd(l:List Ac)(g x:Int):Prop:=∃v,v∈l/\v.Gauge=g/\(x=v.From\/x=v.To)
structure Eds(l:List Ac)(g f t:Int)(E:List Int):Prop where
 asc:SAsc E
 mem:∀x,x∈E↔x=f\/x=t\/(isEd l g x/\f<x/\x<t)
theorem Eds.uniq{l:List Ac}{g f t:Int}{D E:List Int}(h:Eds l g f t D)(k:Eds l g f t E):D=E:=ZH h.asc k.asc fun x=>(h.mem x).trans (k.mem x).symm
def pin(g f t:Int)(v:Ac)(m:List (Int×Bool))(x:Int):List (Int×Bool):=if v.Gauge=g/\f<x/\x<t then mput keqI m x true else m
theorem ZY{g f t x:Int}{v:Ac}{m:List (Int×Bool)}(h:(m.map (·.1)).Nodup):((pin g f t v m x).map (·.1)).Nodup:=by
 unfold pin;split
 ·exact TX h
 ·exact h
theorem ZZ{g f t x y:Int}{v:Ac}{m:List (Int×Bool)}:y∈(pin g f t v m x).map (·.1)↔y∈m.map (·.1)\/(y=x/\v.Gauge=g/\f<x/\x<t):=by
 unfold pin;split
 ·rename_i h;rw[TY];simp[h]
 ·rename_i h;simp[h]
theorem jz82{g f t x:Int}{v:Ac}{m:List (Int×Bool)}:(pin g f t v m x).length<=m.length+1:=by
 unfold pin;split
 ·exact TZ
 ·omega
def pins(g f t:Int)(m:List (Int×Bool))(v:Ac):List (Int×Bool):=pin g f t v (pin g f t v m v.From) v.To
theorem jz8w{g f t:Int}:∀(l:List Ac) (m:List (Int×Bool)),(m.map (·.1)).Nodup->((l.foldl (pins g f t) m).map (·.1)).Nodup/\(∀y,y∈(l.foldl (pins g f t) m).map (·.1)↔y∈m.map (·.1)\/(isEd l g y/\f<y/\y<t))/\(l.foldl (pins g f t) m).length<=m.length+2*l.length
 |[],m,h=>⟨h,fun y=>⟨.inl,fun e=>e.elim id fun⟨⟨v,hv,_⟩,_⟩=>by cases hv⟩,by simp⟩
 |v :: l,m,h=>by
  obtain⟨h1,h2,h3⟩:=jz8w l (pins g f t m v) (ZY (ZY h));refine⟨h1,fun y=>(h2 y).trans ?_,?_⟩
  ·unfold pins;rw[ZZ,ZZ];constructor
   ·rintro(((e|⟨rfl,e1,e2⟩)|⟨rfl,e1,e2⟩)|⟨⟨w,hw,e1,e2⟩,e3⟩);·exact .inl e
    ·exact .inr ⟨⟨v,by simp,e1,.inl rfl⟩,e2⟩
    ·exact .inr ⟨⟨v,by simp,e1,.inr rfl⟩,e2⟩
    ·exact .inr ⟨⟨w,by simp[hw],e1,e2⟩,e3⟩
   ·rintro(e|⟨⟨w,hw,e1,e2⟩,e3⟩);·exact .inl (.inl (.inl e))
    ·rcases AI.1 hw with rfl|hw
     ·rcases e2 with rfl|rfl;·exact .inl (.inl (.inr ⟨rfl,e1,e3⟩))
      ·exact .inl (.inr ⟨rfl,e1,e3⟩)
     ·exact .inr ⟨⟨w,hw,e1,e2⟩,e3⟩
  ·show(l.foldl (pins g f t) (pins g f t m v)).length<=_;have:=jz82 (g:=g) (f:=f) (t:=t) (x:=v.From) (v:=v) (m:=m);have:=jz82 (g:=g) (f:=f) (t:=t) (x:=v.To) (v:=v) (m:=pin g f t v m v.From);have h3:(l.foldl (pins g f t) (pins g f t m v)).length<=(pins g f t m v).length+2*l.length:=h3;unfold pins at h3 ⊢;simp only[Df];omega
theorem kzb7{l:List Int}(h:0<l.length)(h2:l.length<=1000000000):CG l=some (Bj l):=by unfold CG;rw[ck_t];simp;omega
theorem jz9s{g:Int}{t:Aw}{v:Ac}{m:List (Int×Bool)}:lp (D5 g t v) (0,m)=some (pins g t.From t.To m v):=by
 refine Jv (l:=[v.From,v.To]) (fun k=>((k:Int),([v.From,v.To].take k).foldl (pin g t.From t.To v) m)) (by simp) (fun k x hx=>?_) ?_ rfl
 ·have hk:=(AN.1 hx).1;simp only[D5];rw[it_d,at_e rfl hx];simp only[Af];have e:(bif (bif (decide (v.Gauge=g)) then(decide (t.From<x)) else false) then(decide (x<t.To)) else false)=decide (v.Gauge=g/\t.From<x/\x<t.To):=by simp only[P0];rw[GQ];simp[and_assoc]
  rw[e,Fw hx,List.foldl_append];simp only[Df,List.length_nil]at hk;by_cases h:v.Gauge=g/\t.From<x/\x<t.To
  ·rw[it_d h,AA];simp only[List.foldl_cons,List.foldl_nil,pin,Ap h];rfl
  ·rw[it_n h,AA];simp only[List.foldl_cons,List.foldl_nil,pin,Aj h];rfl
 ·simp only[D5];rw[it_n];rfl
theorem jz0n{l:List Ac}{g f t:Int}(hl:l.length<=10000):∃E,Hu l g ⟨f,t⟩=some E/\Eds l g f t E/\E.length<=2*l.length+2:=by
 unfold Hu
 have e:=Jv (body:=Er g l ⟨f,t⟩) (l:=l) (fun k=>((k:Int),(l.take k).foldl (pins g f t) (mput keqI (mput keqI ([]:List (Int×Bool)) f true) t true))) (by omega) (fun k x hx=>by
  have hk:=(AN.1 hx).1;simp only[Er];rw[it_d,at_e rfl hx];simp only[Af];rw[jz9s];simp only[Af];rw[AA,Fw hx,List.foldl_append];rfl) (by
  simp only[Er];rw[it_n]) (s:=((0:Int),mput keqI (mput keqI ([]:List (Int×Bool)) f true) t true)) rfl
 rw[show(0,mput keqI (mput keqI ([]:List (Int×Bool)) (Aw.mk f t).From true) (Aw.mk f t).To true)=((0:Int),mput keqI (mput keqI ([]:List (Int×Bool)) f true) t true) from rfl,e];simp only[Af,List.take_length];obtain⟨h1,h2,h3⟩:=jz8w (g:=g) (f:=f) (t:=t) l (mput keqI (mput keqI ([]:List (Int×Bool)) f true) t true) (TX (TX List.nodup_nil));have hm:∀y,y∈(mput keqI (mput keqI ([]:List (Int×Bool)) f true) t true).map (·.1)↔y=f\/y=t:=fun y=>by rw[TY,TY];simp
 have dx:(mput keqI (mput keqI ([]:List (Int×Bool)) f true) t true).length<=2:=by have:=TZ (k:=t) (m:=mput keqI ([]:List (Int×Bool)) f true);have:=TZ (k:=f) (m:=([]:List (Int×Bool)));simp only[List.length_nil]at this;omega
 generalize l.foldl (pins g f t) (mput keqI (mput keqI ([]:List (Int×Bool)) f true) t true)=M at *;have h0:0<M.length:=by have:f∈M.map (·.1):=(h2 f).2 (.inl ((hm f).2 (.inl rfl)));have:=List.length_pos_of_mem this;simpa using this
 rw[kzb7 (l:=M.map (fun p=>p.1)) (by simpa using h0) (by rw[JC];omega)];refine⟨Bj (M.map (·.1)),rfl,⟨ZJ _ h1,fun x=>?_⟩,by rw[ZL,JC];omega⟩;rw[TW,h2,hm,or_assoc]
def nx1(g last:Int)(v:Ac)(n x:Int):Int:=if v.Gauge=g/\last<x then min n x else n
def nxt(g last n:Int)(v:Ac):Int:=nx1 g last v (nx1 g last v n v.From) v.To
theorem jz86{g last:Int}:∀(l:List Ac) (n:Int),last<n->last<l.foldl (nxt g last) n/\l.foldl (nxt g last) n<=n/\(l.foldl (nxt g last) n=n\/isEd l g (l.foldl (nxt g last) n))/\∀x,isEd l g x->last<x->l.foldl (nxt g last) n<=x
 |[],n,h=>⟨h,Lp _,.inl rfl,fun x ⟨v,hv,_⟩=>by cases hv⟩
 |v :: l,n,h=>by
  have a1:last<nx1 g last v n v.From/\nx1 g last v n v.From<=n/\(nx1 g last v n v.From=n\/(v.Gauge=g/\nx1 g last v n v.From=v.From))/\(v.Gauge=g->last<v.From->nx1 g last v n v.From<=v.From):=by unfold nx1;split<;>omega
  show last<l.foldl (nxt g last) (nx1 g last v (nx1 g last v n v.From) v.To)/\l.foldl (nxt g last) (nx1 g last v (nx1 g last v n v.From) v.To)<=n/\(l.foldl (nxt g last) (nx1 g last v (nx1 g last v n v.From) v.To)=n\/isEd (v :: l) g (l.foldl (nxt g last) (nx1 g last v (nx1 g last v n v.From) v.To)))/\∀x,isEd (v :: l) g x->last<x->l.foldl (nxt g last) (nx1 g last v (nx1 g last v n v.From) v.To)<=x;generalize nx1 g last v n v.From=p at a1 ⊢;have a2:last<nx1 g last v p v.To/\nx1 g last v p v.To<=p/\(nx1 g last v p v.To=p\/(v.Gauge=g/\nx1 g last v p v.To=v.To))/\(v.Gauge=g->last<v.To->nx1 g last v p v.To<=v.To):=by unfold nx1;split<;>omega
  generalize nx1 g last v p v.To=q at a2 ⊢;obtain⟨a11,a12,a13,a14⟩:=a1;obtain⟨a21,a22,a23,a24⟩:=a2;obtain⟨b1,b2,b3,b4⟩:=jz86 l q a21;generalize l.foldl (nxt g last) q=r at *;refine⟨b1,by omega,?_,fun x hx hlt=>?_⟩
  ·rcases b3 with rfl|⟨w,hw,e1,e2⟩
   ·rcases a23 with rfl|⟨e1,e2⟩
    ·rcases a13 with rfl|⟨e1,e2⟩;·exact .inl rfl
     ·exact .inr ⟨v,by simp,e1,.inl e2⟩
    ·exact .inr ⟨v,by simp,e1,.inr e2⟩
   ·exact .inr ⟨w,by simp[hw],e1,e2⟩
  ·obtain⟨w,hw,e1,e2⟩:=hx;rcases AI.1 hw with rfl|hw
   ·rcases e2 with rfl|rfl;·have:=a14 e1 hlt;omega
    ·have:=a24 e1 hlt;omega
   ·exact b4 x ⟨w,hw,e1,e2⟩ hlt
theorem jz96{g last n:Int}{l:List Ac}(hl:l.length<=10000):lp (Km g l last) (n,0)=some (l.foldl (nxt g last) n):=by
 have e:=Jv (body:=Km g l last) (l:=l) (fun k=>((l.take k).foldl (nxt g last) n,(k:Int))) (by omega) (fun k x hx=>by
  have hk:=(AN.1 hx).1;simp only[Km];rw[it_d,Fw hx,List.foldl_append];simp only[at_e rfl hx,Af,List.foldl_cons,List.foldl_nil];generalize (l.take k).foldl (nxt g last) n=p;by_cases hg:x.Gauge=g
  ·simp only[hg,decide_true,AU,Af,Cj];by_cases h1:last<x.From
   ·rw[it_d h1];simp only[Af];by_cases h2:last<x.To
    ·rw[it_d h2,AA];simp only[nxt,nx1,hg,h1,h2,and_self,Bw];rfl
    ·rw[it_n h2,AA];simp only[nxt,nx1,hg,h1,h2,and_self,and_false,Bw,Cz];rfl
   ·rw[it_n h1];simp only[Af];by_cases h2:last<x.To
    ·rw[it_d h2,AA];simp only[nxt,nx1,hg,h1,h2,and_self,and_false,Bw,Cz];rfl
    ·rw[it_n h2,AA];simp only[nxt,nx1,hg,h1,h2,and_self,and_false,Bw,Cz];rfl
  ·simp only[hg,decide_false,AQ,Af,Cq];rw[Be];simp only[Af];rw[Be,AA];simp only[nxt,nx1,hg,false_and,Cz];rfl) (by
  simp only[Km];rw[it_n]) (s:=(n,(0:Int))) rfl
 rw[e,List.take_length]
theorem jz71{l:List Ac}{g f t:Int}(hl:l.length<=10000)(hf:0<=f)(kv:f<=t)(ht:t<=1402560):∃E,QV l g f t=some E/\Eds l g f t E:=by
 unfold QV
 obtain⟨o,e,ho⟩:=Dw (s:=(f,[f])) (body:=QU g l t) (fun s=>SAsc s.2/\f<=s.1/\s.1<=t/\(s.2.length:Int)<=s.1-f+1/\∀x,x∈s.2↔x<=s.1/\(x=f\/x=t\/(isEd l g x/\f<x/\x<t))) (fun s=>(t-s.1).toNat) (fun E=>Eds l g f t E) (by
  rintro⟨last,out⟩ ⟨h1,h2,h3,h4,h5⟩;simp only at h1 h2 h3 h4 h5;simp only[QU];by_cases h:last<t
  ·left;rw[it_d h,jz96 hl];simp only[Af];obtain⟨n1,n2,n3,n4⟩:=jz86 (g:=g) l t h;generalize l.foldl (nxt g last) t=n at *;rw[ck_t (by simp;omega)];refine⟨_,rfl,⟨?_,by simp only;omega,n2,by simp;omega,fun x=>?_⟩,by simp only;omega⟩
   ·show SAsc (out++[n]);refine List.pairwise_append.2 ⟨h1,P6 _ _,fun x hx y hy=>?_⟩;cases BX.1 hy;have:=((h5 x).1 hx).1;omega
   ·simp only[Cp,BX,h5];constructor
    ·rintro(⟨e1,e2⟩|rfl);·exact⟨by omega,e2⟩
     ·refine⟨Lp _,?_⟩;by_cases hx:x=t
      ·exact .inr (.inl hx)
      ·rcases n3 with e|e;·exact absurd e hx
       ·exact .inr (.inr ⟨e,by omega,by omega⟩)
    ·rintro⟨e1,e2⟩;by_cases hx:x<=last
     ·exact .inl ⟨hx,e2⟩
     ·right;rcases e2 with e|e|⟨e,_⟩
      ·omega
      ·omega
      ·have:=n4 x e (by omega);omega
  ·right;rw[it_n h];refine⟨_,rfl,⟨h1,fun x=>?_⟩⟩;rw[h5];constructor
   ·exact fun e=>e.2
   ·intro e;exact⟨by omega,e⟩) ⟨P6 _ _,Lp _,kv,by simp,fun x=>by simp;omega⟩ (by simp;omega)
 rw[e];exact⟨o,rfl,ho⟩
def prs:List Int->List Aw
 |a :: b :: l=>⟨a,b⟩ :: prs (b :: l)
 |_=>[]
theorem Px:∀l:List Int,(prs l).length=l.length-1
 |[]=>rfl
 |[a]=>rfl
 |a :: b :: l=>by show(prs (b :: l)).length+1=_;rw[Px (b :: l)];simp
theorem Uh:∀(l:List Int) (k:Nat) (h:k+1<l.length),(prs l)[k]?=some ⟨l[k],l[k+1]⟩
 |[],k,h=>by simp at h
 |[a],k,h=>by simp at h
 |a :: b :: l,0,h=>rfl
 |a :: b :: l,k+1,h=>by have:=Uh (b :: l) k (by simpa using h);simpa [prs] using this
theorem kzb4{α O ω:Type}(body:α->O->Option (O⊕ω)):∀(a b:List α) (s:O),Bt body (a++b) s=(match Bt body a s with
  |some (.inl s')=>Bt body b s'
  |some (.inr o)=>some (.inr o)
  | none=>none)
 |[],b,s=>rfl
 |x :: a,b,s=>by
  rw[Um];simp only[Bt];cases body x s with
  |none=>rfl
  |some o=>cases o with
   |inl s'=>simp only;exact kzb4 body a b s'
   |inr o=>rfl
theorem jz0m{O ω:Type}{body:Aw->O->Option (O⊕ω)}{s0:O}{E:List Int}{r:O⊕ω}(hE:E.length<=1000000)(h:Bt body (prs E) s0=some r) : ∃l,Kp E (fun l=>EL body l s0)=some l/\Bt body l s0=some r:=by
 unfold Kp;have hn:=Px E
 obtain⟨o,e,ho⟩:=Dw (s:=((1:Int),([]:List Aw))) (body:=QY E (fun l=>EL body l s0)) (fun s=>∃k:Nat,s=((k:Int)+1,(prs E).take k)/\k<=(prs E).length/\∃s',Bt body ((prs E).take k) s0=some (.inl s')) (fun s=>(E.length-s.1).toNat) (fun o=>∃l,(o=.inl l\/o=.inr l)/\Bt body l s0=some r) (by
  rintro s ⟨k,rfl,hk,s',aX⟩;simp only[QY];by_cases hlt:k+1<E.length
  ·have hx:=Uh E k hlt;have dF:prs E=(prs E).take (k+1)++(prs E).drop (k+1):=(P7 _ _).symm;have eB:=Fw hx;rw[it_d,AA,at_e (n:=k) (by omega) (AD (by omega)),Af,at_e (n:=k+1) (by omega) (AD hlt)];simp only[Af];rw[<-eB];have h2:=h;rw[dF,kzb4]at h2;unfold EL;cases hq:Bt body ((prs E).take (k+1)) s0 with
   |none=>rw[hq]at h2;cases h2
   |some q=>cases q with
    |inl s2 =>left;simp only[Af];rw[Be,AA];exact⟨_,rfl,⟨k+1,by simp,by omega,s2,hq⟩,by simp only;omega⟩
    |inr o =>right;rw[hq]at h2;simp only[Af];rw[Dp];exact⟨_,rfl,_,.inr rfl,hq.trans h2⟩
  ·right;rw[it_n];have:(prs E).take k=prs E:=Ia (by omega);refine⟨_,rfl,prs E,.inl (by rw[this]),h⟩) ⟨0,rfl,Ej _,s0,rfl⟩ (by simp;omega)
 obtain⟨l,hl,hr⟩:=ho;rw[e];refine⟨l,?_,hr⟩;rcases hl with rfl|rfl<;>rfl
theorem jz7q{α:Type}(M:List α)(q y:α):List.set (M++[q]) (Int.toNat ((List.length (M++[q]):Int)-1)) y=M++[y]:=by rw[show Int.toNat ((List.length (M++[q]):Int)-1)=M.length by simp];rw[List.set_append_right _ _ (AB _)];simp
theorem jz7y{α:Type}(M:List α)(q:α):at? (M++[q]) ((List.length (M++[q]):Int)-1)=some q:=at_e (n:=M.length) (by simp) (by simp)
def vdat(l:List Ac)(g x known:Int):Int:=match vfrc l 2 g x known with
 |some v=>v.Shift
 |none=>0
theorem jz9r{a b:AG}(h:a.Points.length<=16):Hv a b=some (decide (a.Points=b.Points)):=by unfold Hv;rw[ZU (by omega)];rfl
end Go.Am

namespace Go.Am
theorem vpts{v:Ac}(h:VRi v):v.Curve.Points.length<=16:=by
 rcases h.2 with h|h|h
 ·have he:=h.2.2;unfold Jw at he;split at he
  ·cases he
  ·omega
 ·omega
 ·omega
def dif(kind:Int)(x y:Option Ac):Bool:=match y with
 |none=>false
 |some b=>match x with
  |none=>decide (kind=1)||!decide (b.Shift=0)
  |some a=>!decide (a.Curve.Points=b.Curve.Points)||!decide (a.Shift=b.Shift)
def chSt(l m:List Ac)(k g known:Int)(out:List Aw)(x:Aw):List Aw:=bif dif k (vfrc l k g x.From known) (vfrc m k g x.From known) then outJ out x.From x.To else out
theorem Ui{l m:List Ac}{k g known:Int}{out:List Aw}{x:Aw}:(chSt l m k g known out x).length<=out.length+1:=by
 unfold chSt;cases dif k (vfrc l k g x.From known) (vfrc m k g x.From known) with
 |true=>exact jz94 _ _ _
 |false=>simp
theorem vin{l:List Ac}(hb:VBk l){k g x known:Int}{c:Ac}(h:vfrc l k g x known=some c):c∈l/\c.Curve.Points.length<=16:=by obtain⟨h1,h2⟩:=Uc k g x known _ l rfl c h;exact⟨h1,vpts (hb.right c h1)⟩
theorem Py{out:List Aw}{x:Aw}{U:Type}{K:List Aw->Option U}(hn:out.length<=100000) :
    (ck (!(decide (0<(List.length out:Int)))||As .i64 ((List.length out:Int)-1)) <|
     bd (gd (decide (0<(List.length out:Int))) (at? out ((List.length out:Int)-1))) fun x6 =>
     ite' (bif (decide (0<(List.length out:Int))) then(decide (x6.To=x.From)) else false) (
       ck (As .i64 ((List.length out:Int)-1)) <|
       bd (at? out ((List.length out:Int)-1)) fun x7 =>
       K (List.set out (Int.toNat ((List.length out:Int)-1)) (Aw.mk x7.From x.To))) (
       ck (decide (List.length (out++[x])*16<=140737488355328)) <|
       K (out++[x])))=K (outJ out x.From x.To):=by
  rcases List.eq_nil_or_concat out with rfl|⟨M,q,rfl⟩
  · simp only[List.length_nil,Int.ofNat_zero,Int.lt_irrefl,decide_false,CZ,Bool.true_or,G2,AQ,Af,Cq,Be]
    rw[ck_d (by simp)];rfl
  · rw[List.concat_eq_append]at *
    have h0:decide (0<(List.length (M++[q]):Int))=true:=(by simp);have aP:As .i64 ((List.length (M++[q]):Int)-1)=true:=(by simp only[BK,Dh]at hn ⊢;simp[As];omega);have gl:(M++[q]).getLast?=some q:=List.getLast?_concat;simp only[h0,aP,jz7y,Da,Bool.or_true,G2,AU,Af,Cj,outJ,gl,jz7q,List.dropLast_concat];by_cases hd:q.To=x.From
    · rw[it_d hd,Ap hd]
    · rw[it_n hd,Aj hd,ck_d (by simp at hn ⊢;omega)]
theorem kzab{l m:List Ac}(hl:l.length<=1000)(hb:VBk l)(hm:m.length<=1000)(dI:VBk m){v:Ac}{e known:Int}{out:List Aw}{x:Aw}(hn:out.length<=100000) :
  K2 known l (m,e) v x out=some (.inl (chSt l m v.Kind v.Gauge known out x)):=by
 unfold K2 chSt;simp only;rw[Ud hl hb.asc];simp only[Af];rw[Ud hm dI.asc];simp only[Af];cases hy:vfrc m v.Kind v.Gauge x.From known with
 |none =>have hd:∀x,dif v.Kind x none=false:=fun x=>rfl;simp only[Option.isSome_none,CZ,Da,PE,AQ,Af,Cj,hd,Cq];rw[Dp];simp only[Af]
 |some b =>
  cases hx:vfrc l v.Kind v.Gauge x.From known with
  |none =>
   simp only[Option.isSome_none,Option.isSome_some,CZ,Da,P2,Cj,Cq,AQ,Af];by_cases hk:v.Kind=1
   ·simp only[hk,decide_true,Da,AQ,Af,Cq,Be];have hd:dif 1 none (some b)=true:=rfl;rw[hd];exact Py (K:=fun l=>some (Sum.inl l)) hn
   ·have di:decide (v.Kind=1)=false:=Bz hk;simp only[di,CZ,AU,Af,Cj];have hd:dif v.Kind none (some b)=!decide (b.Shift=0):=by simp[dif,hk]
    rw[hd];by_cases h0:b.Shift=0
    ·rw[it_d h0];simp only[Af,h0,decide_true,Da,Cq]
    ·rw[it_n h0];simp only[Af,h0,decide_false,CZ,Cj,Be];exact Py (K:=fun l=>some (Sum.inl l)) hn
  |some a =>
   have ha:=(vin hb hx).2;simp only[Option.isSome_some,Da,CZ,Bool.and_false,AQ,AU,Af,Cq,Cj,Be];have hd:dif v.Kind (some a) (some b)=(!decide (a.Curve.Points=b.Curve.Points)||!decide (a.Shift=b.Shift)):=rfl;rw[hd];by_cases h0:a.Shift=b.Shift
   ·simp only[h0,decide_true,AU,Af,Cj,jz9r ha];by_cases he:a.Curve.Points=b.Curve.Points
    ·rw[it_d he];simp only[Af,he,decide_true,Da,Lh,Cq]
    ·rw[it_n he];simp only[Af,he,decide_false,CZ,Bool.true_or,Cj];exact Py (K:=fun l=>some (Sum.inl l)) hn
   ·simp only[h0,decide_false,AQ,Af,Cq,Be,CZ,Bool.or_true,Cj];exact Py (K:=fun l=>some (Sum.inl l)) hn
theorem jz88{l m:List Ac}(hl:l.length<=1000)(hb:VBk l)(hm:m.length<=1000)(dI:VBk m){v:Ac}{e known:Int}:∀(xs:List Aw) (out:List Aw),out.length+xs.length<=100000 ->
  Bt (K2 known l (m,e) v) xs out=some (.inl (xs.foldl (chSt l m v.Kind v.Gauge known) out))
 |[],out,_=>rfl
 |x :: xs,out,hn=>by simp only[Df]at hn;simp only[Bt];rw[kzab hl hb hm dI (by omega)];have:=Ui (l:=l) (m:=m) (k:=v.Kind) (g:=v.Gauge) (known:=known) (out:=out) (x:=x);exact jz88 hl hb hm dI xs _ (by omega)
theorem jz98{l m:List Ac}(hl:l.length<=1000)(hb:VBk l)(hm:m.length<=1000)(dI:VBk m){v:Ac}{x known:Int}:QW l m v x known=some (dif v.Kind (vfrc l v.Kind v.Gauge x known) (vfrc m v.Kind v.Gauge x known)):=by
 unfold QW;obtain⟨i,e1,h1⟩:=ZQ hl v.Kind v.Gauge x known;obtain⟨j,e2,h2⟩:=ZQ hm v.Kind v.Gauge x known;rw[e1,e2];simp only[Af];rcases h2 with ⟨rfl,hy⟩|⟨j,b,rfl,hj,hy⟩
 ·rw[it_d,hy];rfl
 ·rw[it_n (by omega),hy];rcases h1 with ⟨rfl,hx⟩|⟨i,a,rfl,hi,hx⟩
  ·rw[it_d,hx,at_e rfl hj];by_cases hk:v.Kind=1
   ·simp[hk,AQ,Af,dif]
   ·simp[hk,AU,Af,dif]
  ·have ha:=(vin hb hx).2;rw[it_n (by omega),hx,at_e rfl hi,at_e rfl hj];simp only[Af];rw[Ue (by omega)];simp only[Af];by_cases he:a.Curve.Points=b.Curve.Points
   ·simp[he,AU,Af,dif]
   ·simp[he,AQ,Af,dif]
theorem kzax{l m:List Ac}(hl:l.length<=1000)(hb:VBk l)(hm:m.length<=1000)(dI:VBk m){v:Ac}{known:Int}{b:AZ}(hB:b.L=m){E:List Int}(hE:E.length<=50000) :
  lp (NK known l b E v) (0,[])=some ((prs E).foldl (chSt l m v.Kind v.Gauge known) []):=by
 have hn:=Px E
 have key:∀k,((prs E).take k).foldl (chSt l m v.Kind v.Gauge known) []=((prs E).take k).foldl (chSt l m v.Kind v.Gauge known) []/\(((prs E).take k).foldl (chSt l m v.Kind v.Gauge known) []).length<=k:=by
  intro k;refine⟨rfl,?_⟩
  have gen:∀(xs:List Aw) (o:List Aw),(xs.foldl (chSt l m v.Kind v.Gauge known) o).length<=o.length+xs.length:=by
   intro xs;induction xs with
   |nil=>intro o;simp
   |cons x xs ih =>intro o;have:=Ui (l:=l) (m:=m) (k:=v.Kind) (g:=v.Gauge) (known:=known) (out:=o) (x:=x);have:=ih (chSt l m v.Kind v.Gauge known o x);simp only[List.foldl_cons,Df];omega
  have:=gen ((prs E).take k) [];simp only[Eg,List.length_nil]at this;omega
 refine Jv (l:=prs E) (fun k=>((k:Int),((prs E).take k).foldl (chSt l m v.Kind v.Gauge known) [])) (by omega) (fun k x hx=>?_) ?_ rfl
 ·have hk:=(AN.1 hx).1;have fh:=Uh E k (by omega);rw[hx]at fh;have fh:=BA fh;have a1:at? E (k:Int)=some x.From:=by rw[fh];exact at_e rfl (AD (by omega))
  have a2:at? E ((k:Int)+1)=some x.To:=by rw[fh];exact at_e (n:=k+1) (by omega) (AD (by omega))
  have aD:=(key k).2;rw[Fw hx,List.foldl_append];simp only[List.foldl_cons,List.foldl_nil];generalize ((prs E).take k).foldl (chSt l m v.Kind v.Gauge known) []=out at aD ⊢;simp only[NK];rw[AA,it_d,a1,hB];simp only[Af];rw[jz98 hl hb hm dI];simp only[Af];unfold chSt;cases dif v.Kind (vfrc l v.Kind v.Gauge x.From known) (vfrc m v.Kind v.Gauge x.From known) with
  |false =>simp only[CZ,Dp,Af,Cq];rw[AA];rfl
  |true =>
   simp only[Da,Be,Af,Cj,a2];rcases List.eq_nil_or_concat out with rfl|⟨M,q,rfl⟩
   ·simp only[List.length_nil,Int.ofNat_zero,Int.lt_irrefl,decide_false,CZ,Bool.true_or,G2,AQ,Af,Cq,Be];rw[AA,ck_d (by simp),AA];rfl
   ·rw[List.concat_eq_append]at *;have h0:decide (0<(List.length (M++[q]):Int))=true:=(by simp);have aP:As .i64 ((List.length (M++[q]):Int)-1)=true:=(by simp only[BK,Dh]at aD ⊢;simp[As];omega);have gl:(M++[q]).getLast?=some q:=List.getLast?_concat;simp only[h0,aP,jz7y,Da,Bool.or_true,G2,AU,Af,Cj,outJ,gl,jz7q,List.dropLast_concat];by_cases hd:q.To=x.From
    ·rw[it_d hd,Ap hd,AA,AA];rfl
    ·rw[it_n hd,Aj hd,AA,ck_d (by simp at aD ⊢;omega),AA];rfl
 ·simp only[NK];rw[AA,it_n,List.take_length]
theorem jz9p{l:List Ac}{v:Ac}{known:Int}(hs:VsSz l)(hv:CSz v.Curve):∃y:List Aw×Int,ID l v known=some y/\Xp l v known=some ⟨y.1,y.2⟩/\y.1.length<=1000 /\ ∃b:List Ac×Int,Cf l v=some b/\VAdd (some b) l v/\((b.2≠0/\y=([],b.2))\/(b.2=0/\¬(0<=known/\known<=14609)/\y=([],3)) \/ (b.2=0/\(0<=known/\known<=14609)/\y.2=0/\∃E,Eds l v.Gauge v.From v.To E/\y.1=(prs E).foldl (chSt l b.1 v.Kind v.Gauge known) []/\E.length<=1000)):=by
 obtain⟨b,e1,jR⟩:=jz28 hs hv;have e2:=(jz3j hs hv).uniq jR;unfold ID Xp;rw[e1,e2];simp only[Af];by_cases hE:b.E=0;rotate_left
 ·rw[BU hE,BU hE];exact⟨_,rfl,rfl,by simp,_,rfl,jR,.inl ⟨hE,rfl⟩⟩
 rw[Bu hE,Bu hE];by_cases hk:0<=known/\known<=14609;rotate_left
 ·rw[it_t (by simp only[HV,Fz,BB];omega),it_t (by simp only[HV,Fz,BB];omega)];exact⟨_,rfl,rfl,by simp,_,rfl,jR,.inr (.inl ⟨hE,hk,rfl⟩)⟩
 rw[it_f (by simp only[HV,Ul,PK];omega),it_f (by simp only[HV,Ul,PK];omega)];have jS:=jR;rw[hE]at jS;obtain⟨hc,fD,iy,np,gt⟩:=jS.bk hs hv;obtain⟨nq,hb⟩:=Fx.1 hc;obtain⟨pK,dI⟩:=Fx.1 iy;obtain⟨E,p1,p2,p3⟩:=jz0n (l:=l) (g:=v.Gauge) (f:=v.From) (t:=v.To) (by omega);obtain⟨E',q1,q2⟩:=jz71 (l:=l) (g:=v.Gauge) (f:=v.From) (t:=v.To) (by omega) fD.1.2.2.2.1 (by have:=fD.1.2.2.2.2;omega) fD.1.2.2.2.2.2;obtain rfl:=q2.uniq p2;have hn:=Px E';have hf:=jz88 (by omega) hb (by omega) dI (v:=v) (e:=b.E) (known:=known) (prs E') [] (by simp;omega);obtain⟨ys,h1,h2⟩:=jz0m (by omega) hf;rw[p1,q1];simp only[Af];rw[h1,kzax (by omega) hb (by omega) dI rfl (by omega)];simp only[Af];rw[h2];refine⟨_,rfl,rfl,?_,_,rfl,jR,.inr (.inr ⟨hE,hk,rfl,E',p2,rfl,by omega⟩)⟩
 have gen:∀(xs:List Aw) (o:List Aw),(xs.foldl (chSt l b.L v.Kind v.Gauge known) o).length<=o.length+xs.length:=by
  intro xs;induction xs with
  |nil=>intro o;simp
  |cons x xs ih =>intro o;have:=Ui (l:=l) (m:=b.L) (k:=v.Kind) (g:=v.Gauge) (known:=known) (out:=o) (x:=x);have:=ih (chSt l b.L v.Kind v.Gauge known o x);simp only[List.foldl_cons,Df];omega
 have:=gen (prs E') [];simp only[List.length_nil]at this;show(List.foldl _ [] (prs E')).length<=1000;omega
def spV(l:List Ac)(g known x:Int):Int×List AC:=(vdat l g x known,match vfrc l 1 g x known with | some c=>c.Curve.Points | none=>[])
def spT(s:AL):Int×Int×Int×List AC:=(s.From,s.To,s.Datum,s.Curve.Points)
def unTk(w:AJ)(p:Int×Int×Int×List AC):AL:=⟨p.1,p.2.1,w,p.2.2.1,⟨p.2.2.2⟩⟩
theorem Uj{w:AJ}:∀{o:List AL},(∀s,s∈o->s.Weight=w)->(o.map spT).map (unTk w)=o
 |[],_=>rfl
 |s :: o,h=>by
  have hs:unTk w (spT s)=s:=by rw[<-h s (by simp)];rfl
  rw[HZ,HZ,hs,Uj fun x hx=>h x (by simp[hx])]
theorem kzcn{l:List Ac}{k g a b x known:Int}{v:Ac}(hv:v∈l)(bT:∀y,isEd l g y->a<y->y<b->False)(h1:a<=x)(h2:x<b):vfit k g x known v↔vfit k g a known v:=by
 unfold vfit;constructor
 ·rintro⟨e1,e2,e3,e4,e5⟩;refine⟨e1,e2,e3,?_,by omega⟩;by_cases h:a<v.From
  ·exact(bT v.From ⟨v,hv,e2,.inl rfl⟩ h (by omega)).elim
  ·omega
 ·rintro⟨e1,e2,e3,e4,e5⟩;refine⟨e1,e2,e3,by omega,?_⟩;by_cases h:v.To<b
  ·exact(bT v.To ⟨v,hv,e2,.inr rfl⟩ e5 h).elim
  ·omega
theorem kzch{k g x x' c c':Int}:∀(l:List Ac) (b:Option Ac),(∀v,v∈l->(vfit k g x c v↔vfit k g x' c' v))->l.foldl (DI k g x c) b=l.foldl (DI k g x' c') b
 |[],b,_=>rfl
 |v :: l,b,h=>by
  have e:DI k g x c b v=DI k g x' c' b v:=by
   unfold DI;by_cases hv:vfit k g x c v
   ·rw[Ap hv,Ap ((h v (by simp)).1 hv)]
   ·rw[Aj hv,Aj fun e=>hv ((h v (by simp)).2 e)]
  rw[List.foldl_cons,List.foldl_cons,e,kzch l _ fun y hy=>h y (by simp[hy])]
theorem kzco{l:List Ac}{k g x x' c c':Int}(h:∀v,v∈l->(vfit k g x c v↔vfit k g x' c' v)):vfrc l k g x c=vfrc l k g x' c':=kzch l none h
theorem kzcf{l:List Ac}{k g a b x known:Int}(bT:∀y,isEd l g y->a<y->y<b->False)(h1:a<=x)(h2:x<b):vfrc l k g x known=vfrc l k g a known:=kzco fun v hv=>kzcn hv bT h1 h2
theorem Eds.head{l:List Ac}{g f t:Int}{E:List Int}(h:Eds l g f t E)(kv:f<=t):∃E',E=f :: E':=by
 have hf:f∈E:=(h.mem f).2 (.inl rfl);cases E with
 |nil=>cases hf
 |cons a E =>
  refine⟨E,?_⟩;have ha:=(h.mem a).1 (by simp);rcases AI.1 hf with e|e
  ·rw[e]
  ·have:=(GU.1 h.asc).1 f e;rcases ha with e|e|⟨_,e,_⟩<;>omega
structure SpC(l:List Ac)(g known:Int)(w:AJ)(f t:Int)(o:List AL):Prop where
 cd:Cd (spV l g known) t none f (o.map spT)
 wt:∀s,s∈o->s.Weight=w
 all:∀x,f<=x->x<t->vfrc l 1 g x known≠none
theorem SpC.uniq{l m:List Ac}{g h known k:Int}{w:AJ}{f t:Int}{o p:List AL}(ho:SpC l g known w f t o)(hp:SpC m h k w f t p)(e:∀x,f<=x->x<t->spV l g known x=spV m h k x):o=p:=by rw[<-Uj ho.wt,<-Uj hp.wt,(ho.cd.congr e).uniq hp.cd]
def chV(l m:List Ac)(k g known x:Int):Bool:=dif k (vfrc l k g x known) (vfrc m k g x known)
theorem kzcp{l m:List Ac}{k g known f t:Int}:∀(E:List Int) (a:Int) (L:List (Int×Int×Bool)),SAsc (a :: E)->t∈a :: E->(∀y,y∈a :: E->y<=t)->(∀y,isEd l g y\/isEd m g y->a<y->y<t->y∈E)->Cd (chV l m k g known) a none f L -> ∃L',(prs (a :: E)).foldl (chSt l m k g known) (tks L)=tks L'/\Cd (chV l m k g known) t none f L'/\L'.length<=L.length+E.length
 |[],a,L,hs,ht,aE,hE,hC=>by cases BX.1 ht;exact⟨L,rfl,hC,by simp⟩
 |b :: E,a,L,hs,ht,aE,hE,hC=>by
  obtain⟨s1,s2⟩:=GU.1 hs;have gH:a<b:=s1 b (by simp);have qo:b<=t:=aE b (by simp)
  have bT:∀y,isEd l g y\/isEd m g y->a<y->y<b->False:=fun y hy h1 h2=>by
   have:=hE y hy h1 (by omega);rcases AI.1 this with rfl|h
   ·omega
   ·have:=(GU.1 s2).1 y h;omega
  have g9:t∈b :: E:=(AI.1 ht).elim (fun e=>by omega) id;have mf:∀x,a<=x->x<b->chV l m k g known x=chV l m k g known a:=fun x x1 x2=>by unfold chV;rw[kzcf (fun y hy=>bT y (.inl hy)) x1 x2,kzcf (fun y hy=>bT y (.inr hy)) x1 x2]
  have pL:Cd (chV l m k g known) b none f (jn L (a,b,chV l m k g known a)):=Cd.jn (p:=(a,b,chV l m k g known a)) hC rfl gH mf;have aI:chSt l m k g known (tks L) ⟨a,b⟩=tks (jn L (a,b,chV l m k g known a)):=by rw[jz3d hC gH];unfold chSt;show(bif chV l m k g known a then outJ (tks L) a b else tks L)=_;cases chV l m k g known a<;>rfl
  obtain⟨L',h1,h2,h3⟩:=kzcp E b _ s2 g9 (fun y hy=>aE y (by simp[hy])) (fun y hy h1 h2=>by
   rcases AI.1 (hE y hy (by omega) h2) with rfl|h
   ·omega
   ·exact h) pL
  refine⟨L',?_,h2,?_⟩
  ·show(prs (b :: E)).foldl (chSt l m k g known) (chSt l m k g known (tks L) ⟨a,b⟩)=_;rw[aI,h1]
  ·have:(jn L (a,b,chV l m k g known a)).length<=L.length+1:=by
    unfold jn;split
    ·split;·simp only[BK,List.length_dropLast,Dh];omega
     ·simp
    ·simp
   simp only[Df];omega
theorem kzcs{l m:List Ac}{v:Ac}{k g known:Int}{E:List Int}(hm:∀y,y∈m↔y∈l\/y=v)(hE:Eds l g v.From v.To E)(kv:v.From<=v.To) : ∃L,(prs E).foldl (chSt l m k g known) []=tks L/\Cd (chV l m k g known) v.To none v.From L/\L.length<=E.length:=by
 obtain⟨E',rfl⟩:=hE.head kv;have aE:∀y,y∈v.From :: E'->y<=v.To:=fun y hy=>by rcases(hE.mem y).1 hy with e | e | ⟨_,_,e⟩<;>omega
 obtain⟨L,h1,h2,h3⟩:=kzcp (l:=l) (m:=m) (k:=k) (g:=g) (known:=known) (f:=v.From) (t:=v.To) E' v.From [] hE.asc ((hE.mem v.To).2 (.inr (.inl rfl))) aE (fun y hy h1 h2=>by
  have pM:isEd l g y:=by
   rcases hy with h|⟨w,hw,e1,e2⟩
   ·exact h
   ·rcases(hm w).1 hw with h|rfl;·exact⟨w,h,e1,e2⟩
    ·rcases e2 with rfl|rfl<;>omega
  rcases AI.1 ((hE.mem y).2 (.inr (.inr ⟨pM,h1,h2⟩))) with rfl|h
  ·omega
  ·exact h) rfl
 exact⟨L,h1,h2,by simp at h3 ⊢;omega⟩
set_option maxRecDepth 100000 in
theorem jz8f:NJ=some true:=by decide +kernel
def vZ:Ac:=Ac.mk 0 0 0 0 0 0 0 (AG.mk [])
def Fy(x known:Int):Prop:=0<=x/\x<1402560/\0<=known/\known<=14609
instance (x k:Int):Decidable (Fy x k):=by unfold Fy;infer_instance
theorem kzcx(x k:Int):(bif (bif (bif (decide (x<0)) then true else(decide (1402560<=x))) then true else(decide (k<0))) then true else(decide (14609<k)))=decide (¬Fy x k):=by unfold Fy;simp only[HV];rw[GQ];simp only[Fz,BB];omega
theorem kzcr(x k:Int):Kk x k=some (if Fy x k then 0 else 3):=by
 unfold Kk;rw[kzcx];by_cases h:Fy x k
 ·rw[it_n (fun e=>e h),Ap h]
 ·rw[it_d h,Aj h]
noncomputable def infc(l:List Ac)(k g x known:Int):Ac×Int :=
 if vchE l≠0 then(vZ,vchE l) else if ¬Fy x known then(vZ,3) else match vfrc l k g x known with
 |some v=>(v,0)
 |none=>(vZ,8)
theorem kzce{l:List Ac}(hs:VsSz l)(k g x known:Int):Gx l k g x known=some (infc l k g x known):=by
 unfold Gx infc;rw[GL hs];simp only[Af];by_cases hc:vchE l=0;rotate_left
 ·rw[BU hc,Ap hc];rfl
 rw[Bu hc,Aj (fun e=>e hc),kzcr];simp only[Af];by_cases ha:Fy x known;rotate_left
 ·rw[Aj ha,Ap ha];rfl
 rw[Ap ha,Aj (fun e=>e ha)];obtain⟨nq,hb⟩:=Fx.1 hc;rw[Bu rfl,Ud (by omega) hb.asc];simp only[Af];cases vfrc l k g x known<;>rfl
theorem kzck{α:Type}{p:List α->Prop}(h0:p [])(h1:∀l a,p l->p (l++[a])):∀(n:Nat) (l:List α),l.length=n->p l
 |0,l,h=>by rw[J7.1 h];exact h0
 |n+1,l,h=>by
  have aH:l≠[]:=fun e=>by rw[e]at h;cases h
  rw[<-List.dropLast_concat_getLast aH];exact h1 _ _ (kzck h0 h1 n _ (by simp[h]))
theorem vrev{α:Type}{p:List α->Prop}(h0:p [])(h1:∀l a,p l->p (l++[a]))(l:List α):p l:=kzck h0 h1 _ l rfl
theorem kzcg(k g x c:Int)(l:List Ac):vfrc (l.filter fun v=>decide (vfit k g x c v)) k g x c=vfrc l k g x c:=by
 refine vrev (p:=fun l=>vfrc (l.filter fun v=>decide (vfit k g x c v)) k g x c=vfrc l k g x c) rfl (fun l v ih=>?_) l;rw[List.filter_append,Jy];by_cases h:vfit k g x c v
 ·have:[v].filter (fun v=>decide (vfit k g x c v))=[v]:=by simp[h]
  rw[this,Jy,ih]
 ·have:[v].filter (fun v=>decide (vfit k g x c v))=[]:=by simp[h]
  rw[this,List.append_nil,ih];unfold DI;rw[Aj h]
theorem kzci{k g x c:Int}(l:List Ac):vfrc l k g x c=none↔∀v,v∈l->¬vfit k g x c v:=by
 refine vrev (p:=fun l=>vfrc l k g x c=none↔∀v,v∈l->¬vfit k g x c v) ⟨fun _ v hv=>(by cases hv),fun _=>rfl⟩ (fun l v ih=>?_) l;rw[Jy];unfold DI;by_cases h:vfit k g x c v
 ·rw[Ap h];constructor
  ·intro e;split at e
   ·cases e
   ·split at e<;>cases e
  ·intro e;exact absurd h (e v (by simp))
 ·rw[Aj h,ih];constructor
  ·intro e w hw;rcases Cp.1 hw with hw|hw
   ·exact e w hw
   ·cases BX.1 hw;exact h
  ·intro e w hw;exact e w (by simp[hw])
theorem kzcq{l m:List Ac}{v:Ac}(ha:l.Pairwise vlt)(h:Pw l m v){k g x c:Int}(hv:¬vfit k g x c v):vfrc m k g x c=vfrc l k g x c:=by
 rw[<-kzcg k g x c m,<-kzcg k g x c l];congr 1;refine Ug (h.asc.sublist List.filter_sublist) (ha.sublist List.filter_sublist) fun y=>?_;rw[List.mem_filter,List.mem_filter,h.mem];constructor
 ·rintro⟨h1|rfl,h2⟩;·exact⟨h1,h2⟩
  ·exact absurd (by simpa using h2) hv
 ·rintro⟨h1,h2⟩;exact⟨.inl h1,h2⟩
theorem Uk{G:Int->Bool}{b:Int}:∀{L:List (Int×Int×Bool)} {v:Option Bool} {a:Int},Cd G b v a L->(v=some true->∀t,t∈tks L->a<t.From)/\(∀t,t∈tks L->a<=t.From/\t.From<t.To)/\(tks L).Pairwise fun a b=>a.To<b.From
 |[],v,a,h=>⟨fun _ t ht=>(by cases ht),fun t ht=>(by cases ht),List.Pairwise.nil⟩
 |(p1,p2,p3) :: L,v,a,h=>by
  obtain⟨k1,k2,k3,k4,k5⟩:=h;simp only at k1 k2 k3 k4 k5;obtain⟨g1,g2,g3⟩:=Uk k5;cases p3
  ·have e:tks ((p1,p2,false) :: L)=tks L:=rfl;rw[e];exact⟨fun _ t ht=>by have:=(g2 t ht).1;omega,fun t ht=>by have:=g2 t ht;omega,g3⟩
  ·have e:tks ((p1,p2,true) :: L)=⟨p1,p2⟩ :: tks L:=rfl;rw[e];refine⟨fun hv=>absurd hv k4,fun t ht=>?_,GU.2 ⟨fun t ht=>g1 rfl t ht,g3⟩⟩;rcases AI.1 ht with rfl|ht
   ·simp only;omega
   ·have:=g2 t ht;omega
theorem jz35{G:Int->Bool}{a b:Int}{v:Option Bool}{L:List (Int×Int×Bool)}(h:Cd G b v a L){x:Int}(hx:a<=x/\x<b):G x=true↔∃t,t∈tks L/\t.From<=x/\x<t.To:=by
 constructor
 ·intro hg;obtain⟨p,hp,h1,h2⟩:=h.ex x hx.1 hx.2;have h3:=(h.mem p hp).2.2.2 x h1 h2;refine⟨⟨p.1,p.2.1⟩,List.mem_filterMap.2 ⟨p,hp,?_⟩,h1,h2⟩;rw[hg]at h3;rw[Ap h3.symm]
 ·rintro⟨t,ht,h1,h2⟩;obtain⟨p,hp,eS⟩:=List.mem_filterMap.1 ht;split at eS
  ·rename_i e;cases eS;rw[(h.mem p hp).2.2.2 x h1 h2,e]
  ·cases eS
theorem kzcv{G:Int->Bool}{a b:Int}{v:Option Bool}{L:List (Int×Int×Bool)}(h:Cd G b v a L){t:Aw}(ht:t∈tks L):t.To<=b:=by
 obtain⟨p,hp,eS⟩:=List.mem_filterMap.1 ht;split at eS
 ·cases eS;exact(h.mem p hp).2.2.1
 ·cases eS
def vres:Option Ac->Ac×Int
 |some v=>(v,0)
 |none=>(vZ,8)
theorem kzcj{l:List Ac}(hc:vchE l=0){k g x known:Int}(hx:Fy x known):infc l k g x known=vres (vfrc l k g x known):=by unfold infc;rw[Aj (fun e=>e hc),Aj (fun e=>e hx)];cases vfrc l k g x known<;>rfl
theorem pts0{v:Ac}(h:VRi v)(hk:v.Kind≠1):v.Curve.Points=[]:=by
 rcases h.2 with h|h|h
 ·exact absurd h.1 hk
 ·exact J7.1 (by omega)
 ·exact J7.1 (by omega)
theorem kzcm{k:Int}{A B:Option Ac}(hA:∀a,A=some a->a.Curve.Points.length<=16)(nt:B=none->A=none)(hB:∀b,B=some b->b.Kind=k/\VRi b){U:Type}{K:Bool->Option U} :
  (bd (gd (!(!decide ((vres A).1.Shift=(vres B).1.Shift))) (Hs (vres A).1.Curve (vres B).1.Curve)) fun r8 =>
   K (bif (bif (!decide ((vres A).1.Shift=(vres B).1.Shift)) then true else(!r8)) then true else(bif (decide (k=1)) then(!decide ((vres A).2=(vres B).2)) else false)))=K (dif k A B):=by
 have hl:(vres A).1.Curve.Points.length<=1048576:=by
  cases A with
  |none=>show([]:List AC).length<=_;simp
  |some a=>have:=hA a rfl;show a.Curve.Points.length<=_;omega
 rw[Ue hl];by_cases hS:(vres A).1.Shift=(vres B).1.Shift
 ·simp only[hS,decide_true,Da,CZ,AU,Af,Cq];congr 1;cases B with
  |none=>rw[nt rfl];simp[vres,dif,vZ]
  |some b =>
   obtain⟨b1,b2⟩:=hB b rfl;cases A with
   |none =>
    have hS:(0:Int)=b.Shift:=hS
    have hp:([]:List AC)=b.Curve.Points\/k=1:=by
     by_cases hk:k=1
     ·exact .inr hk
     ·exact .inl (pts0 b2 (by omega)).symm
    rcases hp with hp|hp
    ·simp[vres,dif,vZ,<-hS,<-hp]
    ·simp[vres,dif,vZ,<-hS,hp]
   |some a =>have hS:a.Shift=b.Shift:=hS;simp[vres,dif,hS];exact decide_eq_decide.2 Iff.rfl
 ·simp only[hS,decide_false,Da,CZ,AQ,Af,Cj];congr 1;cases B with
  |none=>exact absurd (by rw[nt rfl]) hS
  |some b =>
   cases A with
   |none =>have hS:¬(0:Int)=b.Shift:=hS;simp[dif];right;omega
   |some a =>have hS:¬a.Shift=b.Shift:=hS;simp[dif,hS]
theorem kzcl{l:List Int}{U:Type}{x:Option U}(h:l.length<=1000000):ck (decide (List.length l*8<=140737488355328)) x=x:=ck_d (by omega)
theorem kzcu{v:Ac}(hv:VRi v):∃l2,lp (NL v) ((max 0 (v.From-1)),[])=some l2/\l2.length<=200/\∀t,t∈l2->0<=t/\t<1402560:=by
 have h0:=hv.1.2.2.2;have hm:v.From-1<=max 0 (v.From-1)/\0<=max 0 (v.From-1)/\max 0 (v.From-1)<=v.From:=by omega
 generalize max 0 (v.From-1)=a at hm
 obtain⟨o,e,h1,h2⟩:=Dw (s:=(a,([]:List Int))) (body:=NL v) (fun s=>a<=s.1/\s.1<=v.From+152/\(s.2.length:Int)=s.1-a/\∀t,t∈s.2->0<=t/\t<1402560) (fun s=>(v.From+200-s.1).toNat) (fun o=>o.length<=200/\∀t,t∈o->0<=t/\t<1402560) (by
  rintro⟨t,l⟩ ⟨h1,h2,h3,h4⟩;simp only at h1 h2 h3 h4;simp only[NL];rw[AA];by_cases h:t<=min (min v.To (v.From+150)) 1402559
  ·left;rw[it_d h,kzcl (by simp;omega),AA];refine⟨_,rfl,⟨by simp only;omega,by simp only;omega,by simp;omega,fun x hx=>?_⟩,by simp only;omega⟩;rcases Cp.1 hx with hx|hx
   ·exact h4 x hx
   ·cases BX.1 hx;omega
  ·right;rw[it_n h];exact⟨_,rfl,by omega,h4⟩) ⟨Lp _,by simp only;omega,by simp,fun t ht=>by cases ht⟩ (by simp only;omega)
 exact⟨o,e,h1,h2⟩
theorem kzcw{v:Ac}(hv:VRi v){T:List Aw}{e:Int}{l2:List Int}(hT:∀t,t∈T->v.From<=t.From/\t.From<t.To/\t.To<=v.To)(hA:T.Pairwise fun a b=>a.To<b.From)(hn:T.length<=2000)(hl:l2.length<=200)(h2:∀t,t∈l2->0<=t/\t<1402560) : ∃l3,lp (NM (T,e) v) (0,l2)=some (.inl l3)/\l3.length<=10000/\∀t,t∈l3->0<=t/\t<1402560:=by
 have h0:=hv.1.2.2.2
 obtain⟨o,e,l3,rfl,h1,h2⟩:=Dw (s:=((0:Int),l2)) (body:=NM (T,e) v) (fun s=>∃k:Nat,∃l,s=((k:Int),l)/\k<=T.length/\l.length=l2.length+4*k/\∀t,t∈l->0<=t/\t<1402560) (fun s=>(T.length-s.1).toNat) (fun o=>∃l3,o=.inl l3/\l3.length<=10000/\∀t,t∈l3->0<=t/\t<1402560) (by
  rintro s ⟨k,l,rfl,hk,h3,h4⟩;simp only[NM];by_cases hlt:k<T.length;rotate_left
  ·right;rw[it_n];exact⟨_,rfl,l,rfl,by omega,h4⟩
  left;have hx:=AD hlt;have pN:=hT T[k] (GT hlt);rw[it_d,at_e rfl hx];simp only[Af];have hp:∀j,k=j+1->∃y,at? T ((k:Int)-1)=some y/\y.To<T[k].From:=fun j hj=>by refine⟨T[k-1],at_e (n:=k-1) (by omega) (AD (by omega)),?_⟩;exact U4.1 hA (k-1) k (by omega) hlt (by omega)
  generalize T[k]=x at pN hp;have hb:(bif (bif (decide (x.From<v.From)) then true else(decide (v.To<x.To))) then true else(decide (x.To<=x.From)))=false:=by simp only[HV,Ul,PK];omega
  rw[hb];simp only[CZ,P2,Cq];rw[ck_t (by simp[As];omega)]
  have hq:∃y:Aw,gd (decide (0<(k:Int))) (at? T ((k:Int)-1))=some y/\(bif decide (0<(k:Int)) then decide (x.From<=y.To) else false)=false:=by
   cases k with
   |zero=>exact⟨default,rfl,rfl⟩
   |succ j =>
    obtain⟨y,y1,y2⟩:=hp j rfl;refine⟨y,?_,?_⟩
    ·rw[Cy (by omega),AU,y1]
    ·rw[Cy (show(0:Int)<((j+1:Nat):Int) by omega)];exact Bz (by omega)
  obtain⟨y,y1,y2⟩:=hq;rw[y1];simp only[Af,y2,Be];rw[AA,AA,kzcl (by simp;omega),AA];refine⟨_,rfl,⟨k+1,l++[x.From,max 0 (x.From-1),x.To-1,min x.To 1402559],by simp,hlt,by simp;omega,fun t ht=>?_⟩,by simp only;omega⟩;rcases Cp.1 ht with ht|ht
  ·exact h4 t ht
  ·simp only[AI,JD,JF]at ht;rcases ht with rfl|rfl|rfl|rfl<;>omega) ⟨0,l2,rfl,Ej _,rfl,h2⟩ (by simp only;omega)
 exact⟨l3,e,h1,h2⟩
theorem inT{T:List Aw}{e x:Int}(hn:T.length<=1000000):lp (K3 (T,e) x) (false,0)=some (T.any fun t=>decide (t.From<=x/\x<t.To)):=by
 have h:=Jv (body:=K3 (T,e) x) (l:=T) (s:=(false,(0:Int))) (fun k=>((T.take k).any fun t=>decide (t.From<=x/\x<t.To),(k:Int))) (by omega) (fun k y hy=>by
  have hk:=(AN.1 hy).1;simp only[K3];rw[it_d,at_e rfl hy];simp only[Af];rw[AA,Fw hy,List.any_append];simp[HV]) (by
  simp only[K3];rw[it_n]) rfl
 rw[h,List.take_length]
theorem kzct{l:List Ac}{v:Ac}{known:Int}:RE l v known=some true:=by
 unfold RE;rw[jz8f];obtain⟨b,e,hb⟩:=jz09 l 20;obtain⟨c,ec,hc⟩:=ZR v.Curve;simp only[Af,Da,CZ,AU,Cq];rw[e];simp only[Af];cases b
 ·simp only[CZ,Da,AQ,Af,Cj];rw[Dp]
 simp only[CZ,Da,AU,Cq];rw[ec];simp only[Af];cases c
 ·simp only[CZ,Cj];rw[Dp]
 simp only[Da,Cq];have hs:=hb rfl;have hv:=hc rfl;by_cases hk:0<=known/\known<=14609;rotate_left
 ·rw[it_t (by simp only[HV,Fz,BB];omega)]
 rw[it_f (by simp only[HV,Ul,PK];omega)];obtain⟨y,c1,_,gN,m,e2,hA,hy⟩:=jz9p (l:=l) (v:=v) (known:=known) hs hv;rw[e2,c1];simp only[Af];rcases hy with ⟨hE,rfl⟩|⟨hE,h,_⟩|⟨hE,_,gO,E,pO,fW,qp⟩
 ·rw[BU hE];simp
 ·exact absurd hk h
 rw[Bu hE,gO];obtain⟨m,me⟩:=m;simp only at hE fW e2;subst hE;obtain⟨h0,fD,iy,np,gt⟩:=hA.bk hs hv;obtain⟨nq,nu⟩:=Fx.1 h0;obtain⟨pK,dI⟩:=Fx.1 iy;have gL:=fD.1.2.2.2;obtain⟨L,hL,hC,qq⟩:=kzcs (l:=l) (m:=m) (v:=v) (k:=v.Kind) (g:=v.Gauge) (known:=known) gt.mem pO (by omega);obtain⟨y1,y2⟩:=y;simp only at fW gO gN;subst gO;rw[fW,hL]at *
 have same:∀x,¬vfit v.Kind v.Gauge x known v->chV l m v.Kind v.Gauge known x=false:=fun x hx=>by
  unfold chV;rw[kzcq nu.asc gt hx];cases vfrc l v.Kind v.Gauge x known with
  |none=>rfl
  |some a=>simp[dif]
 have hT:∀t,t∈tks L->v.From<=t.From/\t.From<t.To/\t.To<=v.To:=fun t ht=>by obtain⟨_,g2,_⟩:=Uk hC;have:=g2 t ht;have:=kzcv hC ht;omega
 have hG:=(Uk hC).2.2;have fQ:=jzhp L
 have bT:(bif (decide (known<v.Known)) then(decide (0<(List.length (tks L):Int))) else false)=false:=by
  by_cases h:known<v.Known
  ·have md:tks L=[]:=by
    cases hq:tks L with
    |nil=>rfl
    |cons t r =>have ht:t∈tks L:=(by rw[hq];simp);have h1:=hT t ht;have h2:=(jz35 hC (x:=t.From) (by omega)).2 ⟨t,ht,Lp _,h1.2.1⟩;rw[same t.From (fun e=>by have:=e.2.2.1;omega)]at h2;cases h2
   rw[md];simp
  ·rw[Bz h];rfl
 rw[bT];simp only[decide_true,Da,Cq];rw[Be,AA];obtain⟨l2,e3,n2,r2⟩:=kzcu fD;rw[e3];simp only[Af];obtain⟨l3,e4,n3,r3⟩:=kzcw fD (T:=tks L) (e:=0) hT hG (by omega) n2 r2;rw[e4];simp only[Af];rw[GJ (l:=l3) (ω:=Bool) (fun k x=>none) (by omega) ?_ ?_]
 ·rw[TT _ _ (fun _ _ _=>rfl)];rfl
 ·intro k x hx;have di:=(AN.1 hx).1;have hr:=r3 x (Dx hx);have jT:Fy x known:=⟨hr.1,hr.2,hk⟩;simp only[RD];rw[it_d,at_e rfl hx];simp only[Af];rw[inT (by omega)];simp only[Af];rw[kzce hs,kzce np,kzcj h0 jT,kzcj iy jT];simp only[Af]
  have aP:(tks L).any (fun t=>decide (t.From<=x/\x<t.To))=dif v.Kind (vfrc l v.Kind v.Gauge x known) (vfrc m v.Kind v.Gauge x known):=by
   show _=chV l m v.Kind v.Gauge known x;by_cases hp:v.From<=x/\x<v.To
   ·rw[GQ,jz35 hC hp];simp
   ·rw[same x (fun e=>hp e.2.2.2),List.any_eq_false];intro t ht;have:=hT t ht;simp;omega
  have fM:∀A:Option Ac,(bif (!decide ((vres A).2=0)) then(!decide ((vres A).2=8)) else false)=false:=fun A=>by cases A<;>rfl
  rw[fM,fM];simp only[Cq];have aZ:∀w,vfrc m v.Kind v.Gauge x known=some w->w.Kind=v.Kind/\VRi w:=fun w hw=>by obtain⟨w1,w2⟩:=Uc _ _ _ _ _ m rfl w hw;exact⟨w2.1,dI.right w w1⟩
  have pP:vfrc m v.Kind v.Gauge x known=none->vfrc l v.Kind v.Gauge x known=none:=fun h=>(kzci l).2 fun w hw=>(kzci m).1 h w ((gt.mem w).2 (.inl hw));refine(kzcm (fun a ha=>(vin nu ha).2) pP aZ (K:=fun d=>(ite' (!((tks L).any (fun t=>decide (t.From<=x/\x<t.To))==d)) (some (.inr (.inr false))) (ck (As .i64 ((k:Int)+1)) (some (.inl ((k:Int)+1)))):Option (Int⊕(Unit⊕Bool))))).trans ?_;rw[aP];simp only[beq_self_eq_true,Da,Be];rw[AA]
 ·simp only[RD];rw[it_n]
end Go.Am

