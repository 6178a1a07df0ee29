/- Part U2: the mathematics of the functions of this seat. No condition. -/
import Derived.Test.YtbidhbeoimpjbaaGreatDoorU1
set_option linter.unusedSimpArgs false
set_option linter.unusedVariables false
namespace Go.Am
def isEd(l:List Ac)(g x:Int):Prop:=∃v,v∈l/\v.Gauge=g/\(x=v.From\/x=v.To)
structure Eds(l:List Ac)(g f t:Int)(E:List Int):Prop where
 asc:SAsc E
 mem:∀x,x∈E↔x=f\/x=t\/(isEd l g x/\f<x/\x<t)
theorem Eds.uniq{l:List Ac}{g f t:Int}{D E:List Int}(h:Eds l g f t D)(k:Eds l g f t E):D=E:=ZR h.asc k.asc fun x=>(h.mem x).trans (k.mem x).symm
def pin(g f t:Int)(v:Ac)(m:List (Int×Bool))(x:Int):List (Int×Bool):=if v.Gauge=g/\f<x/\x<t then mput keqI m x true else m
theorem jz9n{g f t x:Int}{v:Ac}{m:List (Int×Bool)}(h:(m.map (·.1)).Nodup):((pin g f t v m x).map (·.1)).Nodup:=by
 unfold pin;split
 ·exact Uj h
 ·exact h
theorem jz84{g f t x y:Int}{v:Ac}{m:List (Int×Bool)}:y∈(pin g f t v m x).map (·.1)↔y∈m.map (·.1)\/(y=x/\v.Gauge=g/\f<x/\x<t):=by
 unfold pin;split
 ·rename_i h;rw[Uk];simp[h]
 ·rename_i h;simp[h]
theorem jz82{g f t x:Int}{v:Ac}{m:List (Int×Bool)}:(pin g f t v m x).length<=m.length+1:=by
 unfold pin;split
 ·exact Ul
 ·omega
def pins(g f t:Int)(m:List (Int×Bool))(v:Ac):List (Int×Bool):=pin g f t v (pin g f t v m v.From) v.To
theorem jz8w{g f t:Int}:∀(l:List Ac) (m:List (Int×Bool)),(m.map (·.1)).Nodup->((l.foldl (pins g f t) m).map (·.1)).Nodup/\(∀y,y∈(l.foldl (pins g f t) m).map (·.1)↔y∈m.map (·.1)\/(isEd l g y/\f<y/\y<t))/\(l.foldl (pins g f t) m).length<=m.length+2*l.length
 |[],m,h=>⟨h,fun y=>⟨.inl,fun e=>e.elim id fun⟨⟨v,hv,_⟩,_⟩=>by cases hv⟩,by simp⟩
 |v :: l,m,h=>by
  obtain⟨h1,h2,h3⟩:=jz8w l (pins g f t m v) (jz9n (jz9n h));refine⟨h1,fun y=>(h2 y).trans ?_,?_⟩
  ·unfold pins;rw[jz84,jz84];constructor
   ·rintro(((e|⟨rfl,e1,e2⟩)|⟨rfl,e1,e2⟩)|⟨⟨w,hw,e1,e2⟩,e3⟩);·exact .inl e
    ·exact .inr ⟨⟨v,by simp,e1,.inl rfl⟩,e2⟩
    ·exact .inr ⟨⟨v,by simp,e1,.inr rfl⟩,e2⟩
    ·exact .inr ⟨⟨w,by simp[hw],e1,e2⟩,e3⟩
   ·rintro(e|⟨⟨w,hw,e1,e2⟩,e3⟩);·exact .inl (.inl (.inl e))
    ·rcases AL.1 hw with rfl|hw
     ·rcases e2 with rfl|rfl;·exact .inl (.inl (.inr ⟨rfl,e1,e3⟩))
      ·exact .inl (.inr ⟨rfl,e1,e3⟩)
     ·exact .inr ⟨⟨w,hw,e1,e2⟩,e3⟩
  ·show(l.foldl (pins g f t) (pins g f t m v)).length<=_;have:=jz82 (g:=g) (f:=f) (t:=t) (x:=v.From) (v:=v) (m:=m);have:=jz82 (g:=g) (f:=f) (t:=t) (x:=v.To) (v:=v) (m:=pin g f t v m v.From);have h3:(l.foldl (pins g f t) (pins g f t m v)).length<=(pins g f t m v).length+2*l.length:=h3;unfold pins at h3 ⊢;simp only[CZ];omega
theorem kzb7{l:List Int}(h:0<l.length)(h2:l.length<=1000000000):CF l=some (Bm l):=by unfold CF;rw[ck_t];simp;omega
theorem jz9s{g:Int}{t:Au}{v:Ac}{m:List (Int×Bool)}:lp (D5 g t v) (0,m)=some (pins g t.From t.To m v):=by
 refine J7 (l:=[v.From,v.To]) (fun k=>((k:Int),([v.From,v.To].take k).foldl (pin g t.From t.To v) m)) (by simp) (fun k x hx=>?_) ?_ rfl
 ·have hk:=(AM.1 hx).1;simp only[D5];rw[it_d,at_e rfl hx];simp only[Ae];have e:(bif (bif (decide (v.Gauge=g)) then(decide (t.From<x)) else false) then(decide (x<t.To)) else false)=decide (v.Gauge=g/\t.From<x/\x<t.To):=by simp only[L1];rw[HU];simp[and_assoc]
  rw[e,FT hx,List.foldl_append];simp only[CZ,List.length_nil]at hk;by_cases h:v.Gauge=g/\t.From<x/\x<t.To
  ·rw[it_d h,AA];simp only[List.foldl_cons,List.foldl_nil,pin,Ap h];rfl
  ·rw[it_n h,AA];simp only[List.foldl_cons,List.foldl_nil,pin,Aj h];rfl
 ·simp only[D5];rw[it_n];rfl
theorem jz0n{l:List Ac}{g f t:Int}(hl:l.length<=10000):∃E,Gy l g ⟨f,t⟩=some E/\Eds l g f t E/\E.length<=2*l.length+2:=by
 unfold Gy
 have e:=J7 (body:=Er g l ⟨f,t⟩) (l:=l) (fun k=>((k:Int),(l.take k).foldl (pins g f t) (mput keqI (mput keqI ([]:List (Int×Bool)) f true) t true))) (by omega) (fun k x hx=>by
  have hk:=(AM.1 hx).1;simp only[Er];rw[it_d,at_e rfl hx];simp only[Ae];rw[jz9s];simp only[Ae];rw[AA,FT hx,List.foldl_append];rfl) (by
  simp only[Er];rw[it_n]) (s:=((0:Int),mput keqI (mput keqI ([]:List (Int×Bool)) f true) t true)) rfl
 rw[show(0,mput keqI (mput keqI ([]:List (Int×Bool)) (Au.mk f t).From true) (Au.mk f t).To true)=((0:Int),mput keqI (mput keqI ([]:List (Int×Bool)) f true) t true) from rfl,e];simp only[Ae,List.take_length];obtain⟨h1,h2,h3⟩:=jz8w (g:=g) (f:=f) (t:=t) l (mput keqI (mput keqI ([]:List (Int×Bool)) f true) t true) (Uj (Uj List.nodup_nil));have hm:∀y,y∈(mput keqI (mput keqI ([]:List (Int×Bool)) f true) t true).map (·.1)↔y=f\/y=t:=fun y=>by rw[Uk,Uk];simp
 have cN:(mput keqI (mput keqI ([]:List (Int×Bool)) f true) t true).length<=2:=by have:=Ul (k:=t) (m:=mput keqI ([]:List (Int×Bool)) f true);have:=Ul (k:=f) (m:=([]:List (Int×Bool)));simp only[List.length_nil]at this;omega
 generalize l.foldl (pins g f t) (mput keqI (mput keqI ([]:List (Int×Bool)) f true) t true)=M at *;have h0:0<M.length:=by have:f∈M.map (·.1):=(h2 f).2 (.inl ((hm f).2 (.inl rfl)));have:=List.length_pos_of_mem this;simpa using this
 rw[kzb7 (l:=M.map (fun p=>p.1)) (by simpa using h0) (by rw[JN];omega)];refine⟨Bm (M.map (·.1)),rfl,⟨ZT _ h1,fun x=>?_⟩,by rw[ZV,JN];omega⟩;rw[Ui,h2,hm,or_assoc]
def nx1(g last:Int)(v:Ac)(n x:Int):Int:=if v.Gauge=g/\last<x then min n x else n
def nxt(g last n:Int)(v:Ac):Int:=nx1 g last v (nx1 g last v n v.From) v.To
theorem jz86{g last:Int}:∀(l:List Ac) (n:Int),last<n->last<l.foldl (nxt g last) n/\l.foldl (nxt g last) n<=n/\(l.foldl (nxt g last) n=n\/isEd l g (l.foldl (nxt g last) n))/\∀x,isEd l g x->last<x->l.foldl (nxt g last) n<=x
 |[],n,h=>⟨h,PZ _,.inl rfl,fun x ⟨v,hv,_⟩=>by cases hv⟩
 |v :: l,n,h=>by
  have a1:last<nx1 g last v n v.From/\nx1 g last v n v.From<=n/\(nx1 g last v n v.From=n\/(v.Gauge=g/\nx1 g last v n v.From=v.From))/\(v.Gauge=g->last<v.From->nx1 g last v n v.From<=v.From):=by unfold nx1;split<;>omega
  show last<l.foldl (nxt g last) (nx1 g last v (nx1 g last v n v.From) v.To)/\l.foldl (nxt g last) (nx1 g last v (nx1 g last v n v.From) v.To)<=n/\(l.foldl (nxt g last) (nx1 g last v (nx1 g last v n v.From) v.To)=n\/isEd (v :: l) g (l.foldl (nxt g last) (nx1 g last v (nx1 g last v n v.From) v.To)))/\∀x,isEd (v :: l) g x->last<x->l.foldl (nxt g last) (nx1 g last v (nx1 g last v n v.From) v.To)<=x;generalize nx1 g last v n v.From=p at a1 ⊢;have a2:last<nx1 g last v p v.To/\nx1 g last v p v.To<=p/\(nx1 g last v p v.To=p\/(v.Gauge=g/\nx1 g last v p v.To=v.To))/\(v.Gauge=g->last<v.To->nx1 g last v p v.To<=v.To):=by unfold nx1;split<;>omega
  generalize nx1 g last v p v.To=q at a2 ⊢;obtain⟨a11,a12,a13,a14⟩:=a1;obtain⟨a21,a22,a23,a24⟩:=a2;obtain⟨b1,b2,b3,b4⟩:=jz86 l q a21;generalize l.foldl (nxt g last) q=r at *;refine⟨b1,by omega,?_,fun x hx hlt=>?_⟩
  ·rcases b3 with rfl|⟨w,hw,e1,e2⟩
   ·rcases a23 with rfl|⟨e1,e2⟩
    ·rcases a13 with rfl|⟨e1,e2⟩;·exact .inl rfl
     ·exact .inr ⟨v,by simp,e1,.inl e2⟩
    ·exact .inr ⟨v,by simp,e1,.inr e2⟩
   ·exact .inr ⟨w,by simp[hw],e1,e2⟩
  ·obtain⟨w,hw,e1,e2⟩:=hx;rcases AL.1 hw with rfl|hw
   ·rcases e2 with rfl|rfl;·have:=a14 e1 hlt;omega
    ·have:=a24 e1 hlt;omega
   ·exact b4 x ⟨w,hw,e1,e2⟩ hlt
theorem jz96{g last n:Int}{l:List Ac}(hl:l.length<=10000):lp (Kx g l last) (n,0)=some (l.foldl (nxt g last) n):=by
 have e:=J7 (body:=Kx g l last) (l:=l) (fun k=>((l.take k).foldl (nxt g last) n,(k:Int))) (by omega) (fun k x hx=>by
  have hk:=(AM.1 hx).1;simp only[Kx];rw[it_d,FT hx,List.foldl_append];simp only[at_e rfl hx,Ae,List.foldl_cons,List.foldl_nil];generalize (l.take k).foldl (nxt g last) n=p;by_cases hg:x.Gauge=g
  ·simp only[hg,decide_true,AR,Ae,BP];by_cases h1:last<x.From
   ·rw[it_d h1];simp only[Ae];by_cases h2:last<x.To
    ·rw[it_d h2,AA];simp only[nxt,nx1,hg,h1,h2,and_self,Bz];rfl
    ·rw[it_n h2,AA];simp only[nxt,nx1,hg,h1,h2,and_self,and_false,Bz,Cz];rfl
   ·rw[it_n h1];simp only[Ae];by_cases h2:last<x.To
    ·rw[it_d h2,AA];simp only[nxt,nx1,hg,h1,h2,and_self,and_false,Bz,Cz];rfl
    ·rw[it_n h2,AA];simp only[nxt,nx1,hg,h1,h2,and_self,and_false,Bz,Cz];rfl
  ·simp only[hg,decide_false,AP,Ae,CM];rw[AX];simp only[Ae];rw[AX,AA];simp only[nxt,nx1,hg,false_and,Cz];rfl) (by
  simp only[Kx];rw[it_n]) (s:=(n,(0:Int))) rfl
 rw[e,List.take_length]
theorem jz71{l:List Ac}{g f t:Int}(hl:l.length<=10000)(hf:0<=f)(p9:f<=t)(ht:t<=1402560):∃E,Ky l g f t=some E/\Eds l g f t E:=by
 unfold Ky
 obtain⟨o,e,ho⟩:=DA (s:=(f,[f])) (body:=Rn g l t) (fun s=>SAsc s.2/\f<=s.1/\s.1<=t/\(s.2.length:Int)<=s.1-f+1/\∀x,x∈s.2↔x<=s.1/\(x=f\/x=t\/(isEd l g x/\f<x/\x<t))) (fun s=>(t-s.1).toNat) (fun E=>Eds l g f t E) (by
  rintro⟨last,out⟩ ⟨h1,h2,h3,h4,h5⟩;simp only at h1 h2 h3 h4 h5;simp only[Rn];by_cases h:last<t
  ·left;rw[it_d h,jz96 hl];simp only[Ae];obtain⟨n1,n2,n3,n4⟩:=jz86 (g:=g) l t h;generalize l.foldl (nxt g last) t=n at *;rw[ck_t (by simp;omega)];refine⟨_,rfl,⟨?_,by simp only;omega,n2,by simp;omega,fun x=>?_⟩,by simp only;omega⟩
   ·show SAsc (out++[n]);refine List.pairwise_append.2 ⟨h1,PO _ _,fun x hx y hy=>?_⟩;cases Ce.1 hy;have:=((h5 x).1 hx).1;omega
   ·simp only[Cq,Ce,h5];constructor
    ·rintro(⟨e1,e2⟩|rfl);·exact⟨by omega,e2⟩
     ·refine⟨PZ _,?_⟩;by_cases hx:x=t
      ·exact .inr (.inl hx)
      ·rcases n3 with e|e;·exact absurd e hx
       ·exact .inr (.inr ⟨e,by omega,by omega⟩)
    ·rintro⟨e1,e2⟩;by_cases hx:x<=last
     ·exact .inl ⟨hx,e2⟩
     ·right;rcases e2 with e|e|⟨e,_⟩
      ·omega
      ·omega
      ·have:=n4 x e (by omega);omega
  ·right;rw[it_n h];refine⟨_,rfl,⟨h1,fun x=>?_⟩⟩;rw[h5];constructor
   ·exact fun e=>e.2
   ·intro e;exact⟨by omega,e⟩) ⟨PO _ _,PZ _,p9,by simp,fun x=>by simp;omega⟩ (by simp;omega)
 rw[e];exact⟨o,rfl,ho⟩
def prs:List Int->List Au
 |a :: b :: l=>⟨a,b⟩ :: prs (b :: l)
 |_=>[]
theorem HS:∀l:List Int,(prs l).length=l.length-1
 |[]=>rfl
 |[a]=>rfl
 |a :: b :: l=>by show(prs (b :: l)).length+1=_;rw[HS (b :: l)];simp
theorem PE:∀(l:List Int) (k:Nat) (h:k+1<l.length),(prs l)[k]?=some ⟨l[k],l[k+1]⟩
 |[],k,h=>by simp at h
 |[a],k,h=>by simp at h
 |a :: b :: l,0,h=>rfl
 |a :: b :: l,k+1,h=>by have:=PE (b :: l) k (by simpa using h);simpa [prs] using this
theorem kzb4{α O ω:Type}(body:α->O->Option (O⊕ω)):∀(a b:List α) (s:O),Bh body (a++b) s=(match Bh body a s with
  |some (.inl s')=>Bh body b s'
  |some (.inr o)=>some (.inr o)
  | none=>none)
 |[],b,s=>rfl
 |x :: a,b,s=>by
  rw[Ux];simp only[Bh];cases body x s with
  |none=>rfl
  |some o=>cases o with
   |inl s'=>simp only;exact kzb4 body a b s'
   |inr o=>rfl
theorem jz0m{O ω:Type}{body:Au->O->Option (O⊕ω)}{s0:O}{E:List Int}{r:O⊕ω}(hE:E.length<=1000000)(h:Bh body (prs E) s0=some r) : ∃l,K0 E (fun l=>EM body l s0)=some l/\Bh body l s0=some r:=by
 unfold K0;have hn:=HS E
 obtain⟨o,e,ho⟩:=DA (s:=((1:Int),([]:List Au))) (body:=Rp E (fun l=>EM body l s0)) (fun s=>∃k:Nat,s=((k:Int)+1,(prs E).take k)/\k<=(prs E).length/\∃s',Bh body ((prs E).take k) s0=some (.inl s')) (fun s=>(E.length-s.1).toNat) (fun o=>∃l,(o=.inl l\/o=.inr l)/\Bh body l s0=some r) (by
  rintro s ⟨k,rfl,hk,s',aX⟩;simp only[Rp];by_cases hlt:k+1<E.length
  ·have hx:=PE E k hlt;have dB:prs E=(prs E).take (k+1)++(prs E).drop (k+1):=(PP _ _).symm;have ew:=FT hx;rw[it_d,AA,at_e (n:=k) (by omega) (AD (by omega)),Ae,at_e (n:=k+1) (by omega) (AD hlt)];simp only[Ae];rw[<-ew];have h2:=h;rw[dB,kzb4]at h2;unfold EM;cases hq:Bh body ((prs E).take (k+1)) s0 with
   |none=>rw[hq]at h2;cases h2
   |some q=>cases q with
    |inl s2 =>left;simp only[Ae];rw[AX,AA];exact⟨_,rfl,⟨k+1,by simp,by omega,s2,hq⟩,by simp only;omega⟩
    |inr o =>right;rw[hq]at h2;simp only[Ae];rw[Do];exact⟨_,rfl,_,.inr rfl,hq.trans h2⟩
  ·right;rw[it_n];have:(prs E).take k=prs E:=HZ (by omega);refine⟨_,rfl,prs E,.inl (by rw[this]),h⟩) ⟨0,rfl,Ej _,s0,rfl⟩ (by simp;omega)
 obtain⟨l,hl,hr⟩:=ho;rw[e];refine⟨l,?_,hr⟩;rcases hl with rfl|rfl<;>rfl
theorem PF{α:Type}(M:List α)(q y:α):List.set (M++[q]) (Int.toNat ((List.length (M++[q]):Int)-1)) y=M++[y]:=by rw[show Int.toNat ((List.length (M++[q]):Int)-1)=M.length by simp];rw[List.set_append_right _ _ (AC _)];simp
theorem PH{α:Type}(M:List α)(q:α):at? (M++[q]) ((List.length (M++[q]):Int)-1)=some q:=at_e (n:=M.length) (by simp) (by simp)
def vdat(l:List Ac)(g x known:Int):Int:=match vfrc l 2 g x known with
 |some v=>v.Shift
 |none=>0
def spS(l:List Ac)(g known:Int)(w:AJ)(out:List AB)(x:Au):Option (List AB):=match vfrc l 1 g x.From known with
 |none=>none
 | some c=>some (match out.getLast? with
  |some q=>if q.Datum=vdat l g x.From known/\q.Curve.Points=c.Curve.Points then out.dropLast++[⟨q.From,x.To,q.Weight,q.Datum,q.Curve⟩] else out++[⟨x.From,x.To,w,vdat l g x.From known,c.Curve⟩]
  | none=>out++[⟨x.From,x.To,w,vdat l g x.From known,c.Curve⟩])
theorem Us{l:List Ac}{g known:Int}{w:AJ}{out out':List AB}{x:Au}(h:spS l g known w out x=some out'):out'.length<=out.length+1:=by
 unfold spS at h;split at h
 ·cases h
 ·cases h;split
  ·split;·simp
   ·simp
  ·simp
theorem Ut{l:List Ac}(hb:VBk l){g x known:Int}{c:Ac}(h:vfrc l 1 g x known=some c):c∈l/\0<c.Curve.Points.length/\c.Curve.Points.length<=16:=by
 obtain⟨h1,h2⟩:=Up 1 g x known _ l rfl c h;have hr:=hb.right c h1;refine⟨h1,?_⟩;have hk:c.Kind=1:=h2.1
 have he:GN c.Curve=0:=by
  rcases hr.2 with h|h|h
  ·exact h.2.2
  ·omega
  ·omega
 unfold GN at he;split at he
 ·cases he
 ·omega
theorem jz9h{l:List Ac}(hl:l.length<=1000)(ha:l.Pairwise vlt)(g x known:Int):Kw l 2 g x known=some (vdat l g x known):=by
 unfold Kw vdat;rw[PA hl ha];simp only[Ae];cases vfrc l 2 g x known with
 |none=>rfl
 |some v=>rfl
def SpOk(out:List AB):Prop:=∀s,s∈out->s.Curve.Points.length<=16
theorem Uu{l:List Ac}(hb:VBk l){g known:Int}{w:AJ}{out out':List AB}{x:Au}(hO:SpOk out)(h:spS l g known w out x=some out'):SpOk out':=by
 unfold spS at h;split at h
 ·cases h
 ·rename_i c hc;have hp:=(Ut hb hc).2.2;cases h;split
  ·rename_i q hq;have pA:=hO q (List.mem_of_getLast? hq);split
   ·intro s hs;rcases Cq.1 hs with h|h
    ·exact hO s ((List.dropLast_sublist out).subset h)
    ·cases Ce.1 h;exact pA
   ·intro s hs;rcases Cq.1 hs with h|h
    ·exact hO s h
    ·cases Ce.1 h;exact hp
  ·intro s hs;rcases Cq.1 hs with h|h
   ·exact hO s h
   ·cases Ce.1 h;exact hp
theorem jz9r{a b:AH}(h:a.Points.length<=16):Ht a b=some (decide (a.Points=b.Points)):=by unfold Ht;rw[jz3k (by omega)];rfl
theorem Uv{l:List AF}(h:0<l.length)(h2:l.length<=16):Ho l=some l:=by unfold Ho;rw[ck_t];simp;omega
theorem kzaa{l:List Ac}(hl:l.length<=1000)(hb:VBk l){g known:Int}{w:AJ}{out:List AB}{x:Au}(hO:SpOk out)(hn:out.length<=100000) :
  K8 g known l w x out=some (match spS l g known w out x with | none=>.inr ([],8) | some o=>.inl o):=by
 unfold K8 spS;simp only;rw[PA hl hb.asc];cases hv:vfrc l 1 g x.From known with
 |none=>rfl
 |some c =>
  obtain⟨hc,gZ,hp⟩:=Ut hb hv;simp only[Ae,Option.isSome_some,De];rw[AX,jz9h hl hb.asc];simp only[Ae];generalize vdat l g x.From known=d;rcases List.eq_nil_or_concat out with rfl|⟨M,q,rfl⟩
  ·simp only[List.length_nil,Int.ofNat_zero,Int.lt_irrefl,decide_false,Dt,Bool.true_or,DZ,AP,Ae,CM,AX];rw[Uv gZ hp];simp only[Ae];rw[ck_d (by simp)];rfl
  ·rw[List.concat_eq_append]at *;have hq:q.Curve.Points.length<=16:=hO q (by simp);have h0:decide (0<(List.length (M++[q]):Int))=true:=by simp
   have aP:At .i64 ((List.length (M++[q]):Int)-1)=true:=by simp only[BN,Df]at hn ⊢;simp[At];omega
   simp only[h0,aP,PH,De,Bool.or_true,DZ,AR,Ae,BP];have gl:(M++[q]).getLast?=some q:=List.getLast?_concat;simp only[gl];by_cases hd:q.Datum=d
   ·subst hd;simp only[decide_true,De,Bool.false_or,DZ,AR,Ae,BP,jz9r hq];by_cases he:q.Curve.Points=c.Curve.Points
    ·rw[it_d he,Ap ⟨trivial,he⟩,List.dropLast_concat];simp only[Ae,PF]
    ·rw[it_n he,Aj (fun e=>he e.2)];show(bd (Ho c.Curve.Points) _:Option _)=_;rw[Uv gZ hp];simp only[Ae];rw[ck_d (by simp at hn ⊢;omega)]
   ·have dU:decide (q.Datum=d)=false:=BA hd;simp only[dU,Dt,Bool.true_or,DZ,AP,Ae,CM,AX,Aj (fun e:q.Datum=d/\q.Curve.Points=c.Curve.Points=>hd e.1)];rw[Uv gZ hp];simp only[Ae];rw[ck_d (by simp at hn ⊢;omega)]
def spF(l:List Ac)(g known:Int)(w:AJ):List Au->List AB->Option (List AB)
 |[],out=>some out
 |x :: xs,out=>match spS l g known w out x with
  |none=>none
  |some o=>spF l g known w xs o
theorem jz9i{l:List Ac}(hl:l.length<=1000)(hb:VBk l){g known:Int}{w:AJ}:∀(xs:List Au) (out:List AB),SpOk out->out.length+xs.length<=100000 ->
  Bh (K8 g known l w) xs out=some (match spF l g known w xs out with | none=>.inr ([],8) | some o=>.inl o)
 |[],out,_,_=>rfl
 |x :: xs,out,hO,hn=>by
  simp only[CZ]at hn;simp only[Bh,spF];rw[kzaa hl hb hO (by omega)];cases hs:spS l g known w out x with
  |none=>rfl
  |some o =>have:=Us hs;exact jz9i hl hb xs o (Uu hb hO hs) (by omega)
theorem jz87{l:List Ac}{g known:Int}{w:AJ}:∀(xs:List Au) (out out':List AB),spF l g known w xs out=some out'->out'.length<=out.length+xs.length
 |[],out,out',h=>by cases h;simp
 |x :: xs,out,out',h=>by
  simp only[spF]at h;split at h
  ·cases h
  ·rename_i o hs;have:=Us hs;have:=jz87 xs o out' h;simp only[CZ];omega
theorem jz83{l:List Ac}(hb:VBk l){g known:Int}{w:AJ}:∀(xs:List Au) (out out':List AB),SpOk out->spF l g known w xs out=some out'->SpOk out'
 |[],out,out',hO,h=>by cases h;exact hO
 |x :: xs,out,out',hO,h=>by
  simp only[spF]at h;split at h
  ·cases h
  ·rename_i o hs;exact jz83 hb xs o out' (Uu hb hO hs) h
theorem jz80{l:List Ac}(hl:l.length<=1000)(hb:VBk l){g known:Int}{w:AJ}{E:List Int}(hE:E.length<=50000) :
  lp (NW g known l E w) (0,[])=some (match spF l g known w (prs E) [] with | none=>.inr ⟨[],8⟩ | some o=>.inl o):=by
 have hn:=HS E
 obtain⟨o,e,ho⟩:=DA (s:=((0:Int),([]:List AB))) (body:=NW g known l E w) (fun s=>∃k:Nat,∃out,s=((k:Int),out)/\k<=(prs E).length/\SpOk out/\out.length<=k/\spF l g known w (prs E) []=spF l g known w ((prs E).drop k) out) (fun s=>(E.length-s.1).toNat) (fun o=>o=(match spF l g known w (prs E) [] with | none=>.inr ⟨[],8⟩ | some o=>.inl o)) (by
  rintro s ⟨k,out,rfl,hk,hO,eW,hF⟩;simp only[NW];rw[AA];by_cases hlt:k+1<E.length
  ·have hx:=PE E k hlt;have hd:(prs E).drop k=⟨E[k],E[k+1]⟩ :: (prs E).drop (k+1):=by rw[JK (by omega)];congr 1;have:=(AM.1 hx).2;exact this
   have a1:at? E (k:Int)=some E[k]:=at_e rfl (AD (by omega));have a2:at? E ((k:Int)+1)=some E[k+1]:=at_e (n:=k+1) (by omega) (AD hlt);rw[it_d];simp only[a1,a2,Ae];rw[hd]at hF;simp only[spF]at hF;have mY:spS l g known w out ⟨E[k],E[k+1]⟩=spS l g known w out ⟨E[k],E[k+1]⟩:=rfl;generalize E[k]=a at *;generalize E[k+1]=b at *;obtain⟨j,hj,pB⟩:=PB (l:=l) hl 1 g a known;rw[hj];simp only[Ae];rcases pB with ⟨rfl,hv⟩|⟨i,c,rfl,hi,hv⟩
   ·right;rw[it_d];have:spS l g known w out ⟨a,b⟩=none:=by unfold spS;rw[hv]
    rw[this]at hF;exact⟨_,rfl,by rw[hF]⟩
   ·left;obtain⟨hc,gZ,hp⟩:=Ut hb hv;rw[it_n (by omega),AA];simp only[at_e rfl hi,Ae];obtain⟨j2,pC,h2⟩:=PB (l:=l) hl 2 g a known;rw[pC];simp only[Ae]
    have hB:ite' (decide (0<=j2)) (bd (at? l j2) fun x6=>some (AB.mk a b w x6.Shift c.Curve)) (some (AB.mk a b w 0 c.Curve))=some (AB.mk a b w (vdat l g a known) c.Curve):=by
     rcases h2 with ⟨rfl,gc⟩|⟨i2,c2,rfl,jq,gc⟩
     ·rw[it_n];unfold vdat;rw[gc]
     ·rw[it_d,at_e rfl jq];unfold vdat;rw[gc];rfl
    rw[hB];simp only[Ae];have hS:∀o,spS l g known w out ⟨a,b⟩=some o->spF l g known w (prs E) []=spF l g known w ((prs E).drop (k+1)) o/\SpOk o/\o.length<=k+1:=fun o ho=>by have:=Us ho;rw[ho]at hF;exact⟨hF,Uu hb hO ho,by omega⟩
    have key:∀o,spS l g known w out ⟨a,b⟩=some o->∃s',some (Sum.inl (((k:Int)+1),o):(Int×List AB)⊕(List AB⊕Bw))=some (Sum.inl s')/\(∃k':Nat,∃out,s'=((k':Int),out)/\k'<=(prs E).length/\SpOk out/\out.length<=k'/\spF l g known w (prs E) []=spF l g known w ((prs E).drop k') out)/\(E.length-s'.1).toNat<(E.length-((k:Int),out).1).toNat:=fun o ho=>by obtain⟨q1,q2,q3⟩:=hS o ho;exact⟨_,rfl,⟨k+1,o,by simp,by omega,q2,q3,q1⟩,by simp only;omega⟩
    have bv:spS l g known w out ⟨a,b⟩=some (match out.getLast? with
      |some q=>if q.Datum=vdat l g a known/\q.Curve.Points=c.Curve.Points then out.dropLast++[⟨q.From,b,q.Weight,q.Datum,q.Curve⟩] else out++[⟨a,b,w,vdat l g a known,c.Curve⟩]
      | none=>out++[⟨a,b,w,vdat l g a known,c.Curve⟩]):=by unfold spS;rw[hv];(try (cases out.getLast?<;>rfl))
    have cm:=key _ bv;clear key bv hS hB;generalize vdat l g a known=d at *;rcases List.eq_nil_or_concat out with rfl|⟨M,q,rfl⟩
    ·rw[it_n (by simp)];simp only[Ae];rw[ck_d (by simp),AA];exact cm
    ·rw[List.concat_eq_append]at *;have hq:q.Curve.Points.length<=16:=hO q (by simp);have gl:(M++[q]).getLast?=some q:=List.getLast?_concat;simp only[gl,List.dropLast_concat]at cm;have cN:(M++[q]).length=M.length+1:=(by simp);rw[it_d (by rw[cN];omega),AA (by rw[cN];omega),PH];simp only[Ae];rw[PC (by omega)];simp only[Ae,L1];by_cases he:q.Curve.Points=c.Curve.Points
     ·by_cases dU:q.Datum=d;·rw[Ap ⟨dU,he⟩]at cm;rw[it_t (by simp[he,dU]),AA (by rw[cN];omega)];simp only[Ae,PF];rw[AA];exact cm
      ·rw[Aj (fun e=>dU e.1)]at cm;rw[it_f (by simp[dU])];simp only[Ae];rw[ck_d (by simp at eW ⊢;omega),AA];exact cm
     ·rw[Aj (fun e=>he e.2)]at cm;rw[it_f (by simp[he])];simp only[Ae];rw[ck_d (by simp at eW ⊢;omega),AA];exact cm
  ·right;rw[it_n];have:(prs E).drop k=[]:=List.drop_eq_nil_of_le (by omega);rw[this]at hF;exact⟨_,rfl,by rw[hF];rfl⟩) ⟨0,[],rfl,Ej _,(fun s hs=>by cases hs),AC _,rfl⟩ (by simp;omega)
 rw[e,ho]
theorem jz8c(a b k:Int):(bif (bif (bif (bif (decide (a<0)) then true else(decide (b<a))) then true else(decide (1402560<b))) then true else(decide (k<0))) then true else(decide (14609<k)))=decide (¬(0<=a/\a<=b/\b<=1402560/\0<=k/\k<=14609)):=by simp only[JB];rw[HU];simp only[Fx,BE];omega
noncomputable def FX(l:List Ac)(g:Int)(t:Au)(known:Int)(w:AJ)(E:List Int):List AB×Int :=
 if vchE l≠0 then([],vchE l) else if ¬Vd w then([],1) else if ¬(0<=t.From/\t.From<=t.To/\t.To<=1402560/\0<=known/\known<=14609) then([],3) else match spF l g known w (prs E) [] with
 |none=>([],8)
 |some o=>(o,0)
theorem jz9a{l:List Ac}{g:Int}{t:Au}{known:Int}{w:AJ}(hs:VsSz l)(hw:Sz 134217728 w):∃E,(vchE l=0->Eds l g t.From t.To E/\E.length<=2*l.length+2)/\G0 l g t known w=some (FX l g t known w E):=by
 by_cases hl:l.length<=10000;rotate_left
 ·have hc:vchE l≠0:=fun e=>hl (by have:=(EA.1 e).1;omega);refine⟨[],fun e=>absurd e hc,?_⟩;unfold G0 FX;rw[FU hs];simp only[Ae];rw[B9 hc,Ap hc]
 obtain⟨E,hE,pD,mZ⟩:=jz0n (l:=l) (g:=g) (f:=t.From) (t:=t.To) hl;refine⟨E,fun _=>⟨pD,mZ⟩,?_⟩;unfold G0 FX;rw[FU hs];simp only[Ae];by_cases hc:vchE l=0;rotate_left
 ·rw[B9 hc,Ap hc]
 rw[Bf hc,Aj (fun e=>e hc),SC hw];simp only[Ae];by_cases hv:Vd w;rotate_left
 ·rw[B9 hv,Ap hv]
 rw[Bf hv,Aj (fun e=>e hv),jz8c];by_cases hr:0<=t.From/\t.From<=t.To/\t.To<=1402560/\0<=known/\known<=14609;rotate_left
 ·rw[it_d hr,Ap hr]
 rw[it_n (fun e=>e hr),Aj (fun e=>e hr)];obtain⟨lW,hb⟩:=EA.1 hc;have cC:=HS E;have hf:=jz9i (l:=l) (by omega) hb (g:=g) (known:=known) (w:=w) (prs E) [] (fun s hs=>by cases hs) (by simp;omega);obtain⟨ys,h1,h2⟩:=jz0m (by omega) hf;rw[show Gy l g t=some E from hE];simp only[Ae];rw[h1];simp only[Ae];rw[h2];simp only[Ae];cases spF l g known w (prs E) []<;>rfl
theorem jz93{l:List Ac}{g:Int}{t:Au}{known:Int}{w:AJ}(hs:VsSz l)(hw:Sz 134217728 w){E:List Int}(hEE:vchE l=0->Eds l g t.From t.To E/\E.length<=2*l.length+2):NX l g t known w=some ⟨(FX l g t known w E).1,(FX l g t known w E).2⟩:=by
 unfold NX FX;rw[jzz4 hs];simp only[Ae];by_cases hc:vchE l=0;rotate_left
 ·rw[B9 hc,Ap hc]
 rw[Bf hc,Aj (fun e=>e hc),SE hw];simp only[Ae];by_cases hv:Vd w;rotate_left
 ·rw[B9 hv,Ap hv]
 rw[Bf hv,Aj (fun e=>e hv),jz8c];by_cases hr:0<=t.From/\t.From<=t.To/\t.To<=1402560/\0<=known/\known<=14609;rotate_left
 ·rw[it_d hr,Ap hr]
 rw[it_n (fun e=>e hr),Aj (fun e=>e hr)];obtain⟨lW,hb⟩:=EA.1 hc;obtain⟨E',h1,h2⟩:=jz71 (l:=l) (g:=g) (f:=t.From) (t:=t.To) (by omega) hr.1 hr.2.1 hr.2.2.1;obtain⟨hE,mZ⟩:=hEE hc;obtain rfl:=h2.uniq hE;rw[h1];simp only[Ae];rw[jz80 (by omega) hb (by omega)];simp only[Ae];cases spF l g known w (prs E') []<;>rfl
theorem jz9l{l:List Ac}{g:Int}{t:Au}{known:Int}{w:AJ}{E:List Int}(hEE:vchE l=0->Eds l g t.From t.To E/\E.length<=2*l.length+2):(FX l g t known w E).1.length<=1000/\SpOk (FX l g t known w E).1:=by
 unfold FX;split
 ·exact⟨by simp,fun s hs=>by cases hs⟩
 ·rename_i hc;obtain⟨lW,hb⟩:=EA.1 (Classical.not_not.1 hc);split
  ·exact⟨by simp,fun s hs=>by cases hs⟩
  ·split;·exact⟨by simp,fun s hs=>by cases hs⟩
   ·cases h:spF l g known w (prs E) [] with
    |none=>exact⟨by simp,fun s hs=>by cases hs⟩
    |some o =>have:=jz87 _ _ _ h;have h2:=HS E;have h3:=(hEE (Classical.not_not.1 hc)).2;refine⟨by simp only[List.length_nil]at this;show o.length<=1000;omega,jz83 hb _ _ _ (fun s hs=>by cases hs) h⟩
theorem jz74{a:List AB}(h:a.length<=1000000)(ho:SpOk a):ID a a=some true:=by
 unfold ID;rw[Bf rfl,GM (l:=a) (ω:=Bool) (fun k x=>none) (by omega) ?_ ?_]
 ·rw[Ug _ _ (fun _ _ _=>rfl)];rfl
 ·intro k x hx;have hk:=(AM.1 hx).1;simp only[Ry];rw[it_d];simp only[at_e rfl hx,Ae];rw[PC (by have:=ho x (Dw hx);omega)];simp[AR,Ae];rw[AX,AA]
 ·simp only[Ry];rw[it_n]
theorem vpts{v:Ac}(h:VRi v):v.Curve.Points.length<=16:=by
 rcases h.2 with h|h|h
 ·have he:=h.2.2;unfold GN at he;split at he
  ·cases he
  ·omega
 ·omega
 ·omega
def dif(kind:Int)(x y:Option Ac):Bool:=match y with
 |none=>false
 |some b=>match x with
  |none=>decide (kind=1)||!decide (b.Shift=0)
  |some a=>!decide (a.Curve.Points=b.Curve.Points)||!decide (a.Shift=b.Shift)
def chSt(l m:List Ac)(k g known:Int)(out:List Au)(x:Au):List Au:=bif dif k (vfrc l k g x.From known) (vfrc m k g x.From known) then outJ out x.From x.To else out
theorem Uw{l m:List Ac}{k g known:Int}{out:List Au}{x:Au}:(chSt l m k g known out x).length<=out.length+1:=by
 unfold chSt;cases dif k (vfrc l k g x.From known) (vfrc m k g x.From known) with
 |true=>exact jz94 _ _ _
 |false=>simp
theorem vin{l:List Ac}(hb:VBk l){k g x known:Int}{c:Ac}(h:vfrc l k g x known=some c):c∈l/\c.Curve.Points.length<=16:=by obtain⟨h1,h2⟩:=Up k g x known _ l rfl c h;exact⟨h1,vpts (hb.right c h1)⟩
theorem PI{out:List Au}{x:Au}{U:Type}{K:List Au->Option U}(hn:out.length<=100000) :
    (ck (!(decide (0<(List.length out:Int)))||At .i64 ((List.length out:Int)-1)) <|
     bd (gd (decide (0<(List.length out:Int))) (at? out ((List.length out:Int)-1))) fun x6 =>
     ite' (bif (decide (0<(List.length out:Int))) then(decide (x6.To=x.From)) else false) (
       ck (At .i64 ((List.length out:Int)-1)) <|
       bd (at? out ((List.length out:Int)-1)) fun x7 =>
       K (List.set out (Int.toNat ((List.length out:Int)-1)) (Au.mk x7.From x.To))) (
       ck (decide (List.length (out++[x])*16<=140737488355328)) <|
       K (out++[x])))=K (outJ out x.From x.To):=by
  rcases List.eq_nil_or_concat out with rfl|⟨M,q,rfl⟩
  · simp only[List.length_nil,Int.ofNat_zero,Int.lt_irrefl,decide_false,Dt,Bool.true_or,DZ,AP,Ae,CM,AX]
    rw[ck_d (by simp)];rfl
  · rw[List.concat_eq_append]at *
    have h0:decide (0<(List.length (M++[q]):Int))=true:=(by simp);have aP:At .i64 ((List.length (M++[q]):Int)-1)=true:=(by simp only[BN,Df]at hn ⊢;simp[At];omega);have gl:(M++[q]).getLast?=some q:=List.getLast?_concat;simp only[h0,aP,PH,De,Bool.or_true,DZ,AR,Ae,BP,outJ,gl,PF,List.dropLast_concat];by_cases hd:q.To=x.From
    · rw[it_d hd,Ap hd]
    · rw[it_n hd,Aj hd,ck_d (by simp at hn ⊢;omega)]
theorem kzab{l m:List Ac}(hl:l.length<=1000)(hb:VBk l)(hm:m.length<=1000)(dY:VBk m){v:Ac}{e known:Int}{out:List Au}{x:Au}(hn:out.length<=100000) :
  KC known l (m,e) v x out=some (.inl (chSt l m v.Kind v.Gauge known out x)):=by
 unfold KC chSt;simp only;rw[PA hl hb.asc];simp only[Ae];rw[PA hm dY.asc];simp only[Ae];cases hy:vfrc m v.Kind v.Gauge x.From known with
 |none =>have hd:∀x,dif v.Kind x none=false:=fun x=>rfl;simp only[Option.isSome_none,Dt,De,PX,AP,Ae,BP,hd,CM];rw[Do];simp only[Ae]
 |some b =>
  cases hx:vfrc l v.Kind v.Gauge x.From known with
  |none =>
   simp only[Option.isSome_none,Option.isSome_some,Dt,De,PY,BP,CM,AP,Ae];by_cases hk:v.Kind=1
   ·simp only[hk,decide_true,De,AP,Ae,CM,AX];have hd:dif 1 none (some b)=true:=rfl;rw[hd];exact PI (K:=fun l=>some (Sum.inl l)) hn
   ·have dr:decide (v.Kind=1)=false:=BA hk;simp only[dr,Dt,AR,Ae,BP];have hd:dif v.Kind none (some b)=!decide (b.Shift=0):=by simp[dif,hk]
    rw[hd];by_cases h0:b.Shift=0
    ·rw[it_d h0];simp only[Ae,h0,decide_true,De,CM]
    ·rw[it_n h0];simp only[Ae,h0,decide_false,Dt,BP,AX];exact PI (K:=fun l=>some (Sum.inl l)) hn
  |some a =>
   have ha:=(vin hb hx).2;simp only[Option.isSome_some,De,Dt,Bool.and_false,AP,AR,Ae,CM,BP,AX];have hd:dif v.Kind (some a) (some b)=(!decide (a.Curve.Points=b.Curve.Points)||!decide (a.Shift=b.Shift)):=rfl;rw[hd];by_cases h0:a.Shift=b.Shift
   ·simp only[h0,decide_true,AR,Ae,BP,jz9r ha];by_cases he:a.Curve.Points=b.Curve.Points
    ·rw[it_d he];simp only[Ae,he,decide_true,De,Lr,CM]
    ·rw[it_n he];simp only[Ae,he,decide_false,Dt,Bool.true_or,BP];exact PI (K:=fun l=>some (Sum.inl l)) hn
   ·simp only[h0,decide_false,AP,Ae,CM,AX,Dt,Bool.or_true,BP];exact PI (K:=fun l=>some (Sum.inl l)) hn
theorem jz88{l m:List Ac}(hl:l.length<=1000)(hb:VBk l)(hm:m.length<=1000)(dY:VBk m){v:Ac}{e known:Int}:∀(xs:List Au) (out:List Au),out.length+xs.length<=100000 ->
  Bh (KC known l (m,e) v) xs out=some (.inl (xs.foldl (chSt l m v.Kind v.Gauge known) out))
 |[],out,_=>rfl
 |x :: xs,out,hn=>by simp only[CZ]at hn;simp only[Bh];rw[kzab hl hb hm dY (by omega)];have:=Uw (l:=l) (m:=m) (k:=v.Kind) (g:=v.Gauge) (known:=known) (out:=out) (x:=x);exact jz88 hl hb hm dY xs _ (by omega)
theorem jz98{l m:List Ac}(hl:l.length<=1000)(hb:VBk l)(hm:m.length<=1000)(dY:VBk m){v:Ac}{x known:Int}:ND l m v x known=some (dif v.Kind (vfrc l v.Kind v.Gauge x known) (vfrc m v.Kind v.Gauge x known)):=by
 unfold ND;obtain⟨i,e1,h1⟩:=PB hl v.Kind v.Gauge x known;obtain⟨j,e2,h2⟩:=PB hm v.Kind v.Gauge x known;rw[e1,e2];simp only[Ae];rcases h2 with ⟨rfl,hy⟩|⟨j,b,rfl,hj,hy⟩
 ·rw[it_d,hy];rfl
 ·rw[it_n (by omega),hy];rcases h1 with ⟨rfl,hx⟩|⟨i,a,rfl,hi,hx⟩
  ·rw[it_d,hx,at_e rfl hj];by_cases hk:v.Kind=1
   ·simp[hk,AP,Ae,dif]
   ·simp[hk,AR,Ae,dif]
  ·have ha:=(vin hb hx).2;rw[it_n (by omega),hx,at_e rfl hi,at_e rfl hj];simp only[Ae];rw[PC (by omega)];simp only[Ae];by_cases he:a.Curve.Points=b.Curve.Points
   ·simp[he,AR,Ae,dif]
   ·simp[he,AP,Ae,dif]
theorem kzax{l m:List Ac}(hl:l.length<=1000)(hb:VBk l)(hm:m.length<=1000)(dY:VBk m){v:Ac}{known:Int}{b:Ba}(hB:b.L=m){E:List Int}(hE:E.length<=50000) :
  lp (NZ known l b E v) (0,[])=some ((prs E).foldl (chSt l m v.Kind v.Gauge known) []):=by
 have hn:=HS E
 have key:∀k,((prs E).take k).foldl (chSt l m v.Kind v.Gauge known) []=((prs E).take k).foldl (chSt l m v.Kind v.Gauge known) []/\(((prs E).take k).foldl (chSt l m v.Kind v.Gauge known) []).length<=k:=by
  intro k;refine⟨rfl,?_⟩
  have gen:∀(xs:List Au) (o:List Au),(xs.foldl (chSt l m v.Kind v.Gauge known) o).length<=o.length+xs.length:=by
   intro xs;induction xs with
   |nil=>intro o;simp
   |cons x xs ih =>intro o;have:=Uw (l:=l) (m:=m) (k:=v.Kind) (g:=v.Gauge) (known:=known) (out:=o) (x:=x);have:=ih (chSt l m v.Kind v.Gauge known o x);simp only[List.foldl_cons,CZ];omega
  have:=gen ((prs E).take k) [];simp only[Eg,List.length_nil]at this;omega
 refine J7 (l:=prs E) (fun k=>((k:Int),((prs E).take k).foldl (chSt l m v.Kind v.Gauge known) [])) (by omega) (fun k x hx=>?_) ?_ rfl
 ·have hk:=(AM.1 hx).1;have fd:=PE E k (by omega);rw[hx]at fd;have fd:=BD fd;have a1:at? E (k:Int)=some x.From:=by rw[fd];exact at_e rfl (AD (by omega))
  have a2:at? E ((k:Int)+1)=some x.To:=by rw[fd];exact at_e (n:=k+1) (by omega) (AD (by omega))
  have aD:=(key k).2;rw[FT hx,List.foldl_append];simp only[List.foldl_cons,List.foldl_nil];generalize ((prs E).take k).foldl (chSt l m v.Kind v.Gauge known) []=out at aD ⊢;simp only[NZ];rw[AA,it_d,a1,hB];simp only[Ae];rw[jz98 hl hb hm dY];simp only[Ae];unfold chSt;cases dif v.Kind (vfrc l v.Kind v.Gauge x.From known) (vfrc m v.Kind v.Gauge x.From known) with
  |false =>simp only[Dt,Do,Ae,CM];rw[AA];rfl
  |true =>
   simp only[De,AX,Ae,BP,a2];rcases List.eq_nil_or_concat out with rfl|⟨M,q,rfl⟩
   ·simp only[List.length_nil,Int.ofNat_zero,Int.lt_irrefl,decide_false,Dt,Bool.true_or,DZ,AP,Ae,CM,AX];rw[AA,ck_d (by simp),AA];rfl
   ·rw[List.concat_eq_append]at *;have h0:decide (0<(List.length (M++[q]):Int))=true:=(by simp);have aP:At .i64 ((List.length (M++[q]):Int)-1)=true:=(by simp only[BN,Df]at aD ⊢;simp[At];omega);have gl:(M++[q]).getLast?=some q:=List.getLast?_concat;simp only[h0,aP,PH,De,Bool.or_true,DZ,AR,Ae,BP,outJ,gl,PF,List.dropLast_concat];by_cases hd:q.To=x.From
    ·rw[it_d hd,Ap hd,AA,AA];rfl
    ·rw[it_n hd,Aj hd,AA,ck_d (by simp at aD ⊢;omega),AA];rfl
 ·simp only[NZ];rw[AA,it_n,List.take_length]
theorem jz9p{l:List Ac}{v:Ac}{known:Int}(hs:VsSz l)(hv:CSz v.Curve):∃y:List Au×Int,IN l v known=some y/\Oa l v known=some ⟨y.1,y.2⟩/\y.1.length<=1000 /\ ∃b:List Ac×Int,Cu l v=some b/\VAdd (some b) l v/\((b.2≠0/\y=([],b.2))\/(b.2=0/\¬(0<=known/\known<=14609)/\y=([],3)) \/ (b.2=0/\(0<=known/\known<=14609)/\y.2=0/\∃E,Eds l v.Gauge v.From v.To E/\y.1=(prs E).foldl (chSt l b.1 v.Kind v.Gauge known) []/\E.length<=1000)):=by
 obtain⟨b,e1,jI⟩:=jz28 hs hv;have e2:=(jz3j hs hv).uniq jI;unfold IN Oa;rw[e1,e2];simp only[Ae];by_cases hE:b.E=0;rotate_left
 ·rw[B9 hE,B9 hE];exact⟨_,rfl,rfl,by simp,_,rfl,jI,.inl ⟨hE,rfl⟩⟩
 rw[Bf hE,Bf hE];by_cases hk:0<=known/\known<=14609;rotate_left
 ·rw[it_t (by simp only[JB,Fx,BE];omega),it_t (by simp only[JB,Fx,BE];omega)];exact⟨_,rfl,rfl,by simp,_,rfl,jI,.inr (.inl ⟨hE,hk,rfl⟩)⟩
 rw[it_f (by simp only[JB,UB,U5];omega),it_f (by simp only[JB,UB,U5];omega)];have jJ:=jI;rw[hE]at jJ;obtain⟨hc,gP,kz,qd,pE⟩:=jJ.bk hs hv;obtain⟨lW,hb⟩:=EA.1 hc;obtain⟨qe,dY⟩:=EA.1 kz;obtain⟨E,p1,p2,p3⟩:=jz0n (l:=l) (g:=v.Gauge) (f:=v.From) (t:=v.To) (by omega);obtain⟨E',q1,q2⟩:=jz71 (l:=l) (g:=v.Gauge) (f:=v.From) (t:=v.To) (by omega) gP.1.2.2.2.1 (by have:=gP.1.2.2.2.2;omega) gP.1.2.2.2.2.2;obtain rfl:=q2.uniq p2;have hn:=HS E';have hf:=jz88 (by omega) hb (by omega) dY (v:=v) (e:=b.E) (known:=known) (prs E') [] (by simp;omega);obtain⟨ys,h1,h2⟩:=jz0m (by omega) hf;rw[p1,q1];simp only[Ae];rw[h1,kzax (by omega) hb (by omega) dY rfl (by omega)];simp only[Ae];rw[h2];refine⟨_,rfl,rfl,?_,_,rfl,jI,.inr (.inr ⟨hE,hk,rfl,E',p2,rfl,by omega⟩)⟩
 have gen:∀(xs:List Au) (o:List Au),(xs.foldl (chSt l b.L v.Kind v.Gauge known) o).length<=o.length+xs.length:=by
  intro xs;induction xs with
  |nil=>intro o;simp
  |cons x xs ih =>intro o;have:=Uw (l:=l) (m:=b.L) (k:=v.Kind) (g:=v.Gauge) (known:=known) (out:=o) (x:=x);have:=ih (chSt l b.L v.Kind v.Gauge known o x);simp only[List.foldl_cons,CZ];omega
 have:=gen (prs E') [];simp only[List.length_nil]at this;show(List.foldl _ [] (prs E')).length<=1000;omega
end Go.Am

namespace Go.Am
set_option maxRecDepth 100000 in
theorem PJ:KD=some true:=by decide +kernel
theorem kza6{l:List Ac}{v:Ac}{q:BC}:RL l v q=some true:=by
 unfold RL;obtain⟨b,e,hb⟩:=jz09 l 20;obtain⟨c,ec,hc⟩:=wz9q v.Curve;rw[e];simp only[Ae];cases b
 ·simp only[Dt,De,AP,Ae,BP];rw[Do,PJ];rfl
 simp only[Dt,De,AR,CM];rw[ec];simp only[Ae];cases c
 ·simp only[Dt,BP];rw[Do,PJ];rfl
 simp only[De,CM];by_cases hw:30<q.Weight.Num.length\/30<q.Weight.Den.length
 ·rw[it_t (by simp only[JB,Fx,BE];omega),PJ];rfl
 rw[it_f (by simp only[JB,UB,U5];omega)];have hs:=hb rfl;have hv:=hc rfl;have hz:Sz 134217728 q.Weight:=⟨by omega,by omega⟩;obtain⟨E,hE,e1⟩:=jz9a (g:=q.Gauge) (t:=q.Ticks) (known:=q.Known) hs hz;obtain⟨n1,n2⟩:=jz9l (g:=q.Gauge) (known:=q.Known) (w:=q.Weight) hE;rw[e1,jz93 hs hz hE];simp only[Ae];obtain⟨y,c1,c2,c3,_⟩:=jz9p (l:=l) (v:=v) (known:=q.Known) hs hv;rw[c1,c2,PJ];simp only[Ae,decide_true,BP,AR];rw[jz74 (by omega) n2];simp only[Ae,BP,AR];rw[jz2x (by omega)];rfl
end Go.Am

