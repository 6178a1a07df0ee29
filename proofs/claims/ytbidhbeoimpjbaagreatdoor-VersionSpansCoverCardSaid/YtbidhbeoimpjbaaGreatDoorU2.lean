/- Part U2: the mathematics of the functions of this seat. No condition. -/
import Derived.Test.YtbidhbeoimpjbaaGreatDoorU1
set_option linter.unusedSimpArgs false
set_option linter.unusedVariables false
namespace Go.Am
def isEd(l:List Ac)(g x:Int):Prop:=∃v,v∈l/\v.Gauge=g/\(x=v.From\/x=v.To)
structure Eds(l:List Ac)(g f t:Int)(E:List Int):Prop where
 asc:SAsc E
 mem:∀x,x∈E↔x=f\/x=t\/(isEd l g x/\f<x/\x<t)
theorem Eds.uniq{l:List Ac}{g f t:Int}{D E:List Int}(h:Eds l g f t D)(k:Eds l g f t E):D=E:=ZH h.asc k.asc fun x=>(h.mem x).trans (k.mem x).symm
def pin(g f t:Int)(v:Ac)(m:List (Int×Bool))(x:Int):List (Int×Bool):=if v.Gauge=g/\f<x/\x<t then mput keqI m x true else m
theorem ZY{g f t x:Int}{v:Ac}{m:List (Int×Bool)}(h:(m.map (·.1)).Nodup):((pin g f t v m x).map (·.1)).Nodup:=by
 unfold pin;split
 ·exact TX h
 ·exact h
theorem ZZ{g f t x y:Int}{v:Ac}{m:List (Int×Bool)}:y∈(pin g f t v m x).map (·.1)↔y∈m.map (·.1)\/(y=x/\v.Gauge=g/\f<x/\x<t):=by
 unfold pin;split
 ·rename_i h;rw[TY];simp[h]
 ·rename_i h;simp[h]
theorem jz82{g f t x:Int}{v:Ac}{m:List (Int×Bool)}:(pin g f t v m x).length<=m.length+1:=by
 unfold pin;split
 ·exact TZ
 ·omega
def pins(g f t:Int)(m:List (Int×Bool))(v:Ac):List (Int×Bool):=pin g f t v (pin g f t v m v.From) v.To
theorem jz8w{g f t:Int}:∀(l:List Ac) (m:List (Int×Bool)),(m.map (·.1)).Nodup->((l.foldl (pins g f t) m).map (·.1)).Nodup/\(∀y,y∈(l.foldl (pins g f t) m).map (·.1)↔y∈m.map (·.1)\/(isEd l g y/\f<y/\y<t))/\(l.foldl (pins g f t) m).length<=m.length+2*l.length
 |[],m,h=>⟨h,fun y=>⟨.inl,fun e=>e.elim id fun⟨⟨v,hv,_⟩,_⟩=>by cases hv⟩,by simp⟩
 |v :: l,m,h=>by
  obtain⟨h1,h2,h3⟩:=jz8w l (pins g f t m v) (ZY (ZY h));refine⟨h1,fun y=>(h2 y).trans ?_,?_⟩
  ·unfold pins;rw[ZZ,ZZ];constructor
   ·rintro(((e|⟨rfl,e1,e2⟩)|⟨rfl,e1,e2⟩)|⟨⟨w,hw,e1,e2⟩,e3⟩);·exact .inl e
    ·exact .inr ⟨⟨v,by simp,e1,.inl rfl⟩,e2⟩
    ·exact .inr ⟨⟨v,by simp,e1,.inr rfl⟩,e2⟩
    ·exact .inr ⟨⟨w,by simp[hw],e1,e2⟩,e3⟩
   ·rintro(e|⟨⟨w,hw,e1,e2⟩,e3⟩);·exact .inl (.inl (.inl e))
    ·rcases AI.1 hw with rfl|hw
     ·rcases e2 with rfl|rfl;·exact .inl (.inl (.inr ⟨rfl,e1,e3⟩))
      ·exact .inl (.inr ⟨rfl,e1,e3⟩)
     ·exact .inr ⟨⟨w,hw,e1,e2⟩,e3⟩
  ·show(l.foldl (pins g f t) (pins g f t m v)).length<=_;have:=jz82 (g:=g) (f:=f) (t:=t) (x:=v.From) (v:=v) (m:=m);have:=jz82 (g:=g) (f:=f) (t:=t) (x:=v.To) (v:=v) (m:=pin g f t v m v.From);have h3:(l.foldl (pins g f t) (pins g f t m v)).length<=(pins g f t m v).length+2*l.length:=h3;unfold pins at h3 |-;simp only[Df];omega
theorem kzb7{l:List Int}(h:0<l.length)(h2:l.length<=1000000000):CG l=some (Bj l):=by unfold CG;rw[ck_t];simp;omega
theorem jz9s{g:Int}{t:Aw}{v:Ac}{m:List (Int×Bool)}:lp (D5 g t v) (0,m)=some (pins g t.From t.To m v):=by
 refine Jv (l:=[v.From,v.To]) (fun k=>((k:Int),([v.From,v.To].take k).foldl (pin g t.From t.To v) m)) (by simp) (fun k x hx=>?_) ?_ rfl
 ·have hk:=(AN.1 hx).1;simp only[D5];rw[it_d,at_e rfl hx];simp only[Af];have e:(bif (bif (decide (v.Gauge=g)) then(decide (t.From<x)) else false) then(decide (x<t.To)) else false)=decide (v.Gauge=g/\t.From<x/\x<t.To):=by simp only[P0];rw[GQ];simp[and_assoc]
  rw[e,Fw hx,List.foldl_append];simp only[Df,List.length_nil]at hk;by_cases h:v.Gauge=g/\t.From<x/\x<t.To
  ·rw[it_d h,AA];simp only[List.foldl_cons,List.foldl_nil,pin,Ap h];rfl
  ·rw[it_n h,AA];simp only[List.foldl_cons,List.foldl_nil,pin,Aj h];rfl
 ·simp only[D5];rw[it_n];rfl
theorem jz0n{l:List Ac}{g f t:Int}(hl:l.length<=10000):∃E,Hu l g ⟨f,t⟩=some E/\Eds l g f t E/\E.length<=2*l.length+2:=by
 unfold Hu
 have e:=Jv (body:=Er g l ⟨f,t⟩) (l:=l) (fun k=>((k:Int),(l.take k).foldl (pins g f t) (mput keqI (mput keqI ([]:List (Int×Bool)) f true) t true))) (by omega) (fun k x hx=>by
  have hk:=(AN.1 hx).1;simp only[Er];rw[it_d,at_e rfl hx];simp only[Af];rw[jz9s];simp only[Af];rw[AA,Fw hx,List.foldl_append];rfl) (by
  simp only[Er];rw[it_n]) (s:=((0:Int),mput keqI (mput keqI ([]:List (Int×Bool)) f true) t true)) rfl
 rw[show(0,mput keqI (mput keqI ([]:List (Int×Bool)) (Aw.mk f t).From true) (Aw.mk f t).To true)=((0:Int),mput keqI (mput keqI ([]:List (Int×Bool)) f true) t true) from rfl,e];simp only[Af,List.take_length];obtain⟨h1,h2,h3⟩:=jz8w (g:=g) (f:=f) (t:=t) l (mput keqI (mput keqI ([]:List (Int×Bool)) f true) t true) (TX (TX List.nodup_nil));have hm:∀y,y∈(mput keqI (mput keqI ([]:List (Int×Bool)) f true) t true).map (·.1)↔y=f\/y=t:=fun y=>by rw[TY,TY];simp
 have dx:(mput keqI (mput keqI ([]:List (Int×Bool)) f true) t true).length<=2:=by have:=TZ (k:=t) (m:=mput keqI ([]:List (Int×Bool)) f true);have:=TZ (k:=f) (m:=([]:List (Int×Bool)));simp only[List.length_nil]at this;omega
 generalize l.foldl (pins g f t) (mput keqI (mput keqI ([]:List (Int×Bool)) f true) t true)=M at *;have h0:0<M.length:=by have:f∈M.map (·.1):=(h2 f).2 (.inl ((hm f).2 (.inl rfl)));have:=List.length_pos_of_mem this;simpa using this
 rw[kzb7 (l:=M.map (fun p=>p.1)) (by simpa using h0) (by rw[JC];omega)];refine⟨Bj (M.map (·.1)),rfl,⟨ZJ _ h1,fun x=>?_⟩,by rw[ZL,JC];omega⟩;rw[TW,h2,hm,or_assoc]
end Go.Am

namespace Go.Am
def prs:List Int->List Aw
 |a :: b :: l=>⟨a,b⟩ :: prs (b :: l)
 |_=>[]
theorem Px:∀l:List Int,(prs l).length=l.length-1
 |[]=>rfl
 |[a]=>rfl
 |a :: b :: l=>by show(prs (b :: l)).length+1=_;rw[Px (b :: l)];simp
theorem Uh:∀(l:List Int) (k:Nat) (h:k+1<l.length),(prs l)[k]?=some ⟨l[k],l[k+1]⟩
 |[],k,h=>by simp at h
 |[a],k,h=>by simp at h
 |a :: b :: l,0,h=>rfl
 |a :: b :: l,k+1,h=>by have:=Uh (b :: l) k (by simpa using h);simpa [prs] using this
theorem kzb4{α σ ω:Type}(body:α->σ->Option (σ⊕ω)):∀(a b:List α) (s:σ),Bt body (a++b) s=(match Bt body a s with
  |some (.inl s')=>Bt body b s'
  |some (.inr o)=>some (.inr o)
  | none=>none)
 |[],b,s=>rfl
 |x :: a,b,s=>by
  rw[Um];simp only[Bt];cases body x s with
  |none=>rfl
  |some o=>cases o with
   |inl s'=>simp only;exact kzb4 body a b s'
   |inr o=>rfl
theorem jz0m{σ ω:Type}{body:Aw->σ->Option (σ⊕ω)}{s0:σ}{E:List Int}{r:σ⊕ω}(hE:E.length<=1000000)(h:Bt body (prs E) s0=some r) : ∃l,Kp E (fun l=>EL body l s0)=some l/\Bt body l s0=some r:=by
 unfold Kp;have hn:=Px E
 obtain⟨o,e,ho⟩:=Dw (s:=((1:Int),([]:List Aw))) (body:=QY E (fun l=>EL body l s0)) (fun s=>∃k:Nat,s=((k:Int)+1,(prs E).take k)/\k<=(prs E).length/\∃s',Bt body ((prs E).take k) s0=some (.inl s')) (fun s=>(E.length-s.1).toNat) (fun o=>∃l,(o=.inl l\/o=.inr l)/\Bt body l s0=some r) (by
  rintro s ⟨k,rfl,hk,s',aX⟩;simp only[QY];by_cases hlt:k+1<E.length
  ·have hx:=Uh E k hlt;have dF:prs E=(prs E).take (k+1)++(prs E).drop (k+1):=(P7 _ _).symm;have eB:=Fw hx;rw[it_d,AA,at_e (n:=k) (by omega) (AD (by omega)),Af,at_e (n:=k+1) (by omega) (AD hlt)];simp only[Af];rw[<-eB];have h2:=h;rw[dF,kzb4]at h2;unfold EL;cases hq:Bt body ((prs E).take (k+1)) s0 with
   |none=>rw[hq]at h2;cases h2
   |some q=>cases q with
    |inl s2 =>left;simp only[Af];rw[Be,AA];exact⟨_,rfl,⟨k+1,by simp,by omega,s2,hq⟩,by simp only;omega⟩
    |inr o =>right;rw[hq]at h2;simp only[Af];rw[Dp];exact⟨_,rfl,_,.inr rfl,hq.trans h2⟩
  ·right;rw[it_n];have:(prs E).take k=prs E:=Ia (by omega);refine⟨_,rfl,prs E,.inl (by rw[this]),h⟩) ⟨0,rfl,Ej _,s0,rfl⟩ (by simp;omega)
 obtain⟨l,hl,hr⟩:=ho;rw[e];refine⟨l,?_,hr⟩;rcases hl with rfl|rfl<;>rfl
theorem jz7q{α:Type}(M:List α)(q y:α):List.set (M++[q]) (Int.toNat ((List.length (M++[q]):Int)-1)) y=M++[y]:=by rw[show Int.toNat ((List.length (M++[q]):Int)-1)=M.length by simp];rw[List.set_append_right _ _ (AB _)];simp
theorem jz7y{α:Type}(M:List α)(q:α):at? (M++[q]) ((List.length (M++[q]):Int)-1)=some q:=at_e (n:=M.length) (by simp) (by simp)
def vdat(l:List Ac)(g x known:Int):Int:=match vfrc l 2 g x known with
 |some v=>v.Shift
 |none=>0
def spS(l:List Ac)(g known:Int)(w:AJ)(out:List AL)(x:Aw):Option (List AL):=match vfrc l 1 g x.From known with
 |none=>none
 | some c=>some (match out.getLast? with
  |some q=>if q.Datum=vdat l g x.From known/\q.Curve.Points=c.Curve.Points then out.dropLast++[⟨q.From,x.To,q.Weight,q.Datum,q.Curve⟩] else out++[⟨x.From,x.To,w,vdat l g x.From known,c.Curve⟩]
  | none=>out++[⟨x.From,x.To,w,vdat l g x.From known,c.Curve⟩])
theorem jz78{l:List Ac}{g known:Int}{w:AJ}{out out':List AL}{x:Aw}(h:spS l g known w out x=some out'):out'.length<=out.length+1:=by
 unfold spS at h;split at h
 ·cases h
 ·cases h;split
  ·split;·simp
   ·simp
  ·simp
theorem jz8z{l:List Ac}(hb:VBk l){g x known:Int}{c:Ac}(h:vfrc l 1 g x known=some c):c∈l/\0<c.Curve.Points.length/\c.Curve.Points.length<=16:=by
 obtain⟨h1,h2⟩:=Uc 1 g x known _ l rfl c h;have hr:=hb.right c h1;refine⟨h1,?_⟩;have hk:c.Kind=1:=h2.1
 have he:Jw c.Curve=0:=by
  rcases hr.2 with h|h|h
  ·exact h.2.2
  ·omega
  ·omega
 unfold Jw at he;split at he
 ·cases he
 ·omega
theorem jz9h{l:List Ac}(hl:l.length<=1000)(ha:l.Pairwise vlt)(g x known:Int):QT l 2 g x known=some (vdat l g x known):=by
 unfold QT vdat;rw[Ud hl ha];simp only[Af];cases vfrc l 2 g x known with
 |none=>rfl
 |some v=>rfl
def SpOk(out:List AL):Prop:=∀s,s∈out->s.Curve.Points.length<=16
theorem jz8j{l:List Ac}(hb:VBk l){g known:Int}{w:AJ}{out out':List AL}{x:Aw}(hO:SpOk out)(h:spS l g known w out x=some out'):SpOk out':=by
 unfold spS at h;split at h
 ·cases h
 ·rename_i c hc;have hp:=(jz8z hb hc).2.2;cases h;split
  ·rename_i q hq;have qr:=hO q (List.mem_of_getLast? hq);split
   ·intro s hs;rcases Cp.1 hs with h|h
    ·exact hO s ((List.dropLast_sublist out).subset h)
    ·cases BX.1 h;exact qr
   ·intro s hs;rcases Cp.1 hs with h|h
    ·exact hO s h
    ·cases BX.1 h;exact hp
  ·intro s hs;rcases Cp.1 hs with h|h
   ·exact hO s h
   ·cases BX.1 h;exact hp
theorem jz9r{a b:AG}(h:a.Points.length<=16):Hv a b=some (decide (a.Points=b.Points)):=by unfold Hv;rw[ZU (by omega)];rfl
theorem jz7w{l:List AC}(h:0<l.length)(h2:l.length<=16):Ny l=some l:=by unfold Ny;rw[ck_t];simp;omega
theorem kzaa{l:List Ac}(hl:l.length<=1000)(hb:VBk l){g known:Int}{w:AJ}{out:List AL}{x:Aw}(hO:SpOk out)(hn:out.length<=100000) :
  Xk g known l w x out=some (match spS l g known w out x with | none=>.inr ([],8) | some o=>.inl o):=by
 unfold Xk spS;simp only;rw[Ud hl hb.asc];cases hv:vfrc l 1 g x.From known with
 |none=>rfl
 |some c =>
  obtain⟨hc,mP,hp⟩:=jz8z hb hv;simp only[Af,Option.isSome_some,Da];rw[Be,jz9h hl hb.asc];simp only[Af];generalize vdat l g x.From known=d;rcases List.eq_nil_or_concat out with rfl|⟨M,q,rfl⟩
  ·simp only[List.length_nil,Int.ofNat_zero,Int.lt_irrefl,decide_false,CZ,Bool.true_or,G2,AQ,Af,Cq,Be];rw[jz7w mP hp];simp only[Af];rw[ck_d (by simp)];rfl
  ·rw[List.concat_eq_append]at *;have hq:q.Curve.Points.length<=16:=hO q (by simp);have h0:decide (0<(List.length (M++[q]):Int))=true:=by simp
   have aP:As .i64 ((List.length (M++[q]):Int)-1)=true:=by simp only[BK,Dh]at hn |-;simp[As];omega
   simp only[h0,aP,jz7y,Da,Bool.or_true,G2,AU,Af,Cj];have gl:(M++[q]).getLast?=some q:=List.getLast?_concat;simp only[gl];by_cases hd:q.Datum=d
   ·subst hd;simp only[decide_true,Da,Bool.false_or,G2,AU,Af,Cj,jz9r hq];by_cases he:q.Curve.Points=c.Curve.Points
    ·rw[it_d he,Ap ⟨trivial,he⟩,List.dropLast_concat];simp only[Af,jz7q]
    ·rw[it_n he,Aj (fun e=>he e.2)];show(bd (Ny c.Curve.Points) _:Option _)=_;rw[jz7w mP hp];simp only[Af];rw[ck_d (by simp at hn |-;omega)]
   ·have gM:decide (q.Datum=d)=false:=Bz hd;simp only[gM,CZ,Bool.true_or,G2,AQ,Af,Cq,Be,Aj (fun e:q.Datum=d/\q.Curve.Points=c.Curve.Points=>hd e.1)];rw[jz7w mP hp];simp only[Af];rw[ck_d (by simp at hn |-;omega)]
def spF(l:List Ac)(g known:Int)(w:AJ):List Aw->List AL->Option (List AL)
 |[],out=>some out
 |x :: xs,out=>match spS l g known w out x with
  |none=>none
  |some o=>spF l g known w xs o
theorem jz9i{l:List Ac}(hl:l.length<=1000)(hb:VBk l){g known:Int}{w:AJ}:∀(xs:List Aw) (out:List AL),SpOk out->out.length+xs.length<=100000 ->
  Bt (Xk g known l w) xs out=some (match spF l g known w xs out with | none=>.inr ([],8) | some o=>.inl o)
 |[],out,_,_=>rfl
 |x :: xs,out,hO,hn=>by
  simp only[Df]at hn;simp only[Bt,spF];rw[kzaa hl hb hO (by omega)];cases hs:spS l g known w out x with
  |none=>rfl
  |some o =>have:=jz78 hs;exact jz9i hl hb xs o (jz8j hb hO hs) (by omega)
theorem jz87{l:List Ac}{g known:Int}{w:AJ}:∀(xs:List Aw) (out out':List AL),spF l g known w xs out=some out'->out'.length<=out.length+xs.length
 |[],out,out',h=>by cases h;simp
 |x :: xs,out,out',h=>by
  simp only[spF]at h;split at h
  ·cases h
  ·rename_i o hs;have:=jz78 hs;have:=jz87 xs o out' h;simp only[Df];omega
theorem jz83{l:List Ac}(hb:VBk l){g known:Int}{w:AJ}:∀(xs:List Aw) (out out':List AL),SpOk out->spF l g known w xs out=some out'->SpOk out'
 |[],out,out',hO,h=>by cases h;exact hO
 |x :: xs,out,out',hO,h=>by
  simp only[spF]at h;split at h
  ·cases h
  ·rename_i o hs;exact jz83 hb xs o out' (jz8j hb hO hs) h
theorem jz8c(a b k:Int):(bif (bif (bif (bif (decide (a<0)) then true else(decide (b<a))) then true else(decide (1402560<b))) then true else(decide (k<0))) then true else(decide (14609<k)))=decide (¬(0<=a/\a<=b/\b<=1402560/\0<=k/\k<=14609)):=by simp only[HV];rw[GQ];simp only[Fz,BB];omega
noncomputable def jz7e(l:List Ac)(g:Int)(t:Aw)(known:Int)(w:AJ)(E:List Int):List AL×Int :=
 if vchE l≠0 then([],vchE l) else if ¬Vd w then([],1) else if ¬(0<=t.From/\t.From<=t.To/\t.To<=1402560/\0<=known/\known<=14609) then([],3) else match spF l g known w (prs E) [] with
 |none=>([],8)
 |some o=>(o,0)
theorem jz9a{l:List Ac}{g:Int}{t:Aw}{known:Int}{w:AJ}(hs:VsSz l)(hw:Sz 134217728 w):∃E,(vchE l=0->Eds l g t.From t.To E/\E.length<=2*l.length+2)/\NH l g t known w=some (jz7e l g t known w E):=by
 by_cases hl:l.length<=10000;rotate_left
 ·have hc:vchE l≠0:=fun e=>hl (by have:=(Fx.1 e).1;omega);refine⟨[],fun e=>absurd e hc,?_⟩;unfold NH jz7e;rw[GL hs];simp only[Af];rw[BU hc,Ap hc]
 obtain⟨E,hE,pO,qp⟩:=jz0n (l:=l) (g:=g) (f:=t.From) (t:=t.To) hl;refine⟨E,fun _=>⟨pO,qp⟩,?_⟩;unfold NH jz7e;rw[GL hs];simp only[Af];by_cases hc:vchE l=0;rotate_left
 ·rw[BU hc,Ap hc]
 rw[Bu hc,Aj (fun e=>e hc),Ya hw];simp only[Af];by_cases hv:Vd w;rotate_left
 ·rw[BU hv,Ap hv]
 rw[Bu hv,Aj (fun e=>e hv),jz8c];by_cases hr:0<=t.From/\t.From<=t.To/\t.To<=1402560/\0<=known/\known<=14609;rotate_left
 ·rw[it_d hr,Ap hr]
 rw[it_n (fun e=>e hr),Aj (fun e=>e hr)];obtain⟨nq,hb⟩:=Fx.1 hc;have cQ:=Px E;have hf:=jz9i (l:=l) (by omega) hb (g:=g) (known:=known) (w:=w) (prs E) [] (fun s hs=>by cases hs) (by simp;omega);obtain⟨ys,h1,h2⟩:=jz0m (by omega) hf;rw[show Hu l g t=some E from hE];simp only[Af];rw[h1];simp only[Af];rw[h2];simp only[Af];cases spF l g known w (prs E) []<;>rfl
theorem jz9l{l:List Ac}{g:Int}{t:Aw}{known:Int}{w:AJ}{E:List Int}(hEE:vchE l=0->Eds l g t.From t.To E/\E.length<=2*l.length+2):(jz7e l g t known w E).1.length<=1000/\SpOk (jz7e l g t known w E).1:=by
 unfold jz7e;split
 ·exact⟨by simp,fun s hs=>by cases hs⟩
 ·rename_i hc;obtain⟨nq,hb⟩:=Fx.1 (Classical.not_not.1 hc);split
  ·exact⟨by simp,fun s hs=>by cases hs⟩
  ·split;·exact⟨by simp,fun s hs=>by cases hs⟩
   ·cases h:spF l g known w (prs E) [] with
    |none=>exact⟨by simp,fun s hs=>by cases hs⟩
    |some o =>have:=jz87 _ _ _ h;have h2:=Px E;have h3:=(hEE (Classical.not_not.1 hc)).2;refine⟨by simp only[List.length_nil]at this;show o.length<=1000;omega,jz83 hb _ _ _ (fun s hs=>by cases hs) h⟩
theorem jz74{a:List AL}(h:a.length<=1000000)(ho:SpOk a):Rf a a=some true:=by
 unfold Rf;rw[Bu rfl,GJ (l:=a) (ω:=Bool) (fun k x=>none) (by omega) ?_ ?_]
 ·rw[TT _ _ (fun _ _ _=>rfl)];rfl
 ·intro k x hx;have hk:=(AN.1 hx).1;simp only[jz6n];rw[it_d];simp only[at_e rfl hx,Af];rw[Ue (by have:=ho x (Dx hx);omega)];simp[AU,Af];rw[Be,AA]
 ·simp only[jz6n];rw[it_n]
end Go.Am

namespace Go.Am
def spV(l:List Ac)(g known x:Int):Int×List AC:=(vdat l g x known,match vfrc l 1 g x known with | some c=>c.Curve.Points | none=>[])
def spT(s:AL):Int×Int×Int×List AC:=(s.From,s.To,s.Datum,s.Curve.Points)
def unTk(w:AJ)(p:Int×Int×Int×List AC):AL:=⟨p.1,p.2.1,w,p.2.2.1,⟨p.2.2.2⟩⟩
theorem Uj{w:AJ}:∀{o:List AL},(∀s,s∈o->s.Weight=w)->(o.map spT).map (unTk w)=o
 |[],_=>rfl
 |s :: o,h=>by
  have hs:unTk w (spT s)=s:=by rw[<-h s (by simp)];rfl
  rw[HZ,HZ,hs,Uj fun x hx=>h x (by simp[hx])]
theorem kzcn{l:List Ac}{k g a b x known:Int}{v:Ac}(hv:v∈l)(bT:∀y,isEd l g y->a<y->y<b->False)(h1:a<=x)(h2:x<b):vfit k g x known v↔vfit k g a known v:=by
 unfold vfit;constructor
 ·rintro⟨e1,e2,e3,e4,e5⟩;refine⟨e1,e2,e3,?_,by omega⟩;by_cases h:a<v.From
  ·exact(bT v.From ⟨v,hv,e2,.inl rfl⟩ h (by omega)).elim
  ·omega
 ·rintro⟨e1,e2,e3,e4,e5⟩;refine⟨e1,e2,e3,by omega,?_⟩;by_cases h:v.To<b
  ·exact(bT v.To ⟨v,hv,e2,.inr rfl⟩ e5 h).elim
  ·omega
theorem kzch{k g x x' c c':Int}:∀(l:List Ac) (b:Option Ac),(∀v,v∈l->(vfit k g x c v↔vfit k g x' c' v))->l.foldl (DI k g x c) b=l.foldl (DI k g x' c') b
 |[],b,_=>rfl
 |v :: l,b,h=>by
  have e:DI k g x c b v=DI k g x' c' b v:=by
   unfold DI;by_cases hv:vfit k g x c v
   ·rw[Ap hv,Ap ((h v (by simp)).1 hv)]
   ·rw[Aj hv,Aj fun e=>hv ((h v (by simp)).2 e)]
  rw[List.foldl_cons,List.foldl_cons,e,kzch l _ fun y hy=>h y (by simp[hy])]
theorem kzco{l:List Ac}{k g x x' c c':Int}(h:∀v,v∈l->(vfit k g x c v↔vfit k g x' c' v)):vfrc l k g x c=vfrc l k g x' c':=kzch l none h
theorem kzcf{l:List Ac}{k g a b x known:Int}(bT:∀y,isEd l g y->a<y->y<b->False)(h1:a<=x)(h2:x<b):vfrc l k g x known=vfrc l k g a known:=kzco fun v hv=>kzcn hv bT h1 h2
theorem kzc4{l:List Ac}{g a b x known:Int}(bT:∀y,isEd l g y->a<y->y<b->False)(h1:a<=x)(h2:x<b):spV l g known x=spV l g known a:=by unfold spV vdat;rw[kzcf bT h1 h2,kzcf bT h1 h2]
theorem kzdc{l:List Ac}{g known:Int}{w:AJ}{out:List AL}{a b:Int}{c:Ac}(hc:vfrc l 1 g a known=some c)(hw:∀s,s∈out->s.Weight=w) : ∃o,spS l g known w out ⟨a,b⟩=some o/\o.map spT=jn (out.map spT) (a,b,spV l g known a)/\∀s,s∈o->s.Weight=w:=by
 have hv:spV l g known a=(vdat l g a known,c.Curve.Points):=by unfold spV;rw[hc]
 unfold spS;simp only[hc];rw[hv];refine⟨_,rfl,?_⟩;rcases List.eq_nil_or_concat out with rfl|⟨M,q,rfl⟩
 ·exact⟨rfl,fun s hs=>by cases BX.1 hs;rfl⟩
 ·rw[List.concat_eq_append]at *;have gl:(M++[q]).getLast?=some q:=List.getLast?_concat;have gl2:((M++[q]).map spT).getLast?=some (spT q):=by rw[List.map_append];exact List.getLast?_concat
  simp only[gl,jn,gl2];have hq:=hw q (by simp);by_cases h:q.Datum=vdat l g a known/\q.Curve.Points=c.Curve.Points
  ·rw[Ap h,Ap (show(spT q).2.2=(vdat l g a known,c.Curve.Points) from Prod.ext h.1 h.2),List.dropLast_concat,List.map_append,List.map_append,List.map_singleton,List.map_singleton,List.dropLast_concat];refine⟨rfl,fun s hs=>?_⟩;rcases Cp.1 hs with h|h
   ·exact hw s (by simp[h])
   ·cases BX.1 h;exact hq
  ·rw[Aj h,Aj (fun e:(spT q).2.2=(vdat l g a known,c.Curve.Points)=>h ⟨F5 (·.1) e,F5 (·.2) e⟩),List.map_append (l₁:=M++[q])];refine⟨rfl,fun s hs=>?_⟩;rcases Cp.1 hs with h|h
   ·exact hw s h
   ·cases BX.1 h;rfl
theorem kzc7{l:List Ac}{g known f t:Int}{w:AJ}:∀(E:List Int) (a:Int) (out:List AL),SAsc (a :: E)->t∈a :: E->(∀y,y∈a :: E->y<=t)->(∀y,isEd l g y->a<y->y<t->y∈E)->Cd (spV l g known) a none f (out.map spT)->(∀s,s∈out->s.Weight=w)->(∀x,f<=x->x<a->vfrc l 1 g x known≠none) -> (∃o,spF l g known w (prs (a :: E)) out=some o/\Cd (spV l g known) t none f (o.map spT)/\(∀s,s∈o->s.Weight=w)/\∀x,f<=x->x<t->vfrc l 1 g x known≠none) \/ (spF l g known w (prs (a :: E)) out=none/\∃x,a<=x/\x<t/\vfrc l 1 g x known=none)
 |[],a,out,hs,ht,aE,hE,hC,hw,hx=>by cases BX.1 ht;exact .inl ⟨out,rfl,hC,hw,hx⟩
 |b :: E,a,out,hs,ht,aE,hE,hC,hw,hx=>by
  obtain⟨s1,s2⟩:=GU.1 hs;have gH:a<b:=s1 b (by simp);have qo:b<=t:=aE b (by simp)
  have bT:∀y,isEd l g y->a<y->y<b->False:=fun y hy h1 h2=>by
   have:=hE y hy h1 (by omega);rcases AI.1 this with rfl|h
   ·omega
   ·have:=(GU.1 s2).1 y h;omega
  have g9:t∈b :: E:=(AI.1 ht).elim (fun e=>by omega) id;cases hv:vfrc l 1 g a known with
  |none =>refine .inr ⟨?_,a,Lp _,by omega,hv⟩;show(match spS l g known w out ⟨a,b⟩ with | none=>none | some o=>spF l g known w (prs (b :: E)) o)=none;unfold spS;simp only[hv]
  |some c =>
   obtain⟨o,ho,hj,jd⟩:=kzdc (b:=b) hv hw;have pL:Cd (spV l g known) b none f (o.map spT):=by rw[hj];exact Cd.jn (p:=(a,b,spV l g known a)) hC rfl gH fun x x1 x2=>kzc4 bT x1 x2
   have ih:=kzc7 E b o s2 g9 (fun y hy=>aE y (by simp[hy])) (fun y hy h1 h2=>by
    rcases AI.1 (hE y hy (by omega) h2) with rfl|h
    ·omega
    ·exact h) pL jd (fun x x1 x2=>by
    by_cases h:x<a
    ·exact hx x x1 h
    ·rw[kzcf bT (by omega) x2,hv];simp)
   have hF:spF l g known w (prs (a :: b :: E)) out=spF l g known w (prs (b :: E)) o:=by show(match spS l g known w out ⟨a,b⟩ with | none=>none | some o=>spF l g known w (prs (b :: E)) o)=_;rw[ho]
   rw[hF];rcases ih with h|⟨h,x,x1,x2,x3⟩
   ·exact .inl h
   ·exact .inr ⟨h,x,by omega,x2,x3⟩
theorem Eds.head{l:List Ac}{g f t:Int}{E:List Int}(h:Eds l g f t E)(kv:f<=t):∃E',E=f :: E':=by
 have hf:f∈E:=(h.mem f).2 (.inl rfl);cases E with
 |nil=>cases hf
 |cons a E =>
  refine⟨E,?_⟩;have ha:=(h.mem a).1 (by simp);rcases AI.1 hf with e|e
  ·rw[e]
  ·have:=(GU.1 h.asc).1 f e;rcases ha with e|e|⟨_,e,_⟩<;>omega
structure SpC(l:List Ac)(g known:Int)(w:AJ)(f t:Int)(o:List AL):Prop where
 cd:Cd (spV l g known) t none f (o.map spT)
 wt:∀s,s∈o->s.Weight=w
 all:∀x,f<=x->x<t->vfrc l 1 g x known≠none
theorem SpC.uniq{l m:List Ac}{g h known k:Int}{w:AJ}{f t:Int}{o p:List AL}(ho:SpC l g known w f t o)(hp:SpC m h k w f t p)(e:∀x,f<=x->x<t->spV l g known x=spV m h k x):o=p:=by rw[<-Uj ho.wt,<-Uj hp.wt,(ho.cd.congr e).uniq hp.cd]
theorem kzc8{l:List Ac}{g known f t:Int}{w:AJ}{E:List Int}(hE:Eds l g f t E)(kv:f<=t) : (∃o,spF l g known w (prs E) []=some o/\SpC l g known w f t o)\/(spF l g known w (prs E) []=none/\∃x,f<=x/\x<t/\vfrc l 1 g x known=none):=by
 obtain⟨E',rfl⟩:=hE.head kv;have aE:∀y,y∈f :: E'->y<=t:=fun y hy=>by rcases(hE.mem y).1 hy with e | e | ⟨_,_,e⟩<;>omega
 rcases kzc7 (l:=l) (g:=g) (known:=known) (f:=f) (t:=t) (w:=w) E' f [] hE.asc ((hE.mem t).2 (.inr (.inl rfl))) aE (fun y hy h1 h2=>by
  rcases AI.1 ((hE.mem y).2 (.inr (.inr ⟨hy,h1,h2⟩))) with rfl|h
  ·omega
  ·exact h) rfl (fun s hs=>by cases hs) (fun x x1 x2=>by omega) with ⟨o,h1,h2,h3,h4⟩ | h
 ·exact .inl ⟨o,h1,h2,h3,h4⟩
 ·exact .inr h
theorem kzc1{l:List Ac}{g known:Int}{t:Aw}{w:AJ}(hs:VsSz l)(hw:Sz 134217728 w)(hv:Vd w)(hc:vchE l=0) : ∃y:List AL×Int,NH l g t known w=some y/\y.1.length<=1000/\SpOk y.1 /\ ((y=([],3)/\¬(0<=t.From/\t.From<=t.To/\t.To<=1402560/\0<=known/\known<=14609))\/((0<=t.From/\t.From<=t.To/\t.To<=1402560/\0<=known/\known<=14609)/\((y.2=0/\SpC l g known w t.From t.To y.1)\/(y=([],8)/\∃x,t.From<=x/\x<t.To/\vfrc l 1 g x known=none)))):=by
 obtain⟨E,hE,e⟩:=jz9a (g:=g) (t:=t) (known:=known) hs hw;obtain⟨n1,n2⟩:=jz9l (g:=g) (known:=known) (w:=w) hE;refine⟨_,e,n1,n2,?_⟩;unfold jz7e;rw[Aj (fun h=>h hc),Aj (fun h=>h hv)];by_cases hr:0<=t.From/\t.From<=t.To/\t.To<=1402560/\0<=known/\known<=14609;rotate_left
 ·rw[Ap hr];exact .inl ⟨rfl,hr⟩
 rw[Aj (fun h=>h hr)];refine .inr ⟨hr,?_⟩;rcases kzc8 (w:=w) (known:=known) (hE hc).1 hr.2.1 with ⟨o,h1,h2⟩|⟨h1,h2⟩
 ·rw[h1];exact .inl ⟨rfl,h2⟩
 ·rw[h1];exact .inr ⟨rfl,h2⟩
end Go.Am

namespace Go.Am
set_option maxRecDepth 100000 in
theorem jz8f:NJ=some true:=by decide +kernel
def vZ:Ac:=Ac.mk 0 0 0 0 0 0 0 (AG.mk [])
def Fy(x known:Int):Prop:=0<=x/\x<1402560/\0<=known/\known<=14609
instance (x k:Int):Decidable (Fy x k):=by unfold Fy;infer_instance
theorem kzcx(x k:Int):(bif (bif (bif (decide (x<0)) then true else(decide (1402560<=x))) then true else(decide (k<0))) then true else(decide (14609<k)))=decide (¬Fy x k):=by unfold Fy;simp only[HV];rw[GQ];simp only[Fz,BB];omega
theorem kzcr(x k:Int):Kk x k=some (if Fy x k then 0 else 3):=by
 unfold Kk;rw[kzcx];by_cases h:Fy x k
 ·rw[it_n (fun e=>e h),Ap h]
 ·rw[it_d h,Aj h]
noncomputable def infc(l:List Ac)(k g x known:Int):Ac×Int :=
 if vchE l≠0 then(vZ,vchE l) else if ¬Fy x known then(vZ,3) else match vfrc l k g x known with
 |some v=>(v,0)
 |none=>(vZ,8)
theorem kzce{l:List Ac}(hs:VsSz l)(k g x known:Int):Gx l k g x known=some (infc l k g x known):=by
 unfold Gx infc;rw[GL hs];simp only[Af];by_cases hc:vchE l=0;rotate_left
 ·rw[BU hc,Ap hc];rfl
 rw[Bu hc,Aj (fun e=>e hc),kzcr];simp only[Af];by_cases ha:Fy x known;rotate_left
 ·rw[Aj ha,Ap ha];rfl
 rw[Ap ha,Aj (fun e=>e ha)];obtain⟨nq,hb⟩:=Fx.1 hc;rw[Bu rfl,Ud (by omega) hb.asc];simp only[Af];cases vfrc l k g x known<;>rfl
noncomputable def shfc(l:List Ac)(k g x known:Int):Int×Int :=
 if vchE l≠0 then(0,vchE l) else if ¬(k=2\/k=3) then(0,1) else if ¬Fy x known then(0,3) else((match vfrc l k g x known with | some v=>v.Shift | none=>0),0)
theorem kzdb(k:Int):(bif (!decide (k=2)) then(!decide (k=3)) else false)=decide (¬(k=2\/k=3)):=by rw[GQ];simp
theorem kzc2{l:List Ac}(hs:VsSz l)(k g x known:Int):K0 l k g x known=some (shfc l k g x known):=by
 unfold K0 shfc;rw[GL hs];simp only[Af];by_cases hc:vchE l=0;rotate_left
 ·rw[BU hc,Ap hc]
 rw[Bu hc,Aj (fun e=>e hc),kzdb];by_cases hk:k=2\/k=3;rotate_left
 ·rw[it_d hk,Ap hk]
 rw[it_n (fun e=>e hk),Aj (fun e=>e hk),kzcr];simp only[Af];by_cases ha:Fy x known;rotate_left
 ·rw[Aj ha,Ap ha];rfl
 rw[Ap ha,Aj (fun e=>e ha)];obtain⟨nq,hb⟩:=Fx.1 hc;rw[Bu rfl];unfold QT;rw[Ud (by omega) hb.asc];simp only[Af];cases vfrc l k g x known<;>rfl
def vres:Option Ac->Ac×Int
 |some v=>(v,0)
 |none=>(vZ,8)
theorem kzcj{l:List Ac}(hc:vchE l=0){k g x known:Int}(hx:Fy x known):infc l k g x known=vres (vfrc l k g x known):=by unfold infc;rw[Aj (fun e=>e hc),Aj (fun e=>e hx)];cases vfrc l k g x known<;>rfl
section
variable {U:Type}
theorem Cd.neq{f:Int->U}{b:Int}:∀{l:List (Int×Int×U)} {v:Option U} {a:Int},Cd f b v a l->∀i,(h:i+1<l.length)->l[i].2.2≠l[i+1].2.2
 |p :: q :: l,v,a,h,i,hi=>by
  obtain⟨k1,k2,k3,k4,k5⟩:=h;cases i with
  |zero =>have:=k5.2.2.2.1;intro e;exact this (F5 some e)
  |succ i=>exact k5.neq i (by simpa using hi)
theorem Cd.append{f:Int->U}:∀{l m:List (Int×Int×U)} {v w:Option U} {a b c:Int},Cd f b v a l->Cd f c w b m->(∀q n,m=q :: n->(l.getLast?.map (·.2.2)).or v≠some q.2.2)->Cd f c v a (l++m)
 |[],m,v,w,a,b,c,h,k,e=>by
  obtain rfl:a=b:=h;cases m with
  |nil=>exact k
  |cons q n =>obtain⟨k1,k2,k3,k4,k5⟩:=k;exact⟨k1,k2,k3,by simpa using e q n rfl,k5⟩
 |p :: l,m,v,w,a,b,c,h,k,e=>by
  obtain⟨k1,k2,k3,k4,k5⟩:=h;refine⟨k1,k2,k3,k4,k5.append k fun q n hm=>?_⟩;have h4:=e q n hm;cases l with
  |nil=>simpa using h4
  |cons r l=>rw[List.getLast?_cons_cons]at h4;rw[List.getLast?_cons]at *;simpa using h4
end
structure SpI(l:List Ac)(g known f t:Int)(o:List AL)(i:Nat)(h:i<o.length):Prop where
 lt:o[i].From<o[i].To
 lo:f<=o[i].From
 hi:o[i].To<=t
 val:∀x,o[i].From<=x->x<o[i].To->spV l g known x=(o[i].Datum,o[i].Curve.Points)
 nx:o[i].To<t->∃h2:i+1<o.length,o[i+1].From=o[i].To
 nx2:i+1<o.length->o[i].To<t
theorem SpC.at{l:List Ac}{g known:Int}{w:AJ}{f t:Int}{o:List AL}(h:SpC l g known w f t o)(i:Nat)(hi:i<o.length):SpI l g known f t o i hi:=by have hm:=h.cd.mem (spT o[i]) (Uz (GT hi));have hn:=h.cd.next i (by simpa using hi);simp only[List.getElem_map,JC]at hn;exact⟨hm.1,hm.2.1,hm.2.2.1,hm.2.2.2,hn.1,hn.2⟩
theorem SpC.first{l:List Ac}{g known:Int}{w:AJ}{f t:Int}{o:List AL}(h:SpC l g known w f t o)(kv:f<t):∃h0:0<o.length,o[0].From=f:=by obtain⟨h1,h2⟩:=h.cd.first kv;simp only[JC]at h1;refine⟨h1,?_⟩;rw[List.getElem_map]at h2;exact h2
theorem SpC.differ{l:List Ac}{g known:Int}{w:AJ}{f t:Int}{o:List AL}(h:SpC l g known w f t o)(i:Nat)(hi:i+1<o.length):¬(o[i].Datum=o[i+1].Datum/\o[i].Curve.Points=o[i+1].Curve.Points):=by have hn:=h.cd.neq i (by simpa using hi);simp only[List.getElem_map]at hn;rintro⟨e1,e2⟩;exact hn (Prod.ext e1 e2)
theorem SpC.empty{l:List Ac}{g known:Int}{w:AJ}{f:Int}{o:List AL}(h:SpC l g known w f f o):o=[]:=by
 cases o with
 |nil=>rfl
 |cons s o =>have:=h.at 0 (by simp);have h1:=this.lt;have h2:=this.lo;have h3:=this.hi;omega
theorem SpC.join{l:List Ac}{g known:Int}{w:AJ}{f c t:Int}{o p:List AL}(ho:SpC l g known w f c o)(hp:SpC l g known w c t p)(hd:∀x y,o.getLast?=some x->p[0]?=some y->¬(x.Datum=y.Datum/\x.Curve.Points=y.Curve.Points)):SpC l g known w f t (o++p):=by
 refine⟨?_,fun s hs=>(Cp.1 hs).elim (ho.wt s) (hp.wt s),fun x x1 x2=>?_⟩
 ·rw[List.map_append];refine ho.cd.append hp.cd fun q n hm=>?_;cases p with
  |nil=>cases hm
  |cons y p =>
   rw[HZ]at hm;obtain⟨rfl,_⟩:=List.cons.inj hm;rcases List.eq_nil_or_concat o with rfl|⟨M,x,rfl⟩
   ·simp
   ·rw[List.concat_eq_append]at *;have:=hd x y List.getLast?_concat rfl;rw[List.map_append,List.map_singleton,List.getLast?_concat];simp only[Ek,Option.some_or];intro e;have e:=BA e;exact this ⟨F5 (·.1) e,F5 (·.2) e⟩
 ·by_cases h:x<c;·exact ho.all x x1 h
  ·exact hp.all x (by omega) x2
theorem SpC.glue{l:List Ac}{g known:Int}{w:AJ}{f c t:Int}{M N:List AL}{x y:AL}(ho:SpC l g known w f c (M++[x]))(hp:SpC l g known w c t (y :: N))(hd:x.Datum=y.Datum/\x.Curve.Points=y.Curve.Points):SpC l g known w f t (M++⟨x.From,y.To,y.Weight,y.Datum,y.Curve⟩ :: N):=by
 have h1:=ho.cd;rw[List.map_append,List.map_singleton]at h1;obtain⟨k1,k2,k3,k4,k5⟩:=hp.cd;have h2:=Cd.ext h1 (c:=y.To) k2 fun z z1 z2=>by rw[k3 z z1 z2];exact Prod.ext hd.1.symm hd.2.symm
 refine⟨?_,fun s hs=>?_,fun z z1 z2=>?_⟩
 ·have h3:=Cd.append h2 k5 fun q n hm=>by
   rw[List.getLast?_concat];simp only[Ek,Option.some_or];intro e;have e:(spT x).2.2=q.2.2:=BA e;have e2:(spT x).2.2=(spT y).2.2:=Prod.ext hd.1 hd.2;cases N with
   |nil=>cases hm
   |cons n0 N =>rw[HZ]at hm;obtain⟨rfl,_⟩:=List.cons.inj hm;exact k5.2.2.2.1 (F5 some (e2.symm.trans e))
  have e:(M++⟨x.From,y.To,y.Weight,y.Datum,y.Curve⟩ :: N).map spT=List.map spT M++[((spT x).1,y.To,(spT x).2.2)]++List.map spT N:=by rw[List.map_append,HZ,List.append_assoc];congr 1;show(x.From,y.To,y.Datum,y.Curve.Points) :: _=(x.From,y.To,x.Datum,x.Curve.Points) :: _;rw[hd.1,hd.2];rfl
  rw[e];exact h3
 ·rcases Cp.1 hs with hs|hs;·exact ho.wt s (by simp[hs])
  ·rcases AI.1 hs with rfl|hs;·exact hp.wt y (by simp)
   ·exact hp.wt s (by simp[hs])
 ·by_cases h:z<c;·exact ho.all z z1 h
  ·exact hp.all z (by omega) z2
theorem kzc3{l:List Ac}(hc:vchE l=0){g x known:Int}(ha:Fy x known):shfc l 2 g x known=(vdat l g x known,0):=by
 unfold shfc vdat;rw[hc,Aj (by simp),Aj (by simp),Aj (fun e=>e ha)]
 (try (cases vfrc l 2 g x known<;>rfl))
theorem kzc6{l:List Ac}(hs:VsSz l)(hc:vchE l=0){q:CE}(hk:0<=q.Known/\q.Known<=14609)(hf:0<=q.Ticks.From)(ht:q.Ticks.To<=1402560){x:Int}(hx:q.Ticks.From<=x/\x<q.Ticks.To)(hv:vfrc l 1 q.Gauge x q.Known=none) :
  lp (kzcy l q ([],8)) (0,q.Ticks.From)=some (.inr true):=by
 obtain⟨o,e,ho⟩:=Dw (s:=((0:Int),q.Ticks.From)) (body:=kzcy l q ([],8)) (fun s=>s.1=0/\q.Ticks.From<=s.2/\s.2<=x) (fun s=>(x+1-s.2).toNat) (fun o=>o=.inr true) (by
  rintro⟨at1,tick⟩ ⟨h1,h2,h3⟩;simp only at h1 h2 h3;have ha:Fy tick q.Known:=⟨by omega,by omega,hk⟩;simp only[kzcy];rw[it_d,kzce hs,kzc2 hs,kzcj hc ha,kzc3 hc ha];simp only[Af];rw[BU (by decide)];cases hq:vfrc l 1 q.Gauge tick q.Known with
  |none =>right;rw[it_d (show(vres none).2=8 from rfl)];exact⟨_,rfl,rfl⟩
  |some c =>
   left;rw[it_n (show ¬(vres (some c)).2=8 by simp[vres])];simp only[Af];have:tick≠x:=fun e=>by rw[e,hv]at hq;cases hq
   rw[AA];exact⟨_,rfl,⟨h1,by simp only;omega,by simp only;omega⟩,by simp only;omega⟩) ⟨rfl,Lp _,hx.1⟩ (by simp only;omega)
 rw[e,ho]
theorem kzc5{l:List Ac}(hs:VsSz l)(hc:vchE l=0){q:CE}(hk:0<=q.Known/\q.Known<=14609)(hf:0<=q.Ticks.From)(kv:q.Ticks.From<=q.Ticks.To)(ht:q.Ticks.To<=1402560){w:AJ}{all:List AL}(hC:SpC l q.Gauge q.Known w q.Ticks.From q.Ticks.To all)(hn:all.length<=1000)(hO:SpOk all) : ∃k:Nat,lp (kzcy l q (all,0)) (0,q.Ticks.From)=some (.inl (k:Int))/\(q.Ticks.From<q.Ticks.To->k+1=all.length):=by
 obtain⟨o,e,k,rfl,h⟩:=Dw (s:=((0:Int),q.Ticks.From)) (body:=kzcy l q (all,0)) (fun s=>∃k:Nat,s.1=(k:Int)/\q.Ticks.From<=s.2/\s.2<=q.Ticks.To/\((k=0/\s.2=q.Ticks.From)\/∃h:k<all.length,all[k].From<s.2/\s.2<=all[k].To)) (fun s=>(q.Ticks.To-s.2).toNat) (fun o=>∃k:Nat,o=.inl (k:Int)/\(q.Ticks.From<q.Ticks.To->k+1=all.length)) (by
  rintro⟨at1,tick⟩ ⟨k,h1,h2,h3,h4⟩;simp only at h1 h2 h3 h4;subst h1;simp only[kzcy];by_cases hlt:tick<q.Ticks.To;rotate_left
  ·right;rw[it_n hlt];refine⟨_,rfl,k,rfl,fun qs=>?_⟩;rcases h4 with ⟨_,h4⟩|⟨h,h5,h6⟩
   ·omega
   ·have hi:=hC.at k h;by_cases hl:k+1<all.length
    ·have:=hi.nx2 hl;omega
    ·omega
  left;have ha:Fy tick q.Known:=⟨by omega,by omega,hk⟩;rw[it_d hlt,kzce hs,kzc2 hs,kzcj hc ha,kzc3 hc ha];simp only[Af,decide_true,Da];rw[Be];simp only[Af]
  have bt:∃k':Nat,∃h':k'<all.length,all[k'].From<=tick/\tick<all[k'].To /\ (bd (gd (decide ((k:Int)<(List.length all:Int))) (at? all (k:Int))) fun x1=>(ite' (bif (decide ((k:Int)<(List.length all:Int))) then(decide (x1.To=tick)) else false) (ck (As .i64 ((k:Int)+1)) (some ((k:Int)+1))) (some (k:Int)):Option Int))=some (k':Int):=by
   rcases h4 with ⟨rfl,h4⟩|⟨h,h5,h6⟩
   ·obtain⟨z1,z2⟩:=hC.first (by omega);have hi:=hC.at 0 z1;have:=hi.lt;refine⟨0,z1,by omega,by omega,?_⟩;rw[Cy (by omega),AU,at_e rfl (AD z1)];simp only[Af,Cj];rw[it_n (by omega)]
   ·have hi:=hC.at k h;rw[Cy (by omega),AU,at_e rfl (AD h)];simp only[Af,Cj];by_cases he:all[k].To=tick
    ·obtain⟨z1,z2⟩:=hi.nx (by omega);have hj:=(hC.at (k+1) z1).lt;refine⟨k+1,z1,by omega,by omega,?_⟩;rw[it_d he,AA];rfl
    ·exact⟨k,h,by omega,by omega,by rw[it_n he]⟩
  obtain⟨k',h',g1,g2,g3⟩:=bt;have cC:∀{α U γ:Type} (x:Option α) (f:α->Option U) (g:U->Option γ),bd x (fun a=>bd (f a) g)=bd (bd x f) g:=fun x f g=>by cases x<;>rfl
  rw[cC,g3];simp only[Af];have hi:=hC.at k' h';have hv:=hi.val tick g1 g2
  have qt:∃c,vfrc l 1 q.Gauge tick q.Known=some c:=by
   cases hq:vfrc l 1 q.Gauge tick q.Known with
   |none=>exact absurd hq (hC.all tick h2 hlt)
   |some c=>exact⟨c,rfl⟩
  obtain⟨c,hq⟩:=qt;unfold spV at hv;rw[hq]at hv;have v1:vdat l q.Gauge tick q.Known=all[k'].Datum:=F5 (·.1) hv;have v2:c.Curve.Points=all[k'].Curve.Points:=F5 (·.2) hv;have aJ:=hO all[k'] (GT h');have ea:at? all (k':Int)=some all[k']:=at_e rfl (AD h');have bq:∃h:k'<all.length,all[k'].From<tick+1/\tick+1<=all[k'].To:=⟨h',by omega,by omega⟩;generalize all[k']=s at *;rw[hq,v1];have e1:(vres (some c)).2=0:=rfl;have e2:(vres (some c)).1=c:=rfl;simp only[e1,e2,ea,decide_true,Da,Cq];rw[Bz (show ¬(List.length all:Int)<=(k':Int) by omega)];simp only[CZ,AU,Af,Cq];rw[Bz (show ¬tick<s.From by omega)];simp only[CZ,AU,Af,Cq];rw[Bz (show ¬s.To<=tick by omega)];simp only[CZ,AU,Af,Cq,decide_true,Da];rw[Ue (by omega)];simp only[Af,v2,decide_true,Da];rw[Be,AA];exact⟨_,rfl,⟨k',rfl,by simp only;omega,by simp only;omega,.inr bq⟩,by simp only;omega⟩) ⟨0,rfl,Lp _,kv,.inl ⟨rfl,rfl⟩⟩ (by simp only;omega)
 exact⟨k,e,h⟩
theorem kzc9{l:List Ac}{g known f t:Int}{w:AJ}{all:List AL}(hC:SpC l g known w f t all)(hn:all.length<=1000)(hO:SpOk all):lp (kzcz (all,0)) 1=some (.inl ()):=by
 obtain⟨o,e,ho⟩:=Dw (s:=(1:Int)) (body:=kzcz (all,0)) (fun s=>∃k:Nat,s=(k:Int)+1) (fun s=>(all.length-s).toNat) (fun o=>o=.inl ()) (by
  rintro s ⟨k,rfl⟩;simp only[kzcz];by_cases hlt:k+1<all.length;rotate_left
  ·right;rw[it_n];exact⟨_,rfl,rfl⟩
  left;have hi:=hC.at k (by omega);obtain⟨_,h1⟩:=hi.nx (hi.nx2 hlt);have h2:=hC.differ k hlt;have aJ:=hO all[k+1] (GT hlt);have a1:at? all ((k:Int)+1)=some all[k+1]:=at_e (n:=k+1) (by omega) (AD hlt);have a2:at? all ((k:Int)+1-1)=some all[k]:=at_e (n:=k) (by omega) (AD (by omega));generalize all[k+1]=y at *;generalize all[k]'(by omega)=x at *;rw[it_d,a1,AA,a2];simp only[Af,h1,decide_true,Da,CZ,Bool.true_or,AU,P2,Cq,Bool.false_or];rw[ck_t (by simp[As];omega),ck_t (by simp[As];omega)];by_cases hd:y.Datum=x.Datum
  ·simp only[hd,decide_true,AU,Af,Cj];rw[Ue (by omega)];simp only[Af];rw[it_n (fun e=>h2 ⟨hd.symm,e.symm⟩),ck_t (by simp[As];omega)];exact⟨_,rfl,⟨k+1,by simp⟩,by omega⟩
  ·simp only[hd,decide_false,AQ,Af,Cq];rw[Be,ck_t (by simp)];exact⟨_,rfl,⟨k+1,by simp⟩,by omega⟩) ⟨0,rfl⟩ (by omega)
 rw[e,ho]
theorem kzda{l:List Ac}{q:CE}{seam:Int}(hm:0<=seam/\seam<=255):kzc0 l q seam=some true:=by
 unfold kzc0;rw[jz8f];obtain⟨b,e,hb⟩:=jz09 l 20;simp only[Af,Da,CZ,AU,Cq];rw[e];simp only[Af];cases b
 ·simp only[CZ,Da,AQ,Af,Cj,Bool.true_or];rw[G2,Dp]
 simp only[CZ,Da,AU,Cq];have hs:=hb rfl;rw[GL hs];simp only[Af];by_cases hc:vchE l=0;rotate_left
 ·simp only[hc,decide_false,CZ,Cj,Da,Bool.true_or];rw[G2,Dp]
 simp only[hc,decide_true,Da,Cq];by_cases hr:0<=q.Known/\q.Known<=14609/\0<=q.Ticks.From/\q.Ticks.From<=q.Ticks.To/\q.Ticks.To<=1402560;rotate_left
 ·have hB:(bif (bif (bif (bif (decide (q.Known<0)) then true else(decide (14609<q.Known))) then true else(decide (q.Ticks.From<0))) then true else(decide (q.Ticks.To<q.Ticks.From))) then true else(decide (1402560<q.Ticks.To)))=true:=by
   simp only[HV,Fz,BB];omega
  simp only[hB,Da,CZ,Bool.true_or,Cj];rw[G2,Dp]
 have hB:(bif (bif (bif (bif (decide (q.Known<0)) then true else(decide (14609<q.Known))) then true else(decide (q.Ticks.From<0))) then true else(decide (q.Ticks.To<q.Ticks.From))) then true else(decide (1402560<q.Ticks.To)))=false:=by simp only[HV,Ul,PK];omega
 simp only[hB,Da,CZ,Bool.false_or,Cq];obtain⟨eX,dr,hf,kv,ht⟩:=hr;rw[AA];by_cases h2:200<q.Ticks.To-q.Ticks.From
 ·rw[it_d h2]
 rw[it_n h2];obtain⟨w1,w2⟩:=qzrp (n:=1) (by decide) (by decide);have hv:Vd (rof ((1:Int):Rat)):=qz07 _;have hz:Sz 134217728 (rof ((1:Int):Rat)):=w2.mono (by decide);rw[w1];simp only[Af];generalize rof ((1:Int):Rat)=w at *;obtain⟨y,e1,n1,n2,hy⟩:=kzc1 (g:=q.Gauge) (known:=q.Known) (t:=q.Ticks) hs hz hv hc;rw[e1];simp only[Af];rcases hy with ⟨_,h⟩|⟨_,⟨y2,hC⟩|⟨rfl,x,x1,x2,hx⟩⟩
 ·exact absurd ⟨hf,kv,ht,eX,dr⟩ h
 rotate_left
 ·rw[kzc6 hs hc ⟨eX,dr⟩ hf ht ⟨x1,x2⟩ hx];rfl
 obtain⟨all,y0⟩:=y;simp only at y2 hC n1 n2;subst y2;obtain⟨k,e2,hk⟩:=kzc5 hs hc ⟨eX,dr⟩ hf kv ht hC (by omega) n2;rw[e2];simp only[Af,decide_true,Da,Cq]
 have bu:∀{U:Type} (A B:Option U),(ck (!((!(bif (decide (q.Ticks.From=q.Ticks.To)) then(decide (0<(List.length all:Int))) else false))&&(decide (q.Ticks.From<q.Ticks.To)))||As .i64 ((List.length all:Int)-1)) <|
    bd (gd (((!(bif (decide (q.Ticks.From=q.Ticks.To)) then(decide (0<(List.length all:Int))) else false))&&(decide (q.Ticks.From<q.Ticks.To)))&&(!(!decide ((k:Int)=((List.length all:Int)-1))))) (at? all 0)) fun x6 =>
    bd (gd (((!(bif (decide (q.Ticks.From=q.Ticks.To)) then(decide (0<(List.length all:Int))) else false))&&(decide (q.Ticks.From<q.Ticks.To)))&&(!(bif (!decide ((k:Int)=((List.length all:Int)-1))) then true else(!decide (x6.From=q.Ticks.From))))) (at? all (k:Int))) fun x7 =>
    ite' (bif (bif (decide (q.Ticks.From=q.Ticks.To)) then(decide (0<(List.length all:Int))) else false) then true else(bif (decide (q.Ticks.From<q.Ticks.To)) then(bif (bif (!decide ((k:Int)=((List.length all:Int)-1))) then true else(!decide (x6.From=q.Ticks.From))) then true else(!decide (x7.To=q.Ticks.To))) else false)) A B)=B:=by
  intro U A B;by_cases he:q.Ticks.From=q.Ticks.To
  ·have pL:=hC;rw[<-he]at pL;have:=pL.empty;subst this;simp[he,AQ,Af,G2,Be]
  ·have hlt:q.Ticks.From<q.Ticks.To:=by omega
   have di:=hk hlt;obtain⟨z1,z2⟩:=hC.first hlt;have hi:=hC.at k (by omega)
   have qu:all[k].To=q.Ticks.To:=by
    by_cases h:all[k].To<q.Ticks.To
    ·obtain⟨h3,_⟩:=hi.nx h;omega
    ·have:=hi.hi;omega
   have a0:at? all 0=some all[0]:=at_e (n:=0) rfl (AD z1);have ak:at? all (k:Int)=some all[k]:=at_e rfl (AD (by omega));have jQ:decide ((k:Int)=(List.length all:Int)-1)=true:=Cy (by omega);rw[Bz he,Cy hlt,jQ,a0,ak];simp only[Da,CZ,P2,AU,Af,Cj,Cq,z2,qu,decide_true];rw[ck_t (by simp[As];omega),Be]
 refine(bu _ _).trans ?_;rw[kzc9 hC (by omega) n2];simp only[Af];have bv:0<=seam.tmod (q.Ticks.To-q.Ticks.From+1)/\seam.tmod (q.Ticks.To-q.Ticks.From+1)<q.Ticks.To-q.Ticks.From+1:=⟨Int.tmod_nonneg _ hm.1,Int.tmod_lt_of_pos _ (by omega)⟩;generalize seam.tmod (q.Ticks.To-q.Ticks.From+1)=d at bv;rw[AA,AA,AA,RU,AA];have br:q.Ticks.From<=q.Ticks.From+d/\q.Ticks.From+d<=q.Ticks.To:=by omega
 generalize q.Ticks.From+d=c at br;have nn:∀{x},q.Ticks.From<=x->x<q.Ticks.To->vfrc l 1 q.Gauge x q.Known≠none:=fun h1 h2=>hC.all _ h1 h2;obtain⟨o,o1,m1,m2,ho⟩:=kzc1 (g:=q.Gauge) (known:=q.Known) (t:=⟨q.Ticks.From,c⟩) hs hz hv hc;obtain⟨p,p1,m3,m4,hp⟩:=kzc1 (g:=q.Gauge) (known:=q.Known) (t:=⟨c,q.Ticks.To⟩) hs hz hv hc;simp only at ho hp;rw[o1,p1];simp only[Af]
 obtain⟨o2,bw⟩:o.2=0/\SpC l q.Gauge q.Known w q.Ticks.From c o.1:=by
  rcases ho with ⟨_,h⟩|⟨_,h|⟨_,x,x1,x2,hx⟩⟩
  ·exact absurd ⟨hf,br.1,by omega,eX,dr⟩ h
  ·exact h
  ·exact absurd hx (nn x1 (by omega))
 obtain⟨p2,bz⟩:p.2=0/\SpC l q.Gauge q.Known w c q.Ticks.To p.1:=by
  rcases hp with ⟨_,h⟩|⟨_,h|⟨_,x,x1,x2,hx⟩⟩
  ·exact absurd ⟨by omega,br.2,ht,eX,dr⟩ h
  ·exact h
  ·exact absurd hx (nn (by omega) x2)
 obtain⟨O,oE⟩:=o;obtain⟨P,pE⟩:=p;simp only at o2 p2 bw bz m1 m2 m3 m4;subst o2 p2;simp only[decide_true,Da,Cq];rw[Be]
 have key:∃A B:List AL,A++B=all/\(bd (α:=(List AL)×(List AL)) (
         ite' (bif (decide (0<(List.length O:Int))) then(decide (0<(List.length P:Int))) else false) (
          ck (As .i64 ((List.length O:Int)-1)) <|
          bd (at? O ((List.length O:Int)-1)) fun x14 =>
          bd (at? P 0) fun x15 =>
          bd (gd (decide (x14.Datum=x15.Datum)) (Hs x14.Curve x15.Curve)) fun r14 =>
          ite' (bif (decide (x14.Datum=x15.Datum)) then r14 else false) (
           ck (decide (List.length ([]++P)*88<=140737488355328)) <|
           bd (at? ([]++P) 0) fun x16 =>
           ck (As .i64 ((List.length O:Int)-1)) <|
           ck (El O 0 ((List.length O:Int)-1)) <|
           some ((sub O 0 ((List.length O:Int)-1)),(List.set ([]++P) (Int.toNat 0) (AL.mk x14.From x16.To x16.Weight x16.Datum x16.Curve)))
           ) (
           some (O,P)
           )
          ) (
          some (O,P)
          )) some)=some (A,B):=by
  have plain:(∀x y,O.getLast?=some x->P[0]?=some y->¬(x.Datum=y.Datum/\x.Curve.Points=y.Curve.Points))->O++P=all:=fun h=>(bw.join bz h).uniq hC fun _ _ _=>rfl;rcases List.eq_nil_or_concat O with rfl|⟨M,x,rfl⟩
  ·exact⟨[],P,plain (fun x y h=>by cases h),by rw[it_f (by rfl)];rfl⟩
  rw[List.concat_eq_append]at *;cases P with
  |nil=>exact⟨_,[],plain (fun x y _ h=>by cases h),by rw[it_f (by simp)];rfl⟩
  |cons y N =>
   have hx:=m2 x (by simp);rw[it_t (by simp),AA (by simp at m1 |-;omega),jz7y,at_e (j:=0) (n:=0) (x:=y) rfl rfl];simp only[Af,U3];by_cases hd:x.Datum=y.Datum
   ·simp only[hd,decide_true,AU,Af,Cj];rw[Ue (by omega)];simp only[Af];by_cases he:x.Curve.Points=y.Curve.Points
    ·rw[it_d he,ck_d (by simp at m3 |-;omega),at_e (j:=0) (n:=0) (x:=y) rfl rfl];simp only[Af];rw[AA (by simp at m1 |-;omega),EP (by simp;omega)];refine⟨M,(⟨x.From,y.To,y.Weight,y.Datum,y.Curve⟩:AL) :: N,(bw.glue bz ⟨hd,he⟩).uniq hC fun _ _ _=>rfl,?_⟩;show some (sub (M++[x]) 0 _,(⟨x.From,y.To,y.Weight,y.Datum,y.Curve⟩:AL) :: N)=_;congr 2;unfold sub;simp
    ·rw[it_n he];exact⟨_,_,plain (fun a b ha hb=>by rw[List.getLast?_concat]at ha;cases ha;cases hb;exact fun h=>he h.2),rfl⟩
   ·simp only[hd,decide_false,AQ,Af,Cq];rw[Be];exact⟨_,_,plain (fun a b ha hb=>by rw[List.getLast?_concat]at ha;cases ha;cases hb;exact fun h=>hd h.1),rfl⟩
 obtain⟨A,B,nt,d8⟩:=key
 have bq:∀{U:Type} (x:Option (List AL×List AL)) (F:List AL×List AL->Option U),bd x some=some (A,B)->bd x F=F (A,B):=fun x F h=>by
  cases x with
  |none=>cases h
  |some z=>cases h;rfl
 refine(bq _ _ d8).trans ?_;simp only[U3];have hl:A.length+B.length=all.length:=by rw[<-nt,BK]
 rw[ck_d (by omega),ck_d (by rw[nt];omega),nt,jz74 (by omega) n2];rfl
end Go.Am

