/- Part U2: the mathematics of the functions of this seat. No condition. -/
import Derived.Test.YtbidhbeoimpjbaaGreatDoorU1
set_option linter.unusedSimpArgs false
set_option linter.unusedVariables false
namespace Go.Am
def isEd(l:List Ac)(g x:Int):Prop:=∃v,v∈l/\v.Gauge=g/\(x=v.From\/x=v.To)
structure Eds(l:List Ac)(g f t:Int)(E:List Int):Prop where
 asc:SAsc E
 mem:∀x,x∈E↔x=f\/x=t\/(isEd l g x/\f<x/\x<t)
theorem Eds.uniq{l:List Ac}{g f t:Int}{D E:List Int}(h:Eds l g f t D)(k:Eds l g f t E):D=E:=ZH h.asc k.asc fun x=>(h.mem x).trans (k.mem x).symm
def pin(g f t:Int)(v:Ac)(m:List (Int×Bool))(x:Int):List (Int×Bool):=if v.Gauge=g/\f<x/\x<t then mput keqI m x true else m
theorem ZY{g f t x:Int}{v:Ac}{m:List (Int×Bool)}(h:(m.map (·.1)).Nodup):((pin g f t v m x).map (·.1)).Nodup:=by
 unfold pin;split
 ·exact TX h
 ·exact h
theorem ZZ{g f t x y:Int}{v:Ac}{m:List (Int×Bool)}:y∈(pin g f t v m x).map (·.1)↔y∈m.map (·.1)\/(y=x/\v.Gauge=g/\f<x/\x<t):=by
 unfold pin;split
 ·rename_i h;rw[TY];simp[h]
 ·rename_i h;simp[h]
theorem jz82{g f t x:Int}{v:Ac}{m:List (Int×Bool)}:(pin g f t v m x).length<=m.length+1:=by
 unfold pin;split
 ·exact TZ
 ·omega
def pins(g f t:Int)(m:List (Int×Bool))(v:Ac):List (Int×Bool):=pin g f t v (pin g f t v m v.From) v.To
theorem jz8w{g f t:Int}:∀(l:List Ac) (m:List (Int×Bool)),(m.map (·.1)).Nodup->((l.foldl (pins g f t) m).map (·.1)).Nodup/\(∀y,y∈(l.foldl (pins g f t) m).map (·.1)↔y∈m.map (·.1)\/(isEd l g y/\f<y/\y<t))/\(l.foldl (pins g f t) m).length<=m.length+2*l.length
 |[],m,h=>⟨h,fun y=>⟨.inl,fun e=>e.elim id fun⟨⟨v,hv,_⟩,_⟩=>by cases hv⟩,by simp⟩
 |v :: l,m,h=>by
  obtain⟨h1,h2,h3⟩:=jz8w l (pins g f t m v) (ZY (ZY h));refine⟨h1,fun y=>(h2 y).trans ?_,?_⟩
  ·unfold pins;rw[ZZ,ZZ];constructor
   ·rintro(((e|⟨rfl,e1,e2⟩)|⟨rfl,e1,e2⟩)|⟨⟨w,hw,e1,e2⟩,e3⟩);·exact .inl e
    ·exact .inr ⟨⟨v,by simp,e1,.inl rfl⟩,e2⟩
    ·exact .inr ⟨⟨v,by simp,e1,.inr rfl⟩,e2⟩
    ·exact .inr ⟨⟨w,by simp[hw],e1,e2⟩,e3⟩
   ·rintro(e|⟨⟨w,hw,e1,e2⟩,e3⟩);·exact .inl (.inl (.inl e))
    ·rcases AI.1 hw with rfl|hw
     ·rcases e2 with rfl|rfl;·exact .inl (.inl (.inr ⟨rfl,e1,e3⟩))
      ·exact .inl (.inr ⟨rfl,e1,e3⟩)
     ·exact .inr ⟨⟨w,hw,e1,e2⟩,e3⟩
  ·show(l.foldl (pins g f t) (pins g f t m v)).length<=_;have:=jz82 (g:=g) (f:=f) (t:=t) (x:=v.From) (v:=v) (m:=m);have:=jz82 (g:=g) (f:=f) (t:=t) (x:=v.To) (v:=v) (m:=pin g f t v m v.From);have h3:(l.foldl (pins g f t) (pins g f t m v)).length<=(pins g f t m v).length+2*l.length:=h3;unfold pins at h3 |-;simp only[Df];omega
theorem kzb7{l:List Int}(h:0<l.length)(h2:l.length<=1000000000):CG l=some (Bj l):=by unfold CG;rw[ck_t];simp;omega
theorem jz9s{g:Int}{t:Aw}{v:Ac}{m:List (Int×Bool)}:lp (D5 g t v) (0,m)=some (pins g t.From t.To m v):=by
 refine Jv (l:=[v.From,v.To]) (fun k=>((k:Int),([v.From,v.To].take k).foldl (pin g t.From t.To v) m)) (by simp) (fun k x hx=>?_) ?_ rfl
 ·have hk:=(AN.1 hx).1;simp only[D5];rw[it_d,at_e rfl hx];simp only[Af];have e:(bif (bif (decide (v.Gauge=g)) then(decide (t.From<x)) else false) then(decide (x<t.To)) else false)=decide (v.Gauge=g/\t.From<x/\x<t.To):=by simp only[P0];rw[GQ];simp[and_assoc]
  rw[e,Fw hx,List.foldl_append];simp only[Df,List.length_nil]at hk;by_cases h:v.Gauge=g/\t.From<x/\x<t.To
  ·rw[it_d h,AA];simp only[List.foldl_cons,List.foldl_nil,pin,Ap h];rfl
  ·rw[it_n h,AA];simp only[List.foldl_cons,List.foldl_nil,pin,Aj h];rfl
 ·simp only[D5];rw[it_n];rfl
theorem jz0n{l:List Ac}{g f t:Int}(hl:l.length<=10000):∃E,Hu l g ⟨f,t⟩=some E/\Eds l g f t E/\E.length<=2*l.length+2:=by
 unfold Hu
 have e:=Jv (body:=Er g l ⟨f,t⟩) (l:=l) (fun k=>((k:Int),(l.take k).foldl (pins g f t) (mput keqI (mput keqI ([]:List (Int×Bool)) f true) t true))) (by omega) (fun k x hx=>by
  have hk:=(AN.1 hx).1;simp only[Er];rw[it_d,at_e rfl hx];simp only[Af];rw[jz9s];simp only[Af];rw[AA,Fw hx,List.foldl_append];rfl) (by
  simp only[Er];rw[it_n]) (s:=((0:Int),mput keqI (mput keqI ([]:List (Int×Bool)) f true) t true)) rfl
 rw[show(0,mput keqI (mput keqI ([]:List (Int×Bool)) (Aw.mk f t).From true) (Aw.mk f t).To true)=((0:Int),mput keqI (mput keqI ([]:List (Int×Bool)) f true) t true) from rfl,e];simp only[Af,List.take_length];obtain⟨h1,h2,h3⟩:=jz8w (g:=g) (f:=f) (t:=t) l (mput keqI (mput keqI ([]:List (Int×Bool)) f true) t true) (TX (TX List.nodup_nil));have hm:∀y,y∈(mput keqI (mput keqI ([]:List (Int×Bool)) f true) t true).map (·.1)↔y=f\/y=t:=fun y=>by rw[TY,TY];simp
 have dx:(mput keqI (mput keqI ([]:List (Int×Bool)) f true) t true).length<=2:=by have:=TZ (k:=t) (m:=mput keqI ([]:List (Int×Bool)) f true);have:=TZ (k:=f) (m:=([]:List (Int×Bool)));simp only[List.length_nil]at this;omega
 generalize l.foldl (pins g f t) (mput keqI (mput keqI ([]:List (Int×Bool)) f true) t true)=M at *;have h0:0<M.length:=by have:f∈M.map (·.1):=(h2 f).2 (.inl ((hm f).2 (.inl rfl)));have:=List.length_pos_of_mem this;simpa using this
 rw[kzb7 (l:=M.map (fun p=>p.1)) (by simpa using h0) (by rw[JC];omega)];refine⟨Bj (M.map (·.1)),rfl,⟨ZJ _ h1,fun x=>?_⟩,by rw[ZL,JC];omega⟩;rw[TW,h2,hm,or_assoc]
end Go.Am

namespace Go.Am
def prs:List Int->List Aw
 |a :: b :: l=>⟨a,b⟩ :: prs (b :: l)
 |_=>[]
theorem Px:∀l:List Int,(prs l).length=l.length-1
 |[]=>rfl
 |[a]=>rfl
 |a :: b :: l=>by show(prs (b :: l)).length+1=_;rw[Px (b :: l)];simp
theorem Uh:∀(l:List Int) (k:Nat) (h:k+1<l.length),(prs l)[k]?=some ⟨l[k],l[k+1]⟩
 |[],k,h=>by simp at h
 |[a],k,h=>by simp at h
 |a :: b :: l,0,h=>rfl
 |a :: b :: l,k+1,h=>by have:=Uh (b :: l) k (by simpa using h);simpa [prs] using this
theorem kzb4{α O ω:Type}(body:α->O->Option (O⊕ω)):∀(a b:List α) (s:O),Bt body (a++b) s=(match Bt body a s with
  |some (.inl s')=>Bt body b s'
  |some (.inr o)=>some (.inr o)
  | none=>none)
 |[],b,s=>rfl
 |x :: a,b,s=>by
  rw[Um];simp only[Bt];cases body x s with
  |none=>rfl
  |some o=>cases o with
   |inl s'=>simp only;exact kzb4 body a b s'
   |inr o=>rfl
theorem jz0m{O ω:Type}{body:Aw->O->Option (O⊕ω)}{s0:O}{E:List Int}{r:O⊕ω}(hE:E.length<=1000000)(h:Bt body (prs E) s0=some r) : ∃l,Kp E (fun l=>EL body l s0)=some l/\Bt body l s0=some r:=by
 unfold Kp;have hn:=Px E
 obtain⟨o,e,ho⟩:=Dw (s:=((1:Int),([]:List Aw))) (body:=QY E (fun l=>EL body l s0)) (fun s=>∃k:Nat,s=((k:Int)+1,(prs E).take k)/\k<=(prs E).length/\∃s',Bt body ((prs E).take k) s0=some (.inl s')) (fun s=>(E.length-s.1).toNat) (fun o=>∃l,(o=.inl l\/o=.inr l)/\Bt body l s0=some r) (by
  rintro s ⟨k,rfl,hk,s',aX⟩;simp only[QY];by_cases hlt:k+1<E.length
  ·have hx:=Uh E k hlt;have dF:prs E=(prs E).take (k+1)++(prs E).drop (k+1):=(P7 _ _).symm;have eB:=Fw hx;rw[it_d,AA,at_e (n:=k) (by omega) (AD (by omega)),Af,at_e (n:=k+1) (by omega) (AD hlt)];simp only[Af];rw[<-eB];have h2:=h;rw[dF,kzb4]at h2;unfold EL;cases hq:Bt body ((prs E).take (k+1)) s0 with
   |none=>rw[hq]at h2;cases h2
   |some q=>cases q with
    |inl s2 =>left;simp only[Af];rw[Be,AA];exact⟨_,rfl,⟨k+1,by simp,by omega,s2,hq⟩,by simp only;omega⟩
    |inr o =>right;rw[hq]at h2;simp only[Af];rw[Dp];exact⟨_,rfl,_,.inr rfl,hq.trans h2⟩
  ·right;rw[it_n];have:(prs E).take k=prs E:=Ia (by omega);refine⟨_,rfl,prs E,.inl (by rw[this]),h⟩) ⟨0,rfl,Ej _,s0,rfl⟩ (by simp;omega)
 obtain⟨l,hl,hr⟩:=ho;rw[e];refine⟨l,?_,hr⟩;rcases hl with rfl|rfl<;>rfl
theorem jz7q{α:Type}(M:List α)(q y:α):List.set (M++[q]) (Int.toNat ((List.length (M++[q]):Int)-1)) y=M++[y]:=by rw[show Int.toNat ((List.length (M++[q]):Int)-1)=M.length by simp];rw[List.set_append_right _ _ (AB _)];simp
theorem jz7y{α:Type}(M:List α)(q:α):at? (M++[q]) ((List.length (M++[q]):Int)-1)=some q:=at_e (n:=M.length) (by simp) (by simp)
def vdat(l:List Ac)(g x known:Int):Int:=match vfrc l 2 g x known with
 |some v=>v.Shift
 |none=>0
def spS(l:List Ac)(g known:Int)(w:AJ)(out:List AL)(x:Aw):Option (List AL):=match vfrc l 1 g x.From known with
 |none=>none
 | some c=>some (match out.getLast? with
  |some q=>if q.Datum=vdat l g x.From known/\q.Curve.Points=c.Curve.Points then out.dropLast++[⟨q.From,x.To,q.Weight,q.Datum,q.Curve⟩] else out++[⟨x.From,x.To,w,vdat l g x.From known,c.Curve⟩]
  | none=>out++[⟨x.From,x.To,w,vdat l g x.From known,c.Curve⟩])
theorem jz78{l:List Ac}{g known:Int}{w:AJ}{out out':List AL}{x:Aw}(h:spS l g known w out x=some out'):out'.length<=out.length+1:=by
 unfold spS at h;split at h
 ·cases h
 ·cases h;split
  ·split;·simp
   ·simp
  ·simp
theorem jz8z{l:List Ac}(hb:VBk l){g x known:Int}{c:Ac}(h:vfrc l 1 g x known=some c):c∈l/\0<c.Curve.Points.length/\c.Curve.Points.length<=16:=by
 obtain⟨h1,h2⟩:=Uc 1 g x known _ l rfl c h;have hr:=hb.right c h1;refine⟨h1,?_⟩;have hk:c.Kind=1:=h2.1
 have he:Jw c.Curve=0:=by
  rcases hr.2 with h|h|h
  ·exact h.2.2
  ·omega
  ·omega
 unfold Jw at he;split at he
 ·cases he
 ·omega
theorem jz9h{l:List Ac}(hl:l.length<=1000)(ha:l.Pairwise vlt)(g x known:Int):QT l 2 g x known=some (vdat l g x known):=by
 unfold QT vdat;rw[Ud hl ha];simp only[Af];cases vfrc l 2 g x known with
 |none=>rfl
 |some v=>rfl
def SpOk(out:List AL):Prop:=∀s,s∈out->s.Curve.Points.length<=16
theorem jz8j{l:List Ac}(hb:VBk l){g known:Int}{w:AJ}{out out':List AL}{x:Aw}(hO:SpOk out)(h:spS l g known w out x=some out'):SpOk out':=by
 unfold spS at h;split at h
 ·cases h
 ·rename_i c hc;have hp:=(jz8z hb hc).2.2;cases h;split
  ·rename_i q hq;have qr:=hO q (List.mem_of_getLast? hq);split
   ·intro s hs;rcases Cp.1 hs with h|h
    ·exact hO s ((List.dropLast_sublist out).subset h)
    ·cases BX.1 h;exact qr
   ·intro s hs;rcases Cp.1 hs with h|h
    ·exact hO s h
    ·cases BX.1 h;exact hp
  ·intro s hs;rcases Cp.1 hs with h|h
   ·exact hO s h
   ·cases BX.1 h;exact hp
theorem jz9r{a b:AG}(h:a.Points.length<=16):Hv a b=some (decide (a.Points=b.Points)):=by unfold Hv;rw[ZU (by omega)];rfl
theorem jz7w{l:List AC}(h:0<l.length)(h2:l.length<=16):Ny l=some l:=by unfold Ny;rw[ck_t];simp;omega
theorem kzaa{l:List Ac}(hl:l.length<=1000)(hb:VBk l){g known:Int}{w:AJ}{out:List AL}{x:Aw}(hO:SpOk out)(hn:out.length<=100000) :
  Xk g known l w x out=some (match spS l g known w out x with | none=>.inr ([],8) | some o=>.inl o):=by
 unfold Xk spS;simp only;rw[Ud hl hb.asc];cases hv:vfrc l 1 g x.From known with
 |none=>rfl
 |some c =>
  obtain⟨hc,mP,hp⟩:=jz8z hb hv;simp only[Af,Option.isSome_some,Da];rw[Be,jz9h hl hb.asc];simp only[Af];generalize vdat l g x.From known=d;rcases List.eq_nil_or_concat out with rfl|⟨M,q,rfl⟩
  ·simp only[List.length_nil,Int.ofNat_zero,Int.lt_irrefl,decide_false,CZ,Bool.true_or,G2,AQ,Af,Cq,Be];rw[jz7w mP hp];simp only[Af];rw[ck_d (by simp)];rfl
  ·rw[List.concat_eq_append]at *;have hq:q.Curve.Points.length<=16:=hO q (by simp);have h0:decide (0<(List.length (M++[q]):Int))=true:=by simp
   have aP:As .i64 ((List.length (M++[q]):Int)-1)=true:=by simp only[BK,Dh]at hn |-;simp[As];omega
   simp only[h0,aP,jz7y,Da,Bool.or_true,G2,AU,Af,Cj];have gl:(M++[q]).getLast?=some q:=List.getLast?_concat;simp only[gl];by_cases hd:q.Datum=d
   ·subst hd;simp only[decide_true,Da,Bool.false_or,G2,AU,Af,Cj,jz9r hq];by_cases he:q.Curve.Points=c.Curve.Points
    ·rw[it_d he,Ap ⟨trivial,he⟩,List.dropLast_concat];simp only[Af,jz7q]
    ·rw[it_n he,Aj (fun e=>he e.2)];show(bd (Ny c.Curve.Points) _:Option _)=_;rw[jz7w mP hp];simp only[Af];rw[ck_d (by simp at hn |-;omega)]
   ·have gM:decide (q.Datum=d)=false:=Bz hd;simp only[gM,CZ,Bool.true_or,G2,AQ,Af,Cq,Be,Aj (fun e:q.Datum=d/\q.Curve.Points=c.Curve.Points=>hd e.1)];rw[jz7w mP hp];simp only[Af];rw[ck_d (by simp at hn |-;omega)]
def spF(l:List Ac)(g known:Int)(w:AJ):List Aw->List AL->Option (List AL)
 |[],out=>some out
 |x :: xs,out=>match spS l g known w out x with
  |none=>none
  |some o=>spF l g known w xs o
theorem jz9i{l:List Ac}(hl:l.length<=1000)(hb:VBk l){g known:Int}{w:AJ}:∀(xs:List Aw) (out:List AL),SpOk out->out.length+xs.length<=100000 ->
  Bt (Xk g known l w) xs out=some (match spF l g known w xs out with | none=>.inr ([],8) | some o=>.inl o)
 |[],out,_,_=>rfl
 |x :: xs,out,hO,hn=>by
  simp only[Df]at hn;simp only[Bt,spF];rw[kzaa hl hb hO (by omega)];cases hs:spS l g known w out x with
  |none=>rfl
  |some o =>have:=jz78 hs;exact jz9i hl hb xs o (jz8j hb hO hs) (by omega)
theorem jz87{l:List Ac}{g known:Int}{w:AJ}:∀(xs:List Aw) (out out':List AL),spF l g known w xs out=some out'->out'.length<=out.length+xs.length
 |[],out,out',h=>by cases h;simp
 |x :: xs,out,out',h=>by
  simp only[spF]at h;split at h
  ·cases h
  ·rename_i o hs;have:=jz78 hs;have:=jz87 xs o out' h;simp only[Df];omega
theorem jz83{l:List Ac}(hb:VBk l){g known:Int}{w:AJ}:∀(xs:List Aw) (out out':List AL),SpOk out->spF l g known w xs out=some out'->SpOk out'
 |[],out,out',hO,h=>by cases h;exact hO
 |x :: xs,out,out',hO,h=>by
  simp only[spF]at h;split at h
  ·cases h
  ·rename_i o hs;exact jz83 hb xs o out' (jz8j hb hO hs) h
theorem jz8c(a b k:Int):(bif (bif (bif (bif (decide (a<0)) then true else(decide (b<a))) then true else(decide (1402560<b))) then true else(decide (k<0))) then true else(decide (14609<k)))=decide (¬(0<=a/\a<=b/\b<=1402560/\0<=k/\k<=14609)):=by simp only[HV];rw[GQ];simp only[Fz,BB];omega
noncomputable def jz7e(l:List Ac)(g:Int)(t:Aw)(known:Int)(w:AJ)(E:List Int):List AL×Int :=
 if vchE l≠0 then([],vchE l) else if ¬Vd w then([],1) else if ¬(0<=t.From/\t.From<=t.To/\t.To<=1402560/\0<=known/\known<=14609) then([],3) else match spF l g known w (prs E) [] with
 |none=>([],8)
 |some o=>(o,0)
theorem jz9a{l:List Ac}{g:Int}{t:Aw}{known:Int}{w:AJ}(hs:VsSz l)(hw:Sz 134217728 w):∃E,(vchE l=0->Eds l g t.From t.To E/\E.length<=2*l.length+2)/\NH l g t known w=some (jz7e l g t known w E):=by
 by_cases hl:l.length<=10000;rotate_left
 ·have hc:vchE l≠0:=fun e=>hl (by have:=(Fx.1 e).1;omega);refine⟨[],fun e=>absurd e hc,?_⟩;unfold NH jz7e;rw[GL hs];simp only[Af];rw[BU hc,Ap hc]
 obtain⟨E,hE,pO,qp⟩:=jz0n (l:=l) (g:=g) (f:=t.From) (t:=t.To) hl;refine⟨E,fun _=>⟨pO,qp⟩,?_⟩;unfold NH jz7e;rw[GL hs];simp only[Af];by_cases hc:vchE l=0;rotate_left
 ·rw[BU hc,Ap hc]
 rw[Bu hc,Aj (fun e=>e hc),Ya hw];simp only[Af];by_cases hv:Vd w;rotate_left
 ·rw[BU hv,Ap hv]
 rw[Bu hv,Aj (fun e=>e hv),jz8c];by_cases hr:0<=t.From/\t.From<=t.To/\t.To<=1402560/\0<=known/\known<=14609;rotate_left
 ·rw[it_d hr,Ap hr]
 rw[it_n (fun e=>e hr),Aj (fun e=>e hr)];obtain⟨nq,hb⟩:=Fx.1 hc;have cQ:=Px E;have hf:=jz9i (l:=l) (by omega) hb (g:=g) (known:=known) (w:=w) (prs E) [] (fun s hs=>by cases hs) (by simp;omega);obtain⟨ys,h1,h2⟩:=jz0m (by omega) hf;rw[show Hu l g t=some E from hE];simp only[Af];rw[h1];simp only[Af];rw[h2];simp only[Af];cases spF l g known w (prs E) []<;>rfl
theorem jz9l{l:List Ac}{g:Int}{t:Aw}{known:Int}{w:AJ}{E:List Int}(hEE:vchE l=0->Eds l g t.From t.To E/\E.length<=2*l.length+2):(jz7e l g t known w E).1.length<=1000/\SpOk (jz7e l g t known w E).1:=by
 unfold jz7e;split
 ·exact⟨by simp,fun s hs=>by cases hs⟩
 ·rename_i hc;obtain⟨nq,hb⟩:=Fx.1 (Classical.not_not.1 hc);split
  ·exact⟨by simp,fun s hs=>by cases hs⟩
  ·split;·exact⟨by simp,fun s hs=>by cases hs⟩
   ·cases h:spF l g known w (prs E) [] with
    |none=>exact⟨by simp,fun s hs=>by cases hs⟩
    |some o =>have:=jz87 _ _ _ h;have h2:=Px E;have h3:=(hEE (Classical.not_not.1 hc)).2;refine⟨by simp only[List.length_nil]at this;show o.length<=1000;omega,jz83 hb _ _ _ (fun s hs=>by cases hs) h⟩
theorem jz74{a:List AL}(h:a.length<=1000000)(ho:SpOk a):Rf a a=some true:=by
 unfold Rf;rw[Bu rfl,GJ (l:=a) (ω:=Bool) (fun k x=>none) (by omega) ?_ ?_]
 ·rw[TT _ _ (fun _ _ _=>rfl)];rfl
 ·intro k x hx;have hk:=(AN.1 hx).1;simp only[jz6n];rw[it_d];simp only[at_e rfl hx,Af];rw[Ue (by have:=ho x (Dx hx);omega)];simp[AU,Af];rw[Be,AA]
 ·simp only[jz6n];rw[it_n]
theorem vpts{v:Ac}(h:VRi v):v.Curve.Points.length<=16:=by
 rcases h.2 with h|h|h
 ·have he:=h.2.2;unfold Jw at he;split at he
  ·cases he
  ·omega
 ·omega
 ·omega
def spV(l:List Ac)(g known x:Int):Int×List AC:=(vdat l g x known,match vfrc l 1 g x known with | some c=>c.Curve.Points | none=>[])
def spT(s:AL):Int×Int×Int×List AC:=(s.From,s.To,s.Datum,s.Curve.Points)
def unTk(w:AJ)(p:Int×Int×Int×List AC):AL:=⟨p.1,p.2.1,w,p.2.2.1,⟨p.2.2.2⟩⟩
theorem Uj{w:AJ}:∀{o:List AL},(∀s,s∈o->s.Weight=w)->(o.map spT).map (unTk w)=o
 |[],_=>rfl
 |s :: o,h=>by
  have hs:unTk w (spT s)=s:=by rw[<-h s (by simp)];rfl
  rw[HZ,HZ,hs,Uj fun x hx=>h x (by simp[hx])]
theorem kzcn{l:List Ac}{k g a b x known:Int}{v:Ac}(hv:v∈l)(bT:∀y,isEd l g y->a<y->y<b->False)(h1:a<=x)(h2:x<b):vfit k g x known v↔vfit k g a known v:=by
 unfold vfit;constructor
 ·rintro⟨e1,e2,e3,e4,e5⟩;refine⟨e1,e2,e3,?_,by omega⟩;by_cases h:a<v.From
  ·exact(bT v.From ⟨v,hv,e2,.inl rfl⟩ h (by omega)).elim
  ·omega
 ·rintro⟨e1,e2,e3,e4,e5⟩;refine⟨e1,e2,e3,by omega,?_⟩;by_cases h:v.To<b
  ·exact(bT v.To ⟨v,hv,e2,.inr rfl⟩ e5 h).elim
  ·omega
theorem kzch{k g x x' c c':Int}:∀(l:List Ac) (b:Option Ac),(∀v,v∈l->(vfit k g x c v↔vfit k g x' c' v))->l.foldl (DI k g x c) b=l.foldl (DI k g x' c') b
 |[],b,_=>rfl
 |v :: l,b,h=>by
  have e:DI k g x c b v=DI k g x' c' b v:=by
   unfold DI;by_cases hv:vfit k g x c v
   ·rw[Ap hv,Ap ((h v (by simp)).1 hv)]
   ·rw[Aj hv,Aj fun e=>hv ((h v (by simp)).2 e)]
  rw[List.foldl_cons,List.foldl_cons,e,kzch l _ fun y hy=>h y (by simp[hy])]
theorem kzco{l:List Ac}{k g x x' c c':Int}(h:∀v,v∈l->(vfit k g x c v↔vfit k g x' c' v)):vfrc l k g x c=vfrc l k g x' c':=kzch l none h
theorem kzcf{l:List Ac}{k g a b x known:Int}(bT:∀y,isEd l g y->a<y->y<b->False)(h1:a<=x)(h2:x<b):vfrc l k g x known=vfrc l k g a known:=kzco fun v hv=>kzcn hv bT h1 h2
theorem kzc4{l:List Ac}{g a b x known:Int}(bT:∀y,isEd l g y->a<y->y<b->False)(h1:a<=x)(h2:x<b):spV l g known x=spV l g known a:=by unfold spV vdat;rw[kzcf bT h1 h2,kzcf bT h1 h2]
theorem kzdc{l:List Ac}{g known:Int}{w:AJ}{out:List AL}{a b:Int}{c:Ac}(hc:vfrc l 1 g a known=some c)(hw:∀s,s∈out->s.Weight=w) : ∃o,spS l g known w out ⟨a,b⟩=some o/\o.map spT=jn (out.map spT) (a,b,spV l g known a)/\∀s,s∈o->s.Weight=w:=by
 have hv:spV l g known a=(vdat l g a known,c.Curve.Points):=by unfold spV;rw[hc]
 unfold spS;simp only[hc];rw[hv];refine⟨_,rfl,?_⟩;rcases List.eq_nil_or_concat out with rfl|⟨M,q,rfl⟩
 ·exact⟨rfl,fun s hs=>by cases BX.1 hs;rfl⟩
 ·rw[List.concat_eq_append]at *;have gl:(M++[q]).getLast?=some q:=List.getLast?_concat;have gl2:((M++[q]).map spT).getLast?=some (spT q):=by rw[List.map_append];exact List.getLast?_concat
  simp only[gl,jn,gl2];have hq:=hw q (by simp);by_cases h:q.Datum=vdat l g a known/\q.Curve.Points=c.Curve.Points
  ·rw[Ap h,Ap (show(spT q).2.2=(vdat l g a known,c.Curve.Points) from Prod.ext h.1 h.2),List.dropLast_concat,List.map_append,List.map_append,List.map_singleton,List.map_singleton,List.dropLast_concat];refine⟨rfl,fun s hs=>?_⟩;rcases Cp.1 hs with h|h
   ·exact hw s (by simp[h])
   ·cases BX.1 h;exact hq
  ·rw[Aj h,Aj (fun e:(spT q).2.2=(vdat l g a known,c.Curve.Points)=>h ⟨F5 (·.1) e,F5 (·.2) e⟩),List.map_append (l₁:=M++[q])];refine⟨rfl,fun s hs=>?_⟩;rcases Cp.1 hs with h|h
   ·exact hw s h
   ·cases BX.1 h;rfl
theorem kzc7{l:List Ac}{g known f t:Int}{w:AJ}:∀(E:List Int) (a:Int) (out:List AL),SAsc (a :: E)->t∈a :: E->(∀y,y∈a :: E->y<=t)->(∀y,isEd l g y->a<y->y<t->y∈E)->Cd (spV l g known) a none f (out.map spT)->(∀s,s∈out->s.Weight=w)->(∀x,f<=x->x<a->vfrc l 1 g x known≠none) -> (∃o,spF l g known w (prs (a :: E)) out=some o/\Cd (spV l g known) t none f (o.map spT)/\(∀s,s∈o->s.Weight=w)/\∀x,f<=x->x<t->vfrc l 1 g x known≠none) \/ (spF l g known w (prs (a :: E)) out=none/\∃x,a<=x/\x<t/\vfrc l 1 g x known=none)
 |[],a,out,hs,ht,aE,hE,hC,hw,hx=>by cases BX.1 ht;exact .inl ⟨out,rfl,hC,hw,hx⟩
 |b :: E,a,out,hs,ht,aE,hE,hC,hw,hx=>by
  obtain⟨s1,s2⟩:=GU.1 hs;have gH:a<b:=s1 b (by simp);have qo:b<=t:=aE b (by simp)
  have bT:∀y,isEd l g y->a<y->y<b->False:=fun y hy h1 h2=>by
   have:=hE y hy h1 (by omega);rcases AI.1 this with rfl|h
   ·omega
   ·have:=(GU.1 s2).1 y h;omega
  have g9:t∈b :: E:=(AI.1 ht).elim (fun e=>by omega) id;cases hv:vfrc l 1 g a known with
  |none =>refine .inr ⟨?_,a,Lp _,by omega,hv⟩;show(match spS l g known w out ⟨a,b⟩ with | none=>none | some o=>spF l g known w (prs (b :: E)) o)=none;unfold spS;simp only[hv]
  |some c =>
   obtain⟨o,ho,hj,jd⟩:=kzdc (b:=b) hv hw;have pL:Cd (spV l g known) b none f (o.map spT):=by rw[hj];exact Cd.jn (p:=(a,b,spV l g known a)) hC rfl gH fun x x1 x2=>kzc4 bT x1 x2
   have ih:=kzc7 E b o s2 g9 (fun y hy=>aE y (by simp[hy])) (fun y hy h1 h2=>by
    rcases AI.1 (hE y hy (by omega) h2) with rfl|h
    ·omega
    ·exact h) pL jd (fun x x1 x2=>by
    by_cases h:x<a
    ·exact hx x x1 h
    ·rw[kzcf bT (by omega) x2,hv];simp)
   have hF:spF l g known w (prs (a :: b :: E)) out=spF l g known w (prs (b :: E)) o:=by show(match spS l g known w out ⟨a,b⟩ with | none=>none | some o=>spF l g known w (prs (b :: E)) o)=_;rw[ho]
   rw[hF];rcases ih with h|⟨h,x,x1,x2,x3⟩
   ·exact .inl h
   ·exact .inr ⟨h,x,by omega,x2,x3⟩
theorem Eds.head{l:List Ac}{g f t:Int}{E:List Int}(h:Eds l g f t E)(kv:f<=t):∃E',E=f :: E':=by
 have hf:f∈E:=(h.mem f).2 (.inl rfl);cases E with
 |nil=>cases hf
 |cons a E =>
  refine⟨E,?_⟩;have ha:=(h.mem a).1 (by simp);rcases AI.1 hf with e|e
  ·rw[e]
  ·have:=(GU.1 h.asc).1 f e;rcases ha with e|e|⟨_,e,_⟩<;>omega
structure SpC(l:List Ac)(g known:Int)(w:AJ)(f t:Int)(o:List AL):Prop where
 cd:Cd (spV l g known) t none f (o.map spT)
 wt:∀s,s∈o->s.Weight=w
 all:∀x,f<=x->x<t->vfrc l 1 g x known≠none
theorem SpC.uniq{l m:List Ac}{g h known k:Int}{w:AJ}{f t:Int}{o p:List AL}(ho:SpC l g known w f t o)(hp:SpC m h k w f t p)(e:∀x,f<=x->x<t->spV l g known x=spV m h k x):o=p:=by rw[<-Uj ho.wt,<-Uj hp.wt,(ho.cd.congr e).uniq hp.cd]
theorem kzc8{l:List Ac}{g known f t:Int}{w:AJ}{E:List Int}(hE:Eds l g f t E)(kv:f<=t) : (∃o,spF l g known w (prs E) []=some o/\SpC l g known w f t o)\/(spF l g known w (prs E) []=none/\∃x,f<=x/\x<t/\vfrc l 1 g x known=none):=by
 obtain⟨E',rfl⟩:=hE.head kv;have aE:∀y,y∈f :: E'->y<=t:=fun y hy=>by rcases(hE.mem y).1 hy with e | e | ⟨_,_,e⟩<;>omega
 rcases kzc7 (l:=l) (g:=g) (known:=known) (f:=f) (t:=t) (w:=w) E' f [] hE.asc ((hE.mem t).2 (.inr (.inl rfl))) aE (fun y hy h1 h2=>by
  rcases AI.1 ((hE.mem y).2 (.inr (.inr ⟨hy,h1,h2⟩))) with rfl|h
  ·omega
  ·exact h) rfl (fun s hs=>by cases hs) (fun x x1 x2=>by omega) with ⟨o,h1,h2,h3,h4⟩ | h
 ·exact .inl ⟨o,h1,h2,h3,h4⟩
 ·exact .inr h
theorem kzc1{l:List Ac}{g known:Int}{t:Aw}{w:AJ}(hs:VsSz l)(hw:Sz 134217728 w)(hv:Vd w)(hc:vchE l=0) : ∃y:List AL×Int,NH l g t known w=some y/\y.1.length<=1000/\SpOk y.1 /\ ((y=([],3)/\¬(0<=t.From/\t.From<=t.To/\t.To<=1402560/\0<=known/\known<=14609))\/((0<=t.From/\t.From<=t.To/\t.To<=1402560/\0<=known/\known<=14609)/\((y.2=0/\SpC l g known w t.From t.To y.1)\/(y=([],8)/\∃x,t.From<=x/\x<t.To/\vfrc l 1 g x known=none)))):=by
 obtain⟨E,hE,e⟩:=jz9a (g:=g) (t:=t) (known:=known) hs hw;obtain⟨n1,n2⟩:=jz9l (g:=g) (known:=known) (w:=w) hE;refine⟨_,e,n1,n2,?_⟩;unfold jz7e;rw[Aj (fun h=>h hc),Aj (fun h=>h hv)];by_cases hr:0<=t.From/\t.From<=t.To/\t.To<=1402560/\0<=known/\known<=14609;rotate_left
 ·rw[Ap hr];exact .inl ⟨rfl,hr⟩
 rw[Aj (fun h=>h hr)];refine .inr ⟨hr,?_⟩;rcases kzc8 (w:=w) (known:=known) (hE hc).1 hr.2.1 with ⟨o,h1,h2⟩|⟨h1,h2⟩
 ·rw[h1];exact .inl ⟨rfl,h2⟩
 ·rw[h1];exact .inr ⟨rfl,h2⟩
end Go.Am

namespace Go.Am
set_option maxRecDepth 100000 in
theorem jz8f:NJ=some true:=by decide +kernel
def vZ:Ac:=Ac.mk 0 0 0 0 0 0 0 (AG.mk [])
def Fy(x known:Int):Prop:=0<=x/\x<1402560/\0<=known/\known<=14609
instance (x k:Int):Decidable (Fy x k):=by unfold Fy;infer_instance
theorem kzcx(x k:Int):(bif (bif (bif (decide (x<0)) then true else(decide (1402560<=x))) then true else(decide (k<0))) then true else(decide (14609<k)))=decide (¬Fy x k):=by unfold Fy;simp only[HV];rw[GQ];simp only[Fz,BB];omega
theorem kzcr(x k:Int):Kk x k=some (if Fy x k then 0 else 3):=by
 unfold Kk;rw[kzcx];by_cases h:Fy x k
 ·rw[it_n (fun e=>e h),Ap h]
 ·rw[it_d h,Aj h]
noncomputable def infc(l:List Ac)(k g x known:Int):Ac×Int :=
 if vchE l≠0 then(vZ,vchE l) else if ¬Fy x known then(vZ,3) else match vfrc l k g x known with
 |some v=>(v,0)
 |none=>(vZ,8)
theorem kzce{l:List Ac}(hs:VsSz l)(k g x known:Int):Gx l k g x known=some (infc l k g x known):=by
 unfold Gx infc;rw[GL hs];simp only[Af];by_cases hc:vchE l=0;rotate_left
 ·rw[BU hc,Ap hc];rfl
 rw[Bu hc,Aj (fun e=>e hc),kzcr];simp only[Af];by_cases ha:Fy x known;rotate_left
 ·rw[Aj ha,Ap ha];rfl
 rw[Ap ha,Aj (fun e=>e ha)];obtain⟨nq,hb⟩:=Fx.1 hc;rw[Bu rfl,Ud (by omega) hb.asc];simp only[Af];cases vfrc l k g x known<;>rfl
theorem kzdr{v:Ac}(h:v.Curve.Points.length<=1048576):Kt v v=some true:=by rw[jz3a h];simp
theorem kzck{α:Type}{p:List α->Prop}(h0:p [])(h1:∀l a,p l->p (l++[a])):∀(n:Nat) (l:List α),l.length=n->p l
 |0,l,h=>by rw[J7.1 h];exact h0
 |n+1,l,h=>by
  have aH:l≠[]:=fun e=>by rw[e]at h;cases h
  rw[<-List.dropLast_concat_getLast aH];exact h1 _ _ (kzck h0 h1 n _ (by simp[h]))
theorem vrev{α:Type}{p:List α->Prop}(h0:p [])(h1:∀l a,p l->p (l++[a]))(l:List α):p l:=kzck h0 h1 _ l rfl
theorem kzdp(a:Int):∀l:List Int,l.Pairwise (·<=·)->(Ba a l).Pairwise (·<=·)
 |[],_=>P6 _ _
 |b :: l,hp=>by
  obtain⟨h1,h2⟩:=GU.1 hp;unfold Ba;cases hd:decide (a<=b)
  ·have hd:=of_decide_eq_false hd;refine GU.2 ⟨fun c hc=>?_,kzdp a l h2⟩;rcases(TU a l c).1 hc with rfl|hc
   ·omega
   ·exact h1 c hc
  ·have hd:=GY hd;refine GU.2 ⟨fun c hc=>?_,hp⟩;rcases AI.1 hc with rfl|hc
   ·exact hd
   ·have:=h1 c hc;omega
theorem kzdm:∀l:List Int,(Bj l).Pairwise (·<=·)
 |[]=>List.Pairwise.nil
 |a :: l=>kzdp a _ (kzdm l)
def eqI:Int->Int->Option Bool:=fun a b=>some (decide (a=b))
theorem kzdj:∀(l:List Int) (a:Int),l.Pairwise (·<=·)->(∀x,x∈l->a<=x)->∃r,cpA eqI a l=some r/\SAsc r/\(∀x,x∈r↔x∈l/\a<x)/\r.length<=l.length
 |[],a,_,_=>⟨[],rfl,List.Pairwise.nil,fun x=>by simp,AB _⟩
 |b :: l,a,hp,ha=>by
  obtain⟨h1,h2⟩:=GU.1 hp;obtain⟨r,e,r1,r2,r3⟩:=kzdj l b h2 h1;have gH:=ha b (by simp);unfold cpA;rw[e];show ∃r',bd (some (decide (b=a))) (fun q=>bd (some r) fun r=>some (bif q then r else b :: r))=some r'/\_;simp only[Af];by_cases hq:b=a
  ·subst hq;refine⟨r,by simp,r1,fun x=>?_,by simp only[Df];omega⟩;rw[r2];constructor
   ·rintro⟨h,k⟩;exact⟨by simp[h],k⟩
   ·rintro⟨h,k⟩;rcases AI.1 h with rfl|h
    ·omega
    ·exact⟨h,k⟩
  ·refine⟨b :: r,by simp[hq],GU.2 ⟨fun x hx=>((r2 x).1 hx).2,r1⟩,fun x=>?_,by simp only[Df];omega⟩;rw[AI,r2,AI];constructor
   ·rintro(rfl|⟨h,k⟩);·exact⟨.inl rfl,by omega⟩
    ·exact⟨.inr h,by omega⟩
   ·rintro⟨h|h,k⟩;·exact .inl h
    ·have:=h1 x h;by_cases e:x=b
     ·exact .inl e
     ·exact .inr ⟨h,by omega⟩
theorem kzdl{l:List Int}(h:l.Pairwise (·<=·))(hn:l.length<=1000000):∃r,WS l=some r/\SAsc r/\(∀x,x∈r↔x∈l)/\r.length<=l.length:=by
 unfold WS;rw[ck_d (by omega)];cases l with
 |nil=>exact⟨[],rfl,List.Pairwise.nil,fun x=>Iff.rfl,AB _⟩
 |cons a l =>
  obtain⟨h1,h2⟩:=GU.1 h;obtain⟨r,e,r1,r2,r3⟩:=kzdj l a h2 h1;refine⟨a :: r,?_,GU.2 ⟨fun x hx=>((r2 x).1 hx).2,r1⟩,fun x=>?_,by simp only[Df];omega⟩
  ·show bd (cpA eqI a l) (fun r=>some (a :: r))=_;rw[e];rfl
  ·rw[AI,r2,AI];constructor
   ·rintro(h|h);·exact .inl h
    ·exact .inr h.1
   ·rintro(h|h);·exact .inl h
    ·have:=h1 x h;by_cases e:x=a
     ·exact .inl e
     ·exact .inr ⟨h,by omega⟩
theorem kzdo{l:List Int}(h2:l.length<=1000000000):CG l=some (Bj l):=by unfold CG;rw[ck_t];simp;omega
structure kzet(l:List Ac)(g:Int)(D:List Int):Prop where
 asc:SAsc D
 mem:∀x,x∈D↔∃v,v∈l/\v.Gauge=g/\v.Known=x
theorem kzd2{l:List Ac}(hs:VsSz l)(hc:vchE l=0)(g:Int):∃D,Xm l g=some (D,0)/\kzet l g D/\D.length<=400:=by
 obtain⟨nq,hb⟩:=Fx.1 hc;unfold Xm;rw[GL hs];simp only[Af];rw[Bu hc]
 have e:=Jv (body:=jz70 g l) (l:=l) (s:=((0:Int),([]:List Int))) (fun k=>((k:Int),((l.take k).filter fun v=>decide (v.Gauge=g)).map (·.Known))) (by omega) (fun k x hx=>by
  have hk:=(AN.1 hx).1;have hf:=List.length_filter_le (fun v:Ac=>decide (v.Gauge=g)) (l.take k);rw[Eg]at hf;simp only[jz70];rw[it_d,at_e rfl hx,Fw hx,List.filter_append,List.map_append];simp only[Af];by_cases h:x.Gauge=g
  ·rw[it_d h,ck_d (by simp;omega),AA];simp[h]
  ·rw[it_n h,AA];simp[h]) (by
  simp only[jz70];rw[it_n,List.take_length]) rfl
 rw[e];simp only[Af];have hf:=List.length_filter_le (fun v:Ac=>decide (v.Gauge=g)) l;have hn:((l.filter fun v=>decide (v.Gauge=g)).map (·.Known)).length<=400:=by rw[JC];omega
 have hm:∀x,x∈(l.filter fun v=>decide (v.Gauge=g)).map (·.Known)↔∃v,v∈l/\v.Gauge=g/\v.Known=x:=fun x=>by simp only[P5,List.mem_filter,BB,and_assoc]
 generalize (l.filter fun v=>decide (v.Gauge=g)).map (·.Known)=xs at hn hm;rw[kzdo (by omega)];simp only[Af];obtain⟨r,e1,r1,r2,r3⟩:=kzdl (kzdm xs) (by rw[ZL];omega);rw[e1];simp only[Af];rw[ZL]at r3;exact⟨r,rfl,⟨r1,fun x=>by rw[r2,TW,hm]⟩,by omega⟩
theorem jz1y{l:List Ac}{p:Ac->Bool}(h:VBk l):VBk (l.filter p):=⟨fun r hr=>h.right r ((List.mem_filter.1 hr).1),h.asc.sublist List.filter_sublist⟩
theorem jz1t(kind g tick known:Int)(l:List Ac):vfrc (l.filter fun v=>decide (v.Known<=known)) kind g tick known=vfrc l kind g tick known:=by
 refine vrev (p:=fun l=>vfrc (l.filter fun v=>decide (v.Known<=known)) kind g tick known=vfrc l kind g tick known) rfl (fun l v ih=>?_) l;rw[List.filter_append,Jy];by_cases h:v.Known<=known
 ·have:[v].filter (fun v=>decide (v.Known<=known))=[v]:=by simp[h]
  rw[this,Jy,ih]
 ·have:[v].filter (fun v=>decide (v.Known<=known))=[]:=by simp[h]
  rw[this,List.append_nil,ih];unfold DI;rw[Aj (fun e:vfit kind g tick known v=>h e.2.2.1)]
theorem kzdh{l m:List Ac}{g known k:Int}{t:Aw}{w:AJ}(hs:VsSz l)(hm:VsSz m)(hw:Sz 134217728 w)(hv:Vd w)(hc:vchE l=0)(hd:vchE m=0)(h1:0<=known/\known<=14609)(h2:0<=k/\k<=14609)(e:∀kind x,vfrc l kind g x known=vfrc m kind g x k):NH m g t k w=NH l g t known w:=by
 obtain⟨y,e1,_,_,hy⟩:=kzc1 (g:=g) (known:=known) (t:=t) hs hw hv hc;obtain⟨z,e2,_,_,hz⟩:=kzc1 (g:=g) (known:=k) (t:=t) hm hw hv hd;have esp:∀x,spV l g known x=spV m g k x:=fun x=>by unfold spV vdat;rw[e,e]
 rw[e1,e2];congr 1;rcases hy with ⟨rfl,n⟩|⟨r,hy⟩<;>rcases hz with ⟨rfl,n'⟩|⟨r',hz⟩
 ·rfl
 ·exact absurd ⟨r'.1,r'.2.1,r'.2.2.1,h1⟩ n
 ·exact absurd ⟨r.1,r.2.1,r.2.2.1,h2⟩ n'
 ·rcases hy with ⟨y2,hy⟩|⟨rfl,x,x1,x2,hx⟩<;>rcases hz with ⟨z2,hz⟩|⟨rfl,x',x1',x2',fh⟩;·exact Prod.ext (hz.uniq hy fun x _ _=>(esp x).symm) (z2.trans y2.symm)
  ·exact absurd (by rw[e];exact fh) (hy.all x' x1' x2')
  ·exact absurd (by rw[<-e];exact hx) (hz.all x x1 x2)
  ·rfl
theorem kzdi{l m:List Ac}{g known k:Int}(hc:vchE l=0)(hd:vchE m=0)(h1:0<=known/\known<=14609)(h2:0<=k/\k<=14609)(e:∀kind x,vfrc l kind g x known=vfrc m kind g x k)(kind x:Int):infc m kind g x k=infc l kind g x known:=by
 unfold infc;rw[hc,hd];simp only[ne_eq,not_true_eq_false,Cz];by_cases h:Fy x known
 ·rw[Aj (fun q=>q ⟨h.1,h.2.1,h2⟩),Aj (fun q=>q h),e]
 ·rw[Ap (fun q:Fy x k=>h ⟨q.1,q.2.1,h1⟩),Ap h]
theorem kzds{l:List Ac}(hc:vchE l=0)(kind g x known:Int):(infc l kind g x known).1.Curve.Points.length<=16/\((infc l kind g x known).2=0->(infc l kind g x known).1.Known<=known):=by
 obtain⟨nq,hb⟩:=Fx.1 hc;unfold infc;rw[hc];simp only[ne_eq,not_true_eq_false,Cz];split
 ·exact⟨by simp[vZ],fun e=>by cases e⟩
 ·cases hv:vfrc l kind g x known with
  |none=>exact⟨by simp[vZ],fun e=>by cases e⟩
  |some v =>obtain⟨h1,h2⟩:=Uc _ _ _ _ _ l rfl v hv;exact⟨vpts (hb.right v h1),fun _=>h2.2.2.1⟩
theorem kzdz{q:CE}{D:List Int}(hk:0<=q.Known)(hD:SAsc D)(h0:∀d,d∈D->0<=d)(hn:D.length<=400) : ∃t,lp (kzdd q (D,0)) (0,0)=some (.inl t)/\0<=t/\t<=q.Known/\∀d,d∈D->d<=q.Known->d<=t:=by
 obtain⟨o,e,t,rfl,h1,h2,h3⟩:=Dw (s:=((0:Int),(0:Int))) (body:=kzdd q (D,0)) (fun s=>∃k:Nat,∃t,s=(t,(k:Int))/\k<=D.length/\0<=t/\t<=q.Known/\∀d,d∈D.take k->d<=q.Known->d<=t) (fun s=>(D.length-s.2).toNat) (fun o=>∃t,o=.inl t/\0<=t/\t<=q.Known/\∀d,d∈D->d<=q.Known->d<=t) (by
  rintro s ⟨k,t,rfl,di,h1,h2,h3⟩;simp only[kzdd];by_cases hlt:k<D.length;rotate_left
  ·right;rw[it_n];rw[Ia (by omega)]at h3;exact⟨_,rfl,t,rfl,h1,h2,h3⟩
  left;have hx:=AD hlt;have iT:=h0 D[k] (GT hlt);have bp:∀d,d∈D.take k->d<D[k]:=fun d hd=>by obtain⟨i,hi,rfl⟩:=J6 hd;rw[List.getElem_take];rw[Eg]at hi;exact U4.1 hD i k (by omega) hlt (by omega)
  have hq:∃y:Int,gd (decide (0<(k:Int))) (at? D ((k:Int)-1))=some y/\(bif decide (0<(k:Int)) then decide (D[k]<=y) else false)=false:=by
   cases k with
   |zero=>exact⟨default,rfl,rfl⟩
   |succ j =>
    refine⟨D[j],?_,?_⟩
    ·rw[Cy (by omega),AU];exact at_e (n:=j) (by omega) (AD (by omega))
    ·rw[Cy (show(0:Int)<((j+1:Nat):Int) by omega)];have:=U4.1 hD j (j+1) (by omega) hlt (by omega);exact Bz (by omega)
  obtain⟨y,y1,y2⟩:=hq;have eB:=Fw hx;rw[it_d,at_e rfl hx];simp only[Af];rw[ck_t (by simp[As];omega),y1];simp only[Af,y2,Be];generalize D[k]=d at *;by_cases h:d<=q.Known
  ·rw[it_d h,AA];refine⟨_,rfl,⟨k+1,d,by simp,hlt,iT,h,fun z hz me=>?_⟩,by simp only;omega⟩;rw[eB]at hz;rcases Cp.1 hz with hz|hz
   ·have:=bp z hz;omega
   ·cases BX.1 hz;exact Lp _
  ·rw[it_n h,AA];refine⟨_,rfl,⟨k+1,t,by simp,hlt,h1,h2,fun z hz me=>?_⟩,by simp only;omega⟩;rw[eB]at hz;rcases Cp.1 hz with hz|hz
   ·exact h3 z hz me
   ·cases BX.1 hz;exact absurd me h) ⟨0,0,rfl,Ej _,Lp _,hk,fun d hd=>by cases hd⟩ (by simp only;omega)
 exact⟨t,e,h1,h2,h3⟩
theorem kzd1{l:List Ac}{q:CE}:kzdg l q=some true:=by
 unfold kzdg;rw[jz8f];obtain⟨b,e,hb⟩:=jz09 l 20;simp only[Af,Da,CZ,AU,Cq];rw[e];simp only[Af];cases b
 ·simp only[CZ,Da,AQ,Af,Cj];rw[Dp]
 simp only[CZ,Da,AU,Cq];have hs:=hb rfl;rw[GL hs];simp only[Af];by_cases hc:vchE l=0;rotate_left
 ·simp only[hc,decide_false,CZ,Cj];rw[Dp]
 simp only[hc,decide_true,Da,Cq];by_cases hk:0<=q.Known/\q.Known<=14609;rotate_left
 ·rw[it_t (by simp only[HV,Fz,BB];omega)]
 rw[it_f (by simp only[HV,Ul,PK];omega)];obtain⟨nq,nu⟩:=Fx.1 hc;rw[Jv (l:=l) (s:=((0:Int),([]:List Ac))) (fun k=>((k:Int),(l.take k).filter fun r=>decide (r.Known<=q.Known))) (by omega) (o:=l.filter fun r=>decide (r.Known<=q.Known)) ?_ ?_ rfl];rotate_left
 ·intro k x hx;have hk:=(AN.1 hx).1;have hf:=List.length_filter_le (fun r:Ac=>decide (r.Known<=q.Known)) (l.take k);rw[Eg]at hf;have eB:l.take (k+1)=l.take k++[x]:=Fw hx;simp only[kzde];rw[it_d,at_e rfl hx];simp only[Af];by_cases h:x.Known<=q.Known
  ·rw[it_d h,ck_d (by simp only[BK,Dh];omega),AA,eB,List.filter_append];simp[h]
  ·rw[it_n h,AA,eB,List.filter_append];simp[h]
 ·simp only[kzde];rw[it_n,List.take_length]
 simp only[Af];have aX:VsSz (l.filter fun r=>decide (r.Known<=q.Known)):=fun v hv=>hs v ((List.mem_filter.1 hv).1);have f2:=List.length_filter_le (fun r:Ac=>decide (r.Known<=q.Known)) l;have e2:vchE (l.filter fun r=>decide (r.Known<=q.Known))=0:=Fx.2 ⟨by omega,jz1y nu⟩;obtain⟨D,d1,d2,d3⟩:=kzd2 hs hc q.Gauge;rw[d1];simp only[Af];have dm:∀d,d∈D->0<=d:=fun d hd=>by obtain⟨v,v1,_,rfl⟩:=(d2.mem d).1 hd;exact(nu.right v v1).1.2.2.1.1
 obtain⟨t,t1,t2,t3,t4⟩:=kzdz hk.1 d2.asc dm d3;rw[t1];simp only[Af,decide_true,Da,CZ,AU,Cq];rw[GL aX,e2];simp only[Af,decide_true,Da];rw[Be];obtain⟨w1,w2⟩:=qzrp (n:=1) (by decide) (by decide);have hv:Vd (rof ((1:Int):Rat)):=qz07 _;have hz:Sz 134217728 (rof ((1:Int):Rat)):=w2.mono (by decide);rw[w1];simp only[Af];have q1:∀kind x,vfrc l kind q.Gauge x q.Known=vfrc (l.filter fun r=>decide (r.Known<=q.Known)) kind q.Gauge x q.Known:=fun kind x=>(jz1t kind q.Gauge x q.Known l).symm
 have q2:∀kind x,vfrc l kind q.Gauge x q.Known=vfrc l kind q.Gauge x t:=fun kind x=>kzco fun v hv=>by
  unfold vfit;constructor
  ·rintro⟨a,b,c,d⟩;exact⟨a,b,t4 v.Known ((d2.mem _).2 ⟨v,hv,b,rfl⟩) c,d⟩
  ·rintro⟨a,b,c,d⟩;exact⟨a,b,by omega,d⟩
 have ht:0<=t/\t<=14609:=by omega
 rw[kzdh hs aX hz hv hc e2 hk hk q1,kzdh hs hs hz hv hc hc hk ht q2];obtain⟨y,e1,n1,n2,_⟩:=kzc1 (g:=q.Gauge) (known:=q.Known) (t:=q.Ticks) hs hz hv hc;rw[e1];simp only[Af,decide_true,Da,CZ,AU,Cq];rw[jz74 (by omega) n2];simp only[Af,Da,CZ,AU,Cq];rw[Be]
 obtain⟨o,eo,ho⟩:=Dw (s:=(1:Int)) (body:=kzdf l (l.filter fun r=>decide (r.Known<=q.Known)) t q) (fun s=>1<=s/\s<=4) (fun s=>(4-s).toNat) (fun o=>o=.inl ()) (by
  rintro s ⟨s1,s2⟩;simp only[kzdf];by_cases h:s<=3;rotate_left
  ·right;rw[it_n h];exact⟨_,rfl,rfl⟩
  left;rw[it_d h,kzce hs,kzce aX,kzce hs,kzdi hc e2 hk hk q1,kzdi hc hc hk ht q2];obtain⟨g1,g2⟩:=kzds hc s q.Gauge q.Ticks.From q.Known;simp only[Af,decide_true,Da,CZ,AU,Cq];rw[kzdr (by omega)];simp only[Af,Da,CZ,AU,Cq]
  have hf:(bif (decide ((infc l s q.Gauge q.Ticks.From q.Known).2=0)) then(decide (q.Known<(infc l s q.Gauge q.Ticks.From q.Known).1.Known)) else false)=false:=by
   by_cases h0:(infc l s q.Gauge q.Ticks.From q.Known).2=0
   ·rw[Cy h0];have:=g2 h0;exact Bz (by omega)
   ·rw[Bz h0];rfl
  rw[hf,Be,AA];exact⟨_,rfl,by omega,by omega⟩) (by omega) (by omega)
 rw[eo,ho];rfl
end Go.Am

