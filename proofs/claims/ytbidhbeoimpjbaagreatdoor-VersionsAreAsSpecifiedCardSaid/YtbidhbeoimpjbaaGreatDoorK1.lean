/- Part K1: contracts of the functions of this seat. No condition. -/
import Derived.Test.YtbidhbeoimpjbaaGreatDoorC4
import Derived.Test.YtbidhbeoimpjbaaGreatDoorC5
import Derived.Test.YtbidhbeoimpjbaaGreatDoorC7
import Derived.Test.YtbidhbeoimpjbaaGreatDoorP1
set_option linter.unusedVariables false
namespace Go.Am
noncomputable section
open Go.Proofs Go.Proofs.Tryz
theorem hEI:∀i,AF (TabT.E i):=fun _=>.top
theorem fOk(H:List Fe)(sm:List (Nat×Nat))(ty:List (Nat×CT))(h:HT){C:Fc}{fn:Func}(hf:TabT.P.funcs[C.f]?=some fn)(he:Co TabT.P C.f=true:=by kernel_rfl)(hc:ckF TabT.P sm fn C.a.length=true:=by kernel_rfl)(ht:∀x,funT H ty (cRs TabT.P fn.results.toList) fn.ntmps (cF TabT.P sm fn) h C x=C.F x:=by intro _;kernel_rfl):Az C:=RF hEI H sm ty h hf he hc ht
def k10:Fc:=⟨10,[(.us 2)],[false],[.bool],fun x=>Kj x⟩
theorem yk10:Az k10:=fOk [] [] [] (.s .n (.s .n (.s (.s .n (.b none (.l [] ⟨.n,[(1,.k),(3,.v (.int .i64))],[(0,.k)]⟩ [⟨(.x 0),[],[(0,.k)]⟩,⟨.r,[(2,.v .bool)],[(0,.gone)]⟩] .n))) .n))) func10
def xk10:Fk:=⟨k10,yk10⟩
def k9:Fc:=⟨9,[(.slc (.us 3)),(.int .i64)],[false,false],[.bool],fun x=>N5 x.1 x.2⟩
theorem yk9:Az k9:=fOk [.k xk10] [] [] (.s .n (.s .n (.s (.s .n (.b none (.l [] ⟨.n,[(0,.k),(5,.v (.int .i64))],[]⟩ [⟨(.x 0),[],[]⟩,⟨.r,[(4,.v .bool)],[]⟩] .n))) .n))) func9
def xk9:Fk:=⟨k9,yk9⟩
def k80:Fc:=⟨80,[(.int .i64)],[false],[.bool],fun x=>QX x⟩
theorem yk80:Az k80:=fOk [] [] [] .n func80
def xk80:Fk:=⟨k80,yk80⟩
def k84:Fc:=⟨84,[.str],[false],[.bool],fun x=>Ko x⟩
theorem yk84:Az k84:=fOk [] [] [] .n func84
def xk84:Fk:=⟨k84,yk84⟩
def k92:Fc:=⟨92,[(.int .i64)],[false],[.bool],fun x=>I9 x⟩
theorem yk92:Az k92:=fOk [] [] [] .n func92
def xk92:Fk:=⟨k92,yk92⟩
def k73:Fc:=⟨73,[(.int .i64),(.int .i64)],[false,false],[(.int .i64)],fun x=>Gw x.1 x.2⟩
theorem yk73:Az k73:=fOk [.k xk92] [] [] .n func73
def xk73:Fk:=⟨k73,yk73⟩
def k154:Fc:=⟨154,[(.int .u32)],[false],[.bool],fun x=>Ks x⟩
theorem vP:Az k154:=fOk [] [] [] .n func154
def vQ:Fk:=⟨k154,vP⟩
def k148:Fc:=⟨148,[(.int .u32),(.int .u32)],[false,false],[(.int .i64)],fun x=>N8 x.1 x.2⟩
theorem vR:Az k148:=fOk [.k vQ] [] [] .n func148
def vS:Fk:=⟨k148,vR⟩
def k127:Fc:=⟨127,[(.slc (.int .u32)),(.slc (.int .u32))],[false,false],[(.int .i64)],fun x=>Rt x.1 x.2⟩
theorem vT:Az k127:=fOk [.k xk73,.k vS] [] [] (.s .n (.s .n (.s (.s .n (.b none (.l [] ⟨.n,[(0,.k),(1,.k),(6,.v (.int .i64))],[]⟩ [⟨(.x 0),[],[]⟩,⟨.r,[(4,.v (.int .i64))],[]⟩] .n))) .n))) func127
def RG:Fk:=⟨k127,vT⟩
def k116:Fc:=⟨116,[(.slc (.int .u32))],[false],[(.slc (.int .u32))],fun x=>Ht x⟩
theorem vU:Az k116:=fOk [] [] [] (.s .n (.s (.b none (.l [] ⟨.n,[(0,.v (.slc (.int .u32)))],[]⟩ [⟨(.x 0),[(0,.v (.slc (.int .u32)))],[]⟩] .n)) .n)) func116
def Hz:Fk:=⟨k116,vU⟩
def k128:Fc:=⟨128,[(.slc (.int .u32)),(.int .u32)],[false,false],[(.slc (.int .u32)),(.int .u32)],fun x=>Uu x.1 x.2⟩
theorem vV:Az k128:=fOk [.k Hz] [] [(0,(.int .u32))] (.s .n (.s .n (.s (.s .n (.b none (.l [] ⟨.n,[(0,.k),(1,.k),(6,.vec 0),(7,.v (.int .u64)),(8,.v (.int .i64))],[(0,.vec (.int .u32))]⟩ [⟨(.x 0),[(6,.vec 0),(7,.v (.int .u64))],[(0,.vec (.int .u32))]⟩] .n))) .n))) func128
def Xq:Fk:=⟨k128,vV⟩
def k149:Fc:=⟨149,[(.slc (.int .u32)),(.int .i64)],[false,false],[(.int .u64)],fun x=>Rc x.1 x.2⟩
theorem vW:Az k149:=fOk [] [] [] .n func149
def RH:Fk:=⟨k149,vW⟩
def k131:Fc:=⟨131,[(.slc (.int .u32)),(.slc (.int .u32))],[false,false],[(.slc (.int .u32))],fun x=>Rk x.1 x.2⟩
theorem vX:Az k131:=fOk [.k RH,.k Hz] [] [(0,(.int .u32))] (.s .n (.s .n (.s (.s .n (.b none (.l [] ⟨.n,[(1,.k),(5,.vec 0),(18,.k),(19,.k),(20,.v (.int .i64))],[(0,.vec (.int .u32))]⟩ [⟨(.x 0),[(5,.vec 0)],[(0,.vec (.int .u32))]⟩] (.s .n (.s .n (.s (.b none (.s .n (.s .n (.s .n (.b none (.l [] ⟨.n,[(1,.k),(5,.vec 0),(6,.k),(7,.k),(8,.v (.int .u64)),(9,.v (.int .i64)),(18,.k),(19,.k),(20,.k)],[(0,.vec (.int .u32))]⟩ [⟨(.x 2),[(1,.k),(5,.vec 0),(18,.k),(19,.k),(20,.k)],[(0,.vec (.int .u32))]⟩] .n)))))) .n)))))) .n))) func131
def RI:Fk:=⟨k131,vX⟩
def k129:Fc:=⟨129,[(.slc (.int .u32)),(.int .i64)],[false,false],[(.slc (.int .u32))],fun x=>PB x.1 x.2⟩
theorem vY:Az k129:=fOk [.k Xq,.k RI] [] [(0,(.int .u32))] .n func129
def v_:Fk:=⟨k129,vY⟩
def wa:Ck:=⟨v130,uj⟩
def k132:Fc:=⟨132,[(.slc (.int .u32)),(.slc (.int .u32))],[false,false],[(.slc (.int .u32))],fun x=>Rl x.1 x.2⟩
theorem wb:Az k132:=fOk [.k RH,.k Hz] [] [(0,(.int .u32)),(1,(.int .u32))] (.s .n (.s .n (.s .n (.s (.s .n (.b none (.l [] ⟨.n,[(0,.k),(1,.k),(5,.own 1),(6,.v (.int .u64)),(10,.k),(11,.v (.int .i64))],[(0,.gone),(1,.own (.int .u32))]⟩ [⟨(.x 0),[(5,.own 1)],[(0,.gone),(1,.own (.int .u32))]⟩] .n))) .n)))) func132
def Xr:Fk:=⟨k132,wb⟩
theorem Xs:Az k111:=fOk [.k RG,.k Xq,.k Hz,.k v_,.c wa,.k RI,.k Xr] [(2,657)] [(0,(.int .u32)),(1,(.int .u32)),(3,(.int .u32)),(4,(.int .u32)),(657,(.int .u32))] (.s .n (.s .n (.s .n (.s .n (.s (.b none (.l [] ⟨.n,[(0,.k),(1,.k),(8,.v (.int .i64))],[]⟩ [⟨(.x 0),[(0,.k),(1,.k),(8,.v (.int .i64))],[]⟩] .n)) (.s .n (.s .n (.s .n (.s .n (.s .n (.s (.s .n (.b none (.l [] ⟨.n,[(8,.k),(9,.k),(10,.vec 657),(11,.k),(12,.vec 3),(13,.v (.int .i64))],[(657,.vec (.int .u32)),(1,.gone),(3,.vec (.int .u32)),(762,.gone),(773,.gone)]⟩ [⟨(.x 2),[(8,.k),(10,.vec 657),(12,.vec 3)],[(657,.vec (.int .u32)),(1,.gone),(3,.vec (.int .u32)),(762,.gone),(773,.gone)]⟩] (.s .n (.s (.b none (.s .n (.s .n (.s .n (.s (.b none (.l [] ⟨.n,[(8,.k),(9,.k),(10,.k),(11,.k),(12,.k),(13,.k),(15,.v (.int .u64)),(16,.v (.int .u64))],[(657,.k),(1,.gone),(3,.k),(762,.gone),(773,.gone)]⟩ [⟨(.x 4),[(8,.k),(9,.k),(10,.k),(11,.k),(12,.k),(13,.k),(15,.v (.int .u64))],[(657,.k),(1,.gone),(3,.k),(762,.gone),(773,.gone)]⟩] .n)) (.s (.s .n (.c (some [⟨.n,[(8,.k),(9,.k),(10,.k),(11,.k),(12,.k),(13,.k),(15,.k)],[(657,.k),(1,.gone),(3,.k),(762,.gone),(773,.gone)]⟩,⟨(.x 3),[(8,.k),(9,.k),(10,.k),(11,.k),(12,.k),(13,.k)],[(657,.k),(1,.gone),(3,.k),(762,.gone),(773,.gone)]⟩]) .n .n)) (.s .n (.s .n (.s (.b none (.l [] ⟨.n,[(8,.k),(9,.k),(10,.k),(11,.k),(12,.k),(13,.k),(15,.v (.int .u64)),(17,.k),(18,.v (.slc (.int .u32)))],[(657,.k),(1,.gone),(3,.k),(762,.gone),(773,.gone)]⟩ [⟨(.x 6),[(8,.k),(9,.k),(10,.k),(11,.k),(12,.k),(13,.k),(15,.v (.int .u64)),(17,.k),(18,.v (.slc (.int .u32)))],[(657,.k),(1,.gone),(3,.k),(762,.gone),(773,.gone)]⟩] .n)) .n))))))))) .n))))) .n))))))))))) func111
def wc:Fk:=⟨k111,Xs⟩
theorem Xt:Az k112:=fOk [.k Hz] [] [(1,(.int .u32)),(2,(.int .u32))] (.s .n (.s .n (.s (.s .n (.b none (.l [] ⟨.n,[(0,.k),(3,.own 2),(4,.v (.int .i64))],[(0,.gone),(1,.gone),(2,.own (.int .u32))]⟩ [⟨(.x 0),[(3,.own 2)],[(0,.gone),(1,.gone),(2,.own (.int .u32))]⟩] (.s .n (.s (.b none (.s .n (.s (.s .n (.b none (.l [] ⟨.n,[(0,.k),(3,.k),(4,.k),(5,.v (.int .u32)),(20,.k),(21,.k),(22,.v (.int .i64))],[(0,.gone),(1,.gone),(2,.k)]⟩ [⟨(.x 2),[(0,.k),(3,.k),(4,.k),(5,.v (.int .u32))],[(0,.gone),(1,.gone),(2,.k)]⟩] .n))) .n))) .n))))) .n))) func112
def K4:Fk:=⟨k112,Xt⟩
def wd:Wk:=⟨w133,um⟩
def k155:Fc:=⟨155,[.str,(.int .u8)],[false,false],[.str],fun x=>qW x.1 x.2⟩
theorem we:Az k155:=fOk [] [] [] (.s .n (.s (.b none (.l [] ⟨.n,[(0,.v .str),(1,.k)],[]⟩ [⟨(.x 0),[(0,.v .str)],[]⟩] .n)) .n)) func155
def wg:Fk:=⟨k155,we⟩
def k150:Fc:=⟨150,[.str,.str],[false,false],[.str],fun x=>Rq x.1 x.2⟩
theorem wi:Az k150:=fOk [.k wg] [] [] .n func150
def wj:Fk:=⟨k150,wi⟩
def k134:Fc:=⟨134,[.str],[false],[.str],fun x=>NA x⟩
theorem wl:Az k134:=fOk [.k wj] [] [] .n func134
def wn:Fk:=⟨k134,wl⟩
theorem Xu:Az k113:=fOk [.w wd,.k wn] [] [(0,(.int .u8)),(1,(.int .u8))] (.s .n (.s .n (.s (.s .n (.b none (.l [] ⟨.n,[(3,.own 1),(6,.k),(7,.k),(8,.v (.int .i64))],[(0,.gone),(1,.own (.int .u8))]⟩ [⟨(.x 0),[(3,.own 1)],[(0,.gone),(1,.own (.int .u8))]⟩] .n))) .n))) func113
def K5:Fk:=⟨k113,Xu⟩
def xk85:Fk:=⟨k85,ut Xs Xt Xu⟩
def k62:Fc:=⟨62,[(.us 0)],[false],[.bool],fun x=>yzs x⟩
theorem yk62:Az k62:=fOk [.k xk84,.k xk85] [] [] .n func62
def xk62:Fk:=⟨k62,yk62⟩
def k81:Fc:=⟨81,[(.us 0)],[false],[.bool],fun x=>Ru x⟩
theorem yk81:Az k81:=fOk [.k xk62] [] [] .n func81
def xk81:Fk:=⟨k81,yk81⟩
def k107:Fc:=⟨107,[(.us 0)],[false],[(.us 9)],fun x=>Xj x⟩
theorem wp:Az k107:=fOk [.k xk62] [] [] .n func107
def wq:Fk:=⟨k107,wp⟩
def k139:Fc:=⟨139,[.str,.str],[false,false],[.str],fun x=>IC x.1 x.2⟩
theorem wr:Az k139:=fOk [.k K4,.k RI,.k K5] [] [] .n func139
def ws:Fk:=⟨k139,wr⟩
def k153:Fc:=⟨153,[(.slc (.int .u32)),(.slc (.int .u32))],[false,false],[(.slc (.int .u32))],fun x=>Xb x.1 x.2⟩
theorem wu:Az k153:=fOk [.k RH,.k Hz] [] [(0,(.int .u32)),(1,(.int .u32))] (.s .n (.s .n (.s .n (.s (.s .n (.b none (.l [] ⟨.n,[(0,.k),(1,.k),(5,.own 1),(6,.v (.int .u64)),(14,.k),(15,.v (.int .i64))],[(0,.gone),(1,.own (.int .u32))]⟩ [⟨(.x 0),[(5,.own 1)],[(0,.gone),(1,.own (.int .u32))]⟩] .n))) .n)))) func153
def ww:Fk:=⟨k153,wu⟩
def k140:Fc:=⟨140,[.str,.str],[false,false],[.str],fun x=>ND x.1 x.2⟩
theorem wx:Az k140:=fOk [.k K4,.k ww,.k K5] [] [] .n func140
def wy:Fk:=⟨k140,wx⟩
def k141:Fc:=⟨141,[.str,.str],[false,false],[(.int .i64)],fun x=>NB x.1 x.2⟩
theorem wz:Az k141:=fOk [.k K4,.k RG] [] [] .n func141
def w6:Fk:=⟨k141,wz⟩
def k142:Fc:=⟨142,[.str,.str],[false,false],[.str,(.int .i64)],fun x=>NE x.1 x.2⟩
theorem w7:Az k142:=fOk [.k K4,.k RG,.k Xr,.k K5] [] [] .n func142
def w9:Fk:=⟨k142,w7⟩
def k124:Fc:=⟨124,[(.us 9),(.us 9)],[false,false],[(.us 9)],fun x=>q_ x.1 x.2⟩
theorem wA:Az k124:=fOk [.k ws,.k wy,.k w6,.k w9] [] [] (.s .n (.s .n (.s .n (.s (.s .n (.c (some [⟨.n,[(2,.ptr 0 0),(4,.k),(5,.v .str),(6,.v .str),(7,.k)],[(0,.box (.us 9)),(1,.gone),(2,.k)]⟩]) .n .n)) .n)))) func124
def wB:Fk:=⟨k124,wA⟩
def k108:Fc:=⟨108,[(.us 9),(.us 9)],[false,false],[(.us 9)],fun x=>rh x.1 x.2⟩
theorem wC:Az k108:=fOk [.k wB] [] [] .n func108
def wD:Fk:=⟨k108,wC⟩
def k82:Fc:=⟨82,[(.us 0),(.us 0)],[false,false],[(.int .i64)],fun x=>rj x.1 x.2⟩
theorem yk82:Az k82:=fOk [.k wq,.k wD] [] [] .n func82
def xk82:Fk:=⟨k82,yk82⟩
def k59:Fc:=⟨59,[(.us 2)],[false],[(.int .i64)],fun x=>NG x⟩
theorem yk59:Az k59:=fOk [.k xk80,.k xk81,.k xk82] [] [] (.s .n (.s .n (.s (.s .n (.b none (.l [] ⟨.n,[(1,.k),(16,.k),(17,.k),(18,.v (.int .i64))],[(0,.k),(1,.gone)]⟩ [⟨(.x 0),[],[(0,.k),(1,.gone)]⟩,⟨.r,[(2,.v (.int .i64))],[(0,.gone),(1,.gone)]⟩] .n))) .n))) func59
def xk59:Fk:=⟨k59,yk59⟩
theorem yk22:Az k22:=fOk [.k xk59] [] [(1,(.int .i64)),(10001,(.int .i64))] .n func22
def xk22:Fk:=⟨k22,yk22⟩
theorem yk43:Az k43:=fOk [.k xk73] [] [] .n func43
def xk43:Fk:=⟨k43,yk43⟩
theorem yk24:Az k24:=fOk [.k xk22,.k xk43] [] [] (.s .n (.s .n (.s (.s .n (.b none (.l [] ⟨.n,[(0,.k),(8,.k),(9,.k),(10,.v (.int .i64))],[(0,.gone)]⟩ [⟨(.x 0),[],[(0,.gone)]⟩,⟨.r,[(2,.v (.int .i64))],[(0,.gone)]⟩] .n))) .n))) func24
def xk24:Fk:=⟨k24,yk24⟩
theorem yk42:Az k42:=fOk [] [] [] (.s .n (.s .n (.s .n (.s (.b none (.l [] ⟨.n,[(0,.k),(2,.k),(4,.k),(8,.k),(9,.v (.int .i64)),(10,.v (.int .i64))],[(0,.k)]⟩ [⟨(.x 0),[(0,.k),(2,.k),(4,.k),(8,.k),(9,.v (.int .i64))],[(0,.k)]⟩] .n)) .n)))) func42
def xk42:Fk:=⟨k42,yk42⟩
def k87:Fc:=⟨87,[(.slc (.us 1)),(.slc (.us 1))],[false,false],[.bool],fun x=>QZ x.1 x.2⟩
theorem yk87:Az k87:=fOk [] [] [] (.s .n (.s .n (.s (.s .n (.b none (.l [] ⟨.n,[(0,.k),(1,.k),(12,.k),(13,.v (.int .i64))],[]⟩ [⟨(.x 0),[],[]⟩,⟨.r,[(4,.v .bool)],[]⟩] .n))) .n))) func87
def xk87:Fk:=⟨k87,yk87⟩
def k64:Fc:=⟨64,[(.us 2),(.us 2)],[false,false],[.bool],fun x=>Hv x.1 x.2⟩
theorem yk64:Az k64:=fOk [.k xk87] [] [] .n func64
def xk64:Fk:=⟨k64,yk64⟩
def k44:Fc:=⟨44,[(.us 3),(.us 3)],[false,false],[.bool],fun x=>IA x.1 x.2⟩
theorem yk44:Az k44:=fOk [.k xk64] [] [] .n func44
def xk44:Fk:=⟨k44,yk44⟩
theorem wE:Az k12d:=RF hEI [.k xk24,.k xk22,.k xk42,.k xk43,.k xk44] [] [] .n func12 (by kernel_rfl) (by kernel_rfl) fun _=>by kernel_rfl
theorem yk12:Az k12:=uB wE yk24 yk22 yk42 yk43
def xk12:Fk:=⟨k12,yk12⟩
def k70:Fc:=⟨70,[(.int .i64)],[false],[.bool],fun x=>yzy x⟩
theorem yk70:Az k70:=fOk [] [] [] .n func70
def xk70:Fk:=⟨k70,yk70⟩
def k90:Fc:=⟨90,[(.int .i64)],[false],[.str,(.int .i64)],fun x=>Xi x⟩
theorem yk90:Az k90:=fOk [.k Hz,.k K5] [] [(0,(.int .u32))] .n func90
def xk90:Fk:=⟨k90,yk90⟩
def k71:Fc:=⟨71,[(.int .i64)],[false],[(.us 9)],fun x=>yzh x⟩
theorem yk71:Az k71:=fOk [.k xk90] [] [] .n func71
def xk71:Fk:=⟨k71,yk71⟩
def k91:Fc:=⟨91,[.str,.str],[false,false],[.str,.str,(.int .i64)],fun x=>Rw x.1 x.2⟩
theorem yk91:Az k91:=fOk [.k K4,.k wc,.k K5] [] [] .n func91
def xk91:Fk:=⟨k91,yk91⟩
def k72:Fc:=⟨72,[(.us 9)],[false],[(.us 0)],fun x=>qzw x⟩
theorem yk72:Az k72:=fOk [.k xk85,.k xk91] [] [] .n func72
def xk72:Fk:=⟨k72,yk72⟩
def k36:Fc:=⟨36,[(.int .i64)],[false],[(.us 0)],fun x=>Uw x⟩
theorem yk36:Az k36:=fOk [.k xk70,.k xk71,.k xk72] [] [] .n func36
def xk36:Fk:=⟨k36,yk36⟩
def k41:Fc:=⟨41,[(.int .i64)],[false],[(.us 2)],fun x=>Kz x⟩
theorem yk41:Az k41:=fOk [.k xk36] [] [(1,(.us 1))] .n func41
def xk41:Fk:=⟨k41,yk41⟩
def k38:Fc:=⟨38,[],[],[(.slc (.us 3)),.bool],fun x=>Xo ⟩
theorem yk38:Az k38:=fOk [.k xk12,.k xk41] [] [] .n func38
def xk38:Fk:=⟨k38,yk38⟩
def k52:Fc:=⟨52,[(.int .i64),(.int .i64)],[false,false],[(.int .i64)],fun x=>Kk x.1 x.2⟩
theorem yk52:Az k52:=fOk [] [] [] .n func52
def xk52:Fk:=⟨k52,yk52⟩
def k53:Fc:=⟨53,[(.slc (.us 3)),(.int .i64),(.int .i64),(.int .i64),(.int .i64)],[false,false,false,false,false],[(.ptr (.us 3))],fun x=>Gu x.1 x.2.1 x.2.2.1 x.2.2.2.1 x.2.2.2.2⟩
theorem yk53:Az k53:=fOk [] [] [] (.s .n (.s .n (.s (.s .n (.b none (.l [] ⟨.n,[(0,.k),(1,.k),(2,.k),(3,.k),(4,.k),(11,.v (.ptr (.us 3))),(15,.k),(16,.v (.int .i64))],[]⟩ [⟨(.x 0),[(11,.v (.ptr (.us 3)))],[]⟩] (.s .n (.s .n (.s (.b none (.s .n (.s .n (.s (.s .n (.c (some [⟨.n,[(0,.k),(1,.k),(2,.k),(3,.k),(4,.k),(11,.k),(13,.k),(15,.k),(16,.k)],[]⟩,⟨(.x 1),[(0,.k),(1,.k),(2,.k),(3,.k),(4,.k),(11,.k),(15,.k),(16,.k)],[]⟩]) .n .n)) .n)))) .n)))))) .n))) func53
def xk53:Fk:=⟨k53,yk53⟩
def k16:Fc:=⟨16,[(.slc (.us 3)),(.int .i64),(.int .i64),(.int .i64),(.int .i64)],[false,false,false,false,false],[(.us 3),(.int .i64)],fun x=>Gx x.1 x.2.1 x.2.2.1 x.2.2.2.1 x.2.2.2.2⟩
theorem yk16:Az k16:=fOk [.k xk24,.k xk52,.k xk53] [] [] .n func16
def xk16:Fk:=⟨k16,yk16⟩
def k56:Fc:=⟨56,[(.slc (.us 3)),(.int .i64),(.int .i64),(.int .i64),(.int .i64)],[false,false,false,false,false],[(.int .i64)],fun x=>QT x.1 x.2.1 x.2.2.1 x.2.2.2.1 x.2.2.2.2⟩
theorem yk56:Az k56:=fOk [.k xk53] [] [] .n func56
def xk56:Fk:=⟨k56,yk56⟩
def k18:Fc:=⟨18,[(.slc (.us 3)),(.int .i64),(.int .i64),(.int .i64),(.int .i64)],[false,false,false,false,false],[(.int .i64),(.int .i64)],fun x=>K0 x.1 x.2.1 x.2.2.1 x.2.2.2.1 x.2.2.2.2⟩
theorem yk18:Az k18:=fOk [.k xk24,.k xk52,.k xk56] [] [] .n func18
def xk18:Fk:=⟨k18,yk18⟩
def k105:Fc:=⟨105,[(.int .u32)],[false],[(.int .i64)],fun x=>ve x⟩
theorem wF:Az k105:=fOk [] [] [] (.s .n (.s (.s .n (.c (some [⟨.n,[(0,.v (.int .u32)),(2,.v (.int .i64))],[]⟩]) .n .n)) .n)) func105
def wG:Fk:=⟨k105,wF⟩
def k106:Fc:=⟨106,[(.int .u64)],[false],[(.int .i64)],fun x=>jR x⟩
theorem wH:Az k106:=fOk [] [] [] (.s .n (.s (.s .n (.c (some [⟨.n,[(0,.v (.int .u64)),(2,.v (.int .i64))],[]⟩]) .n .n)) (.s (.s .n (.c (some [⟨.n,[(0,.v (.int .u64)),(2,.v (.int .i64))],[]⟩]) .n .n)) .n))) func106
def wI:Fk:=⟨k106,wH⟩
theorem yk79:Az k79:=fOk [.k wG,.k wI] [] [] .n func79
def xw57:Wk:=⟨w57,u6 yk79⟩
def s86:Sc:=⟨86,[(.slc (.int .i64))],[true],1,fun x st=>Kp x st⟩
theorem ys86:ScOk s86:=wJ [] [] [] (.s .n (.b none (.l [] ⟨.n,[(0,.k),(1,.k),(3,.v (.int .i64))],[(1899,.out 1 false)]⟩ [⟨(.x 0),[],[(1899,.out 1 false)]⟩,⟨.r,[],[(1899,.out 1 true)]⟩] .n))) func86 (by kernel_rfl) (by kernel_rfl) fun _ _=>by kernel_rfl
def xs86:Sk:=⟨s86,ys86⟩
def q63:Qc:=⟨63,[(.slc (.us 3)),(.int .i64),(.us 5)],[false,false,false],xs86,fun x=>Hu x.1 x.2.1 x.2.2⟩
def h63:HT:=(.s .n (.s .n (.s (.s .n (.b none (.l [] ⟨.n,[(1,.k),(5,.k),(7,.mp 1),(20,.k),(21,.k),(22,.v (.int .i64))],[(0,.k),(1,.map (.int .i64) .bool),(2,.gone),(3,.gone)]⟩ [⟨(.x 0),[(7,.mp 1)],[(0,.k),(1,.map (.int .i64) .bool),(2,.gone),(3,.gone)]⟩] (.s .n (.s .n (.s (.b none (.s .n (.s .n (.b none (.l [] ⟨.n,[(1,.k),(5,.k),(7,.mp 1),(9,.k),(20,.k),(21,.k),(22,.k),(30,.k),(31,.k),(32,.v (.int .i64))],[(0,.k),(1,.map (.int .i64) .bool),(2,.k),(3,.k)]⟩ [⟨(.x 2),[(1,.k),(5,.k),(7,.mp 1),(20,.k),(21,.k),(22,.k)],[(0,.k),(1,.map (.int .i64) .bool),(2,.k),(3,.k)]⟩] .n))))) .n)))))) .n)))
noncomputable abbrev H63:List Fe:=[.w xw57,.s xs86]
abbrev ty63:List (Nat×CT):=[(1,(.int .i64)),(3,(.int .i64)),(5,(.int .i64)),(6,(.int .i64)),(10001,.bool)]
noncomputable abbrev H6:List ARes:=cRs Tryz.prog Tryz.f63.results.toList
def sqA:AR->AR
 |.seq a _=>a
 |c=>c
def sqB:AR->AR
 |.seq _ a=>a
 |c=>c
def hA:HT->HT
 |.s x _=>x
 |_=>.n
def hB:HT->HT
 |.s _ x=>x
 |_=>.n
def A63:AR:=cF Tryz.prog [] Tryz.f63
def B63:AR:=sqA (sqB (sqB A63))
def L63t:AR:=sqB (sqB (sqB (sqB (sqB A63))))
def ac63:AR:=.seq (sqA A63) (.seq (.reg true RJ pcPr) (.seq B63 (.seq (.reg false (QM 0) []) (.seq (.seq (.reg false (QN 0) []) (.block 4 (.loop (WV 0)))) L63t))))
def T63(x:Row q63.a):An:=iniT Tryz.f63.ntmps q63.a q63.p x
def T63a(x:Row q63.a):An:=match AV H63 ty63 H6 (sqA A63) An .n (T63 x) kS with
 |some T=>T
 |none=>T63 x
def T63b(x:Row q63.a)(m:List (Int×Bool)):An:=match AV H63 ty63 H6 (sqA B63) An .n (pcT (T63a x) m) kS with
 |some T=>T
 |none=>T63 x
def J63:OutH:=⟨(.x 0),[(7,.mp 1)],[(0,.k),(1,.map (.int .i64) .bool),(2,.gone),(3,.gone)]⟩
def T63c(x:Row q63.a)(m m1:List (Int×Bool)):An:=rebT (T63b x m) J63 m1
theorem a63(x:Row q63.a):AV H63 ty63 H6 (sqA A63) An .n (T63 x) kS=some (T63a x):=by kernel_rfl
theorem a63b(x:Row q63.a):(T63a x).b=0:=by kernel_rfl
theorem a63n(x:Row q63.a):(T63a x).n=69:=by kernel_rfl
theorem a63s(x:Row q63.a):Ah (T63a x).t 5=.v (.ptr 0 0 0):=by kernel_rfl
theorem a63h(x:Row q63.a):Ae (T63a x).h 0=some (0,.box [.int .i64 x.2.2.From,.int .i64 x.2.2.To]):=by kernel_rfl
theorem a63f(x:Row q63.a):(Ah (T63a x).t 14=.v (.s .top)/\Ah (T63a x).t 15=.v (.s .top)/\Ah (T63a x).t 16=.v (.s .top))/\Ah (T63a x).t 17=.v (.s .top)/\Ah (T63a x).t 18=.v (.s .top)/\Ah (T63a x).t 19=.v (.s .top) := ⟨⟨by kernel_rfl,by kernel_rfl,by kernel_rfl⟩,by kernel_rfl,by kernel_rfl,by kernel_rfl⟩
theorem a63j(x:Row q63.a)(j:Nat)(h1:14<=j)(h2:j<=19):Ah (T63a x).t j=.v (.s .top):=by
 obtain⟨⟨a,b,c⟩,d,e,f⟩:=a63f x;have:j=14\/j=15\/j=16\/j=17\/j=18\/j=19:=by omega
 rcases this with rfl|rfl|rfl|rfl|rfl|rfl
 ·exact a
 ·exact b
 ·exact c
 ·exact d
 ·exact e
 ·exact f
theorem c63t(x:Row q63.a)(m:List (Int×Bool)):AV H63 ty63 H6 B63 An (hA (hB (hB h63))) (pcT (T63a x) m) kS=bd (lp (Er x.2.1 x.1 x.2.2) (0,m)) fun m1=>some (T63c x m m1):=by kernel_rfl
theorem c63k:∃c,Tryz.f63.body=some c/\A8 Tryz.prog c ac63=true:=⟨_,rfl,by kernel_rfl⟩
def T63d(T:An)(ks:List Int):An :=
 putS (putO (putO (putO (putO T 6 .gone false) 5 .gone false) 7 (.own (.int .i64) ks) false) 4 (.ref (.own 7 (T.nx+2))) false) (some 12) (.v (.ptr 4 (T.nx+3) 0))
theorem d63t(x:Row q63.a)(m m1:List (Int×Bool))(ks:List Int):AV H63 ty63 H6 L63t _ .n (T63d (T63c x m m1) ks) (resQ q63.S H6)=bd (CG ks) fun r=>some r:=by kernel_rfl
theorem wK{B:Phi}{T:An}(hI:InvT B T)(hg:T.gs=[])(hb:T.b=0)(hn:T.n=69)(l7:∀j,j≠7->Ah T.t j=.v (.s .top)){e1:Nat}(l7':(em B T).t.getD 7 .top=.mp 1 e1)(e4 e5 e6 e7 n:Nat)(ks:List Int)(ord:List Nat) : ∃B',InvT B' (T63d T ks)/\(T63d T ks).gs=[]/\See EE ⟨L63 (.mp 1 e1) (.ptr 4 (e4+1) 0) (.ptr 5 (e5+1) 0),HK (em B T).h e1 e4 e5 e7 n ks ord e6,B.ds⟩ (em B' (T63d T ks)):=by
 have r4:inR T.b 4=true:=by rw[hb];decide
 have r5:inR T.b 5=true:=by rw[hb];decide
 have r6:inR T.b 6=true:=by rw[hb];decide
 have r7:inR T.b 7=true:=by rw[hb];decide
 let T1:=putO T 6 .gone false
 let T2:=putO T1 5 .gone false
 let T3:=putO T2 7 (.own (.int .i64) ks) false
 let T4:=putO T3 4 (.ref (.own 7 (T.nx+2))) false
 obtain⟨i1,_,m1⟩:=DW (G:=⟨e6,0,fun _=>[]⟩) (ob:=.gone) (re:=false) hI r6 trivial trivial (fun e=>by cases e) rfl;obtain⟨i2,_,m2⟩:=DW (T:=T1) (G:=⟨e5+1,0,fun _=>[]⟩) (ob:=.gone) (re:=false) i1 r5 trivial trivial (fun e=>by cases e) rfl;obtain⟨i3,_,m3⟩:=DW (T:=T2) (G:=⟨e7+ks.length,ks.length,Ay (CT.cA (.int .i64)) ks⟩) (ob:=.own (.int .i64) ks) (re:=false) i2 r7 ⟨rfl,rfl⟩ trivial (fun e=>by cases e) rfl;obtain⟨i4,_,m4⟩:=DW (T:=T3) (G:=⟨e4+1,0,fun _=>[]⟩) (ob:=.ref (.own 7 (T.nx+2))) (re:=false) i3 r4 trivial ⟨(by show T.nx+2<T3.nx+1;show T.nx+2<T.nx+1+1+1+1;omega),trivial,rfl⟩ (fun e=>by cases e) rfl;have hd:Bl T4 (some 12)=true:=by show Ab (Nat.blt 12 T.n) (!memN 12 T.gs) false=true;rw[hn,hg];rfl
 have i5:=BS (x:=.v (.ptr 4 (T.nx+3) 0)) i4 hd ⟨(by show T.nx+3<T.nx+1+1+1+1;omega),trivial⟩;refine⟨_,i5,hg,?_⟩;have e2:=CI (B:=upd (upd (upd (upd B 6 T.nx ⟨e6,0,fun _=>[]⟩) 5 T1.nx ⟨e5+1,0,fun _=>[]⟩) 7 T2.nx ⟨e7+ks.length,ks.length,Ay (CT.cA (.int .i64)) ks⟩) 4 T3.nx ⟨e4+1,0,fun _=>[]⟩) (T:=T4) (d:=some 12) (x:=.v (.ptr 4 (T.nx+3) 0));rw[m4,m3,m2,m1]at e2;have aD:(em B T).t.length=69:=by rw[<-hn];exact CC _ _
 have dR:=Es i5;show See EE _ (em _ (putS T4 (some 12) (.v (.ptr 4 (T.nx+3) 0))));rw[e2]at dR |-;refine .of_sub ⟨TSub.pw (by show 69=((em B T).t.set 12 _).length;rw[HY,aD]) fun j=>?_,fun i=>?_,rfl,dR⟩
 ·show VSub _ (((em B T).t.set 12 (eT _ (.v (.ptr 4 (T.nx+3) 0)))).getD j .top);rw[gset (by omega)];by_cases iP:j=12
  ·subst iP;rw[Ap rfl];have:eT (upd (upd (upd (upd B 6 T.nx ⟨e6,0,fun _=>[]⟩) 5 T1.nx ⟨e5+1,0,fun _=>[]⟩) 7 T2.nx ⟨e7+ks.length,ks.length,Ay (CT.cA (.int .i64)) ks⟩) 4 T3.nx ⟨e4+1,0,fun _=>[]⟩) (.v (.ptr 4 (T.nx+3) 0))=.ptr 4 (e4+1) 0:=by show Aa.ptr 4 (upd _ 4 T3.nx ⟨e4+1,0,fun _=>[]⟩ 4 T3.nx).ep 0=_;rw[Bd]
   rw[this];exact .refl _
  ·rw[Aj iP];by_cases h7:j=7
   ·subst h7;rw[l7'];exact .refl _
   ·left;rw[em_t hI,l7 j h7];rfl
 ·show OSub _ (hset (hset (hset (hset (em B T).h 6 (.gone e6)) 5 (.gone (e5+1))) 7 (ownO (e7+ks.length) 1 (cI .i64) ks)) 4 (.box (e4+1) [eP (upd (upd (upd (upd B 6 T.nx ⟨e6,0,fun _=>[]⟩) 5 T1.nx ⟨e5+1,0,fun _=>[]⟩) 7 T2.nx ⟨e7+ks.length,ks.length,Ay (CT.cA (.int .i64)) ks⟩) 4 T3.nx ⟨e4+1,0,fun _=>[]⟩) (.own 7 (T.nx+2))]) i)
  have key:eP (upd (upd (upd (upd B 6 T.nx ⟨e6,0,fun _=>[]⟩) 5 T1.nx ⟨e5+1,0,fun _=>[]⟩) 7 T2.nx ⟨e7+ks.length,ks.length,Ay (CT.cA (.int .i64)) ks⟩) 4 T3.nx ⟨e4+1,0,fun _=>[]⟩) (.own 7 (T.nx+2))=ownV 7 (e7+ks.length) ks:=by
   have k:(upd (upd (upd (upd B 6 T.nx ⟨e6,0,fun _=>[]⟩) 5 T1.nx ⟨e5+1,0,fun _=>[]⟩) 7 T2.nx ⟨e7+ks.length,ks.length,Ay (CT.cA (.int .i64)) ks⟩) 4 T3.nx ⟨e4+1,0,fun _=>[]⟩) 7 (T.nx+2)=⟨e7+ks.length,ks.length,Ay (CT.cA (.int .i64)) ks⟩:=by show(if 7=4/\T.nx+2=T3.nx then(⟨e4+1,0,fun _=>[]⟩:FZ) else upd (upd (upd B 6 T.nx ⟨e6,0,fun _=>[]⟩) 5 T1.nx ⟨e5+1,0,fun _=>[]⟩) 7 T2.nx ⟨e7+ks.length,ks.length,Ay (CT.cA (.int .i64)) ks⟩ 7 (T.nx+2))=_;rw[Aj (fun e=>absurd e.1 (by decide))];exact Bd
   show(match ((upd (upd (upd (upd B 6 T.nx ⟨e6,0,fun _=>[]⟩) 5 T1.nx ⟨e5+1,0,fun _=>[]⟩) 7 T2.nx ⟨e7+ks.length,ks.length,Ay (CT.cA (.int .i64)) ks⟩) 4 T3.nx ⟨e4+1,0,fun _=>[]⟩) 7 (T.nx+2)).n with | 0=>Aa.nils | n+1=>.vec 7 ((upd (upd (upd (upd B 6 T.nx ⟨e6,0,fun _=>[]⟩) 5 T1.nx ⟨e5+1,0,fun _=>[]⟩) 7 T2.nx ⟨e7+ks.length,ks.length,Ay (CT.cA (.int .i64)) ks⟩) 4 T3.nx ⟨e4+1,0,fun _=>[]⟩) 7 (T.nx+2)).ep 0 (n+1))=_;rw[k];cases ks<;>rfl
  rw[key];unfold HK hset;by_cases i4:i=4
  ·subst i4;exact .refl _
  ·by_cases i5:i=5;·subst i5;exact .inl rfl
   ·by_cases i6:i=6;·subst i6;exact .refl _
    ·by_cases i7:i=7;·subst i7;exact .refl _
     ·simp only[i4,i5,i6,i7,Cz];exact .refl _
theorem wL{n:Nat}{ord:List Nat}(dt:ord.Nodup)(h:∀x,x∈ord↔x<n):ord.Perm (List.range n):=by rw[List.perm_ext_iff_of_nodup dt List.nodup_range];intro a;rw[h,GN]
theorem c63a(x:Row q63.a)(m m1:List (Int×Bool)):(T63c x m m1).b=0/\(T63c x m m1).n=69/\(T63c x m m1).gs=[]:=⟨by kernel_rfl,by kernel_rfl,by kernel_rfl⟩
theorem c63o(x:Row q63.a)(m m1:List (Int×Bool)):∃st,(T63c x m m1).t=[(7,.v (.mp 1 st))]/\Ae (T63c x m m1).h 1=some (st,.map (.int .i64) .bool m1):=⟨(T63b x m).nx,by kernel_rfl,by kernel_rfl⟩
theorem c63n(x:Row q63.a)(m m1:List (Int×Bool)):(Ae (T63c x m m1).h 4=none/\Ae (T63c x m m1).h 5=none)/\Ae (T63c x m m1).h 6=none/\Ae (T63c x m m1).h 7=none:=⟨⟨by kernel_rfl,by kernel_rfl⟩,by kernel_rfl,by kernel_rfl⟩
theorem yq63:QcOk q63:=by
 obtain⟨c,cC,ev⟩:=c63k;refine wM (rs:=H6) (n:=Tryz.f63.ntmps) (ac:=ac63) hEE (fn:=Tryz.f63) (by kernel_rfl) cC (by kernel_rfl) ev rfl (F9 (by kernel_rfl)) (by kernel_rfl) fun x y hy hI=>?_;refine .seq ((CJ (a63 x) hI rfl fun _=>rfl).mono ?_);rintro e S ⟨B1,T',k1,k2,k3,k4,k5⟩;obtain⟨rfl,rfl⟩:=Xv k1;refine .see k5 (wN k2 k4 (a63b x) (a63n x) (a63s x) (a63h x) (a63j x) fun m B2 hm i2=>?_);have hy:RK m x.1 x.2.1 x.2.2=some y:=(wO hm).trans hy;obtain⟨m1,hl,hy⟩:=EM hy;obtain⟨r,hs,hy⟩:=EM hy;cases hy;have hc:=c63t x m;rw[hl]at hc;refine .seq ((CJ (c:=B63) hc i2 rfl fun _=>rfl).mono ?_);rintro e S ⟨B3,T',k1,k2,k3,k4,k5⟩;obtain⟨rfl,rfl⟩:=Xv k1;refine .see k5 ?_;obtain⟨hb,hn,hg⟩:=c63a x m m1;obtain⟨st,ht,ho⟩:=c63o x m m1;obtain⟨⟨n4,n5⟩,n6,n7⟩:=c63n x m m1;generalize hT:T63c x m m1=T at *;have l7:∀j,j≠7->Ah T.t j=.v (.s .top):=fun j hj=>by rw[ht,A9,Aj (fun e=>hj e.symm)];rfl
 have t7:(em B3 T).t.getD 7 .top=.mp 1 (B3 1 st).ep:=by rw[em_t k2,ht];rfl
 have hx:∀i,inR 0 i=true->Ae T.h i=none->∃e,(em B3 T).h i=.gone e:=fun i hi hn=>by obtain⟨e,he⟩:=k2.fr.rx i (by rw[hb];exact hi);exact⟨e,by rw[em_h,hn];exact he⟩
 obtain⟨e4,h4⟩:=hx 4 (by decide) n4;obtain⟨e5,h5⟩:=hx 5 (by decide) n5;obtain⟨e6,h6⟩:=hx 6 (by decide) n6;obtain⟨e7,h7⟩:=hx 7 (by decide) n7;have h1:(em B3 T).h 1=.amap (B3 1 st).ep (mEs (.int .i64) .bool m1):=DX ho;have co:∀D∈(em B3 T).ds,(em B3 T).h D.1=.dfr D.2/\900<=D.1:=fun D hD=>⟨Es k2 D hD,by have:=(k2.fr.dd D hD).2.1;omega⟩;have aD:(em B3 T).t.length=69:=by rw[<-hn];exact CC _ _
 refine .see (.of_sub (S':=⟨L63 (.mp 1 (B3 1 st).ep) .top .top,(em B3 T).h,(em B3 T).ds⟩) ⟨TSub.pw aD fun j=>?_,fun i=>.refl _,rfl,Es k2⟩) ?_
 ·by_cases hj:j=7;·subst hj;rw[t7];exact .refl _
  ·left;show(L63 (.mp 1 (B3 1 st).ep) .top .top).getD j .top=.top;rw[show L63 (.mp 1 (B3 1 st).ep) .top .top=(List.replicate 69 Aa.top).set 7 (.mp 1 (B3 1 st).ep) from rfl,gset (by simp),Aj hj];rw[J3,rl];by_cases h:j<69
   ·rw[Ap h];rfl
   ·rw[Aj h];rfl
 have aJ:m1.length<=1000000000:=by have:=(i_ hs).2;simpa using this
 have dy:(mEs (.int .i64) .bool m1).length=m1.length:=JC _;refine uR (em B3 T).h (em B3 T).ds co (B3 1 st).ep e4 e5 e6 e7 (mEs (.int .i64) .bool m1) (fun k=>(m1.map (·.1)).getD k 0) h1 h4 h5 h6 h7 (by rw[dy];exact aJ) (fun k hk=>?_) fun ord e6' dt bJ=>?_
 ·rw[dy]at hk;show((m1.map fun p=>(A0 (wT (.int .i64) p.1),A0 (wT .bool p.2))).getD k (.top,.top)).1=_;simp[List.getD,hk];rfl
 rw[dy]at bJ |-;obtain⟨B',j2,j4,j5⟩:=wK k2 hg hb hn l7 t7 e4 e5 e6' e7 m1.length (ord.map fun k=>(m1.map (·.1)).getD k 0) ord;have lk:=wL dt bJ
 have hL:(ord.map fun k=>(m1.map (·.1)).getD k (0:Int)).Perm (m1.map (·.1)):=by
  have e1:(List.range m1.length).map (fun k=>(m1.map (·.1)).getD k 0)=m1.map (·.1):=by apply List.ext_getElem (by simp);intro i h1 h2;simp at h1;simp[h1]
  have e2:=lk.map (fun k=>(m1.map (·.1)).getD k (0:Int))
  rwa [e1]at e2
 have hd:=d63t x m m1 (ord.map fun k=>(m1.map (·.1)).getD k 0);rw[hT,Xw hL,hs]at hd;refine .see j5 ((CJ (c:=L63t) hd j2 j4 fun _=>rfl).mono ?_);rintro e S ⟨B',T',k1,k2,k3,k4,k5⟩;exact⟨B',T',k1,k2,k5⟩
def xq63:Qk:=⟨q63,yq63⟩
def xv65:Ck:=⟨v65,u9⟩
def k29:Fc:=⟨29,[(.slc (.us 3)),(.int .i64),(.us 5),(.int .i64),(.us 0)],[false,false,false,false,false],[(.slc (.us 8)),(.int .i64)],fun x=>NH x.1 x.2.1 x.2.2.1 x.2.2.2.1 x.2.2.2.2⟩
theorem yk29:Az k29:=fOk [.k xk24,.k xk62,.q xq63,.k xk53,.k xk56,.k xk64,.c xv65,.s xs86] [] [(10,(.us 8)),(11,(.us 8))] (.s .n (.s .n (.s .n (.s .n (.s .n (.s (.s .n (.b none (.r [] ⟨.n,[(5,.k),(6,.k),(8,.k),(9,.k),(10,.k),(11,.k),(13,.ptr 7 0),(52,.k)],[(0,.k),(1,.k),(2,.gone),(3,.k),(4,.k),(5,.k),(6,.k),(7,.rown 11),(8,.gone),(9,.gone),(714,.gone),(10,.gone),(11,.own (.us 8))]⟩ [⟨.r,[(10,.ptr 5 0),(11,.ptr 6 0)],[(5,.box (.slc (.us 8))),(6,.box (.int .i64)),(0,.gone),(1,.gone),(2,.gone),(3,.gone),(4,.gone),(7,.gone),(8,.gone),(9,.gone),(10,.gone),(11,.gone),(714,.gone)]⟩] .n .n))) .n)))))) func29
def xk29:Fk:=⟨k29,yk29⟩
def k39:Fc:=⟨39,[(.slc (.us 3)),(.int .i64),(.int .i64),(.int .i64)],[false,false,false,false],[(.slc (.us 8))],fun x=>R6 x.1 x.2.1 x.2.2.1 x.2.2.2⟩
theorem yk39:Az k39:=fOk [.k xk36,.k xk29] [] [] .n func39
def xk39:Fk:=⟨k39,yk39⟩
def k40:Fc:=⟨40,[(.int .i64),(.int .i64),(.int .i64),(.int .i64)],[false,false,false,false],[(.us 8)],fun x=>Hw x.1 x.2.1 x.2.2.1 x.2.2.2⟩
theorem yk40:Az k40:=fOk [.k xk36,.k xk41] [] [] .n func40
def xk40:Fk:=⟨k40,yk40⟩
def k37:Fc:=⟨37,[(.us 2),(.us 2)],[false,false],[.bool],fun x=>Hs x.1 x.2⟩
theorem yk37:Az k37:=fOk [] [] [] (.s .n (.s .n (.s (.s .n (.b none (.l [] ⟨.n,[(2,.k),(3,.k),(5,.v (.int .i64))],[(0,.k),(1,.k)]⟩ [⟨(.x 0),[],[(0,.k),(1,.k)]⟩,⟨.r,[(4,.v .bool)],[(0,.gone),(1,.gone)]⟩] .n))) .n))) func37
def xk37:Fk:=⟨k37,yk37⟩
def k33:Fc:=⟨33,[(.slc (.us 8)),(.slc (.us 8))],[false,false],[.bool],fun x=>Rf x.1 x.2⟩
theorem yk33:Az k33:=fOk [.k xk37] [] [] (.s .n (.s .n (.s (.s .n (.b none (.l [] ⟨.n,[(0,.k),(1,.k),(5,.v (.int .i64))],[]⟩ [⟨(.x 0),[],[]⟩,⟨.r,[(4,.v .bool)],[]⟩] .n))) .n))) func33
def xk33:Fk:=⟨k33,yk33⟩
def k31:Fc:=⟨31,[(.slc (.us 3)),(.us 3),(.int .i64)],[false,false,false],[(.slc (.us 5)),(.int .i64)],fun x=>ID x.1 x.2.1 x.2.2⟩
theorem yk31:Az k31:=fOk [.k xk12,.q xq63,.k xk53,.k xk64,.s xs86] [] [(6,(.us 5)),(7,(.us 5))] (.s .n (.s .n (.s .n (.s .n (.s .n (.s (.s .n (.b none (.r [] ⟨.n,[(3,.k),(4,.k),(5,.k),(8,.k),(10,.ptr 4 0),(38,.k)],[(0,.k),(1,.k),(2,.k),(3,.k),(4,.rown 7),(5,.gone),(6,.gone),(7,.own (.us 5))]⟩ [] .n (.b none (.s .n (.s (.s .n (.c (some [⟨.n,[(3,.k),(4,.k),(5,.k),(8,.k),(10,.k),(11,.k),(12,.k),(13,.k),(38,.k)],[(0,.k),(1,.k),(2,.k),(3,.k),(4,.k),(5,.k),(6,.gone),(7,.k)]⟩,⟨(.x 1),[(3,.k),(4,.k),(5,.k),(8,.k),(10,.k),(38,.k)],[(0,.k),(1,.k),(2,.k),(3,.k),(4,.k),(5,.k),(6,.gone),(7,.k)]⟩]) .n .n)) (.s (.s .n (.c (some [⟨.n,[(3,.k),(4,.k),(5,.k),(8,.k),(10,.k),(11,.k),(38,.k)],[(0,.k),(1,.k),(2,.k),(3,.k),(4,.k),(5,.k),(6,.gone),(7,.k)]⟩,⟨(.x 1),[(3,.k),(4,.k),(5,.k),(8,.k),(10,.k),(38,.k)],[(0,.k),(1,.k),(2,.k),(3,.k),(4,.k),(5,.k),(6,.gone),(7,.k)]⟩]) .n .n)) .n))))))) .n)))))) func31
def xk31:Fk:=⟨k31,yk31⟩
def xz58:Zk:=⟨z58,uN⟩
def k20:Fc:=⟨20,[(.slc (.us 3)),(.int .i64)],[false,false],[(.slc (.int .i64)),(.int .i64)],fun x=>Xm x.1 x.2⟩
theorem yk20:Az k20:=fOk [.k xk24,.w xw57,.z xz58] [] [(1,(.int .i64)),(2,(.int .i64))] (.s .n (.s .n (.s .n (.s (.s .n (.b none (.l [] ⟨.n,[(1,.k),(7,.own 2),(15,.k),(16,.k),(17,.v (.int .i64))],[(0,.gone),(1,.gone),(2,.own (.int .i64))]⟩ [⟨(.x 0),[(7,.own 2)],[(0,.gone),(1,.gone),(2,.own (.int .i64))]⟩] .n))) .n)))) func20
def xk20:Fk:=⟨k20,yk20⟩
def xd48:Dk:=⟨d48,uJ⟩
def w94:Wc:=⟨94,(.us 3),[(.int .i64),(.int .i64),(.fn 0)],[false,false,false],fun l x=>Ra l x.1 x.2.1 (fun a0 a1=>x.2.2.g (a0,a1))⟩
theorem yw94:WcOk w94:=IE hEI [] [] [] (.s .n (.b none (.l [] ⟨.n,[(0,.owk 899),(1,.k),(2,.k),(3,.k),(8,.v (.int .i64))],[(899,.own (.us 3))]⟩ [⟨(.x 0),[(0,.owk 899)],[(899,.own (.us 3))]⟩] (.s .n (.s (.b none (.s .n (.b none (.l [] ⟨.n,[(0,.owk 899),(1,.k),(2,.k),(3,.k),(8,.k),(9,.v (.int .i64))],[(899,.own (.us 3))]⟩ [⟨(.x 2),[(0,.owk 899),(1,.k),(2,.k),(3,.k),(8,.k)],[(899,.own (.us 3))]⟩] .n)))) .n))))) func94 (by kernel_rfl) (by kernel_rfl) (by kernel_rfl) fun _ _=>by kernel_rfl
def xw94:Wk:=⟨w94,yw94⟩
def w137:Wc:=⟨137,(.us 3),[(.int .i64),(.int .i64),(.int .i64),(.fn 0)],[false,false,false,false],fun l x=>N3 l x.1 x.2.1 x.2.2.1 (fun a0 a1=>x.2.2.2.g (a0,a1))⟩
theorem wP:WcOk w137:=IE hEI [] [] [] (.s .n (.b none (.l [] ⟨.n,[(0,.owk 899),(1,.k),(2,.k),(3,.k),(10,.v (.int .i64))],[(899,.own (.us 3))]⟩ [⟨(.x 0),[(0,.owk 899)],[(899,.own (.us 3))]⟩] .n))) func137 (by kernel_rfl) (by kernel_rfl) (by kernel_rfl) fun _ _=>by kernel_rfl
def wQ:Wk:=⟨w137,wP⟩
def w118:Wc:=⟨118,(.us 3),[(.int .i64),(.int .i64),(.int .i64),(.fn 0)],[false,false,false,false],fun l x=>Xc l x.1 x.2.1 x.2.2.1 (fun a0 a1=>x.2.2.2.g (a0,a1))⟩
theorem wR:WcOk w118:=IE hEI [.w wQ] [] [] (.s .n (.s .n (.s (.b none (.l [] ⟨.n,[(0,.owk 899),(2,.k),(4,.k),(10,.v (.int .i64)),(11,.v (.int .i64))],[(899,.own (.us 3))]⟩ [⟨(.x 0),[(0,.owk 899),(2,.k),(4,.k),(10,.v (.int .i64))],[(899,.own (.us 3))]⟩] .n)) .n))) func118 (by kernel_rfl) (by kernel_rfl) (by kernel_rfl) fun _ _=>by kernel_rfl
def wS:Wk:=⟨w118,wR⟩
def w95(n:Nat):Wc:=⟨95,(.us 3),[(.int .i64),(.int .i64),(.int .i64),(.fn 0)],[false,false,false,false],fun l x=>N9 n l x.1 x.2.1 x.2.2.1 (fun a0 a1=>x.2.2.2.g (a0,a1))⟩
theorem yw95:∀n,WcOk (w95 n)
 |0=>⟨by kernel_rfl,fun l x r h id ep e=>absurd (show(none:Option _)=some r from e) fun q=>by cases q⟩
 |n+1=>IE hEI [.w wS,.w ⟨w95 n,yw95 n⟩] [] [] (.s (.s .n (.c none (.s .n (.s .n (.s (.b none (.l [] ⟨.n,[(0,.k),(1,.k),(4,.k),(10,.v (.int .i64)),(11,.v (.int .i64))],[(899,.k)]⟩ [⟨(.x 0),[(0,.k),(1,.k),(10,.v (.int .i64))],[(899,.k)]⟩] .n)) (.s (.s .n (.b none (.l [] ⟨.n,[(0,.owk 899),(10,.k),(13,.v (.int .i64))],[(899,.own (.us 3))]⟩ [⟨(.x 2),[(0,.owk 899)],[(899,.own (.us 3))]⟩] .n))) .n)))) .n)) (.s (.s .n (.c none (.s .n (.s .n (.s (.b none (.l [] ⟨.n,[(0,.k),(2,.k),(4,.k),(14,.v (.int .i64)),(15,.v (.int .i64))],[(899,.k)]⟩ [⟨(.x 4),[(0,.k),(2,.k),(14,.v (.int .i64))],[(899,.k)]⟩] .n)) (.s (.s .n (.b none (.l [] ⟨.n,[(0,.owk 899),(14,.k),(17,.v (.int .i64))],[(899,.own (.us 3))]⟩ [⟨(.x 6),[(0,.owk 899)],[(899,.own (.us 3))]⟩] .n))) .n)))) .n)) (.s .n (.s .n (.s .n (.s (.s .n (.c (some [⟨.n,[(0,.k),(1,.k),(2,.k),(3,.k),(4,.k),(18,.k),(19,.k),(20,.v (.int .i64)),(21,.v (.int .i64))],[(899,.k)]⟩]) .n .n)) (.s .n (.s (.b none (.l [] ⟨.n,[(0,.k),(1,.k),(2,.k),(3,.k),(4,.k),(18,.k),(19,.k),(20,.v (.int .i64)),(21,.v (.int .i64)),(22,.k)],[(899,.k)]⟩ [⟨(.x 8),[(0,.k),(1,.k),(2,.k),(3,.k),(4,.k),(18,.k),(19,.k),(20,.v (.int .i64))],[(899,.k)]⟩] .n)) (.s .n (.s (.s .n (.c (some [⟨.n,[(0,.owk 899),(1,.k),(3,.k),(4,.k),(18,.k),(20,.k),(24,.k)],[(899,.own (.us 3))]⟩]) .n .n)) (.s (.s .n (.c (some [⟨.n,[(0,.owk 899),(3,.k),(4,.k),(18,.k),(24,.k)],[(899,.own (.us 3))]⟩]) .n .n)) .n))))))))))) func95 (by kernel_rfl) (by kernel_rfl) (by kernel_rfl) fun _ _=>by kernel_rfl
def xw95:Wk:=⟨w95 64,yw95 64⟩
def w77:Wc:=⟨77,(.us 3),[(.int .i64),(.fn 0)],[false,false],fun l x=>Xg l x.1 (fun a0 a1=>x.2.g (a0,a1))⟩
theorem yw77:WcOk w77:=IE hEI [.w xw94,.w xw95] [] [] (.s .n (.s .n (.s (.b none (.l [] ⟨.n,[(0,.owk 899),(1,.k),(2,.k),(6,.k),(7,.v (.int .i64)),(8,.v (.int .i64))],[(899,.own (.us 3))]⟩ [⟨(.x 0),[(0,.owk 899),(1,.k),(2,.k),(6,.k),(7,.v (.int .i64))],[(899,.own (.us 3))]⟩] .n)) (.s .n (.b none (.l [] ⟨.n,[(0,.owk 899),(1,.k),(2,.k),(6,.v (.int .i64))],[(899,.own (.us 3))]⟩ [⟨(.x 2),[(0,.owk 899)],[(899,.own (.us 3))]⟩] (.s .n (.b none (.s .n (.s (.b none (.l [] ⟨.n,[(0,.owk 899),(1,.k),(2,.k),(6,.k),(7,.v (.int .i64)),(8,.v (.int .i64))],[(899,.own (.us 3))]⟩ [⟨(.x 4),[(0,.owk 899),(1,.k),(2,.k),(6,.k),(7,.v (.int .i64))],[(899,.own (.us 3))]⟩] .n)) .n)))))))))) func77 (by kernel_rfl) (by kernel_rfl) (by kernel_rfl) fun _ _=>by kernel_rfl
def xw77:Wk:=⟨w77,yw77⟩
def w49:Wc:=⟨49,(.us 3),[(.fn 0)],[false],fun l x=>Xh l (fun a0 a1=>x.g (a0,a1))⟩
theorem yw49:WcOk w49:=IE hEI [.w xw77] [] [] .n func49 (by kernel_rfl) (by kernel_rfl) (by kernel_rfl) fun _ _=>by kernel_rfl
def xw49:Wk:=⟨w49,yw49⟩
def k50:Fc:=⟨50,[(.us 3),(.us 3)],[false,false],[(.int .i64)],fun x=>Xe x.1 x.2⟩
theorem yk50:Az k50:=fOk [.k xk43] [] [] .n func50
def xk50:Fk:=⟨k50,yk50⟩
def xz51:Zk:=⟨z51,uL⟩
def k14:Fc:=⟨14,[(.slc (.us 3)),(.slc (.us 3))],[false,false],[(.slc (.us 3)),(.int .i64)],fun x=>Xl x.1 x.2⟩
theorem yk14:Az k14:=fOk [.k xk24,.d xd48,.w xw49,.k xk50,.k xk43,.k xk44,.z xz51] [] [(0,(.slc (.us 3))),(1,(.slc (.us 3)))] (.s .n (.s (.s .n (.b none (.l [] ⟨.n,[(0,.k),(1,.k),(13,.k),(14,.k),(15,.v (.int .i64))],[(0,.k)]⟩ [⟨(.x 0),[(0,.k),(1,.k)],[(0,.k)]⟩,⟨.r,[(4,.v (.slc (.us 3))),(5,.v (.int .i64))],[(0,.gone),(1,.gone),(628,.gone)]⟩] .n))) (.s .n (.s .n (.s (.s .n (.b none (.l [] ⟨.n,[(9,.k),(10,.v (.int .i64))],[(0,.gone),(628,.k)]⟩ [⟨(.x 2),[(9,.k)],[(0,.gone),(628,.k)]⟩,⟨.r,[(4,.v (.slc (.us 3))),(5,.v (.int .i64))],[(0,.gone),(1,.gone),(628,.gone)]⟩] .n))) .n))))) func14
def xk14:Fk:=⟨k14,yk14⟩
def k34:Fc:=⟨34,[(.slc (.us 5)),(.slc (.us 5))],[false,false],[.bool],fun x=>WZ x.1 x.2⟩
theorem yk34:Az k34:=fOk [] [] [] (.s .n (.s .n (.s (.s .n (.b none (.l [] ⟨.n,[(0,.k),(1,.k),(5,.v (.int .i64))],[]⟩ [⟨(.x 0),[],[]⟩,⟨.r,[(4,.v .bool)],[]⟩] .n))) .n))) func34
def xk34:Fk:=⟨k34,yk34⟩
def k28:Fc:=⟨28,[(.slc (.int .i64)),(.slc (.int .i64))],[false,false],[.bool],fun x=>WY x.1 x.2⟩
theorem yk28:Az k28:=fOk [] [] [] (.s .n (.s .n (.s (.s .n (.b none (.l [] ⟨.n,[(0,.k),(1,.k),(5,.v (.int .i64))],[]⟩ [⟨(.x 0),[],[]⟩,⟨.r,[(4,.v .bool)],[]⟩] .n))) .n))) func28
def xk28:Fk:=⟨k28,yk28⟩
def k27:Fc:=⟨27,[(.us 3),(.us 3)],[false,false],[.bool],fun x=>Kt x.1 x.2⟩
theorem yk27:Az k27:=fOk [.k xk37] [] [] .n func27
def xk27:Fk:=⟨k27,yk27⟩
def k26:Fc:=⟨26,[(.slc (.us 3)),(.slc (.us 3))],[false,false],[.bool],fun x=>Xd x.1 x.2⟩
theorem yk26:Az k26:=fOk [.k xk27] [] [] (.s .n (.s .n (.s (.s .n (.b none (.l [] ⟨.n,[(0,.k),(1,.k),(5,.v (.int .i64))],[]⟩ [⟨(.x 0),[],[]⟩,⟨.r,[(4,.v .bool)],[]⟩] .n))) .n))) func26
def xk26:Fk:=⟨k26,yk26⟩
def k11:Fc:=⟨11,[],[],[.bool],fun x=>NJ ⟩
set_option maxRecDepth 100000 in
theorem u11:NJ=some true:=by decide +kernel
theorem t11:funT [.k xk38,.k xk24,.k xk16,.k xk18,.k xk39,.k xk40,.k xk33,.k xk36,.k xk29,.k xk41,.k xk31,.k xk12,.k xk20,.k xk14,.k xk34,.k xk28,.k xk26] [(3,(.us 8)),(4,(.us 8)),(6,(.us 5)),(7,(.int .i64))] (cRs Tryz.prog Tryz.f11.results.toList) Tryz.f11.ntmps (cF Tryz.prog [] Tryz.f11) .n k11 ()=some true:=by kernel_rfl
theorem yk11:Az k11:=RF hEI [.k xk38,.k xk24,.k xk16,.k xk18,.k xk39,.k xk40,.k xk33,.k xk36,.k xk29,.k xk41,.k xk31,.k xk12,.k xk20,.k xk14,.k xk34,.k xk28,.k xk26] [] [(3,(.us 8)),(4,(.us 8)),(6,(.us 5)),(7,(.int .i64))] .n func11 (by kernel_rfl) (by kernel_rfl) fun _=>t11.trans u11.symm
def xk11:Fk:=⟨k11,yk11⟩
def k114:Fc:=⟨114,[.str],[false],[.str],fun x=>DV x⟩
theorem wU:Az k114:=fOk [] [] [] (.s .n (.s .n (.s (.b none (.l [] ⟨.n,[(0,.k),(3,.v (.int .i64))],[]⟩ [⟨(.x 0),[(0,.k),(3,.v (.int .i64))],[]⟩] .n)) .n))) func114
def J_:Fk:=⟨k114,wU⟩
def k88:Fc:=⟨88,[.str],[false],[.bool],fun x=>N6 x⟩
theorem yk88:Az k88:=fOk [.k J_] [] [] .n func88
def xk88:Fk:=⟨k88,yk88⟩
def k135:Fc:=⟨135,[.str,.str],[false,false],[(.int .i64)],fun x=>Kq x.1 x.2⟩
theorem wV:Az k135:=fOk [.k J_] [] [] .n func135
def Xp:Fk:=⟨k135,wV⟩
def k151:Fc:=⟨151,[.str,(.int .i64)],[false,false],[(.int .i64)],fun x=>Gv x.1 x.2⟩
theorem wW:Az k151:=fOk [] [] [] .n func151
def X_:Fk:=⟨k151,wW⟩
def k152:Fc:=⟨152,[(.slc (.int .i64))],[false],[.str],fun x=>Kr x⟩
theorem wX:Az k152:=fOk [.k J_] [] [(0,(.int .u8)),(1,(.int .u8))] (.s .n (.s .n (.s (.s .n (.b none (.l [] ⟨.n,[(0,.k),(3,.own 1),(4,.v (.int .i64))],[(0,.gone),(1,.own (.int .u8))]⟩ [⟨(.x 0),[(3,.own 1)],[(0,.gone),(1,.own (.int .u8))]⟩] .n))) .n))) func152
def Y_:Fk:=⟨k152,wX⟩
def k136:Fc:=⟨136,[.str,.str],[false,false],[(.us 11)],fun x=>Ku x.1 x.2⟩
theorem wY:Az k136:=fOk [.k Xp,.k X_,.k Y_] [] [(1,(.int .i64)),(2,(.int .i64))] (.s .n (.s .n (.s .n (.s .n (.s (.s .n (.b none (.l [] ⟨.n,[(0,.k),(1,.k),(4,.k),(5,.own 2),(6,.v (.int .i64)),(7,.v (.int .i64))],[(0,.k),(1,.gone),(2,.own (.int .i64))]⟩ [⟨(.x 0),[(4,.k),(5,.own 2)],[(0,.k),(1,.gone),(2,.own (.int .i64))]⟩] (.s .n (.s (.b none (.s .n (.s .n (.s (.s .n (.c (some [⟨.n,[(0,.k),(1,.k),(4,.k),(5,.k),(6,.v (.int .i64)),(7,.k),(8,.v (.int .i64))],[(0,.k),(1,.gone),(2,.k)]⟩]) .n .n)) .n)))) .n))))) .n))))) func136
def jS:Fk:=⟨k136,wY⟩
def k115:Fc:=⟨115,[.str,.str],[false,false],[(.us 10)],fun x=>Kw x.1 x.2⟩
theorem wZ:Az k115:=fOk [.k J_,.k Xp,.k jS] [] [(1,(.int .u8))] (.s .n (.s .n (.s .n (.s .n (.s (.s .n (.b none (.l [] ⟨.n,[(0,.k),(1,.k),(4,.k),(5,.v .str),(6,.v .str),(7,.v (.int .i64))],[(0,.k),(1,.gone)]⟩ [⟨(.x 0),[(4,.k),(5,.v .str),(6,.v .str)],[(0,.k),(1,.gone)]⟩] (.s .n (.s (.b none (.s .n (.s .n (.s (.b none (.l [] ⟨.n,[(0,.k),(1,.k),(4,.k),(5,.k),(6,.v .str),(7,.k),(8,.v (.int .i64))],[(0,.k),(1,.gone)]⟩ [⟨(.x 2),[(0,.k),(1,.k),(4,.k),(5,.k),(6,.v .str),(7,.k),(8,.v (.int .i64))],[(0,.k),(1,.gone)]⟩] .n)) .n)))) .n))))) .n))))) func115
def jT:Fk:=⟨k115,wZ⟩
def k89:Fc:=⟨89,[.str,.str],[false,false],[.str],fun x=>NC x.1 x.2⟩
theorem yk89:Az k89:=fOk [.k J_,.k jT] [] [] (.s .n (.s .n (.s .n (.s (.b none (.l [] ⟨.n,[(5,.v .str),(6,.v .str)],[]⟩ [⟨(.x 0),[(5,.v .str)],[]⟩] .n)) .n)))) func89
def xk89:Fk:=⟨k89,yk89⟩
def k66:Fc:=⟨66,[(.us 0)],[false],[.bool],fun x=>NF x⟩
theorem yk66:Az k66:=fOk [.k xk88,.k xk89] [] [] .n func66
def xk66:Fk:=⟨k66,yk66⟩
def k143:Fc:=⟨143,[(.us 0)],[false],[(.us 0)],fun x=>Ky x⟩
theorem w_:Az k143:=fOk [.k xk66] [] [] .n func143
def j_:Fk:=⟨k143,w_⟩
def k126:Fc:=⟨126,[(.us 0)],[false],[(.us 0)],fun x=>Rz x⟩
theorem xa:Az k126:=fOk [.k j_] [] [] .n func126
def xc:Fk:=⟨k126,xa⟩
def k144:Fc:=⟨144,[(.us 0)],[false],[.str,.str],fun x=>N4 x⟩
theorem xd:Az k144:=fOk [] [] [] .n func144
def xe:Fk:=⟨k144,xd⟩
def k145:Fc:=⟨145,[.str,.str],[false,false],[.str],fun x=>Kv x.1 x.2⟩
theorem xf:Az k145:=fOk [.k X_,.k Y_] [] [(0,(.int .i64))] (.s .n (.s .n (.s (.s .n (.b none (.l [] ⟨.n,[(0,.k),(1,.k),(5,.vec 0),(6,.v (.int .i64))],[(0,.vec (.int .i64))]⟩ [⟨(.x 0),[(5,.vec 0)],[(0,.vec (.int .i64))]⟩] (.s .n (.s (.b none (.s .n (.s .n (.b none (.l [] ⟨.n,[(0,.k),(1,.k),(5,.vec 0),(6,.k),(7,.v (.int .i64)),(8,.v (.int .i64))],[(0,.vec (.int .i64))]⟩ [⟨(.x 2),[(0,.k),(1,.k),(5,.vec 0),(6,.k)],[(0,.vec (.int .i64))]⟩] .n))))) .n))))) .n))) func145
def xg:Fk:=⟨k145,xf⟩
def k147:Fc:=⟨147,[.str,.str],[false,false],[.str],fun x=>Rp x.1 x.2⟩
theorem xh:Az k147:=fOk [.k X_,.k Y_] [] [(0,(.int .i64)),(1,(.int .i64))] (.s .n (.s .n (.s .n (.s (.s .n (.b none (.l [] ⟨.n,[(0,.k),(1,.k),(5,.own 1),(6,.v (.int .i64)),(7,.v (.int .i64))],[(0,.gone),(1,.own (.int .i64))]⟩ [⟨(.x 0),[(5,.own 1)],[(0,.gone),(1,.own (.int .i64))]⟩] .n))) .n)))) func147
def xi:Fk:=⟨k147,xh⟩
def k146:Fc:=⟨146,[.bool,.str,.str],[false,false,false],[(.us 0)],fun x=>Kx x.1 x.2.1 x.2.2⟩
theorem xj:Az k146:=fOk [.k J_,.k xk89,.k jT] [] [] .n func146
def xl:Fk:=⟨k146,xj⟩
def k125:Fc:=⟨125,[(.us 0),(.us 0)],[false,false],[(.us 0)],fun x=>Ry x.1 x.2⟩
theorem xm:Az k125:=fOk [.k j_,.k xe,.k xg,.k xi,.k xl,.k Xp,.k jS] [] [] .n func125
def xn:Fk:=⟨k125,xm⟩
def k109:Fc:=⟨109,[(.us 0),(.us 0)],[false,false],[(.us 0)],fun x=>R0 x.1 x.2⟩
theorem xo:Az k109:=fOk [.k xc,.k xn] [] [] .n func109
def xp:Fk:=⟨k109,xo⟩
def k83:Fc:=⟨83,[(.us 0),(.us 0)],[false,false],[(.int .i64)],fun x=>R4 x.1 x.2⟩
theorem yk83:Az k83:=fOk [.k xp] [] [] .n func83
def xk83:Fk:=⟨k83,yk83⟩
def k60:Fc:=⟨60,[(.us 2)],[false],[(.int .i64)],fun x=>R8 x⟩
theorem yk60:Az k60:=fOk [.k xk66,.k xk83] [] [] (.s .n (.s .n (.s (.s .n (.b none (.l [] ⟨.n,[(1,.k),(3,.v (.int .i64))],[(0,.k),(1,.gone)]⟩ [⟨(.x 0),[],[(0,.k),(1,.gone)]⟩,⟨.r,[(2,.v (.int .i64))],[(0,.gone),(1,.gone)]⟩] .n))) .n))) func60
def xk60:Fk:=⟨k60,yk60⟩
def k23:Fc:=⟨23,[(.us 3)],[false],[.bool],fun x=>NI x⟩
theorem yk23:Az k23:=fOk [.k xk60] [] [] .n func23
def xk23:Fk:=⟨k23,yk23⟩
def k61:Fc:=⟨61,[(.us 3),(.us 3)],[false,false],[.bool],fun x=>Kl x.1 x.2⟩
theorem yk61:Az k61:=fOk [] [] [] .n func61
def xk61:Fk:=⟨k61,yk61⟩
def k25:Fc:=⟨25,[(.slc (.us 3))],[false],[(.int .i64)],fun x=>RA x⟩
theorem yk25:Az k25:=fOk [.k xk23,.k xk61] [] [] (.s .n (.s .n (.s (.s .n (.b none (.l [] ⟨.n,[(0,.k),(3,.v (.int .i64))],[]⟩ [⟨(.x 0),[],[]⟩,⟨.r,[(2,.v (.int .i64))],[]⟩] .n))) .n))) func25
def xk25:Fk:=⟨k25,yk25⟩
def k47:Fc:=⟨47,[(.slc (.us 3)),(.us 3)],[false,false],[(.slc (.us 3))],fun x=>Rh x.1 x.2⟩
theorem yk47:Az k47:=fOk [.k xk61] [(4,2),(6,2)] [(1,(.us 3)),(2,(.us 3)),(3,(.us 3)),(5,(.us 3))] (.s .n (.s .n (.s .n (.s (.s .n (.b none (.l [] ⟨.n,[(0,.k),(3,.k),(5,.own 2),(6,.v .bool),(7,.v (.int .i64))],[(0,.k),(1,.gone),(2,.own (.us 3)),(3,.gone)]⟩ [⟨(.x 0),[(3,.k),(5,.own 2),(6,.v .bool)],[(0,.k),(1,.gone),(2,.own (.us 3)),(3,.gone)]⟩] (.s .n (.s (.b none (.s .n (.s .n (.s (.s .n (.c (some [⟨.n,[(0,.k),(3,.k),(5,.own 2),(6,.v .bool),(7,.k),(8,.k),(9,.k)],[(0,.k),(1,.gone),(2,.own (.us 3)),(3,.gone)]⟩]) .n .n)) .n)))) .n))))) .n)))) func47
def xk47:Fk:=⟨k47,yk47⟩
def k13:Fc:=⟨13,[(.slc (.us 3)),(.us 3)],[false,false],[(.us 13)],fun x=>RC x.1 x.2⟩
theorem yk13:Az k13:=fOk [.k xk25,.k xk23,.k xk27,.k xk47] [] [] (.s .n (.s .n (.s .n (.s .n (.s .n (.s (.s .n (.b none (.l [] ⟨.n,[(0,.k),(3,.k),(4,.k),(7,.v (.int .i64))],[(0,.k),(1,.k)]⟩ [⟨(.x 0),[(0,.k),(3,.k),(4,.k)],[(0,.k),(1,.k)]⟩,⟨.r,[(4,.ptr 1 0)],[(1,.box (.us 13)),(0,.gone)]⟩] .n))) .n)))))) func13
def xk13:Fk:=⟨k13,yk13⟩
def k15:Fc:=⟨15,[(.slc (.us 3)),(.slc (.us 3))],[false,false],[(.us 13)],fun x=>QU x.1 x.2⟩
theorem yk15:Az k15:=fOk [.k xk25,.k xk27,.k xk47] [] [(1,(.us 3)),(2,(.us 3))] (.s .n (.s .n (.s (.s .n (.c (some [⟨.n,[(0,.k),(1,.k),(4,.k),(5,.v (.int .i64))],[(0,.k)]⟩]) .n .n)) (.s .n (.s (.s .n (.b none (.l [] ⟨.n,[(0,.k),(1,.k),(4,.k),(6,.v (.int .i64))],[(0,.k)]⟩ [⟨(.x 0),[(0,.k),(1,.k),(4,.k)],[(0,.k)]⟩,⟨.r,[(4,.ptr 0 0)],[(0,.box (.us 13)),(1,.gone),(2,.gone)]⟩] (.s .n (.s (.b none (.s .n (.b none (.l [] ⟨.n,[(0,.k),(1,.k),(4,.k),(6,.k),(7,.v (.int .i64))],[(0,.k)]⟩ [⟨(.x 2),[(0,.k),(1,.k),(4,.k),(6,.k)],[(0,.k)]⟩,⟨.r,[(4,.ptr 0 0)],[(0,.box (.us 13)),(1,.gone),(2,.gone)]⟩] .n)))) .n))))) (.s .n (.s (.s .n (.b none (.l [1] ⟨.n,[(1,.k),(4,.k),(9,.v (.slc (.us 3))),(10,.v (.int .i64))],[(0,.k),(1,.gone)]⟩ [⟨(.x 4),[(4,.k),(9,.v (.slc (.us 3)))],[(0,.k),(1,.gone)]⟩] .n))) .n))))))) func15
def xk15:Fk:=⟨k15,yk15⟩
def k54:Fc:=⟨54,[(.int .i64),(.int .i64)],[false,false],[(.int .i64)],fun x=>T_ x.1 x.2⟩
theorem yk54:Az k54:=fOk [] [] [] .n func54
def xk54:Fk:=⟨k54,yk54⟩
def k55:Fc:=⟨55,[(.slc (.us 3)),(.int .i64),(.int .i64),(.int .i64),(.int .i64)],[false,false,false,false,false],[(.int .i64)],fun x=>N2 x.1 x.2.1 x.2.2.1 x.2.2.2.1 x.2.2.2.2⟩
theorem yk55:Az k55:=fOk [] [] [] (.s .n (.s .n (.s (.s .n (.b none (.l [] ⟨.n,[(0,.k),(1,.k),(2,.k),(3,.k),(4,.k),(11,.v (.int .i64)),(12,.v (.int .i64))],[(0,.gone)]⟩ [⟨(.x 0),[(11,.v (.int .i64))],[(0,.gone)]⟩] .n))) .n))) func55
def xk55:Fk:=⟨k55,yk55⟩
def k17:Fc:=⟨17,[(.slc (.us 3)),(.int .i64),(.int .i64),(.int .i64),(.int .i64)],[false,false,false,false,false],[(.us 14)],fun x=>O_ x.1 x.2.1 x.2.2.1 x.2.2.2.1 x.2.2.2.2⟩
theorem yk17:Az k17:=fOk [.k xk25,.k xk54,.k xk55] [] [] (.s .n (.s .n (.s (.s .n (.c (some [⟨.n,[(0,.k),(1,.k),(2,.k),(3,.k),(4,.k),(10,.k),(11,.v (.int .i64))],[(0,.k)]⟩]) .n .n)) .n))) func17
def xk17:Fk:=⟨k17,yk17⟩
def k19:Fc:=⟨19,[(.slc (.us 3)),(.int .i64),(.int .i64),(.int .i64),(.int .i64)],[false,false,false,false,false],[(.us 15)],fun x=>QV x.1 x.2.1 x.2.2.1 x.2.2.2.1 x.2.2.2.2⟩
theorem yk19:Az k19:=fOk [.k xk25,.k xk17] [] [] .n func19
def xk19:Fk:=⟨k19,yk19⟩
def k21:Fc:=⟨21,[(.slc (.us 3)),(.int .i64)],[false,false],[(.us 16)],fun x=>Jz x.1 x.2⟩
theorem yk21:Az k21:=fOk [.k xk25] [] [(1,(.int .i64)),(2,(.int .i64))] (.s .n (.s .n (.s .n (.s .n (.s (.s .n (.b none (.l [] ⟨.n,[(0,.k),(1,.k),(4,.k),(6,.own 2),(7,.v (.int .i64))],[(0,.k),(1,.gone),(2,.own (.int .i64))]⟩ [⟨(.x 0),[(4,.k),(6,.own 2)],[(0,.k),(1,.gone),(2,.own (.int .i64))]⟩,⟨.r,[(4,.ptr 0 0)],[(0,.box (.us 16)),(1,.gone),(2,.gone)]⟩] (.s .n (.b none (.s .n (.s (.s .n (.b none (.l [] ⟨.n,[(0,.k),(1,.k),(4,.k),(6,.k),(7,.k),(8,.v (.int .i64)),(9,.v (.int .i64))],[(0,.k),(1,.gone),(2,.k)]⟩ [⟨(.x 2),[(0,.k),(1,.k),(4,.k),(6,.k),(8,.v (.int .i64))],[(0,.k),(1,.gone),(2,.k)]⟩] .n))) .n))))))) .n))))) func21
def xk21:Fk:=⟨k21,yk21⟩
def k3:Fc:=⟨3,[(.slc (.us 3)),(.slc (.us 3)),(.us 3),(.us 4)],[false,false,false,false],[.bool],fun x=>W_ x.1 x.2.1 x.2.2.1 x.2.2.2⟩
theorem yk3:Az k3:=fOk [.k xk9,.k xk10,.k xk11,.k xk12,.k xk13,.k xk14,.k xk15,.k xk16,.k xk17,.k xk18,.k xk19,.k xk20,.k xk21,.k xk22,.k xk23,.k xk24,.k xk25,.k xk26,.k xk27,.k xk28] [] [] .n func3
end
end Go.Am

