/- Part K1: contracts of the functions of this seat. No condition. -/
import Derived.Test.YtiaclogojhfmfaaGreatDoorC4
import Derived.Test.YtiaclogojhfmfaaGreatDoorP1
set_option linter.unusedVariables false
namespace Go.Am
noncomputable section
open Go.Proofs Go.Proofs.Tryz
theorem hEI:∀i,AE (TabT.E i):=fun _=>.top
theorem fOk(H:List Fe)(sm:List (Nat×Nat))(ty:List (Nat×CT))(h:HT){C:Fc}{fn:Func}(hf:TabT.P.funcs[C.f]?=some fn)(he:CD TabT.P C.f=true:=by kernel_rfl)(hc:ckF TabT.P sm fn C.a.length=true:=by kernel_rfl)(ht:∀x,funT H ty (cRs TabT.P fn.results.toList) fn.ntmps (cF TabT.P sm fn) h C x=C.F x:=by intro _;kernel_rfl):As C:=Mt hEI H sm ty h hf he hc ht
def k43:Fc:=⟨43,[],[],[(.slc (.us 0)),(.us 5)],fun x=>V0 ⟩
theorem yk43:As k43:=fOk [] [] [(1,(.us 0))] .n func43
def xk43:Fk:=⟨k43,yk43⟩
def k39:Fc:=⟨39,[(.int .i64),(.int .i64)],[false,false],[(.us 6)],fun x=>Eu x.1 x.2⟩
theorem yk39:As k39:=fOk [] [] [] .n func39
def xk39:Fk:=⟨k39,yk39⟩
def k57:Fc:=⟨57,[(.int .i64),(.int .i64),(.int .i64)],[false,false,false],[.bool],fun x=>Ip x.1 x.2.1 x.2.2⟩
theorem yk57:As k57:=fOk [] [] [] .n func57
def xk57:Fk:=⟨k57,yk57⟩
theorem yk19:As k19:=fOk [.k xk57] [] [] .n func19
def xk19:Fk:=⟨k19,yk19⟩
def k100:Fc:=⟨100,[(.int .i64)],[false],[.bool],fun x=>F5 x⟩
theorem jzkv:As k100:=fOk [] [] [] .n func100
def VD:Fk:=⟨k100,jzkv⟩
def k80:Fc:=⟨80,[(.int .i64),(.int .i64)],[false,false],[(.int .i64)],fun x=>EG x.1 x.2⟩
theorem yk80:As k80:=fOk [.k VD] [] [] .n func80
def xk80:Fk:=⟨k80,yk80⟩
def k79:Fc:=⟨79,[(.slc (.int .i64))],[false],[(.int .i64)],fun x=>Mb x⟩
theorem yk79:As k79:=fOk [] [] [] (.s .n (.s .n (.s (.s .n (.b none (.l [] ⟨.n,[(3,.k),(6,.k),(7,.k),(8,.v (.int .i64))],[]⟩ [⟨(.x 0),[(3,.k)],[]⟩,⟨.r,[(2,.v (.int .i64))],[]⟩] .n))) .n))) func79
def xk79:Fk:=⟨k79,yk79⟩
theorem yk47:As k47:=fOk [.k xk80,.k xk79] [] [(2,(.int .i64))] .n func47
def xk47:Fk:=⟨k47,yk47⟩
theorem yk21:As k21:=fOk [.k xk19,.k xk47] [] [] (.s .n (.s .n (.s (.s .n (.b none (.l [] ⟨.n,[(0,.k),(8,.k),(9,.k),(10,.v (.int .i64))],[(0,.gone)]⟩ [⟨(.x 0),[],[(0,.gone)]⟩,⟨.r,[(2,.v (.int .i64))],[(0,.gone)]⟩] .n))) .n))) func21
def xk21:Fk:=⟨k21,yk21⟩
def k112:Fc:=⟨112,[(.int .i64)],[false],[.bool],fun x=>PC x⟩
theorem jzwr:As k112:=fOk [] [] [] .n func112
def jzwn:Fk:=⟨k112,jzwr⟩
def k143:Fc:=⟨143,[.str],[false],[.bool],fun x=>Ki x⟩
theorem jzj3:As k143:=fOk [] [] [] .n func143
def jzcr:Fk:=⟨k143,jzj3⟩
def k181:Fc:=⟨181,[(.int .u32)],[false],[.bool],fun x=>Kl x⟩
theorem jzwx:As k181:=fOk [] [] [] .n func181
def jzwz:Fk:=⟨k181,jzwx⟩
def k178:Fc:=⟨178,[(.int .u32),(.int .u32)],[false,false],[(.int .i64)],fun x=>Mh x.1 x.2⟩
theorem jzi4:As k178:=fOk [.k jzwz] [] [] .n func178
def jzie:Fk:=⟨k178,jzi4⟩
def k166:Fc:=⟨166,[(.slc (.int .u32)),(.slc (.int .u32))],[false,false],[(.int .i64)],fun x=>Qd x.1 x.2⟩
theorem jzj9:As k166:=fOk [.k xk80,.k jzie] [] [] (.s .n (.s .n (.s (.s .n (.b none (.l [] ⟨.n,[(0,.k),(1,.k),(6,.v (.int .i64))],[]⟩ [⟨(.x 0),[],[]⟩,⟨.r,[(4,.v (.int .i64))],[]⟩] .n))) .n))) func166
def Qv:Fk:=⟨k166,jzj9⟩
def k168:Fc:=⟨168,[(.slc (.int .u32))],[false],[(.slc (.int .u32))],fun x=>HH x⟩
theorem jzjl:As k168:=fOk [] [] [] (.s .n (.s (.b none (.l [] ⟨.n,[(0,.v (.slc (.int .u32)))],[]⟩ [⟨(.x 0),[(0,.v (.slc (.int .u32)))],[]⟩] .n)) .n)) func168
def Iv:Fk:=⟨k168,jzjl⟩
def k167:Fc:=⟨167,[(.slc (.int .u32)),(.int .u32)],[false,false],[(.slc (.int .u32)),(.int .u32)],fun x=>SY x.1 x.2⟩
theorem jzj8:As k167:=fOk [.k Iv] [] [(0,(.int .u32))] (.s .n (.s .n (.s (.s .n (.b none (.l [] ⟨.n,[(0,.k),(1,.k),(6,.vec 0),(7,.v (.int .u64)),(8,.v (.int .i64))],[(0,.vec (.int .u32))]⟩ [⟨(.x 0),[(6,.vec 0),(7,.v (.int .u64))],[(0,.vec (.int .u32))]⟩] .n))) .n))) func167
def VE:Fk:=⟨k167,jzj8⟩
def k179:Fc:=⟨179,[(.slc (.int .u32)),(.int .i64)],[false,false],[(.int .u64)],fun x=>PI x.1 x.2⟩
theorem jzwm:As k179:=fOk [] [] [] .n func179
def Qw:Fk:=⟨k179,jzwm⟩
def k171:Fc:=⟨171,[(.slc (.int .u32)),(.slc (.int .u32))],[false,false],[(.slc (.int .u32))],fun x=>PW x.1 x.2⟩
theorem jzw2:As k171:=fOk [.k Qw,.k Iv] [] [(0,(.int .u32))] (.s .n (.s .n (.s (.s .n (.b none (.l [] ⟨.n,[(1,.k),(5,.vec 0),(18,.k),(19,.k),(20,.v (.int .i64))],[(0,.vec (.int .u32))]⟩ [⟨(.x 0),[(5,.vec 0)],[(0,.vec (.int .u32))]⟩] (.s .n (.s .n (.s (.b none (.s .n (.s .n (.s .n (.b none (.l [] ⟨.n,[(1,.k),(5,.vec 0),(6,.k),(7,.k),(8,.v (.int .u64)),(9,.v (.int .i64)),(18,.k),(19,.k),(20,.k)],[(0,.vec (.int .u32))]⟩ [⟨(.x 2),[(1,.k),(5,.vec 0),(18,.k),(19,.k),(20,.k)],[(0,.vec (.int .u32))]⟩] .n)))))) .n)))))) .n))) func171
def Qx:Fk:=⟨k171,jzw2⟩
def k169:Fc:=⟨169,[(.slc (.int .u32)),(.int .i64)],[false,false],[(.slc (.int .u32))],fun x=>Ob x.1 x.2⟩
theorem jzkw:As k169:=fOk [.k VE,.k Qx] [] [(0,(.int .u32))] .n func169
def jzcq:Fk:=⟨k169,jzkw⟩
def jzwp:Ck:=⟨v170,jzu1⟩
def k172:Fc:=⟨172,[(.slc (.int .u32)),(.slc (.int .u32))],[false,false],[(.slc (.int .u32))],fun x=>PX x.1 x.2⟩
theorem jzwk:As k172:=fOk [.k Qw,.k Iv] [] [(0,(.int .u32)),(1,(.int .u32))] (.s .n (.s .n (.s .n (.s (.s .n (.b none (.l [] ⟨.n,[(0,.k),(1,.k),(5,.own 1),(6,.v (.int .u64)),(10,.k),(11,.v (.int .i64))],[(0,.gone),(1,.own (.int .u32))]⟩ [⟨(.x 0),[(5,.own 1)],[(0,.gone),(1,.own (.int .u32))]⟩] .n))) .n)))) func172
def VF:Fk:=⟨k172,jzwk⟩
theorem jzuf:As k152:=fOk [.k Qv,.k VE,.k Iv,.k jzcq,.c jzwp,.k Qx,.k VF] [(2,657)] [(0,(.int .u32)),(1,(.int .u32)),(3,(.int .u32)),(4,(.int .u32)),(657,(.int .u32))] (.s .n (.s .n (.s .n (.s .n (.s (.b none (.l [] ⟨.n,[(0,.k),(1,.k),(8,.v (.int .i64))],[]⟩ [⟨(.x 0),[(0,.k),(1,.k),(8,.v (.int .i64))],[]⟩] .n)) (.s .n (.s .n (.s .n (.s .n (.s .n (.s (.s .n (.b none (.l [] ⟨.n,[(8,.k),(9,.k),(10,.vec 657),(11,.k),(12,.vec 3),(13,.v (.int .i64))],[(657,.vec (.int .u32)),(1,.gone),(3,.vec (.int .u32)),(762,.gone),(773,.gone)]⟩ [⟨(.x 2),[(8,.k),(10,.vec 657),(12,.vec 3)],[(657,.vec (.int .u32)),(1,.gone),(3,.vec (.int .u32)),(762,.gone),(773,.gone)]⟩] (.s .n (.s (.b none (.s .n (.s .n (.s .n (.s (.b none (.l [] ⟨.n,[(8,.k),(9,.k),(10,.k),(11,.k),(12,.k),(13,.k),(15,.v (.int .u64)),(16,.v (.int .u64))],[(657,.k),(1,.gone),(3,.k),(762,.gone),(773,.gone)]⟩ [⟨(.x 4),[(8,.k),(9,.k),(10,.k),(11,.k),(12,.k),(13,.k),(15,.v (.int .u64))],[(657,.k),(1,.gone),(3,.k),(762,.gone),(773,.gone)]⟩] .n)) (.s (.s .n (.c (some [⟨.n,[(8,.k),(9,.k),(10,.k),(11,.k),(12,.k),(13,.k),(15,.k)],[(657,.k),(1,.gone),(3,.k),(762,.gone),(773,.gone)]⟩,⟨(.x 3),[(8,.k),(9,.k),(10,.k),(11,.k),(12,.k),(13,.k)],[(657,.k),(1,.gone),(3,.k),(762,.gone),(773,.gone)]⟩]) .n .n)) (.s .n (.s .n (.s (.b none (.l [] ⟨.n,[(8,.k),(9,.k),(10,.k),(11,.k),(12,.k),(13,.k),(15,.v (.int .u64)),(17,.k),(18,.v (.slc (.int .u32)))],[(657,.k),(1,.gone),(3,.k),(762,.gone),(773,.gone)]⟩ [⟨(.x 6),[(8,.k),(9,.k),(10,.k),(11,.k),(12,.k),(13,.k),(15,.v (.int .u64)),(17,.k),(18,.v (.slc (.int .u32)))],[(657,.k),(1,.gone),(3,.k),(762,.gone),(773,.gone)]⟩] .n)) .n))))))))) .n))))) .n))))))))))) func152
theorem VG:As k153:=fOk [.k Iv] [] [(1,(.int .u32)),(2,(.int .u32))] (.s .n (.s .n (.s (.s .n (.b none (.l [] ⟨.n,[(0,.k),(3,.own 2),(4,.v (.int .i64))],[(0,.gone),(1,.gone),(2,.own (.int .u32))]⟩ [⟨(.x 0),[(3,.own 2)],[(0,.gone),(1,.gone),(2,.own (.int .u32))]⟩] (.s .n (.s (.b none (.s .n (.s (.s .n (.b none (.l [] ⟨.n,[(0,.k),(3,.k),(4,.k),(5,.v (.int .u32)),(20,.k),(21,.k),(22,.v (.int .i64))],[(0,.gone),(1,.gone),(2,.k)]⟩ [⟨(.x 2),[(0,.k),(3,.k),(4,.k),(5,.v (.int .u32))],[(0,.gone),(1,.gone),(2,.k)]⟩] .n))) .n))) .n))))) .n))) func153
def Mu:Fk:=⟨k153,VG⟩
def jzwy:Wk:=⟨w173,jzvq⟩
def k182:Fc:=⟨182,[.str,(.int .u8)],[false,false],[.str],fun x=>YC x.1 x.2⟩
theorem jzw5:As k182:=fOk [] [] [] (.s .n (.s (.b none (.l [] ⟨.n,[(0,.v .str),(1,.k)],[]⟩ [⟨(.x 0),[(0,.v .str)],[]⟩] .n)) .n)) func182
def jzw9:Fk:=⟨k182,jzw5⟩
def k180:Fc:=⟨180,[.str,.str],[false,false],[.str],fun x=>PY x.1 x.2⟩
theorem jzir:As k180:=fOk [.k jzw9] [] [] .n func180
def jzjn:Fk:=⟨k180,jzir⟩
def k174:Fc:=⟨174,[.str],[false],[.str],fun x=>Mj x⟩
theorem jzwq:As k174:=fOk [.k jzjn] [] [] .n func174
def jzxb:Fk:=⟨k174,jzwq⟩
theorem VH:As k154:=fOk [.w jzwy,.k jzxb] [] [(0,(.int .u8)),(1,(.int .u8))] (.s .n (.s .n (.s (.s .n (.b none (.l [] ⟨.n,[(3,.own 1),(6,.k),(7,.k),(8,.v (.int .i64))],[(0,.gone),(1,.own (.int .u8))]⟩ [⟨(.x 0),[(3,.own 1)],[(0,.gone),(1,.own (.int .u8))]⟩] .n))) .n))) func154
def Qy:Fk:=⟨k154,VH⟩
def jzik:Fk:=⟨k144,jzuy jzuf VG VH⟩
def k131:Fc:=⟨131,[(.us 2)],[false],[.bool],fun x=>yzs x⟩
theorem jzk2:As k131:=fOk [.k jzcr,.k jzik] [] [] .n func131
def VI:Fk:=⟨k131,jzk2⟩
def k113:Fc:=⟨113,[(.us 2)],[false],[.bool],fun x=>Qf x⟩
theorem jzfj:As k113:=fOk [.k VI] [] [] .n func113
def jzla:Fk:=⟨k113,jzfj⟩
def k132:Fc:=⟨132,[(.us 2)],[false],[(.us 14)],fun x=>V7 x⟩
theorem jzkd:As k132:=fOk [.k VI] [] [] .n func132
def jzkj:Fk:=⟨k132,jzkd⟩
def k155:Fc:=⟨155,[.str,.str],[false,false],[.str],fun x=>Is x.1 x.2⟩
theorem jzjb:As k155:=fOk [.k Mu,.k Qx,.k Qy] [] [] .n func155
def jzjo:Fk:=⟨k155,jzjb⟩
def k175:Fc:=⟨175,[(.slc (.int .u32)),(.slc (.int .u32))],[false,false],[(.slc (.int .u32))],fun x=>V4 x.1 x.2⟩
theorem jzj7:As k175:=fOk [.k Qw,.k Iv] [] [(0,(.int .u32)),(1,(.int .u32))] (.s .n (.s .n (.s .n (.s (.s .n (.b none (.l [] ⟨.n,[(0,.k),(1,.k),(5,.own 1),(6,.v (.int .u64)),(14,.k),(15,.v (.int .i64))],[(0,.gone),(1,.own (.int .u32))]⟩ [⟨(.x 0),[(5,.own 1)],[(0,.gone),(1,.own (.int .u32))]⟩] .n))) .n)))) func175
def jzjq:Fk:=⟨k175,jzj7⟩
def k156:Fc:=⟨156,[.str,.str],[false,false],[.str],fun x=>Mm x.1 x.2⟩
theorem jzi1:As k156:=fOk [.k Mu,.k jzjq,.k Qy] [] [] .n func156
def jzjr:Fk:=⟨k156,jzi1⟩
def k157:Fc:=⟨157,[.str,.str],[false,false],[(.int .i64)],fun x=>Mn x.1 x.2⟩
theorem jzjj:As k157:=fOk [.k Mu,.k Qv] [] [] .n func157
def jzk1:Fk:=⟨k157,jzjj⟩
def k158:Fc:=⟨158,[.str,.str],[false,false],[.str,(.int .i64)],fun x=>Mo x.1 x.2⟩
theorem jzjv:As k158:=fOk [.k Mu,.k Qv,.k VF,.k Qy] [] [] .n func158
def jzkl:Fk:=⟨k158,jzjv⟩
def k145:Fc:=⟨145,[(.us 14),(.us 14)],[false,false],[(.us 14)],fun x=>YG x.1 x.2⟩
theorem jzid:As k145:=fOk [.k jzjo,.k jzjr,.k jzk1,.k jzkl] [] [] (.s .n (.s .n (.s .n (.s (.s .n (.c (some [⟨.n,[(2,.ptr 0 0),(4,.k),(5,.v .str),(6,.v .str),(7,.k)],[(0,.box (.us 14)),(1,.gone),(2,.k)]⟩]) .n .n)) .n)))) func145
def jzcs:Fk:=⟨k145,jzid⟩
def k133:Fc:=⟨133,[(.us 14),(.us 14)],[false,false],[(.us 14)],fun x=>YH x.1 x.2⟩
theorem jzi2:As k133:=fOk [.k jzcs] [] [] .n func133
def jzji:Fk:=⟨k133,jzi2⟩
def k114:Fc:=⟨114,[(.us 2),(.us 2)],[false,false],[(.int .i64)],fun x=>YI x.1 x.2⟩
theorem jzij:As k114:=fOk [.k jzkj,.k jzji] [] [] .n func114
def jzjy:Fk:=⟨k114,jzij⟩
def k96:Fc:=⟨96,[(.us 4)],[false],[(.int .i64)],fun x=>Mq x⟩
theorem yk96:As k96:=fOk [.k jzwn,.k jzla,.k jzjy] [] [] (.s .n (.s .n (.s (.s .n (.b none (.l [] ⟨.n,[(1,.k),(16,.k),(17,.k),(18,.v (.int .i64))],[(0,.k),(1,.gone)]⟩ [⟨(.x 0),[],[(0,.k),(1,.gone)]⟩,⟨.r,[(2,.v (.int .i64))],[(0,.gone),(1,.gone)]⟩] .n))) .n))) func96
def xk96:Fk:=⟨k96,yk96⟩
theorem yk73:As k73:=fOk [.k xk96] [] [(1,(.int .i64)),(10001,(.int .i64))] .n func73
def xk73:Fk:=⟨k73,yk73⟩
theorem yk75:As k75:=fOk [.k xk80] [] [] .n func75
def xk75:Fk:=⟨k75,yk75⟩
theorem yk60:As k60:=fOk [.k xk73,.k xk75] [] [] (.s .n (.s .n (.s (.s .n (.b none (.l [] ⟨.n,[(0,.k),(8,.k),(9,.k),(10,.v (.int .i64))],[(0,.gone)]⟩ [⟨(.x 0),[],[(0,.gone)]⟩,⟨.r,[(2,.v (.int .i64))],[(0,.gone)]⟩] .n))) .n))) func60
def xk60:Fk:=⟨k60,yk60⟩
def k59:Fc:=⟨59,[(.slc (.int .i64))],[false],[(.int .i64)],fun x=>Iq x⟩
theorem yk59:As k59:=fOk [] [] [] (.s .n (.s .n (.s (.s .n (.b none (.l [] ⟨.n,[(3,.k),(6,.k),(7,.k),(8,.v (.int .i64))],[]⟩ [⟨(.x 0),[(3,.k)],[]⟩,⟨.r,[(2,.v (.int .i64))],[]⟩] .n))) .n))) func59
def xk59:Fk:=⟨k59,yk59⟩
def k61:Fc:=⟨61,[(.int .i64)],[false],[.bool],fun x=>Ge x⟩
theorem yk61:As k61:=fOk [] [] [] .n func61
def xk61:Fk:=⟨k61,yk61⟩
def k108:Fc:=⟨108,[(.int .i64),(.int .i64)],[false,false],[(.int .i64)],fun x=>PB x.1 x.2⟩
theorem jzkq:As k108:=fOk [] [] [] .n func108
def jzfv:Fk:=⟨k108,jzkq⟩
def k130:Fc:=⟨130,[(.slc (.us 5)),(.int .i64),(.int .i64),(.int .i64),(.int .i64)],[false,false,false,false,false],[(.ptr (.us 5))],fun x=>Mc x.1 x.2.1 x.2.2.1 x.2.2.2.1 x.2.2.2.2⟩
theorem jziy:As k130:=fOk [] [] [] (.s .n (.s .n (.s (.s .n (.b none (.l [] ⟨.n,[(0,.k),(1,.k),(2,.k),(3,.k),(4,.k),(11,.v (.ptr (.us 5))),(15,.k),(16,.v (.int .i64))],[]⟩ [⟨(.x 0),[(11,.v (.ptr (.us 5)))],[]⟩] (.s .n (.s .n (.s (.b none (.s .n (.s .n (.s (.s .n (.c (some [⟨.n,[(0,.k),(1,.k),(2,.k),(3,.k),(4,.k),(11,.k),(13,.k),(15,.k),(16,.k)],[]⟩,⟨(.x 1),[(0,.k),(1,.k),(2,.k),(3,.k),(4,.k),(11,.k),(15,.k),(16,.k)],[]⟩]) .n .n)) .n)))) .n)))))) .n))) func130
def jzkx:Fk:=⟨k130,jziy⟩
def k109:Fc:=⟨109,[(.slc (.us 5)),(.int .i64),(.int .i64),(.int .i64),(.int .i64)],[false,false,false,false,false],[(.int .i64)],fun x=>PO x.1 x.2.1 x.2.2.1 x.2.2.2.1 x.2.2.2.2⟩
theorem jzjc:As k109:=fOk [.k jzkx] [] [] .n func109
def jzfy:Fk:=⟨k109,jzjc⟩
def k91:Fc:=⟨91,[(.slc (.us 5)),(.int .i64),(.int .i64),(.int .i64),(.int .i64)],[false,false,false,false,false],[(.int .i64),(.int .i64)],fun x=>Qp x.1 x.2.1 x.2.2.1 x.2.2.2.1 x.2.2.2.2⟩
theorem yk91:As k91:=fOk [.k xk60,.k jzfv,.k jzfy] [] [] .n func91
def xk91:Fk:=⟨k91,yk91⟩
def k67:Fc:=⟨67,[(.us 0),(.slc (.us 5)),(.int .i64)],[false,false,false],[(.us 6)],fun x=>It x.1 x.2.1 x.2.2⟩
theorem yk67:As k67:=fOk [.k xk91] [] [] .n func67
def xk67:Fk:=⟨k67,yk67⟩
def xo54:Ok1:=⟨o54,jzv0⟩
def k105:Fc:=⟨105,[(.int .i64),(.int .i64)],[false,false],[.bool],fun x=>P9 x.1 x.2⟩
theorem jzkf:As k105:=fOk [.k VD] [] [] .n func105
def jzja:Fk:=⟨k105,jzkf⟩
def k106:Fc:=⟨106,[(.int .i64)],[false],[.bool],fun x=>PA x⟩
theorem jzku:As k106:=fOk [] [] [] .n func106
def jzk3:Fk:=⟨k106,jzku⟩
def k86:Fc:=⟨86,[(.slc (.int .i64)),(.int .i64)],[false,false],[(.int .i64),.bool],fun x=>Km x.1 x.2⟩
theorem yk86:As k86:=fOk [.k jzja,.k jzk3] [] [] (.s .n (.s .n (.s .n (.s (.b none (.l [] ⟨.n,[(0,.k),(1,.k),(6,.k),(7,.v (.int .i64)),(8,.v (.int .i64))],[]⟩ [⟨(.x 0),[(0,.k),(1,.k),(6,.k),(7,.v (.int .i64))],[]⟩] .n)) .n)))) func86
def xk86:Fk:=⟨k86,yk86⟩
def s87:Sc:=⟨87,[(.slc (.int .i64)),(.slc (.int .i64))],[true,true],1,fun x st=>D1 x.1 x.2 st⟩
theorem ys87:ScOk s87:=jzgn [] [] [] (.s .n (.b none (.l [] ⟨.n,[(0,.k),(1,.k),(2,.k),(4,.v (.int .i64))],[(1899,.out 1 false)]⟩ [⟨(.x 0),[],[(1899,.out 1 false)]⟩,⟨.r,[],[(1899,.out 1 true)]⟩] (.s .n (.b none (.s .n (.s (.s .n (.b none (.l [] ⟨.n,[(0,.k),(1,.k),(2,.k),(4,.v (.int .i64)),(5,.k)],[(1899,.k)]⟩ [⟨(.x 2),[(0,.k),(1,.k),(2,.k),(4,.v (.int .i64)),(5,.k)],[(1899,.k)]⟩] .n))) .n))))))) func87 (by kernel_rfl) (by kernel_rfl) fun _ _=>by kernel_rfl
def xs87:Sk:=⟨s87,ys87⟩
def q62:Qc:=⟨62,[(.slc (.us 0)),(.slc (.us 5)),(.int .i64),(.us 6),(.int .i64)],[false,false,false,false,false],xs87,fun x=>Ev x.1 x.2.1 x.2.2.1 x.2.2.2.1 x.2.2.2.2⟩
def h62:HT:=(.s .n (.s .n (.s .n (.s (.s .n (.b none (.l [] ⟨.n,[(1,.k),(2,.k),(4,.k),(8,.k),(11,.own 5),(12,.mp 1),(32,.k),(33,.k),(34,.v (.int .i64))],[(0,.k),(1,.map (.int .i64) .bool),(2,.gone),(3,.gone),(4,.gone),(5,.own (.us 22))]⟩ [⟨(.x 0),[(11,.own 5),(12,.mp 1)],[(0,.k),(1,.map (.int .i64) .bool),(2,.gone),(3,.gone),(4,.gone),(5,.own (.us 22))]⟩] (.s .n (.s .n (.s (.b none (.s .n (.s (.s .n (.c (some [⟨.n,[(1,.k),(2,.k),(4,.k),(8,.k),(11,.k),(12,.k),(14,.k),(32,.k),(33,.k),(34,.k)],[(0,.k),(1,.k),(2,.k),(3,.gone),(4,.gone),(5,.k)]⟩,⟨(.x 1),[(1,.k),(2,.k),(4,.k),(8,.k),(11,.k),(12,.k),(32,.k),(33,.k),(34,.k)],[(0,.k),(1,.k),(2,.k),(3,.gone),(4,.gone),(5,.k)]⟩]) .n .n)) .n))) .n)))))) (.s .n (.s .n (.s (.s .n (.b none (.l [] ⟨.n,[(11,.k),(16,.k),(17,.ptr 8 0),(89,.k),(90,.v (.int .i64))],[(0,.gone),(1,.gone),(2,.gone),(3,.gone),(4,.gone),(5,.k),(6,.k),(7,.vec (.int .i64)),(8,.rvec 7)]⟩ [⟨(.x 2),[(11,.k),(16,.k),(17,.ptr 8 0)],[(0,.gone),(1,.gone),(2,.gone),(3,.gone),(4,.gone),(5,.k),(6,.k),(7,.vec (.int .i64)),(8,.rvec 7)]⟩] .n))) (.s (.s .n (.b none (.l [] ⟨.n,[(16,.k),(17,.ptr 8 0),(97,.k),(98,.k),(99,.v (.int .i64))],[(0,.gone),(1,.gone),(2,.gone),(3,.gone),(4,.gone),(5,.k),(6,.k),(7,.vec (.int .i64)),(8,.rvec 7),(9,.gone)]⟩ [⟨(.x 4),[(16,.k),(17,.ptr 8 0)],[(0,.gone),(1,.gone),(2,.gone),(3,.gone),(4,.gone),(5,.k),(6,.k),(7,.vec (.int .i64)),(8,.rvec 7),(9,.gone)]⟩] (.s .n (.s .n (.s (.b none (.s .n (.s .n (.s .n (.s .n (.b none (.l [] ⟨.n,[(16,.k),(17,.ptr 8 0),(20,.k),(23,.k),(25,.v (.int .i64)),(97,.k),(98,.k),(99,.k)],[(0,.gone),(1,.gone),(2,.gone),(3,.gone),(4,.gone),(5,.k),(6,.k),(7,.vec (.int .i64)),(8,.rvec 7),(9,.k)]⟩ [⟨(.x 6),[(16,.k),(17,.ptr 8 0),(97,.k),(98,.k),(99,.k)],[(0,.gone),(1,.gone),(2,.gone),(3,.gone),(4,.gone),(5,.k),(6,.k),(7,.vec (.int .i64)),(8,.rvec 7),(9,.k)]⟩] .n))))))) .n)))))) .n))))))))
noncomputable abbrev H62:List Fe:=[.k xk67,.m (xm55),.o (xo54),.k xk86,.s xs87]
abbrev ty62:List (Nat×CT):=[(1,(.int .i64)),(4,(.us 22)),(5,(.us 22)),(7,(.int .i64)),(10001,.bool)]
def sqA:Bc->Bc
 |.seq a _=>a
 |c=>c
def sqB:Bc->Bc
 |.seq _ a=>a
 |c=>c
def hB:HT->HT
 |.s _ x=>x
 |_=>.n
def VJ:Bc:=sqB (sqB (sqB (cF Tryz.prog [] Tryz.f62)))
theorem ac62:cF Tryz.prog [] Tryz.f62=.seq (sqA (cF Tryz.prog [] Tryz.f62)) (.seq (sqA (sqB (cF Tryz.prog [] Tryz.f62))) (.seq (.reg true Mv pcPr) VJ)):=by kernel_rfl
def T62(x:Row q62.a):Ao:=iniT Tryz.f62.ntmps q62.a q62.p x
def T62a(x:Row q62.a):Ao:=match AU H62 ty62 (cRs Tryz.prog Tryz.f62.results.toList) (sqA (cF Tryz.prog [] Tryz.f62)) Ao .n (T62 x) kS with
 |some T=>T
 |none=>T62 x
def T62b(x:Row q62.a):Ao:=match AU H62 ty62 (cRs Tryz.prog Tryz.f62.results.toList) (sqA (sqB (cF Tryz.prog [] Tryz.f62))) Ao .n (T62a x) kS with
 |some T=>T
 |none=>T62 x
theorem a62(x:Row q62.a):AU H62 ty62 (cRs Tryz.prog Tryz.f62.results.toList) (sqA (cF Tryz.prog [] Tryz.f62)) Ao .n (T62 x) kS=some (T62a x):=by kernel_rfl
theorem b62(x:Row q62.a):AU H62 ty62 (cRs Tryz.prog Tryz.f62.results.toList) (sqA (sqB (cF Tryz.prog [] Tryz.f62))) Ao .n (T62a x) kS=some (T62b x):=by kernel_rfl
theorem b62b(x:Row q62.a):(T62b x).b=0:=by kernel_rfl
theorem b62n(x:Row q62.a):(T62b x).n=132:=by kernel_rfl
theorem b62s(x:Row q62.a):Ah (T62b x).t 8=.v (.ptr 0 0 0):=by kernel_rfl
theorem b62h(x:Row q62.a):Af (T62b x).h 0=some (0,.box [.int .i64 x.2.2.2.1.From,.int .i64 x.2.2.2.1.To]):=by kernel_rfl
theorem b62f(x:Row q62.a):(Ah (T62b x).t 26=.v (.s .top)/\Ah (T62b x).t 27=.v (.s .top)/\Ah (T62b x).t 28=.v (.s .top))/\Ah (T62b x).t 29=.v (.s .top)/\Ah (T62b x).t 30=.v (.s .top)/\Ah (T62b x).t 31=.v (.s .top) := ⟨⟨by kernel_rfl,by kernel_rfl,by kernel_rfl⟩,by kernel_rfl,by kernel_rfl,by kernel_rfl⟩
theorem c62(x:Row q62.a)(m:List (Int×Bool)):AU H62 ty62 (cRs Tryz.prog Tryz.f62.results.toList) VJ _ (hB (hB (hB h62))) (pcT (T62b x) m) (resQ q62.S (cRs Tryz.prog Tryz.f62.results.toList))=Qz m x.1 x.2.1 x.2.2.1 x.2.2.2.1 x.2.2.2.2:=by kernel_rfl
theorem f62(x:Row q62.a)(j:Nat)(h1:26<=j)(h2:j<=31):Ah (T62b x).t j=.v (.s .top):=by
 obtain⟨⟨a,b,c⟩,d,e,f⟩:=b62f x;have:j=26\/j=27\/j=28\/j=29\/j=30\/j=31:=by omega
 rcases this with rfl|rfl|rfl|rfl|rfl|rfl
 ·exact a
 ·exact b
 ·exact c
 ·exact d
 ·exact e
 ·exact f
theorem yq62:QcOk q62:=jzua hEI [] func62 (by kernel_rfl) (by kernel_rfl) ac62 fun x y hy hI=>jzwu hI rfl (a62 x) (b62 x) (b62b x) (b62n x) (b62s x) (b62h x) (f62 x) fun m hm=>(c62 x m).trans ((jzt6 hm).trans hy)
def xq62:Qk:=⟨q62,yq62⟩
def k26:Fc:=⟨26,[(.slc (.us 0)),(.slc (.us 5)),(.int .i64),(.us 6),(.int .i64)],[false,false,false,false,false],[(.slc (.us 11)),(.int .i64)],fun x=>CJ x.1 x.2.1 x.2.2.1 x.2.2.2.1 x.2.2.2.2⟩
theorem yk26:As k26:=fOk [.k xk21,.k xk60,.k xk59,.k xk61,.q xq62,.s xs87] [] [(1,(.int .i64)),(5,(.us 10)),(6,(.us 11)),(7,(.us 11))] (.s .n (.s .n (.s .n (.s .n (.s (.s .n (.b none (.r [] ⟨.n,[(13,.ptr 2 0),(58,.k)],[(0,.gone),(2,.rown 7),(3,.gone),(4,.gone),(6,.gone),(7,.own (.us 11))]⟩ [] .n .n))) .n))))) func26
def xk26:Fk:=⟨k26,yk26⟩
theorem yk46:As k46:=fOk [] [] [] (.s .n (.s .n (.s .n (.s (.b none (.l [] ⟨.n,[(0,.k),(2,.k),(4,.k),(8,.k),(9,.v (.int .i64)),(10,.v (.int .i64))],[(0,.k)]⟩ [⟨(.x 0),[(0,.k),(2,.k),(4,.k),(8,.k),(9,.v (.int .i64))],[(0,.k)]⟩] .n)) .n)))) func46
def xk46:Fk:=⟨k46,yk46⟩
def xv49:Ck:=⟨v49,jzvy⟩
def k50:Fc:=⟨50,[(.us 0),(.us 0)],[false,false],[.bool],fun x=>Io x.1 x.2⟩
theorem yk50:As k50:=fOk [] [] [] .n func50
def xk50:Fk:=⟨k50,yk50⟩
theorem jzws:As k13d:=Mt hEI [.k xk21,.k xk19,.k xk46,.k xk47,.c xv49,.k xk50] [] [(1,(.us 0))] .n func13 (by kernel_rfl) (by kernel_rfl) fun _=>by kernel_rfl
theorem yk13:As k13:=jzvv jzws yk21 yk19 yk46 yk47
def xk13:Fk:=⟨k13,yk13⟩
def k70:Fc:=⟨70,[],[],[(.us 6)],fun x=>Hf ⟩
theorem yk70:As k70:=fOk [] [] [] .n func70
def xk70:Fk:=⟨k70,yk70⟩
def xk93:Fk:=⟨k93,jzwc⟩
def k69:Fc:=⟨69,[(.sq 1),(.sq 1)],[false,false],[(.slc (.us 6))],fun x=>Kg x.1.g x.2.g⟩
theorem yk69:As k69:=fOk [.k xk93] [] [(1,(.us 6)),(2,(.us 6))] (.s .n (.s .n (.s .n (.s (.s .n (.b none (.l [] ⟨.n,[(5,.k),(6,.k),(7,.own 2),(8,.v (.int .i64)),(9,.v (.int .i64))],[(0,.gone),(1,.gone),(2,.own (.us 6))]⟩ [⟨(.x 0),[(7,.own 2)],[(0,.gone),(1,.gone),(2,.own (.us 6))]⟩] (.s .n (.b none (.s .n (.s (.s .n (.c (some [⟨.n,[(5,.k),(6,.k),(7,.own 2),(8,.k),(9,.k),(10,.k)],[(0,.k),(1,.gone),(2,.own (.us 6))]⟩]) .n .n)) (.s (.s .n (.c (some [⟨.n,[(5,.k),(6,.k),(7,.k),(8,.v (.int .i64)),(9,.k),(10,.k)],[(0,.k),(1,.gone),(2,.k)]⟩]) .n .n)) .n)))))))) .n)))) func69
def xk69:Fk:=⟨k69,yk69⟩
def k32:Fc:=⟨32,[(.slc (.us 0)),(.slc (.us 5)),(.us 0),(.int .i64)],[false,false,false,false],[(.slc (.us 6)),(.int .i64)],fun x=>Kt x.1 x.2.1 x.2.2.1 x.2.2.2⟩
theorem yk32:As k32:=fOk [.k xk21,.k xk60,.k xk59,.k xk13,.k xk61,.k xk70,.q xq62,.k xk69,.s xs87] [] [(1,(.int .i64))] .n func32
def xk32:Fk:=⟨k32,yk32⟩
theorem yk74:As k74:=fOk [] [] [] (.s .n (.s .n (.s .n (.s (.b none (.l [] ⟨.n,[(0,.k),(2,.k),(4,.k),(8,.k),(9,.v (.int .i64)),(10,.v (.int .i64))],[(0,.k)]⟩ [⟨(.x 0),[(0,.k),(2,.k),(4,.k),(8,.k),(9,.v (.int .i64))],[(0,.k)]⟩] .n)) .n)))) func74
def xk74:Fk:=⟨k74,yk74⟩
def k115:Fc:=⟨115,[(.slc (.us 3)),(.slc (.us 3))],[false,false],[.bool],fun x=>PD x.1 x.2⟩
theorem jzj4:As k115:=fOk [] [] [] (.s .n (.s .n (.s (.s .n (.b none (.l [] ⟨.n,[(0,.k),(1,.k),(12,.k),(13,.v (.int .i64))],[]⟩ [⟨(.x 0),[],[]⟩,⟨.r,[(4,.v .bool)],[]⟩] .n))) .n))) func115
def jzio:Fk:=⟨k115,jzj4⟩
def k97:Fc:=⟨97,[(.us 4),(.us 4)],[false,false],[.bool],fun x=>PN x.1 x.2⟩
theorem yk97:As k97:=fOk [.k jzio] [] [] .n func97
def xk97:Fk:=⟨k97,yk97⟩
def k76:Fc:=⟨76,[(.us 5),(.us 5)],[false,false],[.bool],fun x=>Mi x.1 x.2⟩
theorem yk76:As k76:=fOk [.k xk97] [] [] .n func76
def xk76:Fk:=⟨k76,yk76⟩
theorem jzw6:As k42d:=Mt hEI [.k xk60,.k xk73,.k xk74,.k xk75,.k xk76] [] [] .n func42 (by kernel_rfl) (by kernel_rfl) fun _=>by kernel_rfl
theorem yk42:As k42:=jzv5 jzw6 yk60 yk73 yk74 yk75
def xk42:Fk:=⟨k42,yk42⟩
def k34:Fc:=⟨34,[(.slc (.us 0)),(.slc (.us 5)),(.us 5),(.int .i64)],[false,false,false,false],[(.slc (.us 6)),(.int .i64)],fun x=>Ku x.1 x.2.1 x.2.2.1 x.2.2.2⟩
theorem yk34:As k34:=fOk [.k xk21,.k xk60,.k xk59,.k xk42,.k xk61,.k xk70,.q xq62,.k xk69,.s xs87] [] [(1,(.int .i64))] .n func34
def xk34:Fk:=⟨k34,yk34⟩
def k17:Fc:=⟨17,[(.slc (.us 0)),(.int .i64)],[false,false],[(.slc (.int .i64)),(.int .i64)],fun x=>V6 x.1 x.2⟩
theorem yk17:As k17:=fOk [.k xk21,.m xm55,.o xo54] [] [(0,(.int .i64)),(10000,.bool)] (.s .n (.s .n (.s .n (.s (.s .n (.b none (.l [] ⟨.n,[(1,.k),(7,.mp 0),(16,.k),(17,.k),(18,.v (.int .i64))],[(0,.map (.int .i64) .bool),(1,.gone)]⟩ [⟨(.x 0),[(7,.mp 0)],[(0,.map (.int .i64) .bool),(1,.gone)]⟩] .n))) .n)))) func17
def xk17:Fk:=⟨k17,yk17⟩
def k29:Fc:=⟨29,[(.us 0),(.slc (.us 5)),(.int .i64)],[false,false,false],[(.us 6),(.int .i64)],fun x=>V9 x.1 x.2.1 x.2.2⟩
theorem yk29:As k29:=fOk [.k xk19,.k xk60,.k xk61,.k xk67] [] [] .n func29
def xk29:Fk:=⟨k29,yk29⟩
def k15:Fc:=⟨15,[(.slc (.us 0)),(.slc (.us 0))],[false,false],[(.slc (.us 0)),(.int .i64)],fun x=>V5 x.1 x.2⟩
theorem yk15:As k15:=fOk [.k xk21,.k xk47,.k xk50] [(4,2),(7,2),(8,2),(9,2)] [(0,(.slc (.us 0))),(1,(.us 0)),(2,(.us 0)),(3,(.us 0)),(6,(.us 0))] (.s .n (.s (.s .n (.b none (.l [] ⟨.n,[(0,.k),(1,.k),(14,.k),(15,.k),(16,.v (.int .i64))],[(0,.k)]⟩ [⟨(.x 0),[(0,.k),(1,.k)],[(0,.k)]⟩,⟨.r,[(4,.v (.slc (.us 0))),(5,.v (.int .i64))],[(0,.gone),(1,.gone),(2,.gone),(3,.gone),(5,.gone),(6,.gone)]⟩] .n))) (.s .n (.s (.b none (.l [] ⟨.n,[(0,.v (.slc (.us 0))),(1,.v (.slc (.us 0))),(9,.own 2)],[(0,.gone),(1,.gone),(2,.own (.us 0)),(3,.gone),(5,.gone),(6,.gone)]⟩ [⟨(.x 2),[(0,.v (.slc (.us 0))),(1,.v (.slc (.us 0))),(9,.own 2)],[(0,.gone),(1,.gone),(2,.own (.us 0)),(3,.gone),(5,.gone),(6,.gone)]⟩,⟨.r,[(4,.v (.slc (.us 0))),(5,.v (.int .i64))],[(0,.gone),(1,.gone),(2,.gone),(3,.gone),(5,.gone),(6,.gone)]⟩] .n)) .n)))) func15
def xk15:Fk:=⟨k15,yk15⟩
def k23:Fc:=⟨23,[(.slc (.us 0)),(.slc (.us 0))],[false,false],[.bool],fun x=>Vy x.1 x.2⟩
theorem yk23:As k23:=fOk [] [] [] (.s .n (.s .n (.s (.s .n (.b none (.l [] ⟨.n,[(0,.k),(1,.k),(5,.v (.int .i64))],[]⟩ [⟨(.x 0),[],[]⟩,⟨.r,[(4,.v .bool)],[]⟩] .n))) .n))) func23
def xk23:Fk:=⟨k23,yk23⟩
def k44:Fc:=⟨44,[(.int .i64),(.int .i64)],[false,false],[(.us 11)],fun x=>He x.1 x.2⟩
theorem yk44:As k44:=fOk [] [] [] .n func44
def xk44:Fk:=⟨k44,yk44⟩
def k45:Fc:=⟨45,[(.int .i64),(.int .i64),(.int .i64)],[false,false,false],[(.us 11)],fun x=>Gc x.1 x.2.1 x.2.2⟩
theorem yk45:As k45:=fOk [] [] [(1,(.us 10))] .n func45
def xk45:Fk:=⟨k45,yk45⟩
def k66:Fc:=⟨66,[(.slc (.us 10)),(.slc (.us 10))],[false,false],[.bool],fun x=>V1 x.1 x.2⟩
theorem yk66:As k66:=fOk [] [] [] (.s .n (.s .n (.s (.s .n (.b none (.l [] ⟨.n,[(0,.k),(1,.k),(5,.v (.int .i64))],[]⟩ [⟨(.x 0),[],[]⟩,⟨.r,[(4,.v .bool)],[]⟩] .n))) .n))) func66
def xk66:Fk:=⟨k66,yk66⟩
def k28:Fc:=⟨28,[(.slc (.us 11)),(.slc (.us 11))],[false,false],[.bool],fun x=>Me x.1 x.2⟩
theorem yk28:As k28:=fOk [.k xk66] [] [] (.s .n (.s .n (.s (.s .n (.b none (.l [] ⟨.n,[(0,.k),(1,.k),(5,.v (.int .i64))],[]⟩ [⟨(.x 0),[],[]⟩,⟨.r,[(4,.v .bool)],[]⟩] .n))) .n))) func28
def xk28:Fk:=⟨k28,yk28⟩
def k36:Fc:=⟨36,[(.slc (.us 6)),(.slc (.us 6))],[false,false],[.bool],fun x=>Pt x.1 x.2⟩
theorem yk36:As k36:=fOk [] [] [] (.s .n (.s .n (.s (.s .n (.b none (.l [] ⟨.n,[(0,.k),(1,.k),(5,.v (.int .i64))],[]⟩ [⟨(.x 0),[],[]⟩,⟨.r,[(4,.v .bool)],[]⟩] .n))) .n))) func36
def xk36:Fk:=⟨k36,yk36⟩
def k24:Fc:=⟨24,[(.slc (.int .i64)),(.slc (.int .i64))],[false,false],[.bool],fun x=>Vz x.1 x.2⟩
theorem yk24:As k24:=fOk [] [] [] (.s .n (.s .n (.s (.s .n (.b none (.l [] ⟨.n,[(0,.k),(1,.k),(5,.v (.int .i64))],[]⟩ [⟨(.x 0),[],[]⟩,⟨.r,[(4,.v .bool)],[]⟩] .n))) .n))) func24
def xk24:Fk:=⟨k24,yk24⟩
def k12:Fc:=⟨12,[],[],[.bool],fun x=>Kv ⟩
set_option maxRecDepth 100000 in
theorem u12:Kv=some true:=by decide +kernel
theorem t12:funT [.k xk43,.k xk39,.k xk26,.k xk13,.k xk32,.k xk34,.k xk17,.k xk29,.k xk15,.k xk21,.k xk19,.k xk23,.k xk44,.k xk45,.k xk28,.k xk36,.k xk24] [(1,(.us 5)),(6,(.us 11)),(7,(.us 11)),(8,(.us 11)),(9,(.us 6)),(10,(.us 6)),(11,(.int .i64))] (cRs Tryz.prog Tryz.f12.results.toList) Tryz.f12.ntmps (cF Tryz.prog [] Tryz.f12) .n k12 ()=some true:=by kernel_rfl
theorem yk12:As k12:=Mt hEI [.k xk43,.k xk39,.k xk26,.k xk13,.k xk32,.k xk34,.k xk17,.k xk29,.k xk15,.k xk21,.k xk19,.k xk23,.k xk44,.k xk45,.k xk28,.k xk36,.k xk24] [] [(1,(.us 5)),(6,(.us 11)),(7,(.us 11)),(8,(.us 11)),(9,(.us 6)),(10,(.us 6)),(11,(.int .i64))] .n func12 (by kernel_rfl) (by kernel_rfl) fun _=>t12.trans u12.symm
def xk12:Fk:=⟨k12,yk12⟩
def k40:Fc:=⟨40,[(.slc (.us 6))],[false],[.bool],fun x=>Hc x⟩
theorem yk40:As k40:=fOk [] [] [] (.s .n (.s (.s .n (.b none (.l [] ⟨.n,[(0,.k),(5,.k),(6,.k),(7,.v (.int .i64))],[(0,.gone)]⟩ [⟨(.x 0),[],[(0,.gone)]⟩,⟨.r,[(2,.v .bool)],[(0,.gone)]⟩] .n))) .n)) func40
def xk40:Fk:=⟨k40,yk40⟩
def k38:Fc:=⟨38,[(.slc (.us 11)),(.int .i64)],[false,false],[(.int .i64)],fun x=>Kf x.1 x.2⟩
theorem yk38:As k38:=fOk [] [] [] (.s .n (.s (.s .n (.b none (.l [] ⟨.n,[(1,.k),(7,.k),(8,.k),(9,.v (.int .i64))],[(0,.gone)]⟩ [⟨(.x 0),[],[(0,.gone)]⟩,⟨.r,[(4,.v (.int .i64))],[(0,.gone)]⟩] .n))) .n)) func38
def xk38:Fk:=⟨k38,yk38⟩
def k41:Fc:=⟨41,[(.slc (.us 11)),(.slc (.us 11)),(.slc (.us 6))],[false,false,false],[.bool],fun x=>Hd x.1 x.2.1 x.2.2⟩
theorem yk41:As k41:=fOk [.k xk38] [] [] (.s .n (.s .n (.s (.s .n (.b none (.l [] ⟨.n,[(0,.k),(1,.k),(2,.k),(7,.v (.int .i64)),(8,.v (.int .i64)),(9,.v (.int .i64))],[]⟩ [⟨(.x 0),[],[]⟩,⟨.r,[(6,.v .bool)],[]⟩] (.s .n (.b none (.s .n (.s .n (.s (.b none (.l [] ⟨.n,[(0,.k),(1,.k),(2,.k),(7,.v (.int .i64)),(8,.k),(9,.k),(10,.v (.int .i64)),(11,.k),(12,.k)],[]⟩ [⟨(.x 2),[(0,.k),(1,.k),(2,.k),(7,.v (.int .i64)),(8,.k),(9,.k)],[]⟩,⟨.r,[(6,.v .bool)],[]⟩] (.s .n (.b none (.s (.b none (.l [] ⟨.n,[(0,.k),(1,.k),(2,.k),(7,.v (.int .i64)),(8,.k),(9,.k),(10,.k),(11,.k),(12,.k)],[]⟩ [⟨(.x 4),[(0,.k),(1,.k),(2,.k),(7,.v (.int .i64)),(8,.k),(9,.k),(10,.k),(11,.k),(12,.k)],[]⟩] .n)) .n))))) .n)))))))) .n))) func41
def xk41:Fk:=⟨k41,yk41⟩
def k10:Fc:=⟨10,[(.slc (.us 0)),(.slc (.us 5)),(.us 8)],[false,false,false],[.bool],fun x=>Qu x.1 x.2.1 x.2.2⟩
theorem yk10:As k10:=fOk [.k xk12,.k xk39,.k xk32,.k xk13,.k xk26,.k xk40,.k xk41,.k xk34,.k xk42] [] [] (.s .n (.s .n (.s .n (.s .n (.s (.s .n (.c (some [⟨.n,[(0,.k),(1,.k),(5,.k),(7,.k)],[(0,.k),(1,.k)]⟩,⟨.r,[(6,.v .bool)],[(0,.gone),(1,.gone)]⟩]) .n .n)) (.s .n (.s (.s .n (.c (some [⟨.n,[],[(0,.gone),(1,.gone)]⟩,⟨.r,[(6,.v .bool)],[(0,.gone),(1,.gone)]⟩]) .n .n)) .n))))))) func10
end
end Go.Am

