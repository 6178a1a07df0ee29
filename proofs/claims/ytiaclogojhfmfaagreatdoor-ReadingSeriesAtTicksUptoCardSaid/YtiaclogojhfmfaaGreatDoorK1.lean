/- Part K1: contracts of the functions of this seat. No condition. -/
import Derived.Test.YtiaclogojhfmfaaGreatDoorC4
import Derived.Test.YtiaclogojhfmfaaGreatDoorP1
set_option linter.unusedVariables false
namespace Go.Am
open Go.Proofs
theorem hEI:∀i,qzt (TabT.E i):=fun _=>.top
theorem fOk(H:List Fe)(sm:List (Nat×Nat))(ty:List (Nat×CT))(h:HT){C:Fc}{fn:Func}(hf:TabT.P.funcs[C.f]?=some fn)(he:kzz TabT.P C.f=true:=by kernel_rfl)(hc:ckF TabT.P sm fn C.a.length=true:=by kernel_rfl)(ht:∀x,funT H ty (cRs TabT.P fn.results.toList) fn.ntmps (cF TabT.P sm fn) h C x=C.F x:=by intro _;kernel_rfl):FcOk C:=wzio hEI H sm ty h hf he hc ht
def k57:Fc:=⟨57,[(.int .i64),(.int .i64),(.int .i64)],[false,false,false],[.bool],fun x=>jzo0 x.1 x.2.1 x.2.2⟩
theorem yk57:FcOk k57:=fOk [] [] [] .n (fn:=Tryz.f57) Tryz.func57
noncomputable def xk57:Fk:=⟨k57,yk57⟩
theorem yk19:FcOk k19:=fOk [.k xk57] [] [] .n (fn:=Tryz.f19) Tryz.func19
noncomputable def xk19:Fk:=⟨k19,yk19⟩
def k100:Fc:=⟨100,[(.int .i64)],[false],[.bool],fun x=>qzcc x⟩
theorem jzkv:FcOk k100:=fOk [] [] [] .n (fn:=Tryz.f100) Tryz.func100
noncomputable def jzko:Fk:=⟨k100,jzkv⟩
def k80:Fc:=⟨80,[(.int .i64),(.int .i64)],[false,false],[(.int .i64)],fun x=>qzca x.1 x.2⟩
theorem yk80:FcOk k80:=fOk [.k jzko] [] [] .n (fn:=Tryz.f80) Tryz.func80
noncomputable def xk80:Fk:=⟨k80,yk80⟩
def k79:Fc:=⟨79,[(.slc (.int .i64))],[false],[(.int .i64)],fun x=>jzqc x⟩
theorem yk79:FcOk k79:=fOk [] [] [] (.s .n (.s .n (.s (.s .n (.b none (.l [] ⟨.n,[(3,.k),(6,.k),(7,.k),(8,.v (.int .i64))],[]⟩ [⟨(.x 0),[(3,.k)],[]⟩,⟨.r,[(2,.v (.int .i64))],[]⟩] .n))) .n))) (fn:=Tryz.f79) Tryz.func79
noncomputable def xk79:Fk:=⟨k79,yk79⟩
theorem yk47:FcOk k47:=fOk [.k xk80,.k xk79] [] [(2,(.int .i64))] .n (fn:=Tryz.f47) Tryz.func47
noncomputable def xk47:Fk:=⟨k47,yk47⟩
theorem yk21:FcOk k21:=fOk [.k xk19,.k xk47] [] [] (.s .n (.s .n (.s (.s .n (.b none (.l [] ⟨.n,[(0,.k),(8,.k),(9,.k),(10,.v (.int .i64))],[(0,.gone)]⟩ [⟨(.x 0),[],[(0,.gone)]⟩,⟨.r,[(2,.v (.int .i64))],[(0,.gone)]⟩] .n))) .n))) (fn:=Tryz.f21) Tryz.func21
noncomputable def xk21:Fk:=⟨k21,yk21⟩
def k43:Fc:=⟨43,[],[],[(.slc (.us 0)),(.us 5)],fun x=>jzqp ⟩
theorem yk43:FcOk k43:=fOk [] [] [(1,(.us 0))] .n (fn:=Tryz.f43) Tryz.func43
noncomputable def xk43:Fk:=⟨k43,yk43⟩
def k39:Fc:=⟨39,[(.int .i64),(.int .i64)],[false,false],[(.us 6)],fun x=>jzor x.1 x.2⟩
theorem yk39:FcOk k39:=fOk [] [] [] .n (fn:=Tryz.f39) Tryz.func39
noncomputable def xk39:Fk:=⟨k39,yk39⟩
def k112:Fc:=⟨112,[(.int .i64)],[false],[.bool],fun x=>wz5p x⟩
theorem jzwr:FcOk k112:=fOk [] [] [] .n (fn:=Tryz.f112) Tryz.func112
noncomputable def jzwn:Fk:=⟨k112,jzwr⟩
def k143:Fc:=⟨143,[.str],[false],[.bool],fun x=>qzcb x⟩
theorem jzj3:FcOk k143:=fOk [] [] [] .n (fn:=Tryz.f143) Tryz.func143
noncomputable def jzcr:Fk:=⟨k143,jzj3⟩
def k181:Fc:=⟨181,[(.int .u32)],[false],[.bool],fun x=>qzai x⟩
theorem jzwx:FcOk k181:=fOk [] [] [] .n (fn:=Tryz.f181) Tryz.func181
noncomputable def jzwz:Fk:=⟨k181,jzwx⟩
def k178:Fc:=⟨178,[(.int .u32),(.int .u32)],[false,false],[(.int .i64)],fun x=>qzax x.1 x.2⟩
theorem jzi4:FcOk k178:=fOk [.k jzwz] [] [] .n (fn:=Tryz.f178) Tryz.func178
noncomputable def jzie:Fk:=⟨k178,jzi4⟩
def k166:Fc:=⟨166,[(.slc (.int .u32)),(.slc (.int .u32))],[false,false],[(.int .i64)],fun x=>wzl x.1 x.2⟩
theorem jzj9:FcOk k166:=fOk [.k xk80,.k jzie] [] [] (.s .n (.s .n (.s (.s .n (.b none (.l [] ⟨.n,[(0,.k),(1,.k),(6,.v (.int .i64))],[]⟩ [⟨(.x 0),[],[]⟩,⟨.r,[(4,.v (.int .i64))],[]⟩] .n))) .n))) (fn:=Tryz.f166) Tryz.func166
noncomputable def jzkh:Fk:=⟨k166,jzj9⟩
def k168:Fc:=⟨168,[(.slc (.int .u32))],[false],[(.slc (.int .u32))],fun x=>qzx x⟩
theorem jzjl:FcOk k168:=fOk [] [] [] (.s .n (.s (.b none (.l [] ⟨.n,[(0,.v (.slc (.int .u32)))],[]⟩ [⟨(.x 0),[(0,.v (.slc (.int .u32)))],[]⟩] .n)) .n)) (fn:=Tryz.f168) Tryz.func168
noncomputable def jzcz:Fk:=⟨k168,jzjl⟩
def k167:Fc:=⟨167,[(.slc (.int .u32)),(.int .u32)],[false,false],[(.slc (.int .u32)),(.int .u32)],fun x=>jzs x.1 x.2⟩
theorem jzj8:FcOk k167:=fOk [.k jzcz] [] [(0,(.int .u32))] (.s .n (.s .n (.s (.s .n (.b none (.l [] ⟨.n,[(0,.k),(1,.k),(6,.vec 0),(7,.v (.int .u64)),(8,.v (.int .i64))],[(0,.vec (.int .u32))]⟩ [⟨(.x 0),[(6,.vec 0),(7,.v (.int .u64))],[(0,.vec (.int .u32))]⟩] .n))) .n))) (fn:=Tryz.f167) Tryz.func167
noncomputable def jzk6:Fk:=⟨k167,jzj8⟩
def k179:Fc:=⟨179,[(.slc (.int .u32)),(.int .i64)],[false,false],[(.int .u64)],fun x=>kzc x.1 x.2⟩
theorem jzwm:FcOk k179:=fOk [] [] [] .n (fn:=Tryz.f179) Tryz.func179
noncomputable def jzs7:Fk:=⟨k179,jzwm⟩
def k171:Fc:=⟨171,[(.slc (.int .u32)),(.slc (.int .u32))],[false,false],[(.slc (.int .u32))],fun x=>wz1 x.1 x.2⟩
theorem jzw2:FcOk k171:=fOk [.k jzs7,.k jzcz] [] [(0,(.int .u32))] (.s .n (.s .n (.s (.s .n (.b none (.l [] ⟨.n,[(1,.k),(5,.vec 0),(18,.k),(19,.k),(20,.v (.int .i64))],[(0,.vec (.int .u32))]⟩ [⟨(.x 0),[(5,.vec 0)],[(0,.vec (.int .u32))]⟩] (.s .n (.s .n (.s (.b none (.s .n (.s .n (.s .n (.b none (.l [] ⟨.n,[(1,.k),(5,.vec 0),(6,.k),(7,.k),(8,.v (.int .u64)),(9,.v (.int .i64)),(18,.k),(19,.k),(20,.k)],[(0,.vec (.int .u32))]⟩ [⟨(.x 2),[(1,.k),(5,.vec 0),(18,.k),(19,.k),(20,.k)],[(0,.vec (.int .u32))]⟩] .n)))))) .n)))))) .n))) (fn:=Tryz.f171) Tryz.func171
noncomputable def jzs1:Fk:=⟨k171,jzw2⟩
def k169:Fc:=⟨169,[(.slc (.int .u32)),(.int .i64)],[false,false],[(.slc (.int .u32))],fun x=>wzm x.1 x.2⟩
theorem jzkw:FcOk k169:=fOk [.k jzk6,.k jzs1] [] [(0,(.int .u32))] .n (fn:=Tryz.f169) Tryz.func169
noncomputable def jzcq:Fk:=⟨k169,jzkw⟩
noncomputable def jzwp:Ck:=⟨v170,jzu1⟩
def k172:Fc:=⟨172,[(.slc (.int .u32)),(.slc (.int .u32))],[false,false],[(.slc (.int .u32))],fun x=>wzz x.1 x.2⟩
theorem jzwk:FcOk k172:=fOk [.k jzs7,.k jzcz] [] [(0,(.int .u32)),(1,(.int .u32))] (.s .n (.s .n (.s .n (.s (.s .n (.b none (.l [] ⟨.n,[(0,.k),(1,.k),(5,.own 1),(6,.v (.int .u64)),(10,.k),(11,.v (.int .i64))],[(0,.gone),(1,.own (.int .u32))]⟩ [⟨(.x 0),[(5,.own 1)],[(0,.gone),(1,.own (.int .u32))]⟩] .n))) .n)))) (fn:=Tryz.f172) Tryz.func172
noncomputable def jzud:Fk:=⟨k172,jzwk⟩
theorem jzuf:FcOk k152:=fOk [.k jzkh,.k jzk6,.k jzcz,.k jzcq,.c jzwp,.k jzs1,.k jzud] [(2,657)] [(0,(.int .u32)),(1,(.int .u32)),(3,(.int .u32)),(4,(.int .u32)),(657,(.int .u32))] (.s .n (.s .n (.s .n (.s .n (.s (.b none (.l [] ⟨.n,[(0,.k),(1,.k),(8,.v (.int .i64))],[]⟩ [⟨(.x 0),[(0,.k),(1,.k),(8,.v (.int .i64))],[]⟩] .n)) (.s .n (.s .n (.s .n (.s .n (.s .n (.s (.s .n (.b none (.l [] ⟨.n,[(8,.k),(9,.k),(10,.vec 657),(11,.k),(12,.vec 3),(13,.v (.int .i64))],[(657,.vec (.int .u32)),(1,.gone),(3,.vec (.int .u32)),(762,.gone),(773,.gone)]⟩ [⟨(.x 2),[(8,.k),(10,.vec 657),(12,.vec 3)],[(657,.vec (.int .u32)),(1,.gone),(3,.vec (.int .u32)),(762,.gone),(773,.gone)]⟩] (.s .n (.s (.b none (.s .n (.s .n (.s .n (.s (.b none (.l [] ⟨.n,[(8,.k),(9,.k),(10,.k),(11,.k),(12,.k),(13,.k),(15,.v (.int .u64)),(16,.v (.int .u64))],[(657,.k),(1,.gone),(3,.k),(762,.gone),(773,.gone)]⟩ [⟨(.x 4),[(8,.k),(9,.k),(10,.k),(11,.k),(12,.k),(13,.k),(15,.v (.int .u64))],[(657,.k),(1,.gone),(3,.k),(762,.gone),(773,.gone)]⟩] .n)) (.s (.s .n (.c (some [⟨.n,[(8,.k),(9,.k),(10,.k),(11,.k),(12,.k),(13,.k),(15,.k)],[(657,.k),(1,.gone),(3,.k),(762,.gone),(773,.gone)]⟩,⟨(.x 3),[(8,.k),(9,.k),(10,.k),(11,.k),(12,.k),(13,.k)],[(657,.k),(1,.gone),(3,.k),(762,.gone),(773,.gone)]⟩]) .n .n)) (.s .n (.s .n (.s (.b none (.l [] ⟨.n,[(8,.k),(9,.k),(10,.k),(11,.k),(12,.k),(13,.k),(15,.v (.int .u64)),(17,.k),(18,.v (.slc (.int .u32)))],[(657,.k),(1,.gone),(3,.k),(762,.gone),(773,.gone)]⟩ [⟨(.x 6),[(8,.k),(9,.k),(10,.k),(11,.k),(12,.k),(13,.k),(15,.v (.int .u64)),(17,.k),(18,.v (.slc (.int .u32)))],[(657,.k),(1,.gone),(3,.k),(762,.gone),(773,.gone)]⟩] .n)) .n))))))))) .n))))) .n))))))))))) (fn:=Tryz.f152) Tryz.func152
theorem jzuo:FcOk k153:=fOk [.k jzcz] [] [(1,(.int .u32)),(2,(.int .u32))] (.s .n (.s .n (.s (.s .n (.b none (.l [] ⟨.n,[(0,.k),(3,.own 2),(4,.v (.int .i64))],[(0,.gone),(1,.gone),(2,.own (.int .u32))]⟩ [⟨(.x 0),[(3,.own 2)],[(0,.gone),(1,.gone),(2,.own (.int .u32))]⟩] (.s .n (.s (.b none (.s .n (.s (.s .n (.b none (.l [] ⟨.n,[(0,.k),(3,.k),(4,.k),(5,.v (.int .u32)),(20,.k),(21,.k),(22,.v (.int .i64))],[(0,.gone),(1,.gone),(2,.k)]⟩ [⟨(.x 2),[(0,.k),(3,.k),(4,.k),(5,.v (.int .u32))],[(0,.gone),(1,.gone),(2,.k)]⟩] .n))) .n))) .n))))) .n))) (fn:=Tryz.f153) Tryz.func153
noncomputable def jzr9:Fk:=⟨k153,jzuo⟩
noncomputable def jzwy:Wk:=⟨w173,jzvq⟩
def k182:Fc:=⟨182,[.str,(.int .u8)],[false,false],[.str],fun x=>jzz x.1 x.2⟩
theorem jzw5:FcOk k182:=fOk [] [] [] (.s .n (.s (.b none (.l [] ⟨.n,[(0,.v .str),(1,.k)],[]⟩ [⟨(.x 0),[(0,.v .str)],[]⟩] .n)) .n)) (fn:=Tryz.f182) Tryz.func182
noncomputable def jzw9:Fk:=⟨k182,jzw5⟩
def k180:Fc:=⟨180,[.str,.str],[false,false],[.str],fun x=>qzav x.1 x.2⟩
theorem jzir:FcOk k180:=fOk [.k jzw9] [] [] .n (fn:=Tryz.f180) Tryz.func180
noncomputable def jzjn:Fk:=⟨k180,jzir⟩
def k174:Fc:=⟨174,[.str],[false],[.str],fun x=>qzdj x⟩
theorem jzwq:FcOk k174:=fOk [.k jzjn] [] [] .n (fn:=Tryz.f174) Tryz.func174
noncomputable def jzxb:Fk:=⟨k174,jzwq⟩
theorem jzww:FcOk k154:=fOk [.w jzwy,.k jzxb] [] [(0,(.int .u8)),(1,(.int .u8))] (.s .n (.s .n (.s (.s .n (.b none (.l [] ⟨.n,[(3,.own 1),(6,.k),(7,.k),(8,.v (.int .i64))],[(0,.gone),(1,.own (.int .u8))]⟩ [⟨(.x 0),[(3,.own 1)],[(0,.gone),(1,.own (.int .u8))]⟩] .n))) .n))) (fn:=Tryz.f154) Tryz.func154
noncomputable def jzs9:Fk:=⟨k154,jzww⟩
noncomputable def jzik:Fk:=⟨k144,jzuy jzuf jzuo jzww⟩
def k131:Fc:=⟨131,[(.us 2)],[false],[.bool],fun x=>yzs x⟩
theorem jzk2:FcOk k131:=fOk [.k jzcr,.k jzik] [] [] .n (fn:=Tryz.f131) Tryz.func131
noncomputable def jzjs:Fk:=⟨k131,jzk2⟩
def k113:Fc:=⟨113,[(.us 2)],[false],[.bool],fun x=>wz5b x⟩
theorem jzfj:FcOk k113:=fOk [.k jzjs] [] [] .n (fn:=Tryz.f113) Tryz.func113
noncomputable def jzla:Fk:=⟨k113,jzfj⟩
def k132:Fc:=⟨132,[(.us 2)],[false],[(.us 14)],fun x=>jzg x⟩
theorem jzkd:FcOk k132:=fOk [.k jzjs] [] [] .n (fn:=Tryz.f132) Tryz.func132
noncomputable def jzkj:Fk:=⟨k132,jzkd⟩
def k155:Fc:=⟨155,[.str,.str],[false,false],[.str],fun x=>qzau x.1 x.2⟩
theorem jzjb:FcOk k155:=fOk [.k jzr9,.k jzs1,.k jzs9] [] [] .n (fn:=Tryz.f155) Tryz.func155
noncomputable def jzjo:Fk:=⟨k155,jzjb⟩
def k175:Fc:=⟨175,[(.slc (.int .u32)),(.slc (.int .u32))],[false,false],[(.slc (.int .u32))],fun x=>vzk x.1 x.2⟩
theorem jzj7:FcOk k175:=fOk [.k jzs7,.k jzcz] [] [(0,(.int .u32)),(1,(.int .u32))] (.s .n (.s .n (.s .n (.s (.s .n (.b none (.l [] ⟨.n,[(0,.k),(1,.k),(5,.own 1),(6,.v (.int .u64)),(14,.k),(15,.v (.int .i64))],[(0,.gone),(1,.own (.int .u32))]⟩ [⟨(.x 0),[(5,.own 1)],[(0,.gone),(1,.own (.int .u32))]⟩] .n))) .n)))) (fn:=Tryz.f175) Tryz.func175
noncomputable def jzjq:Fk:=⟨k175,jzj7⟩
def k156:Fc:=⟨156,[.str,.str],[false,false],[.str],fun x=>qzg3 x.1 x.2⟩
theorem jzi1:FcOk k156:=fOk [.k jzr9,.k jzjq,.k jzs9] [] [] .n (fn:=Tryz.f156) Tryz.func156
noncomputable def jzjr:Fk:=⟨k156,jzi1⟩
def k157:Fc:=⟨157,[.str,.str],[false,false],[(.int .i64)],fun x=>qzgu x.1 x.2⟩
theorem jzjj:FcOk k157:=fOk [.k jzr9,.k jzkh] [] [] .n (fn:=Tryz.f157) Tryz.func157
noncomputable def jzk1:Fk:=⟨k157,jzjj⟩
def k158:Fc:=⟨158,[.str,.str],[false,false],[.str,(.int .i64)],fun x=>qzgk x.1 x.2⟩
theorem jzjv:FcOk k158:=fOk [.k jzr9,.k jzkh,.k jzud,.k jzs9] [] [] .n (fn:=Tryz.f158) Tryz.func158
noncomputable def jzkl:Fk:=⟨k158,jzjv⟩
def k145:Fc:=⟨145,[(.us 14),(.us 14)],[false,false],[(.us 14)],fun x=>wz3 x.1 x.2⟩
theorem jzid:FcOk k145:=fOk [.k jzjo,.k jzjr,.k jzk1,.k jzkl] [] [] (.s .n (.s .n (.s .n (.s (.s .n (.c (some [⟨.n,[(2,.ptr 0 0),(4,.k),(5,.v .str),(6,.v .str),(7,.k)],[(0,.box (.us 14)),(1,.gone),(2,.k)]⟩]) .n .n)) .n)))) (fn:=Tryz.f145) Tryz.func145
noncomputable def jzcs:Fk:=⟨k145,jzid⟩
def k133:Fc:=⟨133,[(.us 14),(.us 14)],[false,false],[(.us 14)],fun x=>wz5 x.1 x.2⟩
theorem jzi2:FcOk k133:=fOk [.k jzcs] [] [] .n (fn:=Tryz.f133) Tryz.func133
noncomputable def jzji:Fk:=⟨k133,jzi2⟩
def k114:Fc:=⟨114,[(.us 2),(.us 2)],[false,false],[(.int .i64)],fun x=>wz0 x.1 x.2⟩
theorem jzij:FcOk k114:=fOk [.k jzkj,.k jzji] [] [] .n (fn:=Tryz.f114) Tryz.func114
noncomputable def jzjy:Fk:=⟨k114,jzij⟩
def k96:Fc:=⟨96,[(.us 4)],[false],[(.int .i64)],fun x=>wz31 x⟩
theorem yk96:FcOk k96:=fOk [.k jzwn,.k jzla,.k jzjy] [] [] (.s .n (.s .n (.s (.s .n (.b none (.l [] ⟨.n,[(1,.k),(16,.k),(17,.k),(18,.v (.int .i64))],[(0,.k),(1,.gone)]⟩ [⟨(.x 0),[],[(0,.k),(1,.gone)]⟩,⟨.r,[(2,.v (.int .i64))],[(0,.gone),(1,.gone)]⟩] .n))) .n))) (fn:=Tryz.f96) Tryz.func96
noncomputable def xk96:Fk:=⟨k96,yk96⟩
theorem yk73:FcOk k73:=fOk [.k xk96] [] [(1,(.int .i64)),(10001,(.int .i64))] .n (fn:=Tryz.f73) Tryz.func73
noncomputable def xk73:Fk:=⟨k73,yk73⟩
theorem yk75:FcOk k75:=fOk [.k xk80] [] [] .n (fn:=Tryz.f75) Tryz.func75
noncomputable def xk75:Fk:=⟨k75,yk75⟩
theorem yk60:FcOk k60:=fOk [.k xk73,.k xk75] [] [] (.s .n (.s .n (.s (.s .n (.b none (.l [] ⟨.n,[(0,.k),(8,.k),(9,.k),(10,.v (.int .i64))],[(0,.gone)]⟩ [⟨(.x 0),[],[(0,.gone)]⟩,⟨.r,[(2,.v (.int .i64))],[(0,.gone)]⟩] .n))) .n))) (fn:=Tryz.f60) Tryz.func60
noncomputable def xk60:Fk:=⟨k60,yk60⟩
def k59:Fc:=⟨59,[(.slc (.int .i64))],[false],[(.int .i64)],fun x=>jzq3 x⟩
theorem yk59:FcOk k59:=fOk [] [] [] (.s .n (.s .n (.s (.s .n (.b none (.l [] ⟨.n,[(3,.k),(6,.k),(7,.k),(8,.v (.int .i64))],[]⟩ [⟨(.x 0),[(3,.k)],[]⟩,⟨.r,[(2,.v (.int .i64))],[]⟩] .n))) .n))) (fn:=Tryz.f59) Tryz.func59
noncomputable def xk59:Fk:=⟨k59,yk59⟩
def k61:Fc:=⟨61,[(.int .i64)],[false],[.bool],fun x=>jzpk x⟩
theorem yk61:FcOk k61:=fOk [] [] [] .n (fn:=Tryz.f61) Tryz.func61
noncomputable def xk61:Fk:=⟨k61,yk61⟩
def k108:Fc:=⟨108,[(.int .i64),(.int .i64)],[false,false],[(.int .i64)],fun x=>jzqk x.1 x.2⟩
theorem jzkq:FcOk k108:=fOk [] [] [] .n (fn:=Tryz.f108) Tryz.func108
noncomputable def jzfv:Fk:=⟨k108,jzkq⟩
def k130:Fc:=⟨130,[(.slc (.us 5)),(.int .i64),(.int .i64),(.int .i64),(.int .i64)],[false,false,false,false,false],[(.ptr (.us 5))],fun x=>jzqj x.1 x.2.1 x.2.2.1 x.2.2.2.1 x.2.2.2.2⟩
theorem jziy:FcOk k130:=fOk [] [] [] (.s .n (.s .n (.s (.s .n (.b none (.l [] ⟨.n,[(0,.k),(1,.k),(2,.k),(3,.k),(4,.k),(11,.v (.ptr (.us 5))),(15,.k),(16,.v (.int .i64))],[]⟩ [⟨(.x 0),[(11,.v (.ptr (.us 5)))],[]⟩] (.s .n (.s .n (.s (.b none (.s .n (.s .n (.s (.s .n (.c (some [⟨.n,[(0,.k),(1,.k),(2,.k),(3,.k),(4,.k),(11,.k),(13,.k),(15,.k),(16,.k)],[]⟩,⟨(.x 1),[(0,.k),(1,.k),(2,.k),(3,.k),(4,.k),(11,.k),(15,.k),(16,.k)],[]⟩]) .n .n)) .n)))) .n)))))) .n))) (fn:=Tryz.f130) Tryz.func130
noncomputable def jzkx:Fk:=⟨k130,jziy⟩
def k109:Fc:=⟨109,[(.slc (.us 5)),(.int .i64),(.int .i64),(.int .i64),(.int .i64)],[false,false,false,false,false],[(.int .i64)],fun x=>jzqm x.1 x.2.1 x.2.2.1 x.2.2.2.1 x.2.2.2.2⟩
theorem jzjc:FcOk k109:=fOk [.k jzkx] [] [] .n (fn:=Tryz.f109) Tryz.func109
noncomputable def jzfy:Fk:=⟨k109,jzjc⟩
def k91:Fc:=⟨91,[(.slc (.us 5)),(.int .i64),(.int .i64),(.int .i64),(.int .i64)],[false,false,false,false,false],[(.int .i64),(.int .i64)],fun x=>jzqh x.1 x.2.1 x.2.2.1 x.2.2.2.1 x.2.2.2.2⟩
theorem yk91:FcOk k91:=fOk [.k xk60,.k jzfv,.k jzfy] [] [] .n (fn:=Tryz.f91) Tryz.func91
noncomputable def xk91:Fk:=⟨k91,yk91⟩
def k67:Fc:=⟨67,[(.us 0),(.slc (.us 5)),(.int .i64)],[false,false,false],[(.us 6)],fun x=>jzpe x.1 x.2.1 x.2.2⟩
theorem yk67:FcOk k67:=fOk [.k xk91] [] [] .n (fn:=Tryz.f67) Tryz.func67
noncomputable def xk67:Fk:=⟨k67,yk67⟩
noncomputable def xo54:Ok1:=⟨o54,jzv0⟩
def k105:Fc:=⟨105,[(.int .i64),(.int .i64)],[false,false],[.bool],fun x=>jzrr x.1 x.2⟩
theorem jzkf:FcOk k105:=fOk [.k jzko] [] [] .n (fn:=Tryz.f105) Tryz.func105
noncomputable def jzja:Fk:=⟨k105,jzkf⟩
def k106:Fc:=⟨106,[(.int .i64)],[false],[.bool],fun x=>jzp3 x⟩
theorem jzku:FcOk k106:=fOk [] [] [] .n (fn:=Tryz.f106) Tryz.func106
noncomputable def jzk3:Fk:=⟨k106,jzku⟩
def k86:Fc:=⟨86,[(.slc (.int .i64)),(.int .i64)],[false,false],[(.int .i64),.bool],fun x=>jzpg x.1 x.2⟩
theorem yk86:FcOk k86:=fOk [.k jzja,.k jzk3] [] [] (.s .n (.s .n (.s .n (.s (.b none (.l [] ⟨.n,[(0,.k),(1,.k),(6,.k),(7,.v (.int .i64)),(8,.v (.int .i64))],[]⟩ [⟨(.x 0),[(0,.k),(1,.k),(6,.k),(7,.v (.int .i64))],[]⟩] .n)) .n)))) (fn:=Tryz.f86) Tryz.func86
noncomputable def xk86:Fk:=⟨k86,yk86⟩
def s87:Sc:=⟨87,[(.slc (.int .i64)),(.slc (.int .i64))],[true,true],1,fun x st=>jzou x.1 x.2 st⟩
theorem ys87:ScOk s87:=jzgn [] [] [] (.s .n (.b none (.l [] ⟨.n,[(0,.k),(1,.k),(2,.k),(4,.v (.int .i64))],[(1899,.out 1 false)]⟩ [⟨(.x 0),[],[(1899,.out 1 false)]⟩,⟨.r,[],[(1899,.out 1 true)]⟩] (.s .n (.b none (.s .n (.s (.s .n (.b none (.l [] ⟨.n,[(0,.k),(1,.k),(2,.k),(4,.v (.int .i64)),(5,.k)],[(1899,.k)]⟩ [⟨(.x 2),[(0,.k),(1,.k),(2,.k),(4,.v (.int .i64)),(5,.k)],[(1899,.k)]⟩] .n))) .n))))))) (fn:=Tryz.f87) Tryz.func87 (by kernel_rfl) (by kernel_rfl) fun _ _=>by kernel_rfl
noncomputable def xs87:Sk:=⟨s87,ys87⟩
noncomputable def q62:Qc:=⟨62,[(.slc (.us 0)),(.slc (.us 5)),(.int .i64),(.us 6),(.int .i64)],[false,false,false,false,false],xs87,fun x=>jzop x.1 x.2.1 x.2.2.1 x.2.2.2.1 x.2.2.2.2⟩
def h62:HT:=(.s .n (.s .n (.s .n (.s (.s .n (.b none (.l [] ⟨.n,[(1,.k),(2,.k),(4,.k),(8,.k),(11,.own 5),(12,.mp 1),(32,.k),(33,.k),(34,.v (.int .i64))],[(0,.k),(1,.map (.int .i64) .bool),(2,.gone),(3,.gone),(4,.gone),(5,.own (.us 22))]⟩ [⟨(.x 0),[(11,.own 5),(12,.mp 1)],[(0,.k),(1,.map (.int .i64) .bool),(2,.gone),(3,.gone),(4,.gone),(5,.own (.us 22))]⟩] (.s .n (.s .n (.s (.b none (.s .n (.s (.s .n (.c (some [⟨.n,[(1,.k),(2,.k),(4,.k),(8,.k),(11,.k),(12,.k),(14,.k),(32,.k),(33,.k),(34,.k)],[(0,.k),(1,.k),(2,.k),(3,.gone),(4,.gone),(5,.k)]⟩,⟨(.x 1),[(1,.k),(2,.k),(4,.k),(8,.k),(11,.k),(12,.k),(32,.k),(33,.k),(34,.k)],[(0,.k),(1,.k),(2,.k),(3,.gone),(4,.gone),(5,.k)]⟩]) .n .n)) .n))) .n)))))) (.s .n (.s .n (.s (.s .n (.b none (.l [] ⟨.n,[(11,.k),(16,.k),(17,.ptr 8 0),(89,.k),(90,.v (.int .i64))],[(0,.gone),(1,.gone),(2,.gone),(3,.gone),(4,.gone),(5,.k),(6,.k),(7,.vec (.int .i64)),(8,.rvec 7)]⟩ [⟨(.x 2),[(11,.k),(16,.k),(17,.ptr 8 0)],[(0,.gone),(1,.gone),(2,.gone),(3,.gone),(4,.gone),(5,.k),(6,.k),(7,.vec (.int .i64)),(8,.rvec 7)]⟩] .n))) (.s (.s .n (.b none (.l [] ⟨.n,[(16,.k),(17,.ptr 8 0),(97,.k),(98,.k),(99,.v (.int .i64))],[(0,.gone),(1,.gone),(2,.gone),(3,.gone),(4,.gone),(5,.k),(6,.k),(7,.vec (.int .i64)),(8,.rvec 7),(9,.gone)]⟩ [⟨(.x 4),[(16,.k),(17,.ptr 8 0)],[(0,.gone),(1,.gone),(2,.gone),(3,.gone),(4,.gone),(5,.k),(6,.k),(7,.vec (.int .i64)),(8,.rvec 7),(9,.gone)]⟩] (.s .n (.s .n (.s (.b none (.s .n (.s .n (.s .n (.s .n (.b none (.l [] ⟨.n,[(16,.k),(17,.ptr 8 0),(20,.k),(23,.k),(25,.v (.int .i64)),(97,.k),(98,.k),(99,.k)],[(0,.gone),(1,.gone),(2,.gone),(3,.gone),(4,.gone),(5,.k),(6,.k),(7,.vec (.int .i64)),(8,.rvec 7),(9,.k)]⟩ [⟨(.x 6),[(16,.k),(17,.ptr 8 0),(97,.k),(98,.k),(99,.k)],[(0,.gone),(1,.gone),(2,.gone),(3,.gone),(4,.gone),(5,.k),(6,.k),(7,.vec (.int .i64)),(8,.rvec 7),(9,.k)]⟩] .n))))))) .n)))))) .n))))))))
noncomputable abbrev H62:List Fe:=[.k xk67,.m (xm55),.o (xo54),.k xk86,.s xs87]
abbrev ty62:List (Nat×CT):=[(1,(.int .i64)),(4,(.us 22)),(5,(.us 22)),(7,(.int .i64)),(10001,.bool)]
def sqA:qzk->qzk
 |.seq a _=>a
 |c=>c
def sqB:qzk->qzk
 |.seq _ a=>a
 |c=>c
def hB:HT->HT
 |.s _ x=>x
 |_=>.n
noncomputable def jzt3:qzk:=sqB (sqB (sqB (cF Tryz.prog [] Tryz.f62)))
theorem ac62:cF Tryz.prog [] Tryz.f62=.seq (sqA (cF Tryz.prog [] Tryz.f62)) (.seq (sqA (sqB (cF Tryz.prog [] Tryz.f62))) (.seq (.reg true jzr8 pcPr) jzt3)):=by kernel_rfl
noncomputable def T62(x:Row q62.a):TSt:=iniT Tryz.f62.ntmps q62.a q62.p x
noncomputable def T62a(x:Row q62.a):TSt:=match wzjp H62 ty62 (cRs Tryz.prog Tryz.f62.results.toList) (sqA (cF Tryz.prog [] Tryz.f62)) TSt .n (T62 x) kS with
 |some T=>T
 |none=>T62 x
noncomputable def T62b(x:Row q62.a):TSt:=match wzjp H62 ty62 (cRs Tryz.prog Tryz.f62.results.toList) (sqA (sqB (cF Tryz.prog [] Tryz.f62))) TSt .n (T62a x) kS with
 |some T=>T
 |none=>T62 x
theorem a62(x:Row q62.a):wzjp H62 ty62 (cRs Tryz.prog Tryz.f62.results.toList) (sqA (cF Tryz.prog [] Tryz.f62)) TSt .n (T62 x) kS=some (T62a x):=by kernel_rfl
theorem b62(x:Row q62.a):wzjp H62 ty62 (cRs Tryz.prog Tryz.f62.results.toList) (sqA (sqB (cF Tryz.prog [] Tryz.f62))) TSt .n (T62a x) kS=some (T62b x):=by kernel_rfl
theorem b62b(x:Row q62.a):(T62b x).b=0:=by kernel_rfl
theorem b62n(x:Row q62.a):(T62b x).n=132:=by kernel_rfl
theorem b62s(x:Row q62.a):wzin (T62b x).t 8=.v (.ptr 0 0 0):=by kernel_rfl
theorem b62h(x:Row q62.a):wzip (T62b x).h 0=some (0,.box [.int .i64 x.2.2.2.1.From,.int .i64 x.2.2.2.1.To]):=by kernel_rfl
theorem b62f(x:Row q62.a):(wzin (T62b x).t 26=.v (.s .top)/\wzin (T62b x).t 27=.v (.s .top)/\wzin (T62b x).t 28=.v (.s .top))/\wzin (T62b x).t 29=.v (.s .top)/\wzin (T62b x).t 30=.v (.s .top)/\wzin (T62b x).t 31=.v (.s .top) := ⟨⟨by kernel_rfl,by kernel_rfl,by kernel_rfl⟩,by kernel_rfl,by kernel_rfl,by kernel_rfl⟩
theorem c62(x:Row q62.a)(m:List (Int×Bool)):wzjp H62 ty62 (cRs Tryz.prog Tryz.f62.results.toList) jzt3 _ (hB (hB (hB h62))) (pcT (T62b x) m) (resQ q62.S (cRs Tryz.prog Tryz.f62.results.toList))=jzpm m x.1 x.2.1 x.2.2.1 x.2.2.2.1 x.2.2.2.2:=by kernel_rfl
theorem f62(x:Row q62.a)(j:Nat)(h1:26<=j)(h2:j<=31):wzin (T62b x).t j=.v (.s .top):=by
 obtain⟨⟨a,b,c⟩,d,e,f⟩:=b62f x;have:j=26\/j=27\/j=28\/j=29\/j=30\/j=31:=by omega
 rcases this with rfl|rfl|rfl|rfl|rfl|rfl
 ·exact a
 ·exact b
 ·exact c
 ·exact d
 ·exact e
 ·exact f
theorem yq62:QcOk q62:=jzua hEI [] Tryz.func62 (by kernel_rfl) (by kernel_rfl) ac62 fun x y hy hI=>jzwu hI rfl (a62 x) (b62 x) (b62b x) (b62n x) (b62s x) (b62h x) (f62 x) fun m hm=>(c62 x m).trans ((jzt6 hm).trans hy)
noncomputable def xq62:Qk:=⟨q62,yq62⟩
def k26:Fc:=⟨26,[(.slc (.us 0)),(.slc (.us 5)),(.int .i64),(.us 6),(.int .i64)],[false,false,false,false,false],[(.slc (.us 11)),(.int .i64)],fun x=>jzpj x.1 x.2.1 x.2.2.1 x.2.2.2.1 x.2.2.2.2⟩
theorem yk26:FcOk k26:=fOk [.k xk21,.k xk60,.k xk59,.k xk61,.q xq62,.s xs87] [] [(1,(.int .i64)),(5,(.us 10)),(6,(.us 11)),(7,(.us 11))] (.s .n (.s .n (.s .n (.s .n (.s (.s .n (.b none (.r [] ⟨.n,[(13,.ptr 2 0),(58,.k)],[(0,.gone),(2,.rown 7),(3,.gone),(4,.gone),(6,.gone),(7,.own (.us 11))]⟩ [] .n .n))) .n))))) (fn:=Tryz.f26) Tryz.func26
noncomputable def xk26:Fk:=⟨k26,yk26⟩
theorem yk46:FcOk k46:=fOk [] [] [] (.s .n (.s .n (.s .n (.s (.b none (.l [] ⟨.n,[(0,.k),(2,.k),(4,.k),(8,.k),(9,.v (.int .i64)),(10,.v (.int .i64))],[(0,.k)]⟩ [⟨(.x 0),[(0,.k),(2,.k),(4,.k),(8,.k),(9,.v (.int .i64))],[(0,.k)]⟩] .n)) .n)))) (fn:=Tryz.f46) Tryz.func46
noncomputable def xk46:Fk:=⟨k46,yk46⟩
noncomputable def xv49:Ck:=⟨v49,jzvy⟩
def k50:Fc:=⟨50,[(.us 0),(.us 0)],[false,false],[.bool],fun x=>jzo4 x.1 x.2⟩
theorem yk50:FcOk k50:=fOk [] [] [] .n (fn:=Tryz.f50) Tryz.func50
noncomputable def xk50:Fk:=⟨k50,yk50⟩
theorem jzws:FcOk k13d:=wzio hEI [.k xk21,.k xk19,.k xk46,.k xk47,.c xv49,.k xk50] [] [(1,(.us 0))] .n (fn:=Tryz.f13) Tryz.func13 (by kernel_rfl) (by kernel_rfl) fun _=>by kernel_rfl
theorem yk13:FcOk k13:=jzvv jzws yk21 yk19 yk46 yk47
noncomputable def xk13:Fk:=⟨k13,yk13⟩
def k70:Fc:=⟨70,[],[],[(.us 6)],fun x=>jzph ⟩
theorem yk70:FcOk k70:=fOk [] [] [] .n (fn:=Tryz.f70) Tryz.func70
noncomputable def xk70:Fk:=⟨k70,yk70⟩
noncomputable def xk93:Fk:=⟨k93,jzwc⟩
def k69:Fc:=⟨69,[(.sq 1),(.sq 1)],[false,false],[(.slc (.us 6))],fun x=>jzpv x.1.g x.2.g⟩
theorem yk69:FcOk k69:=fOk [.k xk93] [] [(1,(.us 6)),(2,(.us 6))] (.s .n (.s .n (.s .n (.s (.s .n (.b none (.l [] ⟨.n,[(5,.k),(6,.k),(7,.own 2),(8,.v (.int .i64)),(9,.v (.int .i64))],[(0,.gone),(1,.gone),(2,.own (.us 6))]⟩ [⟨(.x 0),[(7,.own 2)],[(0,.gone),(1,.gone),(2,.own (.us 6))]⟩] (.s .n (.b none (.s .n (.s (.s .n (.c (some [⟨.n,[(5,.k),(6,.k),(7,.own 2),(8,.k),(9,.k),(10,.k)],[(0,.k),(1,.gone),(2,.own (.us 6))]⟩]) .n .n)) (.s (.s .n (.c (some [⟨.n,[(5,.k),(6,.k),(7,.k),(8,.v (.int .i64)),(9,.k),(10,.k)],[(0,.k),(1,.gone),(2,.k)]⟩]) .n .n)) .n)))))))) .n)))) (fn:=Tryz.f69) Tryz.func69
noncomputable def xk69:Fk:=⟨k69,yk69⟩
def k32:Fc:=⟨32,[(.slc (.us 0)),(.slc (.us 5)),(.us 0),(.int .i64)],[false,false,false,false],[(.slc (.us 6)),(.int .i64)],fun x=>jzqa x.1 x.2.1 x.2.2.1 x.2.2.2⟩
theorem yk32:FcOk k32:=fOk [.k xk21,.k xk60,.k xk59,.k xk13,.k xk61,.k xk70,.q xq62,.k xk69,.s xs87] [] [(1,(.int .i64))] .n (fn:=Tryz.f32) Tryz.func32
noncomputable def xk32:Fk:=⟨k32,yk32⟩
theorem yk74:FcOk k74:=fOk [] [] [] (.s .n (.s .n (.s .n (.s (.b none (.l [] ⟨.n,[(0,.k),(2,.k),(4,.k),(8,.k),(9,.v (.int .i64)),(10,.v (.int .i64))],[(0,.k)]⟩ [⟨(.x 0),[(0,.k),(2,.k),(4,.k),(8,.k),(9,.v (.int .i64))],[(0,.k)]⟩] .n)) .n)))) (fn:=Tryz.f74) Tryz.func74
noncomputable def xk74:Fk:=⟨k74,yk74⟩
def k115:Fc:=⟨115,[(.slc (.us 3)),(.slc (.us 3))],[false,false],[.bool],fun x=>qzbb x.1 x.2⟩
theorem jzj4:FcOk k115:=fOk [] [] [] (.s .n (.s .n (.s (.s .n (.b none (.l [] ⟨.n,[(0,.k),(1,.k),(12,.k),(13,.v (.int .i64))],[]⟩ [⟨(.x 0),[],[]⟩,⟨.r,[(4,.v .bool)],[]⟩] .n))) .n))) (fn:=Tryz.f115) Tryz.func115
noncomputable def jzio:Fk:=⟨k115,jzj4⟩
def k97:Fc:=⟨97,[(.us 4),(.us 4)],[false,false],[.bool],fun x=>jzqn x.1 x.2⟩
theorem yk97:FcOk k97:=fOk [.k jzio] [] [] .n (fn:=Tryz.f97) Tryz.func97
noncomputable def xk97:Fk:=⟨k97,yk97⟩
def k76:Fc:=⟨76,[(.us 5),(.us 5)],[false,false],[.bool],fun x=>jzqq x.1 x.2⟩
theorem yk76:FcOk k76:=fOk [.k xk97] [] [] .n (fn:=Tryz.f76) Tryz.func76
noncomputable def xk76:Fk:=⟨k76,yk76⟩
theorem jzw6:FcOk k42d:=wzio hEI [.k xk60,.k xk73,.k xk74,.k xk75,.k xk76] [] [] .n (fn:=Tryz.f42) Tryz.func42 (by kernel_rfl) (by kernel_rfl) fun _=>by kernel_rfl
theorem yk42:FcOk k42:=jzv5 jzw6 yk60 yk73 yk74 yk75
noncomputable def xk42:Fk:=⟨k42,yk42⟩
def k34:Fc:=⟨34,[(.slc (.us 0)),(.slc (.us 5)),(.us 5),(.int .i64)],[false,false,false,false],[(.slc (.us 6)),(.int .i64)],fun x=>jzqo x.1 x.2.1 x.2.2.1 x.2.2.2⟩
theorem yk34:FcOk k34:=fOk [.k xk21,.k xk60,.k xk59,.k xk42,.k xk61,.k xk70,.q xq62,.k xk69,.s xs87] [] [(1,(.int .i64))] .n (fn:=Tryz.f34) Tryz.func34
noncomputable def xk34:Fk:=⟨k34,yk34⟩
def k17:Fc:=⟨17,[(.slc (.us 0)),(.int .i64)],[false,false],[(.slc (.int .i64)),(.int .i64)],fun x=>jzqx x.1 x.2⟩
theorem yk17:FcOk k17:=fOk [.k xk21,.m xm55,.o xo54] [] [(0,(.int .i64)),(10000,.bool)] (.s .n (.s .n (.s .n (.s (.s .n (.b none (.l [] ⟨.n,[(1,.k),(7,.mp 0),(16,.k),(17,.k),(18,.v (.int .i64))],[(0,.map (.int .i64) .bool),(1,.gone)]⟩ [⟨(.x 0),[(7,.mp 0)],[(0,.map (.int .i64) .bool),(1,.gone)]⟩] .n))) .n)))) (fn:=Tryz.f17) Tryz.func17
noncomputable def xk17:Fk:=⟨k17,yk17⟩
def k29:Fc:=⟨29,[(.us 0),(.slc (.us 5)),(.int .i64)],[false,false,false],[(.us 6),(.int .i64)],fun x=>jzqu x.1 x.2.1 x.2.2⟩
theorem yk29:FcOk k29:=fOk [.k xk19,.k xk60,.k xk61,.k xk67] [] [] .n (fn:=Tryz.f29) Tryz.func29
noncomputable def xk29:Fk:=⟨k29,yk29⟩
def k15:Fc:=⟨15,[(.slc (.us 0)),(.slc (.us 0))],[false,false],[(.slc (.us 0)),(.int .i64)],fun x=>jzoc x.1 x.2⟩
theorem yk15:FcOk k15:=fOk [.k xk21,.k xk47,.k xk50] [(4,2),(7,2),(8,2),(9,2)] [(0,(.slc (.us 0))),(1,(.us 0)),(2,(.us 0)),(3,(.us 0)),(6,(.us 0))] (.s .n (.s (.s .n (.b none (.l [] ⟨.n,[(0,.k),(1,.k),(14,.k),(15,.k),(16,.v (.int .i64))],[(0,.k)]⟩ [⟨(.x 0),[(0,.k),(1,.k)],[(0,.k)]⟩,⟨.r,[(4,.v (.slc (.us 0))),(5,.v (.int .i64))],[(0,.gone),(1,.gone),(2,.gone),(3,.gone),(5,.gone),(6,.gone)]⟩] .n))) (.s .n (.s (.b none (.l [] ⟨.n,[(0,.v (.slc (.us 0))),(1,.v (.slc (.us 0))),(9,.own 2)],[(0,.gone),(1,.gone),(2,.own (.us 0)),(3,.gone),(5,.gone),(6,.gone)]⟩ [⟨(.x 2),[(0,.v (.slc (.us 0))),(1,.v (.slc (.us 0))),(9,.own 2)],[(0,.gone),(1,.gone),(2,.own (.us 0)),(3,.gone),(5,.gone),(6,.gone)]⟩,⟨.r,[(4,.v (.slc (.us 0))),(5,.v (.int .i64))],[(0,.gone),(1,.gone),(2,.gone),(3,.gone),(5,.gone),(6,.gone)]⟩] .n)) .n)))) (fn:=Tryz.f15) Tryz.func15
noncomputable def xk15:Fk:=⟨k15,yk15⟩
def k23:Fc:=⟨23,[(.slc (.us 0)),(.slc (.us 0))],[false,false],[.bool],fun x=>jzo7 x.1 x.2⟩
theorem yk23:FcOk k23:=fOk [] [] [] (.s .n (.s .n (.s (.s .n (.b none (.l [] ⟨.n,[(0,.k),(1,.k),(5,.v (.int .i64))],[]⟩ [⟨(.x 0),[],[]⟩,⟨.r,[(4,.v .bool)],[]⟩] .n))) .n))) (fn:=Tryz.f23) Tryz.func23
noncomputable def xk23:Fk:=⟨k23,yk23⟩
def k44:Fc:=⟨44,[(.int .i64),(.int .i64)],[false,false],[(.us 11)],fun x=>jzpd x.1 x.2⟩
theorem yk44:FcOk k44:=fOk [] [] [] .n (fn:=Tryz.f44) Tryz.func44
noncomputable def xk44:Fk:=⟨k44,yk44⟩
def k45:Fc:=⟨45,[(.int .i64),(.int .i64),(.int .i64)],[false,false,false],[(.us 11)],fun x=>jzo5 x.1 x.2.1 x.2.2⟩
theorem yk45:FcOk k45:=fOk [] [] [(1,(.us 10))] .n (fn:=Tryz.f45) Tryz.func45
noncomputable def xk45:Fk:=⟨k45,yk45⟩
def k66:Fc:=⟨66,[(.slc (.us 10)),(.slc (.us 10))],[false,false],[.bool],fun x=>jzqb x.1 x.2⟩
theorem yk66:FcOk k66:=fOk [] [] [] (.s .n (.s .n (.s (.s .n (.b none (.l [] ⟨.n,[(0,.k),(1,.k),(5,.v (.int .i64))],[]⟩ [⟨(.x 0),[],[]⟩,⟨.r,[(4,.v .bool)],[]⟩] .n))) .n))) (fn:=Tryz.f66) Tryz.func66
noncomputable def xk66:Fk:=⟨k66,yk66⟩
def k28:Fc:=⟨28,[(.slc (.us 11)),(.slc (.us 11))],[false,false],[.bool],fun x=>jzpi x.1 x.2⟩
theorem yk28:FcOk k28:=fOk [.k xk66] [] [] (.s .n (.s .n (.s (.s .n (.b none (.l [] ⟨.n,[(0,.k),(1,.k),(5,.v (.int .i64))],[]⟩ [⟨(.x 0),[],[]⟩,⟨.r,[(4,.v .bool)],[]⟩] .n))) .n))) (fn:=Tryz.f28) Tryz.func28
noncomputable def xk28:Fk:=⟨k28,yk28⟩
def k36:Fc:=⟨36,[(.slc (.us 6)),(.slc (.us 6))],[false,false],[.bool],fun x=>wz6e x.1 x.2⟩
theorem yk36:FcOk k36:=fOk [] [] [] (.s .n (.s .n (.s (.s .n (.b none (.l [] ⟨.n,[(0,.k),(1,.k),(5,.v (.int .i64))],[]⟩ [⟨(.x 0),[],[]⟩,⟨.r,[(4,.v .bool)],[]⟩] .n))) .n))) (fn:=Tryz.f36) Tryz.func36
noncomputable def xk36:Fk:=⟨k36,yk36⟩
def k24:Fc:=⟨24,[(.slc (.int .i64)),(.slc (.int .i64))],[false,false],[.bool],fun x=>jzqd x.1 x.2⟩
theorem yk24:FcOk k24:=fOk [] [] [] (.s .n (.s .n (.s (.s .n (.b none (.l [] ⟨.n,[(0,.k),(1,.k),(5,.v (.int .i64))],[]⟩ [⟨(.x 0),[],[]⟩,⟨.r,[(4,.v .bool)],[]⟩] .n))) .n))) (fn:=Tryz.f24) Tryz.func24
noncomputable def xk24:Fk:=⟨k24,yk24⟩
def k12:Fc:=⟨12,[],[],[.bool],fun x=>jzo6 ⟩
set_option maxRecDepth 100000 in
theorem u12:jzo6=some true:=by decide +kernel
theorem t12:funT [.k xk43,.k xk39,.k xk26,.k xk13,.k xk32,.k xk34,.k xk17,.k xk29,.k xk15,.k xk21,.k xk19,.k xk23,.k xk44,.k xk45,.k xk28,.k xk36,.k xk24] [(1,(.us 5)),(6,(.us 11)),(7,(.us 11)),(8,(.us 11)),(9,(.us 6)),(10,(.us 6)),(11,(.int .i64))] (cRs Tryz.prog Tryz.f12.results.toList) Tryz.f12.ntmps (cF Tryz.prog [] Tryz.f12) .n k12 ()=some true:=by kernel_rfl
theorem yk12:FcOk k12:=wzio hEI [.k xk43,.k xk39,.k xk26,.k xk13,.k xk32,.k xk34,.k xk17,.k xk29,.k xk15,.k xk21,.k xk19,.k xk23,.k xk44,.k xk45,.k xk28,.k xk36,.k xk24] [] [(1,(.us 5)),(6,(.us 11)),(7,(.us 11)),(8,(.us 11)),(9,(.us 6)),(10,(.us 6)),(11,(.int .i64))] .n (fn:=Tryz.f12) Tryz.func12 (by kernel_rfl) (by kernel_rfl) fun _=>t12.trans u12.symm
noncomputable def xk12:Fk:=⟨k12,yk12⟩
def k38:Fc:=⟨38,[(.slc (.us 11)),(.int .i64)],[false,false],[(.int .i64)],fun x=>jz18 x.1 x.2⟩
theorem yk38:FcOk k38:=fOk [] [] [] (.s .n (.s (.s .n (.b none (.l [] ⟨.n,[(1,.k),(7,.k),(8,.k),(9,.v (.int .i64))],[(0,.gone)]⟩ [⟨(.x 0),[],[(0,.gone)]⟩,⟨.r,[(4,.v (.int .i64))],[(0,.gone)]⟩] .n))) .n)) (fn:=Tryz.f38) Tryz.func38
noncomputable def xk38:Fk:=⟨k38,yk38⟩
def k8:Fc:=⟨8,[(.slc (.us 0)),(.slc (.us 5)),(.us 7)],[false,false,false],[.bool],fun x=>jz19 x.1 x.2.1 x.2.2⟩
theorem yk8:FcOk k8:=fOk [.k xk21,.k xk12,.k xk26,.k xk29,.k xk38,.k xk39] [(7,3)] [(2,(.int .i64)),(3,(.int .i64)),(6,(.int .i64))] (.s .n (.s .n (.s .n (.s .n (.s .n (.s .n (.s (.s .n (.b none (.l [] ⟨.n,[(0,.k),(1,.k),(5,.k),(7,.k),(9,.v (.int .i64)),(10,.v (.int .i64)),(11,.own 3),(69,.k),(70,.k),(71,.v (.int .i64))],[(0,.k),(1,.gone),(2,.gone),(3,.own (.int .i64))]⟩ [⟨(.x 0),[(0,.k),(1,.k),(5,.k),(7,.k),(9,.v (.int .i64)),(11,.own 3)],[(0,.k),(1,.gone),(2,.gone),(3,.own (.int .i64))]⟩,⟨.r,[(6,.v .bool)],[(0,.gone),(1,.gone),(2,.gone),(3,.gone),(4,.gone),(5,.gone),(6,.gone)]⟩] (.s .n (.s .n (.s (.b none (.s .n (.s .n (.s (.s .n (.c (some [⟨.n,[(0,.k),(1,.k),(5,.k),(7,.k),(9,.k),(10,.k),(11,.k),(13,.k),(14,.v (.int .i64)),(69,.k),(70,.k),(71,.k)],[(0,.k),(1,.k),(2,.gone),(3,.k)]⟩]) .n .n)) .n)))) .n)))))) (.s .n (.s (.s .n (.b none (.l [] ⟨.n,[(0,.k),(1,.k),(5,.k),(7,.k),(11,.k),(170,.k),(171,.k),(172,.v (.int .i64))],[(0,.k),(1,.gone),(2,.gone),(3,.k),(4,.gone),(5,.gone)]⟩ [⟨(.x 2),[(0,.k),(1,.k),(5,.k),(7,.k),(11,.k)],[(0,.k),(1,.gone),(2,.gone),(3,.k),(4,.gone),(5,.gone)]⟩,⟨.r,[(6,.v .bool)],[(0,.gone),(1,.gone),(2,.gone),(3,.gone),(4,.gone),(5,.gone),(6,.gone)]⟩] (.s .n (.s .n (.s (.b none (.s .n (.s .n (.s (.s .n (.b none (.l [] ⟨.n,[(0,.k),(1,.k),(5,.k),(7,.k),(11,.k),(17,.k),(18,.v (.int .i64)),(19,.v (.int .i64)),(170,.k),(171,.k),(172,.k),(176,.k),(177,.k),(178,.v (.int .i64))],[(0,.k),(1,.gone),(2,.gone),(3,.k),(4,.gone),(5,.gone)]⟩ [⟨(.x 4),[(0,.k),(1,.k),(5,.k),(7,.k),(11,.k),(17,.k),(19,.v (.int .i64)),(170,.k),(171,.k),(172,.k)],[(0,.k),(1,.gone),(2,.gone),(3,.k),(4,.gone),(5,.gone)]⟩,⟨.r,[(6,.v .bool)],[(0,.gone),(1,.gone),(2,.gone),(3,.gone),(4,.gone),(5,.gone),(6,.gone)]⟩] .n))) .n)))) .n)))))) (.s .n (.s .n (.s .n (.s .n (.s (.s .n (.b none (.l [] ⟨.n,[(7,.k),(24,.k),(25,.k),(27,.k),(282,.k),(283,.k),(284,.v (.int .i64))],[(0,.gone),(1,.gone),(2,.gone),(3,.k),(4,.gone),(5,.gone),(6,.gone)]⟩ [⟨(.x 6),[],[(0,.gone),(1,.gone),(2,.gone),(3,.k),(4,.gone),(5,.gone),(6,.gone)]⟩,⟨.r,[(6,.v .bool)],[(0,.gone),(1,.gone),(2,.gone),(3,.gone),(4,.gone),(5,.gone),(6,.gone)]⟩] (.s .n (.s .n (.s (.b none (.s .n (.s .n (.s (.s .n (.c (some [⟨.n,[(7,.k),(24,.k),(25,.k),(27,.k),(30,.k),(31,.v (.int .i64)),(282,.k),(283,.k),(284,.k)],[(0,.gone),(1,.gone),(2,.gone),(3,.k),(4,.gone),(5,.gone),(6,.gone)]⟩]) .n .n)) .n)))) .n)))))) .n)))))))))))))) (fn:=Tryz.f8) Tryz.func8
end Go.Am

