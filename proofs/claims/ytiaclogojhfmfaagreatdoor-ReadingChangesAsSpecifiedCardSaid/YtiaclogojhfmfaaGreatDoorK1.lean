/- Part K1: contracts of the functions of this seat. No condition. -/
import Derived.Test.YtiaclogojhfmfaaGreatDoorC4
import Derived.Test.YtiaclogojhfmfaaGreatDoorP1
set_option linter.unusedVariables false
namespace Go.Am
noncomputable section
open Go.Proofs Go.Proofs.Tryz
theorem hEI:∀i,AF (TabT.E i):=fun _=>.top
theorem fOk(H:List Fe)(sm:List (Nat×Nat))(ty:List (Nat×CT))(h:HT){C:Fc}{fn:Func}(hf:TabT.P.funcs[C.f]?=some fn)(he:CD TabT.P C.f=true:=by kernel_rfl)(hc:ckF TabT.P sm fn C.a.length=true:=by kernel_rfl)(ht:∀x,funT H ty (cRs TabT.P fn.results.toList) fn.ntmps (cF TabT.P sm fn) h C x=C.F x:=by intro _;kernel_rfl):Ao C:=MB hEI H sm ty h hf he hc ht
def k31:Fc:=⟨31,[(.us 4)],[false],[.bool],fun x=>Kt x⟩
theorem yk31:Ao k31:=fOk [] [] [] (.s .n (.s .n (.s (.s .n (.b none (.l [] ⟨.n,[(1,.k),(3,.v (.int .i64))],[(0,.k)]⟩ [⟨(.x 0),[],[(0,.k)]⟩,⟨.r,[(2,.v .bool)],[(0,.gone)]⟩] .n))) .n))) func31
def xk31:Fk:=⟨k31,yk31⟩
def k11:Fc:=⟨11,[(.slc (.us 0)),(.int .i64)],[false,false],[.bool],fun x=>Mg x.1 x.2⟩
theorem yk11:Ao k11:=fOk [] [] [] .n func11
def xk11:Fk:=⟨k11,yk11⟩
def k58:Fc:=⟨58,[(.slc (.us 5)),(.int .i64)],[false,false],[.bool],fun x=>Mi x.1 x.2⟩
theorem yk58:Ao k58:=fOk [.k xk31] [] [] (.s .n (.s .n (.s (.s .n (.b none (.l [] ⟨.n,[(0,.k),(5,.v (.int .i64))],[]⟩ [⟨(.x 0),[],[]⟩,⟨.r,[(4,.v .bool)],[]⟩] .n))) .n))) func58
def xk58:Fk:=⟨k58,yk58⟩
def k25:Fc:=⟨25,[(.slc (.us 0)),(.slc (.us 5))],[false,false],[.bool],fun x=>Mp x.1 x.2⟩
theorem yk25:Ao k25:=fOk [.k xk11,.k xk58] [] [] .n func25
def xk25:Fk:=⟨k25,yk25⟩
def k43:Fc:=⟨43,[],[],[(.slc (.us 0)),(.us 5)],fun x=>VF ⟩
theorem yk43:Ao k43:=fOk [] [] [(1,(.us 0))] .n func43
def xk43:Fk:=⟨k43,yk43⟩
def k39:Fc:=⟨39,[(.int .i64),(.int .i64)],[false,false],[(.us 6)],fun x=>F6 x.1 x.2⟩
theorem yk39:Ao k39:=fOk [] [] [] .n func39
def xk39:Fk:=⟨k39,yk39⟩
def k57:Fc:=⟨57,[(.int .i64),(.int .i64),(.int .i64)],[false,false,false],[.bool],fun x=>Im x.1 x.2.1 x.2.2⟩
theorem yk57:Ao k57:=fOk [] [] [] .n func57
def xk57:Fk:=⟨k57,yk57⟩
theorem yk19:Ao k19:=fOk [.k xk57] [] [] .n func19
def xk19:Fk:=⟨k19,yk19⟩
def k100:Fc:=⟨100,[(.int .i64)],[false],[.bool],fun x=>F7 x⟩
theorem jzkv:Ao k100:=fOk [] [] [] .n func100
def VT:Fk:=⟨k100,jzkv⟩
def k80:Fc:=⟨80,[(.int .i64),(.int .i64)],[false,false],[(.int .i64)],fun x=>ED x.1 x.2⟩
theorem yk80:Ao k80:=fOk [.k VT] [] [] .n func80
def xk80:Fk:=⟨k80,yk80⟩
def k79:Fc:=⟨79,[(.slc (.int .i64))],[false],[(.int .i64)],fun x=>Ml x⟩
theorem yk79:Ao k79:=fOk [] [] [] (.s .n (.s .n (.s (.s .n (.b none (.l [] ⟨.n,[(3,.k),(6,.k),(7,.k),(8,.v (.int .i64))],[]⟩ [⟨(.x 0),[(3,.k)],[]⟩,⟨.r,[(2,.v (.int .i64))],[]⟩] .n))) .n))) func79
def xk79:Fk:=⟨k79,yk79⟩
theorem yk47:Ao k47:=fOk [.k xk80,.k xk79] [] [(2,(.int .i64))] .n func47
def xk47:Fk:=⟨k47,yk47⟩
theorem yk21:Ao k21:=fOk [.k xk19,.k xk47] [] [] (.s .n (.s .n (.s (.s .n (.b none (.l [] ⟨.n,[(0,.k),(8,.k),(9,.k),(10,.v (.int .i64))],[(0,.gone)]⟩ [⟨(.x 0),[],[(0,.gone)]⟩,⟨.r,[(2,.v (.int .i64))],[(0,.gone)]⟩] .n))) .n))) func21
def xk21:Fk:=⟨k21,yk21⟩
def k112:Fc:=⟨112,[(.int .i64)],[false],[.bool],fun x=>PT x⟩
theorem jzwr:Ao k112:=fOk [] [] [] .n func112
def jzwn:Fk:=⟨k112,jzwr⟩
def k143:Fc:=⟨143,[.str],[false],[.bool],fun x=>Kx x⟩
theorem jzj3:Ao k143:=fOk [] [] [] .n func143
def jzcr:Fk:=⟨k143,jzj3⟩
def k181:Fc:=⟨181,[(.int .u32)],[false],[.bool],fun x=>Kz x⟩
theorem jzwx:Ao k181:=fOk [] [] [] .n func181
def jzwz:Fk:=⟨k181,jzwx⟩
def k178:Fc:=⟨178,[(.int .u32),(.int .u32)],[false,false],[(.int .i64)],fun x=>Mu x.1 x.2⟩
theorem jzi4:Ao k178:=fOk [.k jzwz] [] [] .n func178
def jzie:Fk:=⟨k178,jzi4⟩
def k166:Fc:=⟨166,[(.slc (.int .u32)),(.slc (.int .u32))],[false,false],[(.int .i64)],fun x=>Qw x.1 x.2⟩
theorem jzj9:Ao k166:=fOk [.k xk80,.k jzie] [] [] (.s .n (.s .n (.s (.s .n (.b none (.l [] ⟨.n,[(0,.k),(1,.k),(6,.v (.int .i64))],[]⟩ [⟨(.x 0),[],[]⟩,⟨.r,[(4,.v (.int .i64))],[]⟩] .n))) .n))) func166
def Q9:Fk:=⟨k166,jzj9⟩
def k168:Fc:=⟨168,[(.slc (.int .u32))],[false],[(.slc (.int .u32))],fun x=>HF x⟩
theorem jzjl:Ao k168:=fOk [] [] [] (.s .n (.s (.b none (.l [] ⟨.n,[(0,.v (.slc (.int .u32)))],[]⟩ [⟨(.x 0),[(0,.v (.slc (.int .u32)))],[]⟩] .n)) .n)) func168
def I5:Fk:=⟨k168,jzjl⟩
def k167:Fc:=⟨167,[(.slc (.int .u32)),(.int .u32)],[false,false],[(.slc (.int .u32)),(.int .u32)],fun x=>Tm x.1 x.2⟩
theorem jzj8:Ao k167:=fOk [.k I5] [] [(0,(.int .u32))] (.s .n (.s .n (.s (.s .n (.b none (.l [] ⟨.n,[(0,.k),(1,.k),(6,.vec 0),(7,.v (.int .u64)),(8,.v (.int .i64))],[(0,.vec (.int .u32))]⟩ [⟨(.x 0),[(6,.vec 0),(7,.v (.int .u64))],[(0,.vec (.int .u32))]⟩] .n))) .n))) func167
def VU:Fk:=⟨k167,jzj8⟩
def k179:Fc:=⟨179,[(.slc (.int .u32)),(.int .i64)],[false,false],[(.int .u64)],fun x=>PZ x.1 x.2⟩
theorem jzwm:Ao k179:=fOk [] [] [] .n func179
def QA:Fk:=⟨k179,jzwm⟩
def k171:Fc:=⟨171,[(.slc (.int .u32)),(.slc (.int .u32))],[false,false],[(.slc (.int .u32))],fun x=>Qn x.1 x.2⟩
theorem jzw2:Ao k171:=fOk [.k QA,.k I5] [] [(0,(.int .u32))] (.s .n (.s .n (.s (.s .n (.b none (.l [] ⟨.n,[(1,.k),(5,.vec 0),(18,.k),(19,.k),(20,.v (.int .i64))],[(0,.vec (.int .u32))]⟩ [⟨(.x 0),[(5,.vec 0)],[(0,.vec (.int .u32))]⟩] (.s .n (.s .n (.s (.b none (.s .n (.s .n (.s .n (.b none (.l [] ⟨.n,[(1,.k),(5,.vec 0),(6,.k),(7,.k),(8,.v (.int .u64)),(9,.v (.int .i64)),(18,.k),(19,.k),(20,.k)],[(0,.vec (.int .u32))]⟩ [⟨(.x 2),[(1,.k),(5,.vec 0),(18,.k),(19,.k),(20,.k)],[(0,.vec (.int .u32))]⟩] .n)))))) .n)))))) .n))) func171
def QB:Fk:=⟨k171,jzw2⟩
def k169:Fc:=⟨169,[(.slc (.int .u32)),(.int .i64)],[false,false],[(.slc (.int .u32))],fun x=>Ox x.1 x.2⟩
theorem jzkw:Ao k169:=fOk [.k VU,.k QB] [] [(0,(.int .u32))] .n func169
def jzcq:Fk:=⟨k169,jzkw⟩
def jzwp:Ck:=⟨v170,jzu1⟩
def k172:Fc:=⟨172,[(.slc (.int .u32)),(.slc (.int .u32))],[false,false],[(.slc (.int .u32))],fun x=>Qo x.1 x.2⟩
theorem jzwk:Ao k172:=fOk [.k QA,.k I5] [] [(0,(.int .u32)),(1,(.int .u32))] (.s .n (.s .n (.s .n (.s (.s .n (.b none (.l [] ⟨.n,[(0,.k),(1,.k),(5,.own 1),(6,.v (.int .u64)),(10,.k),(11,.v (.int .i64))],[(0,.gone),(1,.own (.int .u32))]⟩ [⟨(.x 0),[(5,.own 1)],[(0,.gone),(1,.own (.int .u32))]⟩] .n))) .n)))) func172
def VV:Fk:=⟨k172,jzwk⟩
theorem jzuf:Ao k152:=fOk [.k Q9,.k VU,.k I5,.k jzcq,.c jzwp,.k QB,.k VV] [(2,657)] [(0,(.int .u32)),(1,(.int .u32)),(3,(.int .u32)),(4,(.int .u32)),(657,(.int .u32))] (.s .n (.s .n (.s .n (.s .n (.s (.b none (.l [] ⟨.n,[(0,.k),(1,.k),(8,.v (.int .i64))],[]⟩ [⟨(.x 0),[(0,.k),(1,.k),(8,.v (.int .i64))],[]⟩] .n)) (.s .n (.s .n (.s .n (.s .n (.s .n (.s (.s .n (.b none (.l [] ⟨.n,[(8,.k),(9,.k),(10,.vec 657),(11,.k),(12,.vec 3),(13,.v (.int .i64))],[(657,.vec (.int .u32)),(1,.gone),(3,.vec (.int .u32)),(762,.gone),(773,.gone)]⟩ [⟨(.x 2),[(8,.k),(10,.vec 657),(12,.vec 3)],[(657,.vec (.int .u32)),(1,.gone),(3,.vec (.int .u32)),(762,.gone),(773,.gone)]⟩] (.s .n (.s (.b none (.s .n (.s .n (.s .n (.s (.b none (.l [] ⟨.n,[(8,.k),(9,.k),(10,.k),(11,.k),(12,.k),(13,.k),(15,.v (.int .u64)),(16,.v (.int .u64))],[(657,.k),(1,.gone),(3,.k),(762,.gone),(773,.gone)]⟩ [⟨(.x 4),[(8,.k),(9,.k),(10,.k),(11,.k),(12,.k),(13,.k),(15,.v (.int .u64))],[(657,.k),(1,.gone),(3,.k),(762,.gone),(773,.gone)]⟩] .n)) (.s (.s .n (.c (some [⟨.n,[(8,.k),(9,.k),(10,.k),(11,.k),(12,.k),(13,.k),(15,.k)],[(657,.k),(1,.gone),(3,.k),(762,.gone),(773,.gone)]⟩,⟨(.x 3),[(8,.k),(9,.k),(10,.k),(11,.k),(12,.k),(13,.k)],[(657,.k),(1,.gone),(3,.k),(762,.gone),(773,.gone)]⟩]) .n .n)) (.s .n (.s .n (.s (.b none (.l [] ⟨.n,[(8,.k),(9,.k),(10,.k),(11,.k),(12,.k),(13,.k),(15,.v (.int .u64)),(17,.k),(18,.v (.slc (.int .u32)))],[(657,.k),(1,.gone),(3,.k),(762,.gone),(773,.gone)]⟩ [⟨(.x 6),[(8,.k),(9,.k),(10,.k),(11,.k),(12,.k),(13,.k),(15,.v (.int .u64)),(17,.k),(18,.v (.slc (.int .u32)))],[(657,.k),(1,.gone),(3,.k),(762,.gone),(773,.gone)]⟩] .n)) .n))))))))) .n))))) .n))))))))))) func152
theorem VW:Ao k153:=fOk [.k I5] [] [(1,(.int .u32)),(2,(.int .u32))] (.s .n (.s .n (.s (.s .n (.b none (.l [] ⟨.n,[(0,.k),(3,.own 2),(4,.v (.int .i64))],[(0,.gone),(1,.gone),(2,.own (.int .u32))]⟩ [⟨(.x 0),[(3,.own 2)],[(0,.gone),(1,.gone),(2,.own (.int .u32))]⟩] (.s .n (.s (.b none (.s .n (.s (.s .n (.b none (.l [] ⟨.n,[(0,.k),(3,.k),(4,.k),(5,.v (.int .u32)),(20,.k),(21,.k),(22,.v (.int .i64))],[(0,.gone),(1,.gone),(2,.k)]⟩ [⟨(.x 2),[(0,.k),(3,.k),(4,.k),(5,.v (.int .u32))],[(0,.gone),(1,.gone),(2,.k)]⟩] .n))) .n))) .n))))) .n))) func153
def MC:Fk:=⟨k153,VW⟩
def jzwy:Wk:=⟨w173,jzvq⟩
def k182:Fc:=⟨182,[.str,(.int .u8)],[false,false],[.str],fun x=>Zc x.1 x.2⟩
theorem jzw5:Ao k182:=fOk [] [] [] (.s .n (.s (.b none (.l [] ⟨.n,[(0,.v .str),(1,.k)],[]⟩ [⟨(.x 0),[(0,.v .str)],[]⟩] .n)) .n)) func182
def jzw9:Fk:=⟨k182,jzw5⟩
def k180:Fc:=⟨180,[.str,.str],[false,false],[.str],fun x=>Qp x.1 x.2⟩
theorem jzir:Ao k180:=fOk [.k jzw9] [] [] .n func180
def jzjn:Fk:=⟨k180,jzir⟩
def k174:Fc:=⟨174,[.str],[false],[.str],fun x=>Mw x⟩
theorem jzwq:Ao k174:=fOk [.k jzjn] [] [] .n func174
def jzxb:Fk:=⟨k174,jzwq⟩
theorem VX:Ao k154:=fOk [.w jzwy,.k jzxb] [] [(0,(.int .u8)),(1,(.int .u8))] (.s .n (.s .n (.s (.s .n (.b none (.l [] ⟨.n,[(3,.own 1),(6,.k),(7,.k),(8,.v (.int .i64))],[(0,.gone),(1,.own (.int .u8))]⟩ [⟨(.x 0),[(3,.own 1)],[(0,.gone),(1,.own (.int .u8))]⟩] .n))) .n))) func154
def QC:Fk:=⟨k154,VX⟩
def jzik:Fk:=⟨k144,jzuy jzuf VW VX⟩
def k131:Fc:=⟨131,[(.us 2)],[false],[.bool],fun x=>yzs x⟩
theorem jzk2:Ao k131:=fOk [.k jzcr,.k jzik] [] [] .n func131
def VY:Fk:=⟨k131,jzk2⟩
def k113:Fc:=⟨113,[(.us 2)],[false],[.bool],fun x=>Qy x⟩
theorem jzfj:Ao k113:=fOk [.k VY] [] [] .n func113
def jzla:Fk:=⟨k113,jzfj⟩
def k132:Fc:=⟨132,[(.us 2)],[false],[(.us 14)],fun x=>VL x⟩
theorem jzkd:Ao k132:=fOk [.k VY] [] [] .n func132
def jzkj:Fk:=⟨k132,jzkd⟩
def k155:Fc:=⟨155,[.str,.str],[false,false],[.str],fun x=>Iw x.1 x.2⟩
theorem jzjb:Ao k155:=fOk [.k MC,.k QB,.k QC] [] [] .n func155
def jzjo:Fk:=⟨k155,jzjb⟩
def k175:Fc:=⟨175,[(.slc (.int .u32)),(.slc (.int .u32))],[false,false],[(.slc (.int .u32))],fun x=>VI x.1 x.2⟩
theorem jzj7:Ao k175:=fOk [.k QA,.k I5] [] [(0,(.int .u32)),(1,(.int .u32))] (.s .n (.s .n (.s .n (.s (.s .n (.b none (.l [] ⟨.n,[(0,.k),(1,.k),(5,.own 1),(6,.v (.int .u64)),(14,.k),(15,.v (.int .i64))],[(0,.gone),(1,.own (.int .u32))]⟩ [⟨(.x 0),[(5,.own 1)],[(0,.gone),(1,.own (.int .u32))]⟩] .n))) .n)))) func175
def jzjq:Fk:=⟨k175,jzj7⟩
def k156:Fc:=⟨156,[.str,.str],[false,false],[.str],fun x=>Mx x.1 x.2⟩
theorem jzi1:Ao k156:=fOk [.k MC,.k jzjq,.k QC] [] [] .n func156
def jzjr:Fk:=⟨k156,jzi1⟩
def k157:Fc:=⟨157,[.str,.str],[false,false],[(.int .i64)],fun x=>My x.1 x.2⟩
theorem jzjj:Ao k157:=fOk [.k MC,.k Q9] [] [] .n func157
def jzk1:Fk:=⟨k157,jzjj⟩
def k158:Fc:=⟨158,[.str,.str],[false,false],[.str,(.int .i64)],fun x=>Mz x.1 x.2⟩
theorem jzjv:Ao k158:=fOk [.k MC,.k Q9,.k VV,.k QC] [] [] .n func158
def jzkl:Fk:=⟨k158,jzjv⟩
def k145:Fc:=⟨145,[(.us 14),(.us 14)],[false,false],[(.us 14)],fun x=>Zg x.1 x.2⟩
theorem jzid:Ao k145:=fOk [.k jzjo,.k jzjr,.k jzk1,.k jzkl] [] [] (.s .n (.s .n (.s .n (.s (.s .n (.c (some [⟨.n,[(2,.ptr 0 0),(4,.k),(5,.v .str),(6,.v .str),(7,.k)],[(0,.box (.us 14)),(1,.gone),(2,.k)]⟩]) .n .n)) .n)))) func145
def jzcs:Fk:=⟨k145,jzid⟩
def k133:Fc:=⟨133,[(.us 14),(.us 14)],[false,false],[(.us 14)],fun x=>Zh x.1 x.2⟩
theorem jzi2:Ao k133:=fOk [.k jzcs] [] [] .n func133
def jzji:Fk:=⟨k133,jzi2⟩
def k114:Fc:=⟨114,[(.us 2),(.us 2)],[false,false],[(.int .i64)],fun x=>Zi x.1 x.2⟩
theorem jzij:Ao k114:=fOk [.k jzkj,.k jzji] [] [] .n func114
def jzjy:Fk:=⟨k114,jzij⟩
def k96:Fc:=⟨96,[(.us 4)],[false],[(.int .i64)],fun x=>M3 x⟩
theorem yk96:Ao k96:=fOk [.k jzwn,.k jzla,.k jzjy] [] [] (.s .n (.s .n (.s (.s .n (.b none (.l [] ⟨.n,[(1,.k),(16,.k),(17,.k),(18,.v (.int .i64))],[(0,.k),(1,.gone)]⟩ [⟨(.x 0),[],[(0,.k),(1,.gone)]⟩,⟨.r,[(2,.v (.int .i64))],[(0,.gone),(1,.gone)]⟩] .n))) .n))) func96
def xk96:Fk:=⟨k96,yk96⟩
theorem yk73:Ao k73:=fOk [.k xk96] [] [(1,(.int .i64)),(10001,(.int .i64))] .n func73
def xk73:Fk:=⟨k73,yk73⟩
theorem yk75:Ao k75:=fOk [.k xk80] [] [] .n func75
def xk75:Fk:=⟨k75,yk75⟩
theorem yk60:Ao k60:=fOk [.k xk73,.k xk75] [] [] (.s .n (.s .n (.s (.s .n (.b none (.l [] ⟨.n,[(0,.k),(8,.k),(9,.k),(10,.v (.int .i64))],[(0,.gone)]⟩ [⟨(.x 0),[],[(0,.gone)]⟩,⟨.r,[(2,.v (.int .i64))],[(0,.gone)]⟩] .n))) .n))) func60
def xk60:Fk:=⟨k60,yk60⟩
def k59:Fc:=⟨59,[(.slc (.int .i64))],[false],[(.int .i64)],fun x=>In x⟩
theorem yk59:Ao k59:=fOk [] [] [] (.s .n (.s .n (.s (.s .n (.b none (.l [] ⟨.n,[(3,.k),(6,.k),(7,.k),(8,.v (.int .i64))],[]⟩ [⟨(.x 0),[(3,.k)],[]⟩,⟨.r,[(2,.v (.int .i64))],[]⟩] .n))) .n))) func59
def xk59:Fk:=⟨k59,yk59⟩
def k61:Fc:=⟨61,[(.int .i64)],[false],[.bool],fun x=>He x⟩
theorem yk61:Ao k61:=fOk [] [] [] .n func61
def xk61:Fk:=⟨k61,yk61⟩
def k108:Fc:=⟨108,[(.int .i64),(.int .i64)],[false,false],[(.int .i64)],fun x=>PR x.1 x.2⟩
theorem jzkq:Ao k108:=fOk [] [] [] .n func108
def jzfv:Fk:=⟨k108,jzkq⟩
def k130:Fc:=⟨130,[(.slc (.us 5)),(.int .i64),(.int .i64),(.int .i64),(.int .i64)],[false,false,false,false,false],[(.ptr (.us 5))],fun x=>Mo x.1 x.2.1 x.2.2.1 x.2.2.2.1 x.2.2.2.2⟩
theorem jziy:Ao k130:=fOk [] [] [] (.s .n (.s .n (.s (.s .n (.b none (.l [] ⟨.n,[(0,.k),(1,.k),(2,.k),(3,.k),(4,.k),(11,.v (.ptr (.us 5))),(15,.k),(16,.v (.int .i64))],[]⟩ [⟨(.x 0),[(11,.v (.ptr (.us 5)))],[]⟩] (.s .n (.s .n (.s (.b none (.s .n (.s .n (.s (.s .n (.c (some [⟨.n,[(0,.k),(1,.k),(2,.k),(3,.k),(4,.k),(11,.k),(13,.k),(15,.k),(16,.k)],[]⟩,⟨(.x 1),[(0,.k),(1,.k),(2,.k),(3,.k),(4,.k),(11,.k),(15,.k),(16,.k)],[]⟩]) .n .n)) .n)))) .n)))))) .n))) func130
def jzkx:Fk:=⟨k130,jziy⟩
def k109:Fc:=⟨109,[(.slc (.us 5)),(.int .i64),(.int .i64),(.int .i64),(.int .i64)],[false,false,false,false,false],[(.int .i64)],fun x=>Qg x.1 x.2.1 x.2.2.1 x.2.2.2.1 x.2.2.2.2⟩
theorem jzjc:Ao k109:=fOk [.k jzkx] [] [] .n func109
def jzfy:Fk:=⟨k109,jzjc⟩
def k91:Fc:=⟨91,[(.slc (.us 5)),(.int .i64),(.int .i64),(.int .i64),(.int .i64)],[false,false,false,false,false],[(.int .i64),(.int .i64)],fun x=>Q4 x.1 x.2.1 x.2.2.1 x.2.2.2.1 x.2.2.2.2⟩
theorem yk91:Ao k91:=fOk [.k xk60,.k jzfv,.k jzfy] [] [] .n func91
def xk91:Fk:=⟨k91,yk91⟩
def k67:Fc:=⟨67,[(.us 0),(.slc (.us 5)),(.int .i64)],[false,false,false],[(.us 6)],fun x=>I0 x.1 x.2.1 x.2.2⟩
theorem yk67:Ao k67:=fOk [.k xk91] [] [] .n func67
def xk67:Fk:=⟨k67,yk67⟩
def xo54:Ok1:=⟨o54,jzv0⟩
def k105:Fc:=⟨105,[(.int .i64),(.int .i64)],[false,false],[.bool],fun x=>PP x.1 x.2⟩
theorem jzkf:Ao k105:=fOk [.k VT] [] [] .n func105
def jzja:Fk:=⟨k105,jzkf⟩
def k106:Fc:=⟨106,[(.int .i64)],[false],[.bool],fun x=>PQ x⟩
theorem jzku:Ao k106:=fOk [] [] [] .n func106
def jzk3:Fk:=⟨k106,jzku⟩
def k86:Fc:=⟨86,[(.slc (.int .i64)),(.int .i64)],[false,false],[(.int .i64),.bool],fun x=>K2 x.1 x.2⟩
theorem yk86:Ao k86:=fOk [.k jzja,.k jzk3] [] [] (.s .n (.s .n (.s .n (.s (.b none (.l [] ⟨.n,[(0,.k),(1,.k),(6,.k),(7,.v (.int .i64)),(8,.v (.int .i64))],[]⟩ [⟨(.x 0),[(0,.k),(1,.k),(6,.k),(7,.v (.int .i64))],[]⟩] .n)) .n)))) func86
def xk86:Fk:=⟨k86,yk86⟩
def s87:Sc:=⟨87,[(.slc (.int .i64)),(.slc (.int .i64))],[true,true],1,fun x st=>D0 x.1 x.2 st⟩
theorem ys87:ScOk s87:=jzgn [] [] [] (.s .n (.b none (.l [] ⟨.n,[(0,.k),(1,.k),(2,.k),(4,.v (.int .i64))],[(1899,.out 1 false)]⟩ [⟨(.x 0),[],[(1899,.out 1 false)]⟩,⟨.r,[],[(1899,.out 1 true)]⟩] (.s .n (.b none (.s .n (.s (.s .n (.b none (.l [] ⟨.n,[(0,.k),(1,.k),(2,.k),(4,.v (.int .i64)),(5,.k)],[(1899,.k)]⟩ [⟨(.x 2),[(0,.k),(1,.k),(2,.k),(4,.v (.int .i64)),(5,.k)],[(1899,.k)]⟩] .n))) .n))))))) func87 (by kernel_rfl) (by kernel_rfl) fun _ _=>by kernel_rfl
def xs87:Sk:=⟨s87,ys87⟩
def q62:Qc:=⟨62,[(.slc (.us 0)),(.slc (.us 5)),(.int .i64),(.us 6),(.int .i64)],[false,false,false,false,false],xs87,fun x=>Et x.1 x.2.1 x.2.2.1 x.2.2.2.1 x.2.2.2.2⟩
def h62:HT:=(.s .n (.s .n (.s .n (.s (.s .n (.b none (.l [] ⟨.n,[(1,.k),(2,.k),(4,.k),(8,.k),(11,.own 5),(12,.mp 1),(32,.k),(33,.k),(34,.v (.int .i64))],[(0,.k),(1,.map (.int .i64) .bool),(2,.gone),(3,.gone),(4,.gone),(5,.own (.us 22))]⟩ [⟨(.x 0),[(11,.own 5),(12,.mp 1)],[(0,.k),(1,.map (.int .i64) .bool),(2,.gone),(3,.gone),(4,.gone),(5,.own (.us 22))]⟩] (.s .n (.s .n (.s (.b none (.s .n (.s (.s .n (.c (some [⟨.n,[(1,.k),(2,.k),(4,.k),(8,.k),(11,.k),(12,.k),(14,.k),(32,.k),(33,.k),(34,.k)],[(0,.k),(1,.k),(2,.k),(3,.gone),(4,.gone),(5,.k)]⟩,⟨(.x 1),[(1,.k),(2,.k),(4,.k),(8,.k),(11,.k),(12,.k),(32,.k),(33,.k),(34,.k)],[(0,.k),(1,.k),(2,.k),(3,.gone),(4,.gone),(5,.k)]⟩]) .n .n)) .n))) .n)))))) (.s .n (.s .n (.s (.s .n (.b none (.l [] ⟨.n,[(11,.k),(16,.k),(17,.ptr 8 0),(89,.k),(90,.v (.int .i64))],[(0,.gone),(1,.gone),(2,.gone),(3,.gone),(4,.gone),(5,.k),(6,.k),(7,.vec (.int .i64)),(8,.rvec 7)]⟩ [⟨(.x 2),[(11,.k),(16,.k),(17,.ptr 8 0)],[(0,.gone),(1,.gone),(2,.gone),(3,.gone),(4,.gone),(5,.k),(6,.k),(7,.vec (.int .i64)),(8,.rvec 7)]⟩] .n))) (.s (.s .n (.b none (.l [] ⟨.n,[(16,.k),(17,.ptr 8 0),(97,.k),(98,.k),(99,.v (.int .i64))],[(0,.gone),(1,.gone),(2,.gone),(3,.gone),(4,.gone),(5,.k),(6,.k),(7,.vec (.int .i64)),(8,.rvec 7),(9,.gone)]⟩ [⟨(.x 4),[(16,.k),(17,.ptr 8 0)],[(0,.gone),(1,.gone),(2,.gone),(3,.gone),(4,.gone),(5,.k),(6,.k),(7,.vec (.int .i64)),(8,.rvec 7),(9,.gone)]⟩] (.s .n (.s .n (.s (.b none (.s .n (.s .n (.s .n (.s .n (.b none (.l [] ⟨.n,[(16,.k),(17,.ptr 8 0),(20,.k),(23,.k),(25,.v (.int .i64)),(97,.k),(98,.k),(99,.k)],[(0,.gone),(1,.gone),(2,.gone),(3,.gone),(4,.gone),(5,.k),(6,.k),(7,.vec (.int .i64)),(8,.rvec 7),(9,.k)]⟩ [⟨(.x 6),[(16,.k),(17,.ptr 8 0),(97,.k),(98,.k),(99,.k)],[(0,.gone),(1,.gone),(2,.gone),(3,.gone),(4,.gone),(5,.k),(6,.k),(7,.vec (.int .i64)),(8,.rvec 7),(9,.k)]⟩] .n))))))) .n)))))) .n))))))))
noncomputable abbrev H62:List Fe:=[.k xk67,.m (xm55),.o (xo54),.k xk86,.s xs87]
abbrev ty62:List (Nat×CT):=[(1,(.int .i64)),(4,(.us 22)),(5,(.us 22)),(7,(.int .i64)),(10001,.bool)]
def sqA:Bb->Bb
 |.seq a _=>a
 |c=>c
def sqB:Bb->Bb
 |.seq _ a=>a
 |c=>c
def hB:HT->HT
 |.s _ x=>x
 |_=>.n
def VZ:Bb:=sqB (sqB (sqB (cF Tryz.prog [] Tryz.f62)))
theorem ac62:cF Tryz.prog [] Tryz.f62=.seq (sqA (cF Tryz.prog [] Tryz.f62)) (.seq (sqA (sqB (cF Tryz.prog [] Tryz.f62))) (.seq (.reg true MD pcPr) VZ)):=by kernel_rfl
def T62(x:Row q62.a):Ap:=iniT Tryz.f62.ntmps q62.a q62.p x
def T62a(x:Row q62.a):Ap:=match AX H62 ty62 (cRs Tryz.prog Tryz.f62.results.toList) (sqA (cF Tryz.prog [] Tryz.f62)) Ap .n (T62 x) kS with
 |some T=>T
 |none=>T62 x
def T62b(x:Row q62.a):Ap:=match AX H62 ty62 (cRs Tryz.prog Tryz.f62.results.toList) (sqA (sqB (cF Tryz.prog [] Tryz.f62))) Ap .n (T62a x) kS with
 |some T=>T
 |none=>T62 x
theorem a62(x:Row q62.a):AX H62 ty62 (cRs Tryz.prog Tryz.f62.results.toList) (sqA (cF Tryz.prog [] Tryz.f62)) Ap .n (T62 x) kS=some (T62a x):=by kernel_rfl
theorem b62(x:Row q62.a):AX H62 ty62 (cRs Tryz.prog Tryz.f62.results.toList) (sqA (sqB (cF Tryz.prog [] Tryz.f62))) Ap .n (T62a x) kS=some (T62b x):=by kernel_rfl
theorem b62b(x:Row q62.a):(T62b x).b=0:=by kernel_rfl
theorem b62n(x:Row q62.a):(T62b x).n=132:=by kernel_rfl
theorem b62s(x:Row q62.a):Ai (T62b x).t 8=.v (.ptr 0 0 0):=by kernel_rfl
theorem b62h(x:Row q62.a):Af (T62b x).h 0=some (0,.box [.int .i64 x.2.2.2.1.From,.int .i64 x.2.2.2.1.To]):=by kernel_rfl
theorem b62f(x:Row q62.a):(Ai (T62b x).t 26=.v (.s .top)/\Ai (T62b x).t 27=.v (.s .top)/\Ai (T62b x).t 28=.v (.s .top))/\Ai (T62b x).t 29=.v (.s .top)/\Ai (T62b x).t 30=.v (.s .top)/\Ai (T62b x).t 31=.v (.s .top) := ⟨⟨by kernel_rfl,by kernel_rfl,by kernel_rfl⟩,by kernel_rfl,by kernel_rfl,by kernel_rfl⟩
theorem c62(x:Row q62.a)(m:List (Int×Bool)):AX H62 ty62 (cRs Tryz.prog Tryz.f62.results.toList) VZ _ (hB (hB (hB h62))) (pcT (T62b x) m) (resQ q62.S (cRs Tryz.prog Tryz.f62.results.toList))=QD m x.1 x.2.1 x.2.2.1 x.2.2.2.1 x.2.2.2.2:=by kernel_rfl
theorem f62(x:Row q62.a)(j:Nat)(h1:26<=j)(h2:j<=31):Ai (T62b x).t j=.v (.s .top):=by
 obtain⟨⟨a,b,c⟩,d,e,f⟩:=b62f x;have:j=26\/j=27\/j=28\/j=29\/j=30\/j=31:=by omega
 rcases this with rfl|rfl|rfl|rfl|rfl|rfl
 ·exact a
 ·exact b
 ·exact c
 ·exact d
 ·exact e
 ·exact f
theorem yq62:QcOk q62:=jzua hEI [] func62 (by kernel_rfl) (by kernel_rfl) ac62 fun x y hy hI=>jzwu hI rfl (a62 x) (b62 x) (b62b x) (b62n x) (b62s x) (b62h x) (f62 x) fun m hm=>(c62 x m).trans ((jzt6 hm).trans hy)
def xq62:Qk:=⟨q62,yq62⟩
def k26:Fc:=⟨26,[(.slc (.us 0)),(.slc (.us 5)),(.int .i64),(.us 6),(.int .i64)],[false,false,false,false,false],[(.slc (.us 11)),(.int .i64)],fun x=>MA x.1 x.2.1 x.2.2.1 x.2.2.2.1 x.2.2.2.2⟩
theorem yk26:Ao k26:=fOk [.k xk21,.k xk60,.k xk59,.k xk61,.q xq62,.s xs87] [] [(1,(.int .i64)),(5,(.us 10)),(6,(.us 11)),(7,(.us 11))] (.s .n (.s .n (.s .n (.s .n (.s (.s .n (.b none (.r [] ⟨.n,[(13,.ptr 2 0),(58,.k)],[(0,.gone),(2,.rown 7),(3,.gone),(4,.gone),(6,.gone),(7,.own (.us 11))]⟩ [] .n .n))) .n))))) func26
def xk26:Fk:=⟨k26,yk26⟩
theorem yk46:Ao k46:=fOk [] [] [] (.s .n (.s .n (.s .n (.s (.b none (.l [] ⟨.n,[(0,.k),(2,.k),(4,.k),(8,.k),(9,.v (.int .i64)),(10,.v (.int .i64))],[(0,.k)]⟩ [⟨(.x 0),[(0,.k),(2,.k),(4,.k),(8,.k),(9,.v (.int .i64))],[(0,.k)]⟩] .n)) .n)))) func46
def xk46:Fk:=⟨k46,yk46⟩
def xv49:Ck:=⟨v49,jzvy⟩
def k50:Fc:=⟨50,[(.us 0),(.us 0)],[false,false],[.bool],fun x=>Il x.1 x.2⟩
theorem yk50:Ao k50:=fOk [] [] [] .n func50
def xk50:Fk:=⟨k50,yk50⟩
theorem jzws:Ao k13d:=MB hEI [.k xk21,.k xk19,.k xk46,.k xk47,.c xv49,.k xk50] [] [(1,(.us 0))] .n func13 (by kernel_rfl) (by kernel_rfl) fun _=>by kernel_rfl
theorem yk13:Ao k13:=jzvv jzws yk21 yk19 yk46 yk47
def xk13:Fk:=⟨k13,yk13⟩
def k70:Fc:=⟨70,[],[],[(.us 6)],fun x=>Hf ⟩
theorem yk70:Ao k70:=fOk [] [] [] .n func70
def xk70:Fk:=⟨k70,yk70⟩
def xk93:Fk:=⟨k93,jzwc⟩
def k69:Fc:=⟨69,[(.sq 1),(.sq 1)],[false,false],[(.slc (.us 6))],fun x=>Kw x.1.g x.2.g⟩
theorem yk69:Ao k69:=fOk [.k xk93] [] [(1,(.us 6)),(2,(.us 6))] (.s .n (.s .n (.s .n (.s (.s .n (.b none (.l [] ⟨.n,[(5,.k),(6,.k),(7,.own 2),(8,.v (.int .i64)),(9,.v (.int .i64))],[(0,.gone),(1,.gone),(2,.own (.us 6))]⟩ [⟨(.x 0),[(7,.own 2)],[(0,.gone),(1,.gone),(2,.own (.us 6))]⟩] (.s .n (.b none (.s .n (.s (.s .n (.c (some [⟨.n,[(5,.k),(6,.k),(7,.own 2),(8,.k),(9,.k),(10,.k)],[(0,.k),(1,.gone),(2,.own (.us 6))]⟩]) .n .n)) (.s (.s .n (.c (some [⟨.n,[(5,.k),(6,.k),(7,.k),(8,.v (.int .i64)),(9,.k),(10,.k)],[(0,.k),(1,.gone),(2,.k)]⟩]) .n .n)) .n)))))))) .n)))) func69
def xk69:Fk:=⟨k69,yk69⟩
def k32:Fc:=⟨32,[(.slc (.us 0)),(.slc (.us 5)),(.us 0),(.int .i64)],[false,false,false,false],[(.slc (.us 6)),(.int .i64)],fun x=>KA x.1 x.2.1 x.2.2.1 x.2.2.2⟩
theorem yk32:Ao k32:=fOk [.k xk21,.k xk60,.k xk59,.k xk13,.k xk61,.k xk70,.q xq62,.k xk69,.s xs87] [] [(1,(.int .i64))] .n func32
def xk32:Fk:=⟨k32,yk32⟩
theorem yk74:Ao k74:=fOk [] [] [] (.s .n (.s .n (.s .n (.s (.b none (.l [] ⟨.n,[(0,.k),(2,.k),(4,.k),(8,.k),(9,.v (.int .i64)),(10,.v (.int .i64))],[(0,.k)]⟩ [⟨(.x 0),[(0,.k),(2,.k),(4,.k),(8,.k),(9,.v (.int .i64))],[(0,.k)]⟩] .n)) .n)))) func74
def xk74:Fk:=⟨k74,yk74⟩
def k115:Fc:=⟨115,[(.slc (.us 3)),(.slc (.us 3))],[false,false],[.bool],fun x=>PU x.1 x.2⟩
theorem jzj4:Ao k115:=fOk [] [] [] (.s .n (.s .n (.s (.s .n (.b none (.l [] ⟨.n,[(0,.k),(1,.k),(12,.k),(13,.v (.int .i64))],[]⟩ [⟨(.x 0),[],[]⟩,⟨.r,[(4,.v .bool)],[]⟩] .n))) .n))) func115
def jzio:Fk:=⟨k115,jzj4⟩
def k97:Fc:=⟨97,[(.us 4),(.us 4)],[false,false],[.bool],fun x=>Qf x.1 x.2⟩
theorem yk97:Ao k97:=fOk [.k jzio] [] [] .n func97
def xk97:Fk:=⟨k97,yk97⟩
def k76:Fc:=⟨76,[(.us 5),(.us 5)],[false,false],[.bool],fun x=>Mv x.1 x.2⟩
theorem yk76:Ao k76:=fOk [.k xk97] [] [] .n func76
def xk76:Fk:=⟨k76,yk76⟩
theorem jzw6:Ao k42d:=MB hEI [.k xk60,.k xk73,.k xk74,.k xk75,.k xk76] [] [] .n func42 (by kernel_rfl) (by kernel_rfl) fun _=>by kernel_rfl
theorem yk42:Ao k42:=jzv5 jzw6 yk60 yk73 yk74 yk75
def xk42:Fk:=⟨k42,yk42⟩
def k34:Fc:=⟨34,[(.slc (.us 0)),(.slc (.us 5)),(.us 5),(.int .i64)],[false,false,false,false],[(.slc (.us 6)),(.int .i64)],fun x=>KB x.1 x.2.1 x.2.2.1 x.2.2.2⟩
theorem yk34:Ao k34:=fOk [.k xk21,.k xk60,.k xk59,.k xk42,.k xk61,.k xk70,.q xq62,.k xk69,.s xs87] [] [(1,(.int .i64))] .n func34
def xk34:Fk:=⟨k34,yk34⟩
def k17:Fc:=⟨17,[(.slc (.us 0)),(.int .i64)],[false,false],[(.slc (.int .i64)),(.int .i64)],fun x=>VK x.1 x.2⟩
theorem yk17:Ao k17:=fOk [.k xk21,.m xm55,.o xo54] [] [(0,(.int .i64)),(10000,.bool)] (.s .n (.s .n (.s .n (.s (.s .n (.b none (.l [] ⟨.n,[(1,.k),(7,.mp 0),(16,.k),(17,.k),(18,.v (.int .i64))],[(0,.map (.int .i64) .bool),(1,.gone)]⟩ [⟨(.x 0),[(7,.mp 0)],[(0,.map (.int .i64) .bool),(1,.gone)]⟩] .n))) .n)))) func17
def xk17:Fk:=⟨k17,yk17⟩
def k29:Fc:=⟨29,[(.us 0),(.slc (.us 5)),(.int .i64)],[false,false,false],[(.us 6),(.int .i64)],fun x=>VM x.1 x.2.1 x.2.2⟩
theorem yk29:Ao k29:=fOk [.k xk19,.k xk60,.k xk61,.k xk67] [] [] .n func29
def xk29:Fk:=⟨k29,yk29⟩
def k15:Fc:=⟨15,[(.slc (.us 0)),(.slc (.us 0))],[false,false],[(.slc (.us 0)),(.int .i64)],fun x=>VJ x.1 x.2⟩
theorem yk15:Ao k15:=fOk [.k xk21,.k xk47,.k xk50] [(4,2),(7,2),(8,2),(9,2)] [(0,(.slc (.us 0))),(1,(.us 0)),(2,(.us 0)),(3,(.us 0)),(6,(.us 0))] (.s .n (.s (.s .n (.b none (.l [] ⟨.n,[(0,.k),(1,.k),(14,.k),(15,.k),(16,.v (.int .i64))],[(0,.k)]⟩ [⟨(.x 0),[(0,.k),(1,.k)],[(0,.k)]⟩,⟨.r,[(4,.v (.slc (.us 0))),(5,.v (.int .i64))],[(0,.gone),(1,.gone),(2,.gone),(3,.gone),(5,.gone),(6,.gone)]⟩] .n))) (.s .n (.s (.b none (.l [] ⟨.n,[(0,.v (.slc (.us 0))),(1,.v (.slc (.us 0))),(9,.own 2)],[(0,.gone),(1,.gone),(2,.own (.us 0)),(3,.gone),(5,.gone),(6,.gone)]⟩ [⟨(.x 2),[(0,.v (.slc (.us 0))),(1,.v (.slc (.us 0))),(9,.own 2)],[(0,.gone),(1,.gone),(2,.own (.us 0)),(3,.gone),(5,.gone),(6,.gone)]⟩,⟨.r,[(4,.v (.slc (.us 0))),(5,.v (.int .i64))],[(0,.gone),(1,.gone),(2,.gone),(3,.gone),(5,.gone),(6,.gone)]⟩] .n)) .n)))) func15
def xk15:Fk:=⟨k15,yk15⟩
def k23:Fc:=⟨23,[(.slc (.us 0)),(.slc (.us 0))],[false,false],[.bool],fun x=>VD x.1 x.2⟩
theorem yk23:Ao k23:=fOk [] [] [] (.s .n (.s .n (.s (.s .n (.b none (.l [] ⟨.n,[(0,.k),(1,.k),(5,.v (.int .i64))],[]⟩ [⟨(.x 0),[],[]⟩,⟨.r,[(4,.v .bool)],[]⟩] .n))) .n))) func23
def xk23:Fk:=⟨k23,yk23⟩
def k44:Fc:=⟨44,[(.int .i64),(.int .i64)],[false,false],[(.us 11)],fun x=>Hd x.1 x.2⟩
theorem yk44:Ao k44:=fOk [] [] [] .n func44
def xk44:Fk:=⟨k44,yk44⟩
def k45:Fc:=⟨45,[(.int .i64),(.int .i64),(.int .i64)],[false,false,false],[(.us 11)],fun x=>Gg x.1 x.2.1 x.2.2⟩
theorem yk45:Ao k45:=fOk [] [] [(1,(.us 10))] .n func45
def xk45:Fk:=⟨k45,yk45⟩
def k66:Fc:=⟨66,[(.slc (.us 10)),(.slc (.us 10))],[false,false],[.bool],fun x=>VG x.1 x.2⟩
theorem yk66:Ao k66:=fOk [] [] [] (.s .n (.s .n (.s (.s .n (.b none (.l [] ⟨.n,[(0,.k),(1,.k),(5,.v (.int .i64))],[]⟩ [⟨(.x 0),[],[]⟩,⟨.r,[(4,.v .bool)],[]⟩] .n))) .n))) func66
def xk66:Fk:=⟨k66,yk66⟩
def k28:Fc:=⟨28,[(.slc (.us 11)),(.slc (.us 11))],[false,false],[.bool],fun x=>Mq x.1 x.2⟩
theorem yk28:Ao k28:=fOk [.k xk66] [] [] (.s .n (.s .n (.s (.s .n (.b none (.l [] ⟨.n,[(0,.k),(1,.k),(5,.v (.int .i64))],[]⟩ [⟨(.x 0),[],[]⟩,⟨.r,[(4,.v .bool)],[]⟩] .n))) .n))) func28
def xk28:Fk:=⟨k28,yk28⟩
def k36:Fc:=⟨36,[(.slc (.us 6)),(.slc (.us 6))],[false,false],[.bool],fun x=>Hc x.1 x.2⟩
theorem yk36:Ao k36:=fOk [] [] [] (.s .n (.s .n (.s (.s .n (.b none (.l [] ⟨.n,[(0,.k),(1,.k),(5,.v (.int .i64))],[]⟩ [⟨(.x 0),[],[]⟩,⟨.r,[(4,.v .bool)],[]⟩] .n))) .n))) func36
def xk36:Fk:=⟨k36,yk36⟩
def k24:Fc:=⟨24,[(.slc (.int .i64)),(.slc (.int .i64))],[false,false],[.bool],fun x=>VE x.1 x.2⟩
theorem yk24:Ao k24:=fOk [] [] [] (.s .n (.s .n (.s (.s .n (.b none (.l [] ⟨.n,[(0,.k),(1,.k),(5,.v (.int .i64))],[]⟩ [⟨(.x 0),[],[]⟩,⟨.r,[(4,.v .bool)],[]⟩] .n))) .n))) func24
def xk24:Fk:=⟨k24,yk24⟩
def k12:Fc:=⟨12,[],[],[.bool],fun x=>KC ⟩
set_option maxRecDepth 100000 in
theorem u12:KC=some true:=by decide +kernel
theorem t12:funT [.k xk43,.k xk39,.k xk26,.k xk13,.k xk32,.k xk34,.k xk17,.k xk29,.k xk15,.k xk21,.k xk19,.k xk23,.k xk44,.k xk45,.k xk28,.k xk36,.k xk24] [(1,(.us 5)),(6,(.us 11)),(7,(.us 11)),(8,(.us 11)),(9,(.us 6)),(10,(.us 6)),(11,(.int .i64))] (cRs Tryz.prog Tryz.f12.results.toList) Tryz.f12.ntmps (cF Tryz.prog [] Tryz.f12) .n k12 ()=some true:=by kernel_rfl
theorem yk12:Ao k12:=MB hEI [.k xk43,.k xk39,.k xk26,.k xk13,.k xk32,.k xk34,.k xk17,.k xk29,.k xk15,.k xk21,.k xk19,.k xk23,.k xk44,.k xk45,.k xk28,.k xk36,.k xk24] [] [(1,(.us 5)),(6,(.us 11)),(7,(.us 11)),(8,(.us 11)),(9,(.us 6)),(10,(.us 6)),(11,(.int .i64))] .n func12 (by kernel_rfl) (by kernel_rfl) fun _=>t12.trans u12.symm
def xk12:Fk:=⟨k12,yk12⟩
def k20:Fc:=⟨20,[(.us 0)],[false],[.bool],fun x=>Ks x⟩
theorem yk20:Ao k20:=fOk [] [] [] .n func20
def xk20:Fk:=⟨k20,yk20⟩
def k53:Fc:=⟨53,[(.us 0),(.us 0)],[false,false],[.bool],fun x=>Kv x.1 x.2⟩
theorem yk53:Ao k53:=fOk [] [] [] .n func53
def xk53:Fk:=⟨k53,yk53⟩
def k22:Fc:=⟨22,[(.slc (.us 0))],[false],[(.int .i64)],fun x=>Ir x⟩
theorem yk22:Ao k22:=fOk [.k xk20,.k xk53] [] [] (.s .n (.s .n (.s (.s .n (.b none (.l [] ⟨.n,[(0,.k),(3,.v (.int .i64))],[]⟩ [⟨(.x 0),[],[]⟩,⟨.r,[(2,.v (.int .i64))],[]⟩] .n))) .n))) func22
def xk22:Fk:=⟨k22,yk22⟩
def k147:Fc:=⟨147,[.str],[false],[.str],fun x=>D1 x⟩
theorem jz1d:Ao k147:=fOk [] [] [] (.s .n (.s .n (.s (.b none (.l [] ⟨.n,[(0,.k),(3,.v (.int .i64))],[]⟩ [⟨(.x 0),[(0,.k),(3,.v (.int .i64))],[]⟩] .n)) .n))) func147
def I6:Fk:=⟨k147,jz1d⟩
def k140:Fc:=⟨140,[.str],[false],[.bool],fun x=>K3 x⟩
theorem jzip:Ao k140:=fOk [.k I6] [] [] .n func140
def jzc2:Fk:=⟨k140,jzip⟩
def k159:Fc:=⟨159,[.str,.str],[false,false],[(.int .i64)],fun x=>Ip x.1 x.2⟩
theorem jzk5:Ao k159:=fOk [.k I6] [] [] .n func159
def QE:Fk:=⟨k159,jzk5⟩
def k176:Fc:=⟨176,[.str,(.int .i64)],[false,false],[(.int .i64)],fun x=>F8 x.1 x.2⟩
theorem jzjk:Ao k176:=fOk [] [] [] .n func176
def QF:Fk:=⟨k176,jzjk⟩
def k177:Fc:=⟨177,[(.slc (.int .i64))],[false],[.str],fun x=>Iq x⟩
theorem jzkb:Ao k177:=fOk [.k I6] [] [(0,(.int .u8)),(1,(.int .u8))] (.s .n (.s .n (.s (.s .n (.b none (.l [] ⟨.n,[(0,.k),(3,.own 1),(4,.v (.int .i64))],[(0,.gone),(1,.own (.int .u8))]⟩ [⟨(.x 0),[(3,.own 1)],[(0,.gone),(1,.own (.int .u8))]⟩] .n))) .n))) func177
def QG:Fk:=⟨k177,jzkb⟩
def k160:Fc:=⟨160,[.str,.str],[false,false],[(.us 16)],fun x=>Is x.1 x.2⟩
theorem jzks:Ao k160:=fOk [.k QE,.k QF,.k QG] [] [(1,(.int .i64)),(2,(.int .i64))] (.s .n (.s .n (.s .n (.s .n (.s (.s .n (.b none (.l [] ⟨.n,[(0,.k),(1,.k),(4,.k),(5,.own 2),(6,.v (.int .i64)),(7,.v (.int .i64))],[(0,.k),(1,.gone),(2,.own (.int .i64))]⟩ [⟨(.x 0),[(4,.k),(5,.own 2)],[(0,.k),(1,.gone),(2,.own (.int .i64))]⟩] (.s .n (.s (.b none (.s .n (.s .n (.s (.s .n (.c (some [⟨.n,[(0,.k),(1,.k),(4,.k),(5,.k),(6,.v (.int .i64)),(7,.k),(8,.v (.int .i64))],[(0,.k),(1,.gone),(2,.k)]⟩]) .n .n)) .n)))) .n))))) .n))))) func160
def Wa:Fk:=⟨k160,jzks⟩
def k148:Fc:=⟨148,[.str,.str],[false,false],[(.us 15)],fun x=>Iu x.1 x.2⟩
theorem jz1g:Ao k148:=fOk [.k I6,.k QE,.k Wa] [] [(1,(.int .u8))] (.s .n (.s .n (.s .n (.s .n (.s (.s .n (.b none (.l [] ⟨.n,[(0,.k),(1,.k),(4,.k),(5,.v .str),(6,.v .str),(7,.v (.int .i64))],[(0,.k),(1,.gone)]⟩ [⟨(.x 0),[(4,.k),(5,.v .str),(6,.v .str)],[(0,.k),(1,.gone)]⟩] (.s .n (.s (.b none (.s .n (.s .n (.s (.b none (.l [] ⟨.n,[(0,.k),(1,.k),(4,.k),(5,.k),(6,.v .str),(7,.k),(8,.v (.int .i64))],[(0,.k),(1,.gone)]⟩ [⟨(.x 2),[(0,.k),(1,.k),(4,.k),(5,.k),(6,.v .str),(7,.k),(8,.v (.int .i64))],[(0,.k),(1,.gone)]⟩] .n)) .n)))) .n))))) .n))))) func148
def Wb:Fk:=⟨k148,jz1g⟩
def k141:Fc:=⟨141,[.str,.str],[false,false],[.str],fun x=>K7 x.1 x.2⟩
theorem jzjg:Ao k141:=fOk [.k I6,.k Wb] [] [] (.s .n (.s .n (.s .n (.s (.b none (.l [] ⟨.n,[(5,.v .str),(6,.v .str)],[]⟩ [⟨(.x 0),[(5,.v .str)],[]⟩] .n)) .n)))) func141
def Wd:Fk:=⟨k141,jzjg⟩
def k128:Fc:=⟨128,[(.us 2)],[false],[.bool],fun x=>K8 x⟩
theorem jz1l:Ao k128:=fOk [.k jzc2,.k Wd] [] [] .n func128
def We:Fk:=⟨k128,jz1l⟩
def k161:Fc:=⟨161,[(.us 2)],[false],[(.us 2)],fun x=>Iy x⟩
theorem jz1f:Ao k161:=fOk [.k We] [] [] .n func161
def Wf:Fk:=⟨k161,jz1f⟩
def k150:Fc:=⟨150,[(.us 2)],[false],[(.us 2)],fun x=>M1 x⟩
theorem jz1k:Ao k150:=fOk [.k Wf] [] [] .n func150
def jz1n:Fk:=⟨k150,jz1k⟩
def k162:Fc:=⟨162,[(.us 2)],[false],[.str,.str],fun x=>Ky x⟩
theorem jz1i:Ao k162:=fOk [] [] [] .n func162
def jz1j:Fk:=⟨k162,jz1i⟩
def k163:Fc:=⟨163,[.str,.str],[false,false],[.str],fun x=>It x.1 x.2⟩
theorem jzin:Ao k163:=fOk [.k QF,.k QG] [] [(0,(.int .i64))] (.s .n (.s .n (.s (.s .n (.b none (.l [] ⟨.n,[(0,.k),(1,.k),(5,.vec 0),(6,.v (.int .i64))],[(0,.vec (.int .i64))]⟩ [⟨(.x 0),[(5,.vec 0)],[(0,.vec (.int .i64))]⟩] (.s .n (.s (.b none (.s .n (.s .n (.b none (.l [] ⟨.n,[(0,.k),(1,.k),(5,.vec 0),(6,.k),(7,.v (.int .i64)),(8,.v (.int .i64))],[(0,.vec (.int .i64))]⟩ [⟨(.x 2),[(0,.k),(1,.k),(5,.vec 0),(6,.k)],[(0,.vec (.int .i64))]⟩] .n))))) .n))))) .n))) func163
def jzix:Fk:=⟨k163,jzin⟩
def k165:Fc:=⟨165,[.str,.str],[false,false],[.str],fun x=>Mt x.1 x.2⟩
theorem jzim:Ao k165:=fOk [.k QF,.k QG] [] [(0,(.int .i64)),(1,(.int .i64))] (.s .n (.s .n (.s .n (.s (.s .n (.b none (.l [] ⟨.n,[(0,.k),(1,.k),(5,.own 1),(6,.v (.int .i64)),(7,.v (.int .i64))],[(0,.gone),(1,.own (.int .i64))]⟩ [⟨(.x 0),[(5,.own 1)],[(0,.gone),(1,.own (.int .i64))]⟩] .n))) .n)))) func165
def jziu:Fk:=⟨k165,jzim⟩
def k164:Fc:=⟨164,[.bool,.str,.str],[false,false,false],[(.us 2)],fun x=>Ix x.1 x.2.1 x.2.2⟩
theorem jzj1:Ao k164:=fOk [.k I6,.k Wd,.k Wb] [] [] .n func164
def jzc6:Fk:=⟨k164,jzj1⟩
def k149:Fc:=⟨149,[(.us 2),(.us 2)],[false,false],[(.us 2)],fun x=>M0 x.1 x.2⟩
theorem jz1h:Ao k149:=fOk [.k Wf,.k jz1j,.k jzix,.k jziu,.k jzc6,.k QE,.k Wa] [] [] .n func149
def jz1e:Fk:=⟨k149,jz1h⟩
def k142:Fc:=⟨142,[(.us 2),(.us 2)],[false,false],[(.us 2)],fun x=>M2 x.1 x.2⟩
theorem jzka:Ao k142:=fOk [.k jz1n,.k jz1e] [] [] .n func142
def jze5:Fk:=⟨k142,jzka⟩
def k129:Fc:=⟨129,[(.us 2),(.us 2)],[false,false],[(.int .i64)],fun x=>M4 x.1 x.2⟩
theorem jz1m:Ao k129:=fOk [.k jze5] [] [] .n func129
def jz1o:Fk:=⟨k129,jz1m⟩
def k107:Fc:=⟨107,[(.us 4)],[false],[(.int .i64)],fun x=>M5 x⟩
theorem jziw:Ao k107:=fOk [.k We,.k jz1o] [] [] (.s .n (.s .n (.s (.s .n (.b none (.l [] ⟨.n,[(1,.k),(3,.v (.int .i64))],[(0,.k),(1,.gone)]⟩ [⟨(.x 0),[],[(0,.k),(1,.gone)]⟩,⟨.r,[(2,.v (.int .i64))],[(0,.gone),(1,.gone)]⟩] .n))) .n))) func107
def jzi8:Fk:=⟨k107,jziw⟩
def k88:Fc:=⟨88,[(.us 5)],[false],[.bool],fun x=>K9 x⟩
theorem yk88:Ao k88:=fOk [.k jzi8] [] [] .n func88
def xk88:Fk:=⟨k88,yk88⟩
def k89:Fc:=⟨89,[(.us 5),(.us 5)],[false,false],[.bool],fun x=>Io x.1 x.2⟩
theorem yk89:Ao k89:=fOk [] [] [] .n func89
def xk89:Fk:=⟨k89,yk89⟩
def k63:Fc:=⟨63,[(.slc (.us 5))],[false],[(.int .i64)],fun x=>Iz x⟩
theorem yk63:Ao k63:=fOk [.k xk88,.k xk89] [] [] (.s .n (.s .n (.s (.s .n (.b none (.l [] ⟨.n,[(0,.k),(3,.v (.int .i64))],[]⟩ [⟨(.x 0),[],[]⟩,⟨.r,[(2,.v (.int .i64))],[]⟩] .n))) .n))) func63
def xk63:Fk:=⟨k63,yk63⟩
def k51:Fc:=⟨51,[(.slc (.us 0)),(.us 0)],[false,false],[(.int .i64)],fun x=>Ku x.1 x.2⟩
theorem yk51:Ao k51:=fOk [] [] [] (.s .n (.s (.s .n (.b none (.l [] ⟨.n,[(0,.k),(3,.k),(5,.v (.int .i64))],[(0,.k)]⟩ [⟨(.x 0),[],[(0,.k)]⟩,⟨.r,[(4,.v (.int .i64))],[(0,.gone)]⟩] .n))) .n)) func51
def xk51:Fk:=⟨k51,yk51⟩
def k52:Fc:=⟨52,[(.us 0),(.us 0)],[false,false],[.bool],fun x=>Mh x.1 x.2⟩
theorem yk52:Ao k52:=fOk [] [] [] .n func52
def xk52:Fk:=⟨k52,yk52⟩
def k14:Fc:=⟨14,[(.slc (.us 0)),(.us 0)],[false,false],[(.us 17)],fun x=>F9 x.1 x.2⟩
theorem yk14:Ao k14:=fOk [.k xk22,.k xk20,.k xk51,.k xk52,.k xk53] [(7,5),(9,5)] [(2,(.us 0)),(3,(.us 0)),(4,(.us 0)),(5,(.us 0)),(6,(.us 0)),(8,(.us 0))] (.s .n (.s .n (.s .n (.s .n (.s .n (.s .n (.s .n (.s .n (.s .n (.s .n (.s (.s .n (.b none (.l [] ⟨.n,[(0,.k),(3,.k),(4,.k),(10,.own 5),(11,.v .bool),(12,.v (.int .i64))],[(0,.k),(1,.k),(4,.gone),(5,.own (.us 0)),(6,.gone)]⟩ [⟨(.x 0),[(3,.k),(4,.k),(10,.own 5),(11,.v .bool)],[(0,.k),(1,.k),(4,.gone),(5,.own (.us 0)),(6,.gone)]⟩] (.s .n (.s (.b none (.s .n (.s (.s .n (.c (some [⟨.n,[(0,.k),(3,.k),(4,.k),(10,.own 5),(11,.v .bool),(12,.k)],[(0,.k),(1,.k),(4,.gone),(5,.own (.us 0)),(6,.gone)]⟩]) .n .n)) .n))) .n))))) .n))))))))))) func14
def xk14:Fk:=⟨k14,yk14⟩
def k92:Fc:=⟨92,[(.slc (.us 5)),(.int .i64),(.int .i64),(.int .i64),(.int .i64)],[false,false,false,false,false],[(.int .i64)],fun x=>Mm x.1 x.2.1 x.2.2.1 x.2.2.2.1 x.2.2.2.2⟩
theorem yk92:Ao k92:=fOk [] [] [] (.s .n (.s .n (.s (.s .n (.b none (.l [] ⟨.n,[(0,.k),(1,.k),(2,.k),(3,.k),(4,.k),(11,.v (.int .i64)),(12,.v (.int .i64))],[(0,.gone)]⟩ [⟨(.x 0),[(11,.v (.int .i64))],[(0,.gone)]⟩] .n))) .n))) func92
def xk92:Fk:=⟨k92,yk92⟩
def k68:Fc:=⟨68,[(.us 0),(.slc (.us 5)),(.int .i64)],[false,false,false],[(.us 6)],fun x=>K0 x.1 x.2.1 x.2.2⟩
theorem yk68:Ao k68:=fOk [.k xk92] [] [] (.s .n (.s .n (.s .n (.s (.s .n (.c (some [⟨.n,[(3,.k),(6,.k),(7,.v (.int .i64))],[(0,.k),(1,.k)]⟩]) .n .n)) .n)))) func68
def xk68:Fk:=⟨k68,yk68⟩
def k56:Fc:=⟨56,[(.slc (.int .i64)),(.int .i64)],[false,false],[(.slc (.int .i64))],fun x=>Gi x.1 x.2⟩
theorem yk56:Ao k56:=fOk [] [(3,1),(5,1)] [(0,(.int .i64)),(1,(.int .i64)),(2,(.int .i64)),(4,(.int .i64))] (.s .n (.s .n (.s .n (.s (.s .n (.b none (.l [] ⟨.n,[(0,.k),(1,.k),(5,.own 1),(6,.v .bool),(7,.v (.int .i64))],[(0,.gone),(1,.own (.int .i64)),(2,.gone)]⟩ [⟨(.x 0),[(1,.k),(5,.own 1),(6,.v .bool)],[(0,.gone),(1,.own (.int .i64)),(2,.gone)]⟩] (.s .n (.s (.b none (.s (.s .n (.c (some [⟨.n,[(0,.k),(1,.k),(5,.own 1),(6,.v .bool),(7,.k)],[(0,.gone),(1,.own (.int .i64)),(2,.gone)]⟩]) .n .n)) .n)) .n))))) .n)))) func56
def xk56:Fk:=⟨k56,yk56⟩
def k64:Fc:=⟨64,[(.slc (.us 0)),(.slc (.us 5)),(.int .i64),(.us 6),(.int .i64)],[false,false,false,false,false],[(.slc (.int .i64))],fun x=>K4 x.1 x.2.1 x.2.2.1 x.2.2.2.1 x.2.2.2.2⟩
theorem yk64:Ao k64:=fOk [.k xk68,.k xk56] [] [(1,(.int .i64))] (.s .n (.s .n (.s (.s .n (.b none (.l [1] ⟨.n,[(0,.k),(1,.k),(2,.k),(4,.k),(8,.k),(11,.v (.slc (.int .i64))),(12,.v (.int .i64))],[(0,.k),(1,.gone),(2,.gone)]⟩ [⟨(.x 0),[(8,.k),(11,.v (.slc (.int .i64)))],[(0,.k),(1,.gone),(2,.gone)]⟩] (.s .n (.s (.b none (.s .n (.s (.s .n (.c (some [⟨.n,[(0,.k),(1,.k),(2,.k),(4,.k),(8,.k),(11,.v (.slc (.int .i64))),(12,.k),(13,.k)],[(0,.k),(1,.gone),(2,.k)]⟩]) .n .n)) .n))) .n))))) .n))) func64
def xk64:Fk:=⟨k64,yk64⟩
def k90:Fc:=⟨90,[(.slc (.us 0)),(.slc (.us 5)),(.int .i64),(.int .i64),(.int .i64)],[false,false,false,false,false],[(.int .i64)],fun x=>Qe x.1 x.2.1 x.2.2.1 x.2.2.2.1 x.2.2.2.2⟩
theorem yk90:Ao k90:=fOk [.k xk68] [] [] (.s .n (.s .n (.s (.s .n (.b none (.l [] ⟨.n,[(0,.k),(1,.k),(2,.k),(3,.k),(4,.k),(11,.v (.int .i64)),(12,.v (.int .i64))],[(0,.gone)]⟩ [⟨(.x 0),[(11,.v (.int .i64))],[(0,.gone)]⟩] .n))) .n))) func90
def xk90:Fk:=⟨k90,yk90⟩
def k65:Fc:=⟨65,[(.slc (.us 0)),(.slc (.us 5)),(.int .i64),(.int .i64),(.int .i64)],[false,false,false,false,false],[(.int .i64)],fun x=>K5 x.1 x.2.1 x.2.2.1 x.2.2.2.1 x.2.2.2.2⟩
theorem yk65:Ao k65:=fOk [.k xk90] [] [] .n func65
def xk65:Fk:=⟨k65,yk65⟩
def k71:Fc:=⟨71,[(.slc (.us 0)),(.slc (.us 5)),(.slc (.us 0)),(.slc (.us 5)),(.int .i64),(.int .i64)],[false,false,false,false,false,false],[(.slc (.us 6))],fun x=>K6 x.1 x.2.1 x.2.2.1 x.2.2.2.1 x.2.2.2.2.1 x.2.2.2.2.2⟩
theorem yk71:Ao k71:=fOk [.k xk64,.k xk56,.k xk65] [] [(1,(.us 6)),(2,(.us 6))] (.s .n (.s .n (.s .n (.s .n (.s (.s .n (.b none (.l [] ⟨.n,[(0,.k),(1,.k),(2,.k),(3,.k),(4,.k),(5,.k),(14,.v (.slc (.int .i64))),(15,.k),(16,.v (.int .i64))],[(0,.gone)]⟩ [⟨(.x 0),[(0,.k),(1,.k),(2,.k),(3,.k),(4,.k),(5,.k),(14,.v (.slc (.int .i64)))],[(0,.gone)]⟩] .n))) (.s .n (.s (.s .n (.b none (.l [] ⟨.n,[(0,.k),(1,.k),(2,.k),(3,.k),(4,.k),(5,.k),(14,.k),(17,.own 2),(18,.v (.int .i64))],[(0,.gone),(1,.gone),(2,.own (.us 6))]⟩ [⟨(.x 2),[(17,.own 2)],[(0,.gone),(1,.gone),(2,.own (.us 6))]⟩] .n))) .n))))))) func71
def xk71:Fk:=⟨k71,yk71⟩
def k33:Fc:=⟨33,[(.slc (.us 0)),(.slc (.us 5)),(.us 0),(.int .i64)],[false,false,false,false],[(.us 21)],fun x=>M7 x.1 x.2.1 x.2.2.1 x.2.2.2⟩
theorem yk33:Ao k33:=fOk [.k xk22,.k xk63,.k xk14,.k xk71] [] [] (.s .n (.s .n (.s (.s .n (.c (some [⟨.n,[(0,.k),(1,.k),(3,.k),(6,.k),(8,.k),(9,.v (.int .i64))],[(0,.k),(1,.k)]⟩]) .n .n)) .n))) func33
def xk33:Fk:=⟨k33,yk33⟩
def k111:Fc:=⟨111,[(.us 4),(.us 4)],[false,false],[.bool],fun x=>PS x.1 x.2⟩
theorem jz3m:Ao k111:=fOk [] [] [] (.s .n (.s .n (.s (.s .n (.b none (.l [] ⟨.n,[(2,.k),(3,.k),(5,.v (.int .i64))],[(0,.k),(1,.k)]⟩ [⟨(.x 0),[],[(0,.k),(1,.k)]⟩,⟨.r,[(4,.v .bool)],[(0,.gone),(1,.gone)]⟩] .n))) .n))) func111
def jz3n:Fk:=⟨k111,jz3m⟩
def k94:Fc:=⟨94,[(.us 5),(.us 5)],[false,false],[.bool],fun x=>Mr x.1 x.2⟩
theorem yk94:Ao k94:=fOk [.k jz3n] [] [] .n func94
def xk94:Fk:=⟨k94,yk94⟩
def k95:Fc:=⟨95,[(.slc (.us 5)),(.us 5)],[false,false],[(.slc (.us 5))],fun x=>Mn x.1 x.2⟩
theorem yk95:Ao k95:=fOk [.k xk89] [(4,2),(6,2)] [(1,(.us 5)),(2,(.us 5)),(3,(.us 5)),(5,(.us 5))] (.s .n (.s .n (.s .n (.s (.s .n (.b none (.l [] ⟨.n,[(0,.k),(3,.k),(5,.own 2),(6,.v .bool),(7,.v (.int .i64))],[(0,.k),(1,.gone),(2,.own (.us 5)),(3,.gone)]⟩ [⟨(.x 0),[(3,.k),(5,.own 2),(6,.v .bool)],[(0,.k),(1,.gone),(2,.own (.us 5)),(3,.gone)]⟩] (.s .n (.s (.b none (.s .n (.s .n (.s (.s .n (.c (some [⟨.n,[(0,.k),(3,.k),(5,.own 2),(6,.v .bool),(7,.k),(8,.k),(9,.k)],[(0,.k),(1,.gone),(2,.own (.us 5)),(3,.gone)]⟩]) .n .n)) .n)))) .n))))) .n)))) func95
def xk95:Fk:=⟨k95,yk95⟩
def k72:Fc:=⟨72,[(.slc (.us 5)),(.us 5)],[false,false],[(.us 19)],fun x=>M6 x.1 x.2⟩
theorem yk72:Ao k72:=fOk [.k xk63,.k xk88,.k xk94,.k xk95] [] [] (.s .n (.s .n (.s .n (.s .n (.s .n (.s (.s .n (.b none (.l [] ⟨.n,[(0,.k),(3,.k),(4,.k),(7,.v (.int .i64))],[(0,.k),(1,.k)]⟩ [⟨(.x 0),[(0,.k),(3,.k),(4,.k)],[(0,.k),(1,.k)]⟩,⟨.r,[(4,.ptr 1 0)],[(1,.box (.us 19)),(0,.gone)]⟩] .n))) .n)))))) func72
def xk72:Fk:=⟨k72,yk72⟩
def k35:Fc:=⟨35,[(.slc (.us 0)),(.slc (.us 5)),(.us 5),(.int .i64)],[false,false,false,false],[(.us 21)],fun x=>M8 x.1 x.2.1 x.2.2.1 x.2.2.2⟩
theorem yk35:Ao k35:=fOk [.k xk22,.k xk63,.k xk72,.k xk71] [] [] (.s .n (.s .n (.s (.s .n (.c (some [⟨.n,[(0,.k),(1,.k),(3,.k),(6,.k),(8,.k),(9,.v (.int .i64))],[(0,.k),(1,.k)]⟩]) .n .n)) .n))) func35
def xk35:Fk:=⟨k35,yk35⟩
def k5:Fc:=⟨5,[(.slc (.us 0)),(.slc (.us 5)),(.us 8)],[false,false,false],[.bool],fun x=>Q8 x.1 x.2.1 x.2.2⟩
theorem yk5:Ao k5:=fOk [.k xk31,.k xk25,.k xk12,.k xk32,.k xk33,.k xk34,.k xk35,.k xk36] [] [] .n func5
end
end Go.Am

