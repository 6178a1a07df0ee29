/- Part K1: contracts of the functions of this seat. No condition. -/
import Derived.Test.YtibbibelkkgfpaaGreatDoorC1
set_option linter.unusedVariables false
namespace Go.Am
noncomputable section
open Go.Proofs Go.Proofs.Tryz
theorem hEI:∀i,AE (TabT.E i):=fun _=>.top
theorem fOk(H:List Fe)(sm:List (Nat×Nat))(ty:List (Nat×CT))(h:HT){C:Fc}{fn:Func}(hf:TabT.P.funcs[C.f]?=some fn)(he:CY TabT.P C.f=true:=by kernel_rfl)(hc:ckF TabT.P sm fn C.a.length=true:=by kernel_rfl)(ht:∀x,funT H ty (cRs TabT.P fn.results.toList) fn.ntmps (cF TabT.P sm fn) h C x=C.F x:=by intro _;kernel_rfl):Ap C:=Zj hEI H sm ty h hf he hc ht
def k75:Fc:=⟨75,[(.us 1)],[false],[(.int .i64)],fun x=>Is x⟩
theorem yk75:Ap k75:=fOk [] [] [] (.s .n (.s .n (.s (.s .n (.b none (.l [] ⟨.n,[(1,.k),(3,.v (.int .i64))],[(0,.k),(1,.gone)]⟩ [⟨(.x 0),[(1,.k)],[(0,.k),(1,.gone)]⟩,⟨.r,[(2,.v (.int .i64))],[(0,.gone),(1,.gone)]⟩] .n))) (.s .n (.s (.s .n (.b none (.l [] ⟨.n,[(1,.k),(5,.v (.int .i64)),(6,.v (.int .i64))],[(0,.k),(1,.gone)]⟩ [⟨(.x 2),[(1,.k),(5,.v (.int .i64))],[(0,.k),(1,.gone)]⟩,⟨.r,[(2,.v (.int .i64))],[(0,.gone),(1,.gone)]⟩] .n))) .n))))) func75
def xk75:Fk:=⟨k75,yk75⟩
def k38:Fc:=⟨38,[(.slc (.us 1))],[false],[(.int .i64)],fun x=>Iv x⟩
theorem yk38:Ap k38:=fOk [.k xk75] [] [] (.s .n (.s .n (.s (.s .n (.b none (.l [] ⟨.n,[(0,.k),(3,.v (.int .i64))],[]⟩ [⟨(.x 0),[(0,.k)],[]⟩,⟨.r,[(2,.v (.int .i64))],[]⟩] .n))) .n))) func38
def xk38:Fk:=⟨k38,yk38⟩
def k39:Fc:=⟨39,[(.slc (.us 1)),(.int .i64),(.int .i64)],[false,false,false],[.bool],fun x=>Mu x.1 x.2.1 x.2.2⟩
theorem yk39:Ap k39:=fOk [.k xk38] [] [] (.s .n (.s .n (.s (.s .n (.b none (.l [] ⟨.n,[(0,.k),(2,.k),(7,.v (.int .i64))],[]⟩ [⟨(.x 0),[(0,.k),(2,.k)],[]⟩,⟨.r,[(6,.v .bool)],[]⟩] .n))) .n))) func39
def xk39:Fk:=⟨k39,yk39⟩
def k76:Fc:=⟨76,[(.us 4)],[false],[.bool],fun x=>Ka x⟩
theorem yk76:Ap k76:=fOk [] [] [] (.s .n (.s .n (.s (.s .n (.b none (.l [] ⟨.n,[(1,.k),(3,.v (.int .i64))],[(0,.k)]⟩ [⟨(.x 0),[],[(0,.k)]⟩,⟨.r,[(2,.v .bool)],[(0,.gone)]⟩] .n))) .n))) func76
def xk76:Fk:=⟨k76,yk76⟩
def k40:Fc:=⟨40,[(.slc (.us 5)),(.int .i64)],[false,false],[.bool],fun x=>Iw x.1 x.2⟩
theorem yk40:Ap k40:=fOk [.k xk76] [] [] (.s .n (.s .n (.s (.s .n (.b none (.l [] ⟨.n,[(0,.k),(5,.v (.int .i64))],[]⟩ [⟨(.x 0),[],[]⟩,⟨.r,[(4,.v .bool)],[]⟩] .n))) .n))) func40
def xk40:Fk:=⟨k40,yk40⟩
def k11:Fc:=⟨11,[(.slc (.us 1)),(.slc (.us 5)),(.int .i64)],[false,false,false],[.bool],fun x=>M4 x.1 x.2.1 x.2.2⟩
theorem yk11:Ap k11:=fOk [.k xk39,.k xk40] [] [] .n func11
def xk11:Fk:=⟨k11,yk11⟩
def k54:Fc:=⟨54,[(.us 1)],[false],[.bool],fun x=>FD x⟩
theorem yk54:Ap k54:=fOk [] [] [] .n func54
def xk54:Fk:=⟨k54,yk54⟩
def k55:Fc:=⟨55,[(.int .i64),(.int .i64),(.int .i64)],[false,false,false],[.bool],fun x=>FE x.1 x.2.1 x.2.2⟩
theorem yk55:Ap k55:=fOk [] [] [] .n func55
def xk55:Fk:=⟨k55,yk55⟩
def k80:Fc:=⟨80,[(.us 1)],[false],[(.int .i64)],fun x=>Kb x⟩
theorem yk80:Ap k80:=fOk [.k xk54,.k xk55] [] [] (.s .n (.s .n (.s .n (.s (.s .n (.b none (.l [] ⟨.n,[(1,.k),(41,.k),(42,.k),(43,.v (.int .i64))],[(0,.k),(1,.gone)]⟩ [⟨(.x 0),[(1,.k)],[(0,.k),(1,.gone)]⟩,⟨.r,[(2,.v (.int .i64))],[(0,.gone),(1,.gone),(2,.gone)]⟩] .n))) (.s .n (.s (.s .n (.b none (.l [] ⟨.n,[(1,.k),(5,.v (.int .i64)),(59,.k),(60,.k),(61,.v (.int .i64))],[(0,.k),(1,.gone),(2,.gone)]⟩ [⟨(.x 2),[(1,.k),(5,.v (.int .i64))],[(0,.k),(1,.gone),(2,.gone)]⟩,⟨.r,[(2,.v (.int .i64))],[(0,.gone),(1,.gone),(2,.gone)]⟩] .n))) .n)))))) func80
def xk80:Fk:=⟨k80,yk80⟩
def k43:Fc:=⟨43,[(.slc (.us 1))],[false],[(.int .i64)],fun x=>Kh x⟩
theorem yk43:Ap k43:=fOk [.k xk80] [] [] (.s .n (.s .n (.s (.s .n (.b none (.l [] ⟨.n,[(0,.k),(10,.k),(11,.k),(12,.v (.int .i64))],[(0,.gone)]⟩ [⟨(.x 0),[(0,.k)],[(0,.gone)]⟩,⟨.r,[(2,.v (.int .i64))],[(0,.gone)]⟩] .n))) .n))) func43
def xk43:Fk:=⟨k43,yk43⟩
def k60:Fc:=⟨60,[.str],[false],[.bool],fun x=>JZ x⟩
theorem yk60:Ap k60:=fOk [] [] [] .n func60
def xk60:Fk:=⟨k60,yk60⟩
def k178:Fc:=⟨178,[(.int .i64)],[false],[.bool],fun x=>Ke x⟩
theorem wzur:Ap k178:=fOk [] [] [] .n func178
def wzwl:Fk:=⟨k178,wzur⟩
def k161:Fc:=⟨161,[(.int .i64),(.int .i64)],[false,false],[(.int .i64)],fun x=>M2 x.1 x.2⟩
theorem wzu5:Ap k161:=fOk [.k wzwl] [] [] .n func161
def wzwc:Fk:=⟨k161,wzu5⟩
def k179:Fc:=⟨179,[(.int .u32)],[false],[.bool],fun x=>Kf x⟩
theorem wzwo:Ap k179:=fOk [] [] [] .n func179
def wzue:Fk:=⟨k179,wzwo⟩
def k162:Fc:=⟨162,[(.int .u32),(.int .u32)],[false,false],[(.int .i64)],fun x=>M3 x.1 x.2⟩
theorem wzvz:Ap k162:=fOk [.k wzue] [] [] .n func162
def wzwb:Fk:=⟨k162,wzvz⟩
def k136:Fc:=⟨136,[(.slc (.int .u32)),(.slc (.int .u32))],[false,false],[(.int .i64)],fun x=>yzf x.1 x.2⟩
theorem wzvh:Ap k136:=fOk [.k wzwc,.k wzwb] [] [] (.s .n (.s .n (.s (.s .n (.b none (.l [] ⟨.n,[(0,.k),(1,.k),(6,.v (.int .i64))],[]⟩ [⟨(.x 0),[],[]⟩,⟨.r,[(4,.v (.int .i64))],[]⟩] .n))) .n))) func136
def Q2:Fk:=⟨k136,wzvh⟩
def k138:Fc:=⟨138,[(.slc (.int .u32))],[false],[(.slc (.int .u32))],fun x=>GM x⟩
theorem wzww:Ap k138:=fOk [] [] [] (.s .n (.s (.b none (.l [] ⟨.n,[(0,.v (.slc (.int .u32)))],[]⟩ [⟨(.x 0),[(0,.v (.slc (.int .u32)))],[]⟩] .n)) .n)) func138
def GV:Fk:=⟨k138,wzww⟩
def k137:Fc:=⟨137,[(.slc (.int .u32)),(.int .u32)],[false,false],[(.slc (.int .u32)),(.int .u32)],fun x=>Ix x.1 x.2⟩
theorem wzv6:Ap k137:=fOk [.k GV] [] [(0,(.int .u32))] (.s .n (.s .n (.s (.s .n (.b none (.l [] ⟨.n,[(0,.k),(1,.k),(6,.vec 0),(7,.v (.int .u64)),(8,.v (.int .i64))],[(0,.vec (.int .u32))]⟩ [⟨(.x 0),[(6,.vec 0),(7,.v (.int .u64))],[(0,.vec (.int .u32))]⟩] .n))) .n))) func137
def Zk:Fk:=⟨k137,wzv6⟩
def k163:Fc:=⟨163,[(.slc (.int .u32)),(.int .i64)],[false,false],[(.int .u64)],fun x=>GN x.1 x.2⟩
theorem wzvp:Ap k163:=fOk [] [] [] .n func163
def Q3:Fk:=⟨k163,wzvp⟩
def k141:Fc:=⟨141,[(.slc (.int .u32)),(.slc (.int .u32))],[false,false],[(.slc (.int .u32))],fun x=>GP x.1 x.2⟩
theorem wzuh:Ap k141:=fOk [.k Q3,.k GV] [] [(0,(.int .u32))] (.s .n (.s .n (.s (.s .n (.b none (.l [] ⟨.n,[(1,.k),(5,.vec 0),(18,.k),(19,.k),(20,.v (.int .i64))],[(0,.vec (.int .u32))]⟩ [⟨(.x 0),[(5,.vec 0)],[(0,.vec (.int .u32))]⟩] (.s .n (.s .n (.s (.b none (.s .n (.s .n (.s .n (.b none (.l [] ⟨.n,[(1,.k),(5,.vec 0),(6,.k),(7,.k),(8,.v (.int .u64)),(9,.v (.int .i64)),(18,.k),(19,.k),(20,.k)],[(0,.vec (.int .u32))]⟩ [⟨(.x 2),[(1,.k),(5,.vec 0),(18,.k),(19,.k),(20,.k)],[(0,.vec (.int .u32))]⟩] .n)))))) .n)))))) .n))) func141
def Q4:Fk:=⟨k141,wzuh⟩
def k139:Fc:=⟨139,[(.slc (.int .u32)),(.int .i64)],[false,false],[(.slc (.int .u32))],fun x=>yze x.1 x.2⟩
theorem wzwg:Ap k139:=fOk [.k Zk,.k Q4] [] [(0,(.int .u32))] .n func139
def wzv2:Fk:=⟨k139,wzwg⟩
def wzuf:Ck:=⟨v140,wzpa⟩
def k142:Fc:=⟨142,[(.slc (.int .u32)),(.slc (.int .u32))],[false,false],[(.slc (.int .u32))],fun x=>GQ x.1 x.2⟩
theorem wzu0:Ap k142:=fOk [.k Q3,.k GV] [] [(0,(.int .u32)),(1,(.int .u32))] (.s .n (.s .n (.s .n (.s (.s .n (.b none (.l [] ⟨.n,[(0,.k),(1,.k),(5,.own 1),(6,.v (.int .u64)),(10,.k),(11,.v (.int .i64))],[(0,.gone),(1,.own (.int .u32))]⟩ [⟨(.x 0),[(5,.own 1)],[(0,.gone),(1,.own (.int .u32))]⟩] .n))) .n)))) func142
def Zl:Fk:=⟨k142,wzu0⟩
theorem Zm:Ap k103:=fOk [.k Q2,.k Zk,.k GV,.k wzv2,.c wzuf,.k Q4,.k Zl] [(2,657)] [(0,(.int .u32)),(1,(.int .u32)),(3,(.int .u32)),(4,(.int .u32)),(657,(.int .u32))] (.s .n (.s .n (.s .n (.s .n (.s (.b none (.l [] ⟨.n,[(0,.k),(1,.k),(8,.v (.int .i64))],[]⟩ [⟨(.x 0),[(0,.k),(1,.k),(8,.v (.int .i64))],[]⟩] .n)) (.s .n (.s .n (.s .n (.s .n (.s .n (.s (.s .n (.b none (.l [] ⟨.n,[(8,.k),(9,.k),(10,.vec 657),(11,.k),(12,.vec 3),(13,.v (.int .i64))],[(657,.vec (.int .u32)),(1,.gone),(3,.vec (.int .u32)),(762,.gone),(773,.gone)]⟩ [⟨(.x 2),[(8,.k),(10,.vec 657),(12,.vec 3)],[(657,.vec (.int .u32)),(1,.gone),(3,.vec (.int .u32)),(762,.gone),(773,.gone)]⟩] (.s .n (.s (.b none (.s .n (.s .n (.s .n (.s (.b none (.l [] ⟨.n,[(8,.k),(9,.k),(10,.k),(11,.k),(12,.k),(13,.k),(15,.v (.int .u64)),(16,.v (.int .u64))],[(657,.k),(1,.gone),(3,.k),(762,.gone),(773,.gone)]⟩ [⟨(.x 4),[(8,.k),(9,.k),(10,.k),(11,.k),(12,.k),(13,.k),(15,.v (.int .u64))],[(657,.k),(1,.gone),(3,.k),(762,.gone),(773,.gone)]⟩] .n)) (.s (.s .n (.c (some [⟨.n,[(8,.k),(9,.k),(10,.k),(11,.k),(12,.k),(13,.k),(15,.k)],[(657,.k),(1,.gone),(3,.k),(762,.gone),(773,.gone)]⟩,⟨(.x 3),[(8,.k),(9,.k),(10,.k),(11,.k),(12,.k),(13,.k)],[(657,.k),(1,.gone),(3,.k),(762,.gone),(773,.gone)]⟩]) .n .n)) (.s .n (.s .n (.s (.b none (.l [] ⟨.n,[(8,.k),(9,.k),(10,.k),(11,.k),(12,.k),(13,.k),(15,.v (.int .u64)),(17,.k),(18,.v (.slc (.int .u32)))],[(657,.k),(1,.gone),(3,.k),(762,.gone),(773,.gone)]⟩ [⟨(.x 6),[(8,.k),(9,.k),(10,.k),(11,.k),(12,.k),(13,.k),(15,.v (.int .u64)),(17,.k),(18,.v (.slc (.int .u32)))],[(657,.k),(1,.gone),(3,.k),(762,.gone),(773,.gone)]⟩] .n)) .n))))))))) .n))))) .n))))))))))) func103
def wzuq:Fk:=⟨k103,Zm⟩
theorem Zn:Ap k104:=fOk [.k GV] [] [(1,(.int .u32)),(2,(.int .u32))] (.s .n (.s .n (.s (.s .n (.b none (.l [] ⟨.n,[(0,.k),(3,.own 2),(4,.v (.int .i64))],[(0,.gone),(1,.gone),(2,.own (.int .u32))]⟩ [⟨(.x 0),[(3,.own 2)],[(0,.gone),(1,.gone),(2,.own (.int .u32))]⟩] (.s .n (.s (.b none (.s .n (.s (.s .n (.b none (.l [] ⟨.n,[(0,.k),(3,.k),(4,.k),(5,.v (.int .u32)),(20,.k),(21,.k),(22,.v (.int .i64))],[(0,.gone),(1,.gone),(2,.k)]⟩ [⟨(.x 2),[(0,.k),(3,.k),(4,.k),(5,.v (.int .u32))],[(0,.gone),(1,.gone),(2,.k)]⟩] .n))) .n))) .n))))) .n))) func104
def Ku:Fk:=⟨k104,Zn⟩
def wzvo:Wk:=⟨w143,wzqa⟩
def k180:Fc:=⟨180,[.str,(.int .u8)],[false,false],[.str],fun x=>Mr x.1 x.2⟩
theorem wzwu:Ap k180:=fOk [] [] [] (.s .n (.s (.b none (.l [] ⟨.n,[(0,.v .str),(1,.k)],[]⟩ [⟨(.x 0),[(0,.v .str)],[]⟩] .n)) .n)) func180
def wzu1:Fk:=⟨k180,wzwu⟩
def k164:Fc:=⟨164,[.str,.str],[false,false],[.str],fun x=>Qm x.1 x.2⟩
theorem wzvf:Ap k164:=fOk [.k wzu1] [] [] .n func164
def wzvt:Fk:=⟨k164,wzvf⟩
def k144:Fc:=⟨144,[.str],[false],[.str],fun x=>M7 x⟩
theorem wzun:Ap k144:=fOk [.k wzvt] [] [] .n func144
def wzum:Fk:=⟨k144,wzun⟩
theorem Zo:Ap k105:=fOk [.w wzvo,.k wzum] [] [(0,(.int .u8)),(1,(.int .u8))] (.s .n (.s .n (.s (.s .n (.b none (.l [] ⟨.n,[(3,.own 1),(6,.k),(7,.k),(8,.v (.int .i64))],[(0,.gone),(1,.own (.int .u8))]⟩ [⟨(.x 0),[(3,.own 1)],[(0,.gone),(1,.own (.int .u8))]⟩] .n))) .n))) func105
def Kv:Fk:=⟨k105,Zo⟩
def xk61:Fk:=⟨k61,wzrw Zm Zn Zo⟩
def k27:Fc:=⟨27,[(.us 2)],[false],[.bool],fun x=>I0 x⟩
theorem yk27:Ap k27:=fOk [.k xk60,.k xk61] [] [] .n func27
def xk27:Fk:=⟨k27,yk27⟩
def k150:Fc:=⟨150,[(.int .i64)],[false],[.bool],fun x=>PQ x⟩
theorem wzul:Ap k150:=fOk [] [] [] .n func150
def wzwy:Fk:=⟨k150,wzul⟩
def k151:Fc:=⟨151,[(.us 2)],[false],[.bool],fun x=>Qu x⟩
theorem wzvm:Ap k151:=fOk [.k xk27] [] [] .n func151
def wzvw:Fk:=⟨k151,wzvm⟩
def k56:Fc:=⟨56,[(.us 2)],[false],[(.us 11)],fun x=>Cp x⟩
theorem yk56:Ap k56:=fOk [.k xk27] [] [] .n func56
def xk56:Fk:=⟨k56,yk56⟩
def k106:Fc:=⟨106,[.str,.str],[false,false],[.str],fun x=>FG x.1 x.2⟩
theorem wzvu:Ap k106:=fOk [.k Ku,.k Q4,.k Kv] [] [] .n func106
def Zp:Fk:=⟨k106,wzvu⟩
def k145:Fc:=⟨145,[(.slc (.int .u32)),(.slc (.int .u32))],[false,false],[(.slc (.int .u32))],fun x=>Kk x.1 x.2⟩
theorem wzvg:Ap k145:=fOk [.k Q3,.k GV] [] [(0,(.int .u32)),(1,(.int .u32))] (.s .n (.s .n (.s .n (.s (.s .n (.b none (.l [] ⟨.n,[(0,.k),(1,.k),(5,.own 1),(6,.v (.int .u64)),(14,.k),(15,.v (.int .i64))],[(0,.gone),(1,.own (.int .u32))]⟩ [⟨(.x 0),[(5,.own 1)],[(0,.gone),(1,.own (.int .u32))]⟩] .n))) .n)))) func145
def wzvr:Fk:=⟨k145,wzvg⟩
def k107:Fc:=⟨107,[.str,.str],[false,false],[.str],fun x=>MA x.1 x.2⟩
theorem wzwj:Ap k107:=fOk [.k Ku,.k wzvr,.k Kv] [] [] .n func107
def wzu2:Fk:=⟨k107,wzwj⟩
def k108:Fc:=⟨108,[.str,.str],[false,false],[(.int .i64)],fun x=>MB x.1 x.2⟩
theorem wzv8:Ap k108:=fOk [.k Ku,.k Q2] [] [] .n func108
def wzwn:Fk:=⟨k108,wzv8⟩
def k109:Fc:=⟨109,[.str,.str],[false,false],[.str,(.int .i64)],fun x=>MC x.1 x.2⟩
theorem wzvl:Ap k109:=fOk [.k Ku,.k Q2,.k Zl,.k Kv] [] [] .n func109
def wzwi:Fk:=⟨k109,wzvl⟩
def k64:Fc:=⟨64,[(.us 11),(.us 11)],[false,false],[(.us 11)],fun x=>Kn x.1 x.2⟩
theorem yk64:Ap k64:=fOk [.k Zp,.k wzu2,.k wzwn,.k wzwi] [] [] (.s .n (.s .n (.s .n (.s (.s .n (.c (some [⟨.n,[(2,.ptr 0 0),(4,.k),(5,.v .str),(6,.v .str),(7,.k)],[(0,.box (.us 11)),(1,.gone),(2,.k)]⟩]) .n .n)) .n)))) func64
def xk64:Fk:=⟨k64,yk64⟩
def k57:Fc:=⟨57,[(.us 11),(.us 11)],[false,false],[(.us 11)],fun x=>I4 x.1 x.2⟩
theorem yk57:Ap k57:=fOk [.k xk64] [] [] .n func57
def xk57:Fk:=⟨k57,yk57⟩
theorem yk23:Ap k23:=fOk [.k xk56,.k xk57] [] [] .n func23
def xk23:Fk:=⟨k23,yk23⟩
def k116:Fc:=⟨116,[(.us 4)],[false],[(.int .i64)],fun x=>Ks x⟩
theorem wzwd:Ap k116:=fOk [.k wzwy,.k wzvw,.k xk23] [] [] (.s .n (.s .n (.s (.s .n (.b none (.l [] ⟨.n,[(1,.k),(16,.k),(17,.k),(18,.v (.int .i64))],[(0,.k),(1,.gone)]⟩ [⟨(.x 0),[],[(0,.k),(1,.gone)]⟩,⟨.r,[(2,.v (.int .i64))],[(0,.gone),(1,.gone)]⟩] .n))) .n))) func116
def Zq:Fk:=⟨k116,wzwd⟩
def k74:Fc:=⟨74,[(.us 5)],[false],[.bool],fun x=>Kt x⟩
theorem yk74:Ap k74:=fOk [.k xk27,.k Zq] [] [] .n func74
def xk74:Fk:=⟨k74,yk74⟩
theorem yk37:Ap k37:=fOk [.k xk74] [] [] (.s .n (.s .n (.s .n (.s (.s .n (.b none (.l [] ⟨.n,[(3,.v (.int .i64)),(9,.k),(10,.k),(11,.v (.int .i64))],[(0,.gone)]⟩ [⟨(.x 0),[],[(0,.gone)]⟩,⟨.r,[(2,.v (.int .i64))],[(0,.gone)]⟩] .n))) .n)))) func37
def xk37:Fk:=⟨k37,yk37⟩
def k13:Fc:=⟨13,[(.slc (.us 1)),(.slc (.us 5))],[false,false],[(.int .i64)],fun x=>GT x.1 x.2⟩
theorem yk13:Ap k13:=fOk [.k xk43,.k xk37] [] [] .n func13
def xk13:Fk:=⟨k13,yk13⟩
def k78:Fc:=⟨78,[(.int .i64)],[false],[.bool],fun x=>It x⟩
theorem yk78:Ap k78:=fOk [] [] [] .n func78
def xk78:Fk:=⟨k78,yk78⟩
def k117:Fc:=⟨117,[(.int .i64)],[false],[.str,(.int .i64)],fun x=>MD x⟩
theorem wzwv:Ap k117:=fOk [.k GV,.k Kv] [] [(0,(.int .u32))] .n func117
def wzu3:Fk:=⟨k117,wzwv⟩
def k79:Fc:=⟨79,[(.int .i64)],[false],[(.us 11)],fun x=>I3 x⟩
theorem yk79:Ap k79:=fOk [.k wzu3] [] [] .n func79
def xk79:Fk:=⟨k79,yk79⟩
def k101:Fc:=⟨101,[.str,.str],[false,false],[.str,.str,(.int .i64)],fun x=>Ko x.1 x.2⟩
theorem wzuv:Ap k101:=fOk [.k Ku,.k wzuq,.k Kv] [] [] .n func101
def wzv7:Fk:=⟨k101,wzuv⟩
def k59:Fc:=⟨59,[(.us 11)],[false],[(.us 2)],fun x=>yz1 x⟩
theorem yk59:Ap k59:=fOk [.k xk61,.k wzv7] [] [] .n func59
def xk59:Fk:=⟨k59,yk59⟩
theorem yk42:Ap k42:=fOk [.k xk78,.k xk79,.k xk59] [] [] .n func42
def xk42:Fk:=⟨k42,yk42⟩
def k77:Fc:=⟨77,[],[],[(.us 4)],fun x=>Qw ⟩
theorem yk77:Ap k77:=fOk [.k xk42] [] [(1,(.us 3))] .n func77
def xk77:Fk:=⟨k77,yk77⟩
def k41:Fc:=⟨41,[],[],[(.slc (.us 1)),(.slc (.us 5))],fun x=>qzod ⟩
theorem yk41:Ap k41:=fOk [.k xk42,.k xk77] [] [(0,(.us 0)),(1,(.us 1)),(2,(.us 5))] .n func41
def xk41:Fk:=⟨k41,yk41⟩
def k82:Fc:=⟨82,[(.int .i64),(.slc (.us 5)),(.us 1)],[false,true,true],[.bool],fun x=>Mk x.1 x.2.1 x.2.2⟩
theorem yk82:Ap k82:=fOk [] [] [] .n func82
def xk82:Fk:=⟨k82,yk82⟩
theorem yk81:Ap k81:=fOk [] [] [] (.s .n (.s .n (.s (.b none (.l [] ⟨.n,[(1,.k),(5,.v (.int .i64)),(6,.v (.int .i64))],[]⟩ [⟨(.x 0),[(5,.v (.int .i64))],[]⟩] .n)) .n))) func81
def xk81:Fk:=⟨k81,yk81⟩
theorem yk44:Ap k44:=fOk [.k xk82,.k xk81] [(5,3)] [(2,(.us 12)),(3,(.us 12)),(4,(.us 12))] (.s .n (.s .n (.s .n (.s (.s .n (.b none (.l [] ⟨.n,[(2,.k),(3,.k),(5,.own 3),(6,.v (.int .i64)),(7,.v (.int .i64))],[(0,.gone),(1,.gone),(2,.gone),(3,.own (.us 12))]⟩ [⟨(.x 0),[(5,.own 3),(6,.v (.int .i64))],[(0,.gone),(1,.gone),(2,.gone),(3,.own (.us 12))]⟩] .n))) .n)))) func44
def xk44:Fk:=⟨k44,yk44⟩
def k14:Fc:=⟨14,[(.slc (.us 1)),(.slc (.us 5)),(.int .i64)],[false,false,false],[(.slc (.us 12)),(.int .i64)],fun x=>qzjv x.1 x.2.1 x.2.2⟩
theorem yk14:Ap k14:=fOk [.k xk13,.k xk44] [] [] .n func14
def xk14:Fk:=⟨k14,yk14⟩
def k189:Fc:=⟨189,[(.int .i64),(.us 4),(.int .i64)],[false,true,true],[.bool],fun x=>Kg x.1 x.2.1 x.2.2⟩
theorem wzwm:Ap k189:=fOk [] [] [] .n func189
def wzui:Fk:=⟨k189,wzwm⟩
def k63:Fc:=⟨63,[(.us 11),(.us 11)],[false,false],[(.us 11)],fun x=>Km x.1 x.2⟩
theorem yk63:Ap k63:=fOk [.k Zp] [] [] .n func63
def xk63:Fk:=⟨k63,yk63⟩
def k195:Fc:=⟨195,[(.us 11),(.us 11)],[false,false],[(.us 11)],fun x=>MF x.1 x.2⟩
theorem wzv5:Ap k195:=fOk [.k xk63] [] [] .n func195
def wzua:Fk:=⟨k195,wzv5⟩
def k190:Fc:=⟨190,[(.int .i64),(.int .i64)],[false,false],[(.us 2),(.int .i64)],fun x=>Kp x.1 x.2⟩
theorem wzw3:Ap k190:=fOk [.k xk78,.k xk79,.k wzua,.k xk59] [] [] .n func190
def wzva:Fk:=⟨k190,wzw3⟩
def k62:Fc:=⟨62,[(.fn 4),(.us 2)],[false,false],[(.us 2)],fun x=>EV x.1.g x.2⟩
theorem yk62:Ap k62:=fOk [.k xk56,.k xk59] [] [] .n func62
def xk62:Fk:=⟨k62,yk62⟩
theorem Zr:Ap k111:=fOk [.k xk56,.k xk57,.k xk62] [] [] .n func111
def wzuk:Fk:=⟨k111,Zr⟩
theorem yk30:Ap k30:=fOk [.k xk56,.k xk63,.k xk62] [] [] .n func30
def xk30:Fk:=⟨k30,yk30⟩
theorem yk31:Ap k31:=fOk [.k xk56,.k xk64,.k xk62] [] [] .n func31
def xk31:Fk:=⟨k31,yk31⟩
def k177:Fc:=⟨177,[(.us 4),(.int .i64)],[false,false],[(.us 2)],fun x=>MG x.1 x.2⟩
theorem wzvk:Ap k177:=fOk [.k wzui,.k xk81,.k wzva,.k wzuk,.k xk30,.k xk31] [] [] .n func177
def wzwf:Fk:=⟨k177,wzvk⟩
def k160:Fc:=⟨160,[(.us 4),(.int .i64)],[false,false],[(.us 2)],fun x=>MI x.1 x.2⟩
theorem wzvi:Ap k160:=fOk [.k Zq,.k wzwf] [] [] .n func160
def wzv0:Fk:=⟨k160,wzvi⟩
theorem Zs:Ap k132:=fOk [.k wzv0,.k xk30] [] [] .n func132
def wzvq:Fk:=⟨k132,Zs⟩
def k92:Fc:=⟨92,[(.us 5),(.int .i64)],[false,false],[(.us 2),(.int .i64)],fun x=>MJ x.1 x.2⟩
theorem yk92:Ap k92:=fOk [.k xk74,.k wzvq] [] [] .n func92
def xk92:Fk:=⟨k92,yk92⟩
theorem yk93:Ap k93:=fOk [.k xk57,.k xk62] [] [] .n func93
def xk93:Fk:=⟨k93,yk93⟩
theorem yk91:Ap k91:=fOk [.k xk92,.k xk93] [] [] .n func91
theorem yk96:Ap k96:=fOk [] [] [] .n func96
def xk50:Fk:=⟨k50,wztu yk91 yk81 yk96 yk42 yk30 yk31 Zr yk23 yk44 yk93⟩
def k19:Fc:=⟨19,[(.slc (.us 1)),(.slc (.us 5))],[false,false],[(.us 2),(.us 6),(.int .i64)],fun x=>MK x.1 x.2⟩
theorem yk19:Ap k19:=fOk [.k xk13,.k xk50] [] [] .n func19
def xk19:Fk:=⟨k19,yk19⟩
def k20:Fc:=⟨20,[(.slc (.us 1)),(.slc (.us 5))],[false,false],[(.us 2),(.us 6),(.int .i64)],fun x=>ML x.1 x.2⟩
theorem yk20:Ap k20:=fOk [.k xk13,.k xk50] [] [] .n func20
def xk20:Fk:=⟨k20,yk20⟩
def k15:Fc:=⟨15,[(.slc (.us 1)),(.slc (.us 5))],[false,false],[(.us 19),(.int .i64)],fun x=>MM x.1 x.2⟩
theorem yk15:Ap k15:=fOk [.k xk19,.k xk20] [] [] .n func15
def xk15:Fk:=⟨k15,yk15⟩
def k133:Fc:=⟨133,[(.slc (.int .i64)),(.fn 1)],[false,false],[(.int .i64)],fun x=>Mm x.1 x.2.g⟩
theorem wzug:Ap k133:=fOk [] [] [] (.s .n (.s (.s .n (.b none (.l [] ⟨.n,[(0,.k),(1,.k),(7,.k),(8,.v (.int .i64))],[]⟩ [⟨(.x 0),[],[]⟩,⟨.r,[(4,.v (.int .i64))],[]⟩] .n))) .n)) func133
def wzwt:Fk:=⟨k133,wzug⟩
def k98:Fc:=⟨98,[(.slc (.int .i64)),(.fn 1)],[false,false],[.bool],fun x=>PZ x.1 x.2.g⟩
theorem yk98:Ap k98:=fOk [.k wzwt] [] [] .n func98
def xk98:Fk:=⟨k98,yk98⟩
def k99:Fc:=⟨99,[(.int .i64)],[false],[.bool],fun x=>PN x⟩
theorem yk99:Ap k99:=fOk [.k xk55] [] [] .n func99
def xk99:Fk:=⟨k99,yk99⟩
theorem yk53:Ap k53:=fOk [.k xk55,.k xk98,.k xk99] [] [] .n func53
def xk53:Fk:=⟨k53,yk53⟩
theorem yk67:Ap k67:=fOk [] [] [(1,(.us 0))] .n func67
def xk67:Fk:=⟨k67,yk67⟩
def k70:Fc:=⟨70,[(.us 1)],[false],[.bool],fun x=>Mh x⟩
theorem yk70:Ap k70:=fOk [] [] [] .n func70
def xk70:Fk:=⟨k70,yk70⟩
theorem yk68:Ap k68:=fOk [.k xk70,.k xk67,.k xk54] [] [] .n func68
def xk34:Fk:=⟨k34,wztl yk53 yk67 yk68⟩
def xk21:Fk:=⟨k21,wzs1 yk37 xk34.ok Zs yk42 yk30 yk31⟩
def k22:Fc:=⟨22,[(.slc (.us 1)),(.us 6)],[false,false],[.bool],fun x=>qzet x.1 x.2⟩
theorem yk22:Ap k22:=fOk [.k xk43,.k xk53,.k xk54,.k xk55] [] [(2,(.int .i64)),(10002,(.int .i64))] (.s .n (.s .n (.s .n (.s .n (.s (.s .n (.b none (.l [] ⟨.n,[(3,.k),(50,.k),(51,.k),(52,.v (.int .i64))],[(0,.k),(1,.gone),(2,.gone),(3,.gone)]⟩ [⟨(.x 0),[],[(0,.k),(1,.gone),(2,.gone),(3,.gone)]⟩,⟨.r,[(4,.v .bool)],[(0,.gone),(1,.gone),(2,.gone),(3,.gone)]⟩] (.s .n (.s .n (.s (.b none (.s .n (.s .n (.s (.s .n (.b none (.l [] ⟨.n,[(3,.k),(6,.k),(7,.mp 2),(50,.k),(51,.k),(52,.k),(58,.k),(59,.k),(60,.v (.int .i64))],[(0,.k),(1,.k),(2,.map (.int .i64) (.int .i64)),(3,.gone)]⟩ [⟨(.x 2),[(3,.k),(6,.k),(7,.mp 2),(50,.k),(51,.k),(52,.k)],[(0,.k),(1,.k),(2,.map (.int .i64) (.int .i64)),(3,.gone)]⟩] .n))) (.s .n (.b none (.l [] ⟨.n,[(3,.k),(6,.k),(7,.mp 2),(50,.k),(51,.k),(52,.k),(82,.k),(83,.k),(84,.v (.int .i64))],[(0,.k),(1,.k),(2,.map (.int .i64) (.int .i64)),(3,.gone)]⟩ [⟨(.x 4),[(3,.k),(50,.k),(51,.k),(52,.k)],[(0,.k),(1,.k),(2,.map (.int .i64) (.int .i64)),(3,.gone)]⟩,⟨.r,[(4,.v .bool)],[(0,.gone),(1,.gone),(2,.gone),(3,.gone)]⟩] .n))))))) .n)))))) .n))))) func22
def xk22:Fk:=⟨k22,yk22⟩
def k12:Fc:=⟨12,[],[],[.bool],fun x=>GU ⟩
set_option maxRecDepth 100000 in
theorem u12:GU=some true:=by decide +kernel
theorem t12:funT [.k xk41,.k xk14,.k xk19,.k xk20,.k xk15,.k xk34,.k xk21,.k xk42,.k xk22,.k xk13] [(5,(.int .i64))] (cRs Tryz.prog Tryz.f12.results.toList) Tryz.f12.ntmps (cF Tryz.prog [] Tryz.f12) .n k12 ()=some true:=by kernel_rfl
theorem yk12:Ap k12:=Zj hEI [.k xk41,.k xk14,.k xk19,.k xk20,.k xk15,.k xk34,.k xk21,.k xk42,.k xk22,.k xk13] [] [(5,(.int .i64))] .n func12 (by kernel_rfl) (by kernel_rfl) fun _=>t12.trans u12.symm
def xk12:Fk:=⟨k12,yk12⟩
def k35:Fc:=⟨35,[(.us 6)],[false],[.bool],fun x=>Mg x⟩
theorem yk35:Ap k35:=fOk [] [] [] (.s .n (.s .n (.s (.s .n (.b none (.l [] ⟨.n,[(1,.k),(3,.v (.int .i64))],[(0,.k)]⟩ [⟨(.x 0),[],[(0,.k)]⟩,⟨.r,[(2,.v .bool)],[(0,.gone)]⟩] .n))) .n))) func35
def xk35:Fk:=⟨k35,yk35⟩
def k134:Fc:=⟨134,[(.slc (.int .i64)),(.int .i64)],[false,false],[(.int .i64)],fun x=>Mo x.1 x.2⟩
theorem wz29:Ap k134:=fOk [] [] [] (.s .n (.s .n (.s (.s .n (.b none (.l [] ⟨.n,[(0,.k),(1,.k),(5,.v (.int .i64)),(6,.v (.int .i64))],[]⟩ [⟨(.x 0),[(5,.v (.int .i64))],[]⟩] .n))) .n))) func134
def wz28:Fk:=⟨k134,wz29⟩
def k135:Fc:=⟨135,[(.slc (.us 0)),(.int .i64)],[false,false],[(.int .i64)],fun x=>Mq x.1 x.2⟩
theorem wz24:Ap k135:=fOk [] [] [] (.s .n (.s (.s .n (.b none (.l [] ⟨.n,[(0,.k),(1,.k),(5,.v (.int .i64))],[]⟩ [⟨(.x 0),[],[]⟩,⟨.r,[(4,.v (.int .i64))],[]⟩] .n))) .n)) func135
def wz25:Fk:=⟨k135,wz24⟩
theorem wz2r:Ap k100:=fOk [.k xk35,.k xk38,.k wz28,.k wz25] [] [] (.s .n (.s .n (.s .n (.s .n (.s .n (.s (.s .n (.b none (.l [] ⟨.n,[(0,.k),(3,.k),(6,.v (.int .i64))],[(0,.k),(1,.gone)]⟩ [⟨(.x 0),[],[(0,.k),(1,.gone)]⟩,⟨.r,[(4,.v .bool)],[(0,.gone),(1,.gone)]⟩] (.s .n (.s (.b none (.s .n (.s .n (.s .n (.b none (.l [] ⟨.n,[(0,.k),(3,.k),(6,.k),(7,.k),(8,.k),(9,.v (.int .i64))],[(0,.k),(1,.k)]⟩ [⟨(.x 2),[(0,.k),(3,.k),(6,.k)],[(0,.k),(1,.k)]⟩,⟨.r,[(4,.v .bool)],[(0,.gone),(1,.gone)]⟩] .n)))))) .n))))) .n)))))) func100
def xk58:Fk:=⟨k58,wz23 wz2r⟩
def k24:Fc:=⟨24,[(.slc (.us 1)),(.int .i64)],[false,false],[(.slc (.us 6))],fun x=>M5 x.1 x.2⟩
theorem yk24:Ap k24:=fOk [.k xk58] [] [] (.s .n (.s .n (.s (.s .n (.c (some [⟨.n,[(0,.k),(1,.k),(5,.ptr 0 0)],[(0,.box (.us 6))]⟩]) .n .n)) .n))) func24
def xk24:Fk:=⟨k24,yk24⟩
def k25:Fc:=⟨25,[(.us 2),(.us 2)],[false,false],[(.us 2)],fun x=>Kq x.1 x.2⟩
theorem yk25:Ap k25:=fOk [.k xk23,.k xk56,.k xk59] [] [] .n func25
def xk25:Fk:=⟨k25,yk25⟩
def k26:Fc:=⟨26,[(.us 2),(.us 2)],[false,false],[(.us 2)],fun x=>Kr x.1 x.2⟩
theorem yk26:Ap k26:=fOk [.k xk23,.k xk56,.k xk59] [] [] .n func26
def xk26:Fk:=⟨k26,yk26⟩
def k6:Fc:=⟨6,[(.slc (.us 1)),(.slc (.us 5))],[false,false],[.bool],fun x=>Q1 x.1 x.2⟩
theorem yk6:Ap k6:=fOk [.k xk11,.k xk13,.k xk12,.k xk15,.k xk24,.k xk21,.k xk25,.k xk26] [] [] (.s .n (.s .n (.s (.s .n (.b none (.l [] ⟨.n,[(0,.k),(1,.k),(26,.k),(27,.k),(28,.v (.int .i64))],[(0,.gone)]⟩ [⟨(.x 0),[(0,.k),(1,.k)],[(0,.gone)]⟩,⟨.r,[(4,.v .bool)],[(0,.gone),(1,.gone),(2,.gone),(3,.gone),(4,.gone),(5,.gone)]⟩] .n))) (.s .n (.s .n (.s (.s .n (.b none (.l [] ⟨.n,[(1,.k),(7,.k),(8,.k),(9,.ptr 2 0),(10,.ptr 3 0),(62,.k),(63,.k),(64,.v (.int .i64))],[(0,.gone),(1,.k),(2,.box (.us 2)),(3,.box (.us 2)),(4,.gone),(5,.gone)]⟩ [⟨(.x 2),[(7,.k),(8,.k),(9,.ptr 2 0),(10,.ptr 3 0)],[(0,.gone),(1,.k),(2,.box (.us 2)),(3,.box (.us 2)),(4,.gone),(5,.gone)]⟩,⟨.r,[(4,.v .bool)],[(0,.gone),(1,.gone),(2,.gone),(3,.gone),(4,.gone),(5,.gone)]⟩] (.s .n (.s .n (.s (.b none (.s .n (.s .n (.s .n (.s (.s .n (.c (some [⟨.n,[(1,.k),(7,.k),(8,.k),(9,.ptr 2 0),(10,.ptr 3 0),(13,.k),(62,.k),(63,.k),(64,.k)],[(0,.gone),(1,.k),(2,.box (.us 2)),(3,.box (.us 2)),(4,.gone),(5,.k)]⟩]) .n .n)) .n))))) .n)))))) .n)))))) func6
end
end Go.Am

