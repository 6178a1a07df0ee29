/- Part K1: contracts of the functions of this seat. No condition. -/
import Derived.Test.YtomegmhiddbmbaaGreatDoorC6
set_option linter.unusedVariables false
namespace Go.Am
open Go.Proofs
theorem hEI:∀i,AC (TabT.E i):=fun _=>.top
theorem fOk(H:List Fe)(sm:List (Nat×Nat))(ty:List (Nat×CT))(h:HT){C:Fc}{fn:Func}(hf:TabT.P.funcs[C.f]?=some fn)(he:Ci TabT.P C.f=true:=by kernel_rfl)(hc:ckF TabT.P sm fn C.a.length=true:=by kernel_rfl)(ht:∀x,funT H ty (cRs TabT.P fn.results.toList) fn.ntmps (cF TabT.P sm fn) h C x=C.F x:=by intro _;kernel_rfl):Av C:=Y6 hEI H sm ty h hf he hc ht
def k68:Fc:=⟨68,[(.int .i64)],[false],[.bool],fun x=>yzy x⟩
theorem yk68:Av k68:=fOk [] [] [] .n (fn:=Tryz.f68) Tryz.func68
noncomputable def xk68:Fk:=⟨k68,yk68⟩
def k124:Fc:=⟨124,[(.slc (.int .u32))],[false],[(.slc (.int .u32))],fun x=>H7 x⟩
theorem jzkk:Av k124:=fOk [] [] [] (.s .n (.s (.b none (.l [] ⟨.n,[(0,.v (.slc (.int .u32)))],[]⟩ [⟨(.x 0),[(0,.v (.slc (.int .u32)))],[]⟩] .n)) .n)) (fn:=Tryz.f124) Tryz.func124
noncomputable def HF:Fk:=⟨k124,jzkk⟩
noncomputable def jzif:Wk:=⟨w162,jzg0⟩
def k180:Fc:=⟨180,[.str,(.int .u8)],[false,false],[.str],fun x=>jzz x.1 x.2⟩
theorem jzir:Av k180:=fOk [] [] [] (.s .n (.s (.b none (.l [] ⟨.n,[(0,.v .str),(1,.k)],[]⟩ [⟨(.x 0),[(0,.v .str)],[]⟩] .n)) .n)) (fn:=Tryz.f180) Tryz.func180
noncomputable def jzjn:Fk:=⟨k180,jzir⟩
def k176:Fc:=⟨176,[.str,.str],[false,false],[.str],fun x=>RI x.1 x.2⟩
theorem jzjk:Av k176:=fOk [.k jzjn] [] [] .n (fn:=Tryz.f176) Tryz.func176
noncomputable def jzic:Fk:=⟨k176,jzjk⟩
def k163:Fc:=⟨163,[.str],[false],[.str],fun x=>Oy x⟩
theorem jzin:Av k163:=fOk [.k jzic] [] [] .n (fn:=Tryz.f163) Tryz.func163
noncomputable def jzix:Fk:=⟨k163,jzin⟩
theorem Y8:Av k119:=fOk [.w jzif,.k jzix] [] [(0,(.int .u8)),(1,(.int .u8))] (.s .n (.s .n (.s (.s .n (.b none (.l [] ⟨.n,[(3,.own 1),(6,.k),(7,.k),(8,.v (.int .i64))],[(0,.gone),(1,.own (.int .u8))]⟩ [⟨(.x 0),[(3,.own 1)],[(0,.gone),(1,.own (.int .u8))]⟩] .n))) .n))) (fn:=Tryz.f119) Tryz.func119
noncomputable def M3:Fk:=⟨k119,Y8⟩
def k95:Fc:=⟨95,[(.int .i64)],[false],[.str,(.int .i64)],fun x=>O3 x⟩
theorem yk95:Av k95:=fOk [.k HF,.k M3] [] [(0,(.int .u32))] .n (fn:=Tryz.f95) Tryz.func95
noncomputable def xk95:Fk:=⟨k95,yk95⟩
def k69:Fc:=⟨69,[(.int .i64)],[false],[(.us 9)],fun x=>yzh x⟩
theorem yk69:Av k69:=fOk [.k xk95] [] [] .n (fn:=Tryz.f69) Tryz.func69
noncomputable def xk69:Fk:=⟨k69,yk69⟩
def k177:Fc:=⟨177,[(.int .i64)],[false],[.bool],fun x=>Mq x⟩
theorem jzkb:Av k177:=fOk [] [] [] .n (fn:=Tryz.f177) Tryz.func177
noncomputable def jzjx:Fk:=⟨k177,jzkb⟩
def k165:Fc:=⟨165,[(.int .i64),(.int .i64)],[false,false],[(.int .i64)],fun x=>Ov x.1 x.2⟩
theorem jzim:Av k165:=fOk [.k jzjx] [] [] .n (fn:=Tryz.f165) Tryz.func165
noncomputable def jziu:Fk:=⟨k165,jzim⟩
def k178:Fc:=⟨178,[(.int .u32)],[false],[.bool],fun x=>Mr x⟩
theorem jzi4:Av k178:=fOk [] [] [] .n (fn:=Tryz.f178) Tryz.func178
noncomputable def jzie:Fk:=⟨k178,jzi4⟩
def k166:Fc:=⟨166,[(.int .u32),(.int .u32)],[false,false],[(.int .i64)],fun x=>Ow x.1 x.2⟩
theorem jzj9:Av k166:=fOk [.k jzie] [] [] .n (fn:=Tryz.f166) Tryz.func166
noncomputable def jzkh:Fk:=⟨k166,jzj9⟩
def k122:Fc:=⟨122,[(.slc (.int .u32)),(.slc (.int .u32))],[false,false],[(.int .i64)],fun x=>RJ x.1 x.2⟩
theorem jzj6:Av k122:=fOk [.k jziu,.k jzkh] [] [] (.s .n (.s .n (.s (.s .n (.b none (.l [] ⟨.n,[(0,.k),(1,.k),(6,.v (.int .i64))],[]⟩ [⟨(.x 0),[],[]⟩,⟨.r,[(4,.v (.int .i64))],[]⟩] .n))) .n))) (fn:=Tryz.f122) Tryz.func122
noncomputable def Sf:Fk:=⟨k122,jzj6⟩
def k159:Fc:=⟨159,[(.slc (.int .u32)),(.int .u32)],[false,false],[(.slc (.int .u32)),(.int .u32)],fun x=>UN x.1 x.2⟩
theorem jzk5:Av k159:=fOk [.k HF] [] [(0,(.int .u32))] (.s .n (.s .n (.s (.s .n (.b none (.l [] ⟨.n,[(0,.k),(1,.k),(6,.vec 0),(7,.v (.int .u64)),(8,.v (.int .i64))],[(0,.vec (.int .u32))]⟩ [⟨(.x 0),[(6,.vec 0),(7,.v (.int .u64))],[(0,.vec (.int .u32))]⟩] .n))) .n))) (fn:=Tryz.f159) Tryz.func159
noncomputable def Y9:Fk:=⟨k159,jzk5⟩
def k164:Fc:=⟨164,[(.slc (.int .u32)),(.int .i64)],[false,false],[(.int .u64)],fun x=>R6 x.1 x.2⟩
theorem jzj1:Av k164:=fOk [] [] [] .n (fn:=Tryz.f164) Tryz.func164
noncomputable def Sg:Fk:=⟨k164,jzj1⟩
def k120:Fc:=⟨120,[(.slc (.int .u32)),(.slc (.int .u32))],[false,false],[(.slc (.int .u32))],fun x=>RC x.1 x.2⟩
theorem jzj0:Av k120:=fOk [.k Sg,.k HF] [] [(0,(.int .u32))] (.s .n (.s .n (.s (.s .n (.b none (.l [] ⟨.n,[(1,.k),(5,.vec 0),(18,.k),(19,.k),(20,.v (.int .i64))],[(0,.vec (.int .u32))]⟩ [⟨(.x 0),[(5,.vec 0)],[(0,.vec (.int .u32))]⟩] (.s .n (.s .n (.s (.b none (.s .n (.s .n (.s .n (.b none (.l [] ⟨.n,[(1,.k),(5,.vec 0),(6,.k),(7,.k),(8,.v (.int .u64)),(9,.v (.int .i64)),(18,.k),(19,.k),(20,.k)],[(0,.vec (.int .u32))]⟩ [⟨(.x 2),[(1,.k),(5,.vec 0),(18,.k),(19,.k),(20,.k)],[(0,.vec (.int .u32))]⟩] .n)))))) .n)))))) .n))) (fn:=Tryz.f120) Tryz.func120
noncomputable def Si:Fk:=⟨k120,jzj0⟩
def k160:Fc:=⟨160,[(.slc (.int .u32)),(.int .i64)],[false,false],[(.slc (.int .u32))],fun x=>Qt x.1 x.2⟩
theorem jzks:Av k160:=fOk [.k Y9,.k Si] [] [(0,(.int .u32))] .n (fn:=Tryz.f160) Tryz.func160
noncomputable def jzj2:Fk:=⟨k160,jzks⟩
noncomputable def jzk4:Ck:=⟨v161,jzhn⟩
def k123:Fc:=⟨123,[(.slc (.int .u32)),(.slc (.int .u32))],[false,false],[(.slc (.int .u32))],fun x=>RD x.1 x.2⟩
theorem jzih:Av k123:=fOk [.k Sg,.k HF] [] [(0,(.int .u32)),(1,(.int .u32))] (.s .n (.s .n (.s .n (.s (.s .n (.b none (.l [] ⟨.n,[(0,.k),(1,.k),(5,.own 1),(6,.v (.int .u64)),(10,.k),(11,.v (.int .i64))],[(0,.gone),(1,.own (.int .u32))]⟩ [⟨(.x 0),[(5,.own 1)],[(0,.gone),(1,.own (.int .u32))]⟩] .n))) .n)))) (fn:=Tryz.f123) Tryz.func123
noncomputable def YA:Fk:=⟨k123,jzih⟩
theorem YB:Av k117:=fOk [.k Sf,.k Y9,.k HF,.k jzj2,.c jzk4,.k Si,.k YA] [(2,657)] [(0,(.int .u32)),(1,(.int .u32)),(3,(.int .u32)),(4,(.int .u32)),(657,(.int .u32))] (.s .n (.s .n (.s .n (.s .n (.s (.b none (.l [] ⟨.n,[(0,.k),(1,.k),(8,.v (.int .i64))],[]⟩ [⟨(.x 0),[(0,.k),(1,.k),(8,.v (.int .i64))],[]⟩] .n)) (.s .n (.s .n (.s .n (.s .n (.s .n (.s (.s .n (.b none (.l [] ⟨.n,[(8,.k),(9,.k),(10,.vec 657),(11,.k),(12,.vec 3),(13,.v (.int .i64))],[(657,.vec (.int .u32)),(1,.gone),(3,.vec (.int .u32)),(762,.gone),(773,.gone)]⟩ [⟨(.x 2),[(8,.k),(10,.vec 657),(12,.vec 3)],[(657,.vec (.int .u32)),(1,.gone),(3,.vec (.int .u32)),(762,.gone),(773,.gone)]⟩] (.s .n (.s (.b none (.s .n (.s .n (.s .n (.s (.b none (.l [] ⟨.n,[(8,.k),(9,.k),(10,.k),(11,.k),(12,.k),(13,.k),(15,.v (.int .u64)),(16,.v (.int .u64))],[(657,.k),(1,.gone),(3,.k),(762,.gone),(773,.gone)]⟩ [⟨(.x 4),[(8,.k),(9,.k),(10,.k),(11,.k),(12,.k),(13,.k),(15,.v (.int .u64))],[(657,.k),(1,.gone),(3,.k),(762,.gone),(773,.gone)]⟩] .n)) (.s (.s .n (.c (some [⟨.n,[(8,.k),(9,.k),(10,.k),(11,.k),(12,.k),(13,.k),(15,.k)],[(657,.k),(1,.gone),(3,.k),(762,.gone),(773,.gone)]⟩,⟨(.x 3),[(8,.k),(9,.k),(10,.k),(11,.k),(12,.k),(13,.k)],[(657,.k),(1,.gone),(3,.k),(762,.gone),(773,.gone)]⟩]) .n .n)) (.s .n (.s .n (.s (.b none (.l [] ⟨.n,[(8,.k),(9,.k),(10,.k),(11,.k),(12,.k),(13,.k),(15,.v (.int .u64)),(17,.k),(18,.v (.slc (.int .u32)))],[(657,.k),(1,.gone),(3,.k),(762,.gone),(773,.gone)]⟩ [⟨(.x 6),[(8,.k),(9,.k),(10,.k),(11,.k),(12,.k),(13,.k),(15,.v (.int .u64)),(17,.k),(18,.v (.slc (.int .u32)))],[(657,.k),(1,.gone),(3,.k),(762,.gone),(773,.gone)]⟩] .n)) .n))))))))) .n))))) .n))))))))))) (fn:=Tryz.f117) Tryz.func117
noncomputable def jzke:Fk:=⟨k117,YB⟩
theorem YC:Av k118:=fOk [.k HF] [] [(1,(.int .u32)),(2,(.int .u32))] (.s .n (.s .n (.s (.s .n (.b none (.l [] ⟨.n,[(0,.k),(3,.own 2),(4,.v (.int .i64))],[(0,.gone),(1,.gone),(2,.own (.int .u32))]⟩ [⟨(.x 0),[(3,.own 2)],[(0,.gone),(1,.gone),(2,.own (.int .u32))]⟩] (.s .n (.s (.b none (.s .n (.s (.s .n (.b none (.l [] ⟨.n,[(0,.k),(3,.k),(4,.k),(5,.v (.int .u32)),(20,.k),(21,.k),(22,.v (.int .i64))],[(0,.gone),(1,.gone),(2,.k)]⟩ [⟨(.x 2),[(0,.k),(3,.k),(4,.k),(5,.v (.int .u32))],[(0,.gone),(1,.gone),(2,.k)]⟩] .n))) .n))) .n))))) .n))) (fn:=Tryz.f118) Tryz.func118
noncomputable def M4:Fk:=⟨k118,YC⟩
noncomputable def xk89:Fk:=⟨k89,jzhv YB YC Y8⟩
def k90:Fc:=⟨90,[.str,.str],[false,false],[.str,.str,(.int .i64)],fun x=>Mu x.1 x.2⟩
theorem yk90:Av k90:=fOk [.k M4,.k jzke,.k M3] [] [] .n (fn:=Tryz.f90) Tryz.func90
noncomputable def xk90:Fk:=⟨k90,yk90⟩
def k65:Fc:=⟨65,[(.us 9)],[false],[(.us 1)],fun x=>UP x⟩
theorem yk65:Av k65:=fOk [.k xk89,.k xk90] [] [] .n (fn:=Tryz.f65) Tryz.func65
noncomputable def xk65:Fk:=⟨k65,yk65⟩
theorem yk38:Av k38:=fOk [.k xk68,.k xk69,.k xk65] [] [] .n (fn:=Tryz.f38) Tryz.func38
noncomputable def xk38:Fk:=⟨k38,yk38⟩
def k42:Fc:=⟨42,[],[],[(.us 0),(.slc (.us 4))],fun x=>Y1 ⟩
theorem yk42:Av k42:=fOk [.k xk38] [] [(1,(.us 2)),(3,(.int .i64)),(4,(.us 4))] .n (fn:=Tryz.f42) Tryz.func42
noncomputable def xk42:Fk:=⟨k42,yk42⟩
def k103:Fc:=⟨103,[.str],[false],[.bool],fun x=>Mm x⟩
theorem jzkc:Av k103:=fOk [] [] [] .n (fn:=Tryz.f103) Tryz.func103
noncomputable def jzk0:Fk:=⟨k103,jzkc⟩
def k76:Fc:=⟨76,[(.us 1)],[false],[.bool],fun x=>yzs x⟩
theorem yk76:Av k76:=fOk [.k jzk0,.k xk89] [] [] .n (fn:=Tryz.f76) Tryz.func76
noncomputable def xk76:Fk:=⟨k76,yk76⟩
def k131:Fc:=⟨131,[(.int .i64)],[false],[.bool],fun x=>R3 x⟩
theorem jzk2:Av k131:=fOk [] [] [] .n (fn:=Tryz.f131) Tryz.func131
noncomputable def jzjs:Fk:=⟨k131,jzk2⟩
def k132:Fc:=⟨132,[(.us 1)],[false],[.bool],fun x=>RO x⟩
theorem jzkd:Av k132:=fOk [.k xk76] [] [] .n (fn:=Tryz.f132) Tryz.func132
noncomputable def jzkj:Fk:=⟨k132,jzkd⟩
def k62:Fc:=⟨62,[(.us 1)],[false],[(.us 9)],fun x=>O4 x⟩
theorem yk62:Av k62:=fOk [.k xk76] [] [] .n (fn:=Tryz.f62) Tryz.func62
noncomputable def xk62:Fk:=⟨k62,yk62⟩
def k91:Fc:=⟨91,[.str,.str],[false,false],[.str],fun x=>G0 x.1 x.2⟩
theorem yk91:Av k91:=fOk [.k M4,.k Si,.k M3] [] [] .n (fn:=Tryz.f91) Tryz.func91
noncomputable def xk91:Fk:=⟨k91,yk91⟩
def k121:Fc:=⟨121,[(.slc (.int .u32)),(.slc (.int .u32))],[false,false],[(.slc (.int .u32))],fun x=>Yy x.1 x.2⟩
theorem jzi9:Av k121:=fOk [.k Sg,.k HF] [] [(0,(.int .u32)),(1,(.int .u32))] (.s .n (.s .n (.s .n (.s (.s .n (.b none (.l [] ⟨.n,[(0,.k),(1,.k),(5,.own 1),(6,.v (.int .u64)),(14,.k),(15,.v (.int .i64))],[(0,.gone),(1,.own (.int .u32))]⟩ [⟨(.x 0),[(5,.own 1)],[(0,.gone),(1,.own (.int .u32))]⟩] .n))) .n)))) (fn:=Tryz.f121) Tryz.func121
noncomputable def jzi3:Fk:=⟨k121,jzi9⟩
def k92:Fc:=⟨92,[.str,.str],[false,false],[.str],fun x=>O1 x.1 x.2⟩
theorem yk92:Av k92:=fOk [.k M4,.k jzi3,.k M3] [] [] .n (fn:=Tryz.f92) Tryz.func92
noncomputable def xk92:Fk:=⟨k92,yk92⟩
def k93:Fc:=⟨93,[.str,.str],[false,false],[(.int .i64)],fun x=>Oz x.1 x.2⟩
theorem yk93:Av k93:=fOk [.k M4,.k Sf] [] [] .n (fn:=Tryz.f93) Tryz.func93
noncomputable def xk93:Fk:=⟨k93,yk93⟩
def k94:Fc:=⟨94,[.str,.str],[false,false],[.str,(.int .i64)],fun x=>O2 x.1 x.2⟩
theorem yk94:Av k94:=fOk [.k M4,.k Sf,.k YA,.k M3] [] [] .n (fn:=Tryz.f94) Tryz.func94
noncomputable def xk94:Fk:=⟨k94,yk94⟩
def k67:Fc:=⟨67,[(.us 9),(.us 9)],[false,false],[(.us 9)],fun x=>Yz x.1 x.2⟩
theorem yk67:Av k67:=fOk [.k xk91,.k xk92,.k xk93,.k xk94] [] [] (.s .n (.s .n (.s .n (.s (.s .n (.c (some [⟨.n,[(2,.ptr 0 0),(4,.k),(5,.v .str),(6,.v .str),(7,.k)],[(0,.box (.us 9)),(1,.gone),(2,.k)]⟩]) .n .n)) .n)))) (fn:=Tryz.f67) Tryz.func67
noncomputable def xk67:Fk:=⟨k67,yk67⟩
def k63:Fc:=⟨63,[(.us 9),(.us 9)],[false,false],[(.us 9)],fun x=>Y3 x.1 x.2⟩
theorem yk63:Av k63:=fOk [.k xk67] [] [] .n (fn:=Tryz.f63) Tryz.func63
noncomputable def xk63:Fk:=⟨k63,yk63⟩
def k33:Fc:=⟨33,[(.us 1),(.us 1)],[false,false],[(.int .i64)],fun x=>HD x.1 x.2⟩
theorem yk33:Av k33:=fOk [.k xk62,.k xk63] [] [] .n (fn:=Tryz.f33) Tryz.func33
noncomputable def xk33:Fk:=⟨k33,yk33⟩
def k104:Fc:=⟨104,[(.us 3)],[false],[(.int .i64)],fun x=>Mx x⟩
theorem jzki:Av k104:=fOk [.k jzjs,.k jzkj,.k xk33] [] [] (.s .n (.s .n (.s (.s .n (.b none (.l [] ⟨.n,[(1,.k),(16,.k),(17,.k),(18,.v (.int .i64))],[(0,.k),(1,.gone)]⟩ [⟨(.x 0),[],[(0,.k),(1,.gone)]⟩,⟨.r,[(2,.v (.int .i64))],[(0,.gone),(1,.gone)]⟩] .n))) .n))) (fn:=Tryz.f104) Tryz.func104
noncomputable def YD:Fk:=⟨k104,jzki⟩
def k88:Fc:=⟨88,[(.us 4)],[false],[.bool],fun x=>O7 x⟩
theorem yk88:Av k88:=fOk [.k xk76,.k YD] [] [] .n (fn:=Tryz.f88) Tryz.func88
noncomputable def xk88:Fk:=⟨k88,yk88⟩
theorem yk64:Av k64:=fOk [.k xk88] [] [] (.s .n (.s .n (.s .n (.s (.s .n (.b none (.l [] ⟨.n,[(3,.v (.int .i64)),(9,.k),(10,.k),(11,.v (.int .i64))],[(0,.gone)]⟩ [⟨(.x 0),[],[(0,.gone)]⟩,⟨.r,[(2,.v (.int .i64))],[(0,.gone)]⟩] .n))) .n)))) (fn:=Tryz.f64) Tryz.func64
noncomputable def xk64:Fk:=⟨k64,yk64⟩
def k101:Fc:=⟨101,[(.int .i64)],[false],[.bool],fun x=>Ry x⟩
theorem jzky:Av k101:=fOk [] [] [] .n (fn:=Tryz.f101) Tryz.func101
noncomputable def jzkp:Fk:=⟨k101,jzky⟩
def k130:Fc:=⟨130,[(.slc (.int .i64)),(.fn 3)],[false,false],[(.int .i64)],fun x=>Om x.1 x.2.g⟩
theorem jziy:Av k130:=fOk [] [] [] (.s .n (.s (.s .n (.b none (.l [] ⟨.n,[(0,.k),(1,.k),(7,.k),(8,.v (.int .i64))],[]⟩ [⟨(.x 0),[],[]⟩,⟨.r,[(4,.v (.int .i64))],[]⟩] .n))) .n)) (fn:=Tryz.f130) Tryz.func130
noncomputable def jzkx:Fk:=⟨k130,jziy⟩
def k102:Fc:=⟨102,[(.slc (.int .i64)),(.fn 3)],[false,false],[.bool],fun x=>Yx x.1 x.2.g⟩
theorem jzkn:Av k102:=fOk [.k jzkx] [] [] .n (fn:=Tryz.f102) Tryz.func102
noncomputable def YE:Fk:=⟨k102,jzkn⟩
def k75:Fc:=⟨75,[(.us 0)],[false],[.bool],fun x=>Ox x⟩
theorem yk75:Av k75:=fOk [.k jzkp,.k YE] [] [] .n (fn:=Tryz.f75) Tryz.func75
noncomputable def xk75:Fk:=⟨k75,yk75⟩
def k44:Fc:=⟨44,[(.us 0),(.slc (.us 4)),(.us 1)],[false,false,false],[(.int .i64)],fun x=>G3 x.1 x.2.1 x.2.2⟩
theorem yk44:Av k44:=fOk [.k xk64,.k xk75,.k xk76] [] [] (.s .n (.s .n (.s .n (.s (.s .n (.b none (.l [] ⟨.n,[(3,.k),(5,.k),(18,.k),(19,.k),(20,.v (.int .i64))],[(0,.k),(1,.k),(2,.gone)]⟩ [⟨(.x 0),[(5,.k)],[(0,.k),(1,.k),(2,.gone)]⟩,⟨.r,[(6,.v (.int .i64))],[(0,.gone),(1,.gone),(2,.gone)]⟩] .n))) .n)))) (fn:=Tryz.f44) Tryz.func44
noncomputable def xk44:Fk:=⟨k44,yk44⟩
def k134:Fc:=⟨134,[(.int .i64),(.us 3),(.int .i64)],[false,true,true],[.bool],fun x=>Mn x.1 x.2.1 x.2.2⟩
theorem jzk9:Av k134:=fOk [] [] [] .n (fn:=Tryz.f134) Tryz.func134
noncomputable def jzit:Fk:=⟨k134,jzk9⟩
def k133:Fc:=⟨133,[(.int .i64),(.fn 3)],[false,false],[(.int .i64)],fun x=>On x.1 x.2.g⟩
theorem jzi2:Av k133:=fOk [] [] [] (.s .n (.s .n (.s (.b none (.l [] ⟨.n,[(1,.k),(5,.v (.int .i64)),(6,.v (.int .i64))],[]⟩ [⟨(.x 0),[(5,.v (.int .i64))],[]⟩] .n)) .n))) (fn:=Tryz.f133) Tryz.func133
noncomputable def jzji:Fk:=⟨k133,jzi2⟩
def k73:Fc:=⟨73,[(.us 9),(.us 9)],[false,false],[(.us 9)],fun x=>Y0 x.1 x.2⟩
theorem yk73:Av k73:=fOk [.k xk91] [] [] .n (fn:=Tryz.f73) Tryz.func73
noncomputable def xk73:Fk:=⟨k73,yk73⟩
def k167:Fc:=⟨167,[(.us 9),(.us 9)],[false,false],[(.us 9)],fun x=>wz4 x.1 x.2⟩
theorem jzj8:Av k167:=fOk [.k xk73] [] [] .n (fn:=Tryz.f167) Tryz.func167
noncomputable def jzk6:Fk:=⟨k167,jzj8⟩
def k135:Fc:=⟨135,[(.int .i64),(.int .i64)],[false,false],[(.us 1),(.int .i64)],fun x=>Mv x.1 x.2⟩
theorem jzkm:Av k135:=fOk [.k xk68,.k xk69,.k jzk6,.k xk65] [] [] .n (fn:=Tryz.f135) Tryz.func135
noncomputable def jzib:Fk:=⟨k135,jzkm⟩
def k66:Fc:=⟨66,[(.fn 5),(.us 1)],[false,false],[(.us 1)],fun x=>HB x.1.g x.2⟩
theorem yk66:Av k66:=fOk [.k xk62,.k xk65] [] [] .n (fn:=Tryz.f66) Tryz.func66
noncomputable def xk66:Fk:=⟨k66,yk66⟩
def k136:Fc:=⟨136,[(.us 1),(.us 1)],[false,false],[(.us 1)],fun x=>Mw x.1 x.2⟩
theorem jzk7:Av k136:=fOk [.k xk62,.k xk63,.k xk66] [] [] .n (fn:=Tryz.f136) Tryz.func136
noncomputable def jzkg:Fk:=⟨k136,jzk7⟩
theorem yk40:Av k40:=fOk [.k xk62,.k xk73,.k xk66] [] [] .n (fn:=Tryz.f40) Tryz.func40
noncomputable def xk40:Fk:=⟨k40,yk40⟩
theorem yk37:Av k37:=fOk [.k xk62,.k xk67,.k xk66] [] [] .n (fn:=Tryz.f37) Tryz.func37
noncomputable def xk37:Fk:=⟨k37,yk37⟩
def k105:Fc:=⟨105,[(.us 3),(.int .i64)],[false,false],[(.us 1)],fun x=>O6 x.1 x.2⟩
theorem jzkf:Av k105:=fOk [.k jzit,.k jzji,.k jzib,.k jzkg,.k xk40,.k xk37] [] [] .n (fn:=Tryz.f105) Tryz.func105
noncomputable def jzja:Fk:=⟨k105,jzkf⟩
def k78:Fc:=⟨78,[(.us 3),(.int .i64)],[false,false],[(.us 1)],fun x=>My x.1 x.2⟩
theorem yk78:Av k78:=fOk [.k YD,.k jzja] [] [] .n (fn:=Tryz.f78) Tryz.func78
noncomputable def xk78:Fk:=⟨k78,yk78⟩
def s77:Sc:=⟨77,[(.slc (.us 4)),(.us 0)],[true,true],1,fun x st=>G2 x.1 x.2 st⟩
theorem ys77:ScOk s77:=jzgn [.k xk78] [] [(1001,(.int .i64)),(11001,(.us 1))] (.s .n (.b none (.l [] ⟨.n,[(0,.k),(2,.k),(11,.k),(12,.k),(13,.v (.int .i64))],[(1000,.gone),(1001,.gone),(1002,.gone),(1899,.out 1 false)]⟩ [⟨(.x 0),[],[(1000,.gone),(1001,.gone),(1002,.gone),(1899,.out 1 false)]⟩,⟨.r,[],[(1899,.out 1 true),(1000,.gone),(1001,.gone),(1002,.gone)]⟩] (.s .n (.s .n (.s (.b none (.s .n (.s .n (.s .n (.b none (.l [] ⟨.n,[(0,.k),(2,.k),(5,.k),(6,.mp 1001),(7,.v (.int .i64)),(11,.k),(12,.k),(13,.k)],[(1000,.k),(1001,.map (.int .i64) (.us 1)),(1002,.gone),(1899,.out 1 false)]⟩ [⟨(.x 2),[(0,.k),(2,.k),(11,.k),(12,.k),(13,.k)],[(1000,.k),(1001,.map (.int .i64) (.us 1)),(1002,.gone),(1899,.out 1 false)]⟩,⟨.r,[],[(1899,.out 1 true),(1000,.gone),(1001,.gone),(1002,.gone)]⟩] (.s .n (.s (.b none (.s .n (.s .n (.s (.s .n (.c (some [⟨.n,[(0,.k),(2,.k),(5,.k),(6,.mp 1001),(7,.k),(9,.ptr 1002 0),(11,.k),(12,.k),(13,.k)],[(1000,.k),(1001,.map (.int .i64) (.us 1)),(1002,.box (.us 1)),(1899,.k)]⟩]) .n .n)) .n)))) .n)))))))) .n)))))) (fn:=Tryz.f77) Tryz.func77 (by kernel_rfl) (by kernel_rfl) fun _ _=>by kernel_rfl
noncomputable def xs77:Sk:=⟨s77,ys77⟩
noncomputable def q45:Qc:=⟨45,[(.us 0),(.slc (.us 4))],[false,false],xs77,fun x=>EH x.1 x.2⟩
theorem yq45:QcOk q45:=jzee hEI [.s xs77] [] [] .n (fn:=Tryz.f45) Tryz.func45 (by kernel_rfl) (by kernel_rfl) fun _=>by kernel_rfl
noncomputable def xq45:Qk:=⟨q45,yq45⟩
def k13:Fc:=⟨13,[(.us 0),(.slc (.us 4))],[false,false],[(.slc (.us 1)),(.int .i64)],fun x=>M0 x.1 x.2⟩
theorem yk13:Av k13:=fOk [.k xk44,.q xq45,.s xs77] [] [(3,(.us 1)),(4,(.us 1))] (.s .n (.s .n (.s .n (.s (.s .n (.b none (.r [] ⟨.n,[(7,.ptr 1 0),(19,.k)],[(0,.gone),(1,.rown 4),(2,.gone),(3,.gone),(4,.own (.us 1))]⟩ [] .n .n))) .n)))) (fn:=Tryz.f13) Tryz.func13
noncomputable def xk13:Fk:=⟨k13,yk13⟩
def k82:Fc:=⟨82,[(.sq 1),(.fn 2)],[false,false],[(.int .i64),(.us 1),.bool],fun x=>Rw x.1.g (fun a0 a1=>x.2.g (a0,a1))⟩
theorem yk82:Av k82:=fOk [] [] [] (.s .n (.s (.s .n (.b none (.r [] ⟨.n,[(3,.k),(4,.ptr 1 0),(5,.ptr 2 0),(6,.ptr 3 0),(9,.k)],[(0,.k),(1,.box (.int .i64)),(2,.box (.us 1)),(3,.box .bool),(4,.gone)]⟩ [] .n .n))) .n)) (fn:=Tryz.f82) Tryz.func82
noncomputable def xk82:Fk:=⟨k82,yk82⟩
def k48:Fc:=⟨48,[(.us 0),(.slc (.us 4)),(.fn 2)],[false,false,false],[(.us 16),(.int .i64)],fun x=>Mz x.1 x.2.1 (fun a0 a1=>x.2.2.g (a0,a1))⟩
theorem yk48:Av k48:=fOk [.k xk44,.q xq45,.k xk82,.s xs77] [] [] .n (fn:=Tryz.f48) Tryz.func48
noncomputable def xk48:Fk:=⟨k48,yk48⟩
def k49:Fc:=⟨49,[(.us 1),(.us 1)],[false,false],[.bool],fun x=>RS x.1 x.2⟩
theorem yk49:Av k49:=fOk [.k xk33] [] [] .n (fn:=Tryz.f49) Tryz.func49
noncomputable def xk49:Fk:=⟨k49,yk49⟩
def k15:Fc:=⟨15,[(.us 0),(.slc (.us 4))],[false,false],[(.us 16),(.int .i64)],fun x=>M1 x.1 x.2⟩
theorem yk15:Av k15:=fOk [.k xk48,.k xk49] [] [] .n (fn:=Tryz.f15) Tryz.func15
noncomputable def xk15:Fk:=⟨k15,yk15⟩
def k51:Fc:=⟨51,[(.us 1),(.us 1)],[false,false],[.bool],fun x=>RT x.1 x.2⟩
theorem yk51:Av k51:=fOk [.k xk33] [] [] .n (fn:=Tryz.f51) Tryz.func51
noncomputable def xk51:Fk:=⟨k51,yk51⟩
def k17:Fc:=⟨17,[(.us 0),(.slc (.us 4))],[false,false],[(.us 16),(.int .i64)],fun x=>M2 x.1 x.2⟩
theorem yk17:Av k17:=fOk [.k xk48,.k xk51] [] [] .n (fn:=Tryz.f17) Tryz.func17
noncomputable def xk17:Fk:=⟨k17,yk17⟩
def k19:Fc:=⟨19,[(.us 0),(.slc (.us 4)),(.us 1)],[false,false,false],[(.int .i64),(.int .i64)],fun x=>HE x.1 x.2.1 x.2.2⟩
theorem yk19:Av k19:=fOk [.k xk44,.q xq45,.k xk33,.s xs77] [] [] (.s .n (.s .n (.s .n (.s (.s .n (.b none (.r [] ⟨.n,[(5,.k),(9,.ptr 2 0),(21,.k)],[(0,.gone),(1,.k),(2,.box (.int .i64)),(3,.gone)]⟩ [] .n .n))) .n)))) (fn:=Tryz.f19) Tryz.func19
noncomputable def xk19:Fk:=⟨k19,yk19⟩
def k155:Fc:=⟨155,[(.int .u32)],[false],[(.int .i64)],fun x=>jza8 x⟩
theorem jzjb:Av k155:=fOk [] [] [] (.s .n (.s (.s .n (.c (some [⟨.n,[(0,.v (.int .u32)),(2,.v (.int .i64))],[]⟩]) .n .n)) .n)) (fn:=Tryz.f155) Tryz.func155
noncomputable def jzjo:Fk:=⟨k155,jzjb⟩
def k156:Fc:=⟨156,[(.int .u64)],[false],[(.int .i64)],fun x=>Yw x⟩
theorem jzi1:Av k156:=fOk [] [] [] (.s .n (.s (.s .n (.c (some [⟨.n,[(0,.v (.int .u64)),(2,.v (.int .i64))],[]⟩]) .n .n)) (.s (.s .n (.c (some [⟨.n,[(0,.v (.int .u64)),(2,.v (.int .i64))],[]⟩]) .n .n)) .n))) (fn:=Tryz.f156) Tryz.func156
noncomputable def jzjr:Fk:=⟨k156,jzi1⟩
theorem jzfj:Av k113:=fOk [.k jzjo,.k jzjr] [] [] .n (fn:=Tryz.f113) Tryz.func113
noncomputable def xo56:Ok1:=⟨o56,jzhz jzfj⟩
def k58:Fc:=⟨58,[(.us 1),(.us 1)],[false,false],[(.int .i64)],fun x=>RU x.1 x.2⟩
theorem yk58:Av k58:=fOk [.k xk33] [] [] .n (fn:=Tryz.f58) Tryz.func58
noncomputable def xk58:Fk:=⟨k58,yk58⟩
def k24:Fc:=⟨24,[(.us 0),(.slc (.us 4))],[false,false],[(.slc (.us 7)),(.int .i64)],fun x=>IZ x.1 x.2⟩
theorem yk24:Av k24:=fOk [.k xk44,.q xq45,.m xm57,.o xo56,.k xk58,.s xs77] [] [(1,(.us 1)),(5,(.us 7)),(6,(.us 7)),(10001,(.int .i64))] (.s .n (.s .n (.s .n (.s (.s .n (.b none (.r [] ⟨.n,[(7,.ptr 2 0),(24,.k)],[(0,.gone),(1,.map (.us 1) (.int .i64)),(2,.rmp 1),(3,.gone)]⟩ [] .n .n))) (.s .n (.s .n (.s (.s .n (.b none (.l [] ⟨.n,[(7,.k),(10,.own 6),(11,.v (.int .i64)),(35,.k),(36,.k),(37,.v (.int .i64))],[(0,.gone),(1,.k),(2,.k),(3,.gone),(4,.gone),(5,.gone),(6,.own (.us 7))]⟩ [⟨(.x 2),[(10,.own 6)],[(0,.gone),(1,.k),(2,.k),(3,.gone),(4,.gone),(5,.gone),(6,.own (.us 7))]⟩] .n))) .n))))))) (fn:=Tryz.f24) Tryz.func24
noncomputable def xk24:Fk:=⟨k24,yk24⟩
def k54:Fc:=⟨54,[(.us 7),(.int .i64)],[false,true],[.bool],fun x=>Oh x.1 x.2⟩
theorem yk54:Av k54:=fOk [] [] [] .n (fn:=Tryz.f54) Tryz.func54
noncomputable def xk54:Fk:=⟨k54,yk54⟩
def k53:Fc:=⟨53,[(.slc (.us 7)),(.fn 0)],[false,false],[(.int .i64)],fun x=>Og x.1 x.2.g⟩
theorem yk53:Av k53:=fOk [] [] [] (.s .n (.s (.s .n (.b none (.l [] ⟨.n,[(0,.k),(1,.k),(7,.k),(8,.v (.int .i64))],[]⟩ [⟨(.x 0),[],[]⟩,⟨.r,[(4,.v (.int .i64))],[]⟩] .n))) .n)) (fn:=Tryz.f53) Tryz.func53
noncomputable def xk53:Fk:=⟨k53,yk53⟩
def k21:Fc:=⟨21,[(.us 0),(.slc (.us 4)),(.int .i64)],[false,false,false],[(.us 1),(.int .i64)],fun x=>Ja x.1 x.2.1 x.2.2⟩
theorem yk21:Av k21:=fOk [.k xk24,.k xk54,.k xk53] [] [] .n (fn:=Tryz.f21) Tryz.func21
noncomputable def xk21:Fk:=⟨k21,yk21⟩
def k26:Fc:=⟨26,[(.us 0),(.slc (.us 4)),(.us 1)],[false,false,false],[(.slc (.us 8)),(.int .i64)],fun x=>OB x.1 x.2.1 x.2.2⟩
theorem yk26:Av k26:=fOk [.k xk44,.q xq45,.k xk33,.s xs77] [] [(4,(.us 8)),(5,(.us 8))] (.s .n (.s .n (.s .n (.s (.s .n (.b none (.r [] ⟨.n,[(5,.k),(9,.ptr 2 0),(22,.k)],[(0,.gone),(1,.k),(2,.rown 5),(3,.gone),(4,.gone),(5,.own (.us 8))]⟩ [] .n (.b none (.s (.s .n (.c (some [⟨.n,[(5,.k),(9,.k),(10,.k),(22,.k)],[(0,.gone),(1,.k),(2,.k),(3,.gone),(4,.gone),(5,.k)]⟩,⟨(.x 1),[(5,.k),(9,.k),(22,.k)],[(0,.gone),(1,.k),(2,.k),(3,.gone),(4,.gone),(5,.k)]⟩]) .n .n)) .n))))) .n)))) (fn:=Tryz.f26) Tryz.func26
noncomputable def xk26:Fk:=⟨k26,yk26⟩
def k28:Fc:=⟨28,[(.us 5),(.us 5),(.int .i64)],[false,false,false],[(.int .i64),(.int .i64)],fun x=>Y5 x.1 x.2.1 x.2.2⟩
theorem yk28:Av k28:=fOk [.k xk26] [] [] (.s .n (.s .n (.s .n (.s .n (.s .n (.s .n (.s .n (.s (.b none (.l [] ⟨.n,[(2,.k),(8,.v (.slc (.us 8))),(10,.v (.slc (.us 8))),(11,.v (.int .i64))],[(0,.gone),(1,.gone)]⟩ [⟨(.x 0),[(11,.v (.int .i64))],[(0,.gone),(1,.gone)]⟩] .n)) .n)))))))) (fn:=Tryz.f28) Tryz.func28
noncomputable def xk28:Fk:=⟨k28,yk28⟩
def k43:Fc:=⟨43,[(.slc (.int .i64))],[false],[(.slc (.us 1))],fun x=>Y2 x⟩
theorem yk43:Av k43:=fOk [.k xk38] [] [(0,(.us 1)),(1,(.us 1))] (.s .n (.s .n (.s (.s .n (.b none (.l [] ⟨.n,[(3,.own 1),(6,.k),(7,.k),(8,.v (.int .i64))],[(0,.gone),(1,.own (.us 1))]⟩ [⟨(.x 0),[(3,.own 1)],[(0,.gone),(1,.own (.us 1))]⟩] .n))) .n))) (fn:=Tryz.f43) Tryz.func43
noncomputable def xk43:Fk:=⟨k43,yk43⟩
def k23:Fc:=⟨23,[(.slc (.us 1)),(.slc (.us 1))],[false,false],[.bool],fun x=>Yt x.1 x.2⟩
theorem yk23:Av k23:=fOk [] [] [] (.s .n (.s .n (.s (.s .n (.b none (.l [] ⟨.n,[(0,.k),(1,.k),(5,.v (.int .i64))],[]⟩ [⟨(.x 0),[],[]⟩,⟨.r,[(4,.v .bool)],[]⟩] .n))) .n))) (fn:=Tryz.f23) Tryz.func23
noncomputable def xk23:Fk:=⟨k23,yk23⟩
def k30:Fc:=⟨30,[(.slc (.us 7)),(.slc (.us 7))],[false,false],[.bool],fun x=>Yu x.1 x.2⟩
theorem yk30:Av k30:=fOk [] [] [] (.s .n (.s .n (.s (.s .n (.b none (.l [] ⟨.n,[(0,.k),(1,.k),(5,.v (.int .i64))],[]⟩ [⟨(.x 0),[],[]⟩,⟨.r,[(4,.v .bool)],[]⟩] .n))) .n))) (fn:=Tryz.f30) Tryz.func30
noncomputable def xk30:Fk:=⟨k30,yk30⟩
def k31:Fc:=⟨31,[(.slc (.us 8)),(.slc (.us 8))],[false,false],[.bool],fun x=>Yv x.1 x.2⟩
theorem yk31:Av k31:=fOk [] [] [] (.s .n (.s .n (.s (.s .n (.b none (.l [] ⟨.n,[(0,.k),(1,.k),(5,.v (.int .i64))],[]⟩ [⟨(.x 0),[],[]⟩,⟨.r,[(4,.v .bool)],[]⟩] .n))) .n))) (fn:=Tryz.f31) Tryz.func31
noncomputable def xk31:Fk:=⟨k31,yk31⟩
def k12:Fc:=⟨12,[],[],[.bool],fun x=>G4 ⟩
set_option maxRecDepth 100000 in
theorem u12:G4=some true:=by decide +kernel
theorem t12:funT [.k xk42,.k xk13,.k xk15,.k xk17,.k xk38,.k xk19,.k xk21,.k xk24,.k xk26,.k xk28,.k xk43,.k xk23,.k xk33,.k xk30,.k xk31] [(5,(.int .i64)),(6,(.us 7)),(7,(.us 8))] (cRs Tryz.prog Tryz.f12.results.toList) Tryz.f12.ntmps (cF Tryz.prog [] Tryz.f12) .n k12 ()=some true:=by kernel_rfl
theorem yk12:Av k12:=Y6 hEI [.k xk42,.k xk13,.k xk15,.k xk17,.k xk38,.k xk19,.k xk21,.k xk24,.k xk26,.k xk28,.k xk43,.k xk23,.k xk33,.k xk30,.k xk31] [] [(5,(.int .i64)),(6,(.us 7)),(7,(.us 8))] .n (fn:=Tryz.f12) Tryz.func12 (by kernel_rfl) (by kernel_rfl) fun _=>t12.trans u12.symm
noncomputable def xk12:Fk:=⟨k12,yk12⟩
def k32:Fc:=⟨32,[(.slc (.us 4))],[false],[(.int .i64)],fun x=>Of x⟩
theorem yk32:Av k32:=fOk [] [] [] (.s .n (.s .n (.s (.s .n (.b none (.l [] ⟨.n,[(3,.v (.int .i64)),(6,.k),(7,.k),(8,.v (.int .i64))],[(0,.gone)]⟩ [⟨(.x 0),[(3,.v (.int .i64))],[(0,.gone)]⟩] .n))) .n))) (fn:=Tryz.f32) Tryz.func32
noncomputable def xk32:Fk:=⟨k32,yk32⟩
def k125:Fc:=⟨125,[(.int .i64),(.int .i64),(.int .i64)],[false,false,false],[.bool],fun x=>Oi x.1 x.2.1 x.2.2⟩
theorem kzb2:Av k125:=fOk [] [] [] .n (fn:=Tryz.f125) Tryz.func125
noncomputable def YF:Fk:=⟨k125,kzb2⟩
def k126:Fc:=⟨126,[(.int .i64)],[false],[.bool],fun x=>Rz x⟩
theorem jzwf:Av k126:=fOk [.k YF] [] [] .n (fn:=Tryz.f126) Tryz.func126
noncomputable def jzwh:Fk:=⟨k126,jzwf⟩
theorem yk96:Av k96:=fOk [.k YF,.k YE,.k jzwh] [] [] .n (fn:=Tryz.f96) Tryz.func96
theorem yk97:Av k97:=fOk [] [] [(1,(.us 11))] .n (fn:=Tryz.f97) Tryz.func97
noncomputable def xk97:Fk:=⟨k97,yk97⟩
def k127:Fc:=⟨127,[(.us 12)],[false],[.bool],fun x=>Oj x⟩
theorem jzwl:Av k127:=fOk [] [] [] .n (fn:=Tryz.f127) Tryz.func127
noncomputable def jzwt:Fk:=⟨k127,jzwl⟩
def k128:Fc:=⟨128,[(.us 12)],[false],[.bool],fun x=>Ol x⟩
theorem jz1l:Av k128:=fOk [] [] [] .n (fn:=Tryz.f128) Tryz.func128
noncomputable def jz04:Fk:=⟨k128,jz1l⟩
theorem yk98:Av k98:=fOk [.k jzwt,.k xk97,.k jz04] [] [] .n (fn:=Tryz.f98) Tryz.func98
noncomputable def xk70:Fk:=⟨k70,kz01 yk96 yk97 yk98⟩
theorem jz1m:Av k129:=fOk [.k xk78,.k xk40] [] [] .n (fn:=Tryz.f129) Tryz.func129
noncomputable def xk39:Fk:=⟨k39,kz0x yk64 xk70.ok jz1m yk38 yk40 yk37⟩
def k9:Fc:=⟨9,[(.us 5),(.int .u8)],[false,false],[.bool],fun x=>Se x.1 x.2⟩
theorem yk9:Av k9:=fOk [.k xk12,.k xk13,.k xk19,.k xk15,.k xk17,.k xk32,.k xk33,.k xk37,.k xk21,.k xk38,.k xk39,.k xk24,.k xk40] [] [(4,(.int .i64)),(9,(.us 4)),(10,(.us 4)),(10004,(.us 1))] (.s .n (.s .n (.s .n (.s .n (.s .n (.s .n (.s .n (.s .n (.s .n (.s .n (.s .n (.s .n (.s (.s .n (.b none (.l [] ⟨.n,[(1,.k),(2,.k),(5,.k),(6,.k),(7,.k),(9,.k),(11,.k),(12,.k),(13,.k),(14,.k),(15,.k),(16,.mp 4),(130,.k),(131,.k),(132,.v (.int .i64))],[(0,.k),(1,.k),(2,.k),(3,.k),(4,.map (.int .i64) (.us 1)),(5,.gone)]⟩ [⟨(.x 0),[(1,.k),(2,.k),(5,.k),(6,.k),(7,.k),(9,.k),(11,.k),(12,.k),(13,.k),(14,.k),(15,.k),(16,.mp 4)],[(0,.k),(1,.k),(2,.k),(3,.k),(4,.map (.int .i64) (.us 1)),(5,.gone)]⟩] (.s .n (.s .n (.s (.b none (.s .n (.s .n (.b none (.l [] ⟨.n,[(1,.k),(2,.k),(5,.k),(6,.k),(7,.k),(9,.k),(11,.k),(12,.k),(13,.k),(14,.k),(15,.k),(16,.mp 4),(18,.k),(19,.v (.int .i64)),(130,.k),(131,.k),(132,.k)],[(0,.k),(1,.k),(2,.k),(3,.k),(4,.map (.int .i64) (.us 1)),(5,.k)]⟩ [⟨(.x 2),[(1,.k),(2,.k),(5,.k),(6,.k),(7,.k),(9,.k),(11,.k),(12,.k),(13,.k),(14,.k),(15,.k),(16,.mp 4),(130,.k),(131,.k),(132,.k)],[(0,.k),(1,.k),(2,.k),(3,.k),(4,.map (.int .i64) (.us 1)),(5,.k)]⟩] .n))))) .n)))))) (.s .n (.s .n (.s .n (.s (.s .n (.b none (.l [] ⟨.n,[(1,.k),(2,.k),(5,.k),(6,.k),(9,.k),(11,.k),(13,.k),(15,.k),(22,.ptr 6 0),(202,.k),(203,.k),(204,.v (.int .i64))],[(0,.k),(1,.k),(2,.k),(3,.k),(4,.gone),(5,.gone),(6,.box (.us 1)),(7,.gone)]⟩ [⟨(.x 4),[(1,.k),(2,.k),(5,.k),(6,.k),(9,.k),(15,.k),(22,.ptr 6 0)],[(0,.k),(1,.k),(2,.k),(3,.k),(4,.gone),(5,.gone),(6,.box (.us 1)),(7,.gone)]⟩,⟨.r,[(4,.v .bool)],[(0,.gone),(1,.gone),(2,.gone),(3,.gone),(4,.gone),(5,.gone),(6,.gone),(7,.gone),(8,.gone),(9,.gone),(10,.gone),(11,.gone),(12,.gone),(13,.gone)]⟩] .n))) (.s .n (.s .n (.s .n (.s .n (.s .n (.s (.s .n (.b none (.l [] ⟨.n,[(5,.k),(6,.k),(15,.k),(22,.k),(30,.vec 9),(270,.k),(271,.v (.int .i64))],[(0,.gone),(1,.k),(2,.gone),(3,.gone),(4,.gone),(5,.gone),(6,.k),(7,.gone),(8,.gone),(9,.vec (.us 4))]⟩ [⟨(.x 6),[(5,.k),(6,.k),(15,.k),(22,.k),(30,.vec 9)],[(0,.gone),(1,.k),(2,.gone),(3,.gone),(4,.gone),(5,.gone),(6,.k),(7,.gone),(8,.gone),(9,.vec (.us 4))]⟩] .n))) (.s .n (.s .n (.s .n (.s (.s .n (.b none (.l [] ⟨.n,[(15,.k),(22,.k),(32,.k),(33,.k),(35,.k),(36,.ptr 12 0),(37,.v (.int .i64)),(293,.k),(294,.k),(295,.v (.int .i64))],[(0,.gone),(1,.gone),(2,.gone),(3,.gone),(4,.gone),(5,.gone),(6,.k),(7,.gone),(8,.gone),(9,.gone),(11,.k),(12,.box (.us 1)),(13,.gone)]⟩ [⟨(.x 8),[(15,.k),(22,.k),(32,.k),(33,.k),(35,.k),(36,.ptr 12 0),(37,.v (.int .i64))],[(0,.gone),(1,.gone),(2,.gone),(3,.gone),(4,.gone),(5,.gone),(6,.k),(7,.gone),(8,.gone),(9,.gone),(11,.k),(12,.box (.us 1)),(13,.gone)]⟩,⟨.r,[(4,.v .bool)],[(0,.gone),(1,.gone),(2,.gone),(3,.gone),(4,.gone),(5,.gone),(6,.gone),(7,.gone),(8,.gone),(9,.gone),(10,.gone),(11,.gone),(12,.gone),(13,.gone)]⟩] .n))) .n))))))))))))))))))))))))))) (fn:=Tryz.f9) Tryz.func9
end Go.Am

