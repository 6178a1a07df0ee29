/- Part K1 of the proof that the last part closes: contracts of the functions of this seat. No condition. -/
import Derived.Test.YtomegmhiddbmbaaGreatDoorF2
import Derived.Test.YtomegmhiddbmbaaGreatDoorC1
import Derived.Test.YtomegmhiddbmbaaGreatDoorC2
set_option linter.unusedVariables false
namespace Go.Am
open Go.Proofs
theorem hEI:∀i,qzt (TabT.E i):=fun _=>.top
def k68:Fc:=⟨68,[(.int .i64)],[false],[.bool],fun x=>yzy x⟩
theorem yk68:FcOk k68:=wzio hEI [] [] [] .n (fn:=Tryz.f68) Tryz.func68 (by kernel_rfl) (by kernel_rfl) fun _=>by kernel_rfl
noncomputable def xk68:Fk:=⟨k68,yk68⟩
def k124:Fc:=⟨124,[(.slc (.int .u32))],[false],[(.slc (.int .u32))],fun x=>qzx x⟩
theorem jzkk:FcOk k124:=wzio hEI [] [] [] (.s .n (.s (.b none (.l [] ⟨.n,[(0,.v (.slc (.int .u32)))],[]⟩ [⟨(.x 0),[(0,.v (.slc (.int .u32)))],[]⟩] .n)) .n)) (fn:=Tryz.f124) Tryz.func124 (by kernel_rfl) (by kernel_rfl) fun _=>by kernel_rfl
noncomputable def wz7d:Fk:=⟨k124,jzkk⟩
noncomputable def jzif:Wk:=⟨w162,jzg0⟩
def k180:Fc:=⟨180,[.str,(.int .u8)],[false,false],[.str],fun x=>jzz x.1 x.2⟩
theorem jzir:FcOk k180:=wzio hEI [] [] [] (.s .n (.s (.b none (.l [] ⟨.n,[(0,.v .str),(1,.k)],[]⟩ [⟨(.x 0),[(0,.v .str)],[]⟩] .n)) .n)) (fn:=Tryz.f180) Tryz.func180 (by kernel_rfl) (by kernel_rfl) fun _=>by kernel_rfl
noncomputable def jzjn:Fk:=⟨k180,jzir⟩
def k176:Fc:=⟨176,[.str,.str],[false,false],[.str],fun x=>qzav x.1 x.2⟩
theorem jzjk:FcOk k176:=wzio hEI [.k jzjn] [] [] .n (fn:=Tryz.f176) Tryz.func176 (by kernel_rfl) (by kernel_rfl) fun _=>by kernel_rfl
noncomputable def jzic:Fk:=⟨k176,jzjk⟩
def k163:Fc:=⟨163,[.str],[false],[.str],fun x=>qzdj x⟩
theorem jzin:FcOk k163:=wzio hEI [.k jzic] [] [] .n (fn:=Tryz.f163) Tryz.func163 (by kernel_rfl) (by kernel_rfl) fun _=>by kernel_rfl
noncomputable def jzix:Fk:=⟨k163,jzin⟩
def k119:Fc:=⟨119,[(.slc (.int .u32))],[false],[.str],fun x=>qz7 x⟩
theorem jzfh:FcOk k119:=wzio hEI [.w jzif,.k jzix] [] [(0,(.int .u8)),(1,(.int .u8))] (.s .n (.s .n (.s (.s .n (.b none (.l [] ⟨.n,[(3,.own 1),(6,.k),(7,.k),(8,.v (.int .i64))],[(0,.gone),(1,.own (.int .u8))]⟩ [⟨(.x 0),[(3,.own 1)],[(0,.gone),(1,.own (.int .u8))]⟩] .n))) .n))) (fn:=Tryz.f119) Tryz.func119 (by kernel_rfl) (by kernel_rfl) fun _=>by kernel_rfl
noncomputable def wz8s:Fk:=⟨k119,jzfh⟩
def k95:Fc:=⟨95,[(.int .i64)],[false],[.str,(.int .i64)],fun x=>qzgv x⟩
theorem yk95:FcOk k95:=wzio hEI [.k wz7d,.k wz8s] [] [(0,(.int .u32))] .n (fn:=Tryz.f95) Tryz.func95 (by kernel_rfl) (by kernel_rfl) fun _=>by kernel_rfl
noncomputable def xk95:Fk:=⟨k95,yk95⟩
def k69:Fc:=⟨69,[(.int .i64)],[false],[(.us 9)],fun x=>yzh x⟩
theorem yk69:FcOk k69:=wzio hEI [.k xk95] [] [] .n (fn:=Tryz.f69) Tryz.func69 (by kernel_rfl) (by kernel_rfl) fun _=>by kernel_rfl
noncomputable def xk69:Fk:=⟨k69,yk69⟩
def k177:Fc:=⟨177,[(.int .i64)],[false],[.bool],fun x=>qzcc x⟩
theorem jzkb:FcOk k177:=wzio hEI [] [] [] .n (fn:=Tryz.f177) Tryz.func177 (by kernel_rfl) (by kernel_rfl) fun _=>by kernel_rfl
noncomputable def jzjx:Fk:=⟨k177,jzkb⟩
def k165:Fc:=⟨165,[(.int .i64),(.int .i64)],[false,false],[(.int .i64)],fun x=>qzca x.1 x.2⟩
theorem jzim:FcOk k165:=wzio hEI [.k jzjx] [] [] .n (fn:=Tryz.f165) Tryz.func165 (by kernel_rfl) (by kernel_rfl) fun _=>by kernel_rfl
noncomputable def jziu:Fk:=⟨k165,jzim⟩
def k178:Fc:=⟨178,[(.int .u32)],[false],[.bool],fun x=>qzai x⟩
theorem jzi4:FcOk k178:=wzio hEI [] [] [] .n (fn:=Tryz.f178) Tryz.func178 (by kernel_rfl) (by kernel_rfl) fun _=>by kernel_rfl
noncomputable def jzie:Fk:=⟨k178,jzi4⟩
def k166:Fc:=⟨166,[(.int .u32),(.int .u32)],[false,false],[(.int .i64)],fun x=>qzax x.1 x.2⟩
theorem jzj9:FcOk k166:=wzio hEI [.k jzie] [] [] .n (fn:=Tryz.f166) Tryz.func166 (by kernel_rfl) (by kernel_rfl) fun _=>by kernel_rfl
noncomputable def jzkh:Fk:=⟨k166,jzj9⟩
def k122:Fc:=⟨122,[(.slc (.int .u32)),(.slc (.int .u32))],[false,false],[(.int .i64)],fun x=>wzl x.1 x.2⟩
theorem jzj6:FcOk k122:=wzio hEI [.k jziu,.k jzkh] [] [] (.s .n (.s .n (.s (.s .n (.b none (.l [] ⟨.n,[(0,.k),(1,.k),(6,.v (.int .i64))],[]⟩ [⟨(.x 0),[],[]⟩,⟨.r,[(4,.v (.int .i64))],[]⟩] .n))) .n))) (fn:=Tryz.f122) Tryz.func122 (by kernel_rfl) (by kernel_rfl) fun _=>by kernel_rfl
noncomputable def jzcw:Fk:=⟨k122,jzj6⟩
def k159:Fc:=⟨159,[(.slc (.int .u32)),(.int .u32)],[false,false],[(.slc (.int .u32)),(.int .u32)],fun x=>jzs x.1 x.2⟩
theorem jzk5:FcOk k159:=wzio hEI [.k wz7d] [] [(0,(.int .u32))] (.s .n (.s .n (.s (.s .n (.b none (.l [] ⟨.n,[(0,.k),(1,.k),(6,.vec 0),(7,.v (.int .u64)),(8,.v (.int .i64))],[(0,.vec (.int .u32))]⟩ [⟨(.x 0),[(6,.vec 0),(7,.v (.int .u64))],[(0,.vec (.int .u32))]⟩] .n))) .n))) (fn:=Tryz.f159) Tryz.func159 (by kernel_rfl) (by kernel_rfl) fun _=>by kernel_rfl
noncomputable def jzfx:Fk:=⟨k159,jzk5⟩
def k164:Fc:=⟨164,[(.slc (.int .u32)),(.int .i64)],[false,false],[(.int .u64)],fun x=>kzc x.1 x.2⟩
theorem jzj1:FcOk k164:=wzio hEI [] [] [] .n (fn:=Tryz.f164) Tryz.func164 (by kernel_rfl) (by kernel_rfl) fun _=>by kernel_rfl
noncomputable def jzc6:Fk:=⟨k164,jzj1⟩
def k120:Fc:=⟨120,[(.slc (.int .u32)),(.slc (.int .u32))],[false,false],[(.slc (.int .u32))],fun x=>wz1 x.1 x.2⟩
theorem jzj0:FcOk k120:=wzio hEI [.k jzc6,.k wz7d] [] [(0,(.int .u32))] (.s .n (.s .n (.s (.s .n (.b none (.l [] ⟨.n,[(1,.k),(5,.vec 0),(18,.k),(19,.k),(20,.v (.int .i64))],[(0,.vec (.int .u32))]⟩ [⟨(.x 0),[(5,.vec 0)],[(0,.vec (.int .u32))]⟩] (.s .n (.s .n (.s (.b none (.s .n (.s .n (.s .n (.b none (.l [] ⟨.n,[(1,.k),(5,.vec 0),(6,.k),(7,.k),(8,.v (.int .u64)),(9,.v (.int .i64)),(18,.k),(19,.k),(20,.k)],[(0,.vec (.int .u32))]⟩ [⟨(.x 2),[(1,.k),(5,.vec 0),(18,.k),(19,.k),(20,.k)],[(0,.vec (.int .u32))]⟩] .n)))))) .n)))))) .n))) (fn:=Tryz.f120) Tryz.func120 (by kernel_rfl) (by kernel_rfl) fun _=>by kernel_rfl
noncomputable def jzcn:Fk:=⟨k120,jzj0⟩
def k160:Fc:=⟨160,[(.slc (.int .u32)),(.int .i64)],[false,false],[(.slc (.int .u32))],fun x=>wzm x.1 x.2⟩
theorem jzks:FcOk k160:=wzio hEI [.k jzfx,.k jzcn] [] [(0,(.int .u32))] .n (fn:=Tryz.f160) Tryz.func160 (by kernel_rfl) (by kernel_rfl) fun _=>by kernel_rfl
noncomputable def jzj2:Fk:=⟨k160,jzks⟩
noncomputable def jzk4:Ck:=⟨v161,jzhn⟩
def k123:Fc:=⟨123,[(.slc (.int .u32)),(.slc (.int .u32))],[false,false],[(.slc (.int .u32))],fun x=>wzz x.1 x.2⟩
theorem jzih:FcOk k123:=wzio hEI [.k jzc6,.k wz7d] [] [(0,(.int .u32)),(1,(.int .u32))] (.s .n (.s .n (.s .n (.s (.s .n (.b none (.l [] ⟨.n,[(0,.k),(1,.k),(5,.own 1),(6,.v (.int .u64)),(10,.k),(11,.v (.int .i64))],[(0,.gone),(1,.own (.int .u32))]⟩ [⟨(.x 0),[(5,.own 1)],[(0,.gone),(1,.own (.int .u32))]⟩] .n))) .n)))) (fn:=Tryz.f123) Tryz.func123 (by kernel_rfl) (by kernel_rfl) fun _=>by kernel_rfl
noncomputable def jze8:Fk:=⟨k123,jzih⟩
def k117:Fc:=⟨117,[(.slc (.int .u32)),(.slc (.int .u32))],[false,false],[(.slc (.int .u32)),(.slc (.int .u32))],fun x=>kzf x.1 x.2⟩
theorem jzfw:FcOk k117:=wzio hEI [.k jzcw,.k jzfx,.k wz7d,.k jzj2,.c jzk4,.k jzcn,.k jze8] [(2,657)] [(0,(.int .u32)),(1,(.int .u32)),(3,(.int .u32)),(4,(.int .u32)),(657,(.int .u32))] (.s .n (.s .n (.s .n (.s .n (.s (.b none (.l [] ⟨.n,[(0,.k),(1,.k),(8,.v (.int .i64))],[]⟩ [⟨(.x 0),[(0,.k),(1,.k),(8,.v (.int .i64))],[]⟩] .n)) (.s .n (.s .n (.s .n (.s .n (.s .n (.s (.s .n (.b none (.l [] ⟨.n,[(8,.k),(9,.k),(10,.vec 657),(11,.k),(12,.vec 3),(13,.v (.int .i64))],[(657,.vec (.int .u32)),(1,.gone),(3,.vec (.int .u32)),(762,.gone),(773,.gone)]⟩ [⟨(.x 2),[(8,.k),(10,.vec 657),(12,.vec 3)],[(657,.vec (.int .u32)),(1,.gone),(3,.vec (.int .u32)),(762,.gone),(773,.gone)]⟩] (.s .n (.s (.b none (.s .n (.s .n (.s .n (.s (.b none (.l [] ⟨.n,[(8,.k),(9,.k),(10,.k),(11,.k),(12,.k),(13,.k),(15,.v (.int .u64)),(16,.v (.int .u64))],[(657,.k),(1,.gone),(3,.k),(762,.gone),(773,.gone)]⟩ [⟨(.x 4),[(8,.k),(9,.k),(10,.k),(11,.k),(12,.k),(13,.k),(15,.v (.int .u64))],[(657,.k),(1,.gone),(3,.k),(762,.gone),(773,.gone)]⟩] .n)) (.s (.s .n (.c (some [⟨.n,[(8,.k),(9,.k),(10,.k),(11,.k),(12,.k),(13,.k),(15,.k)],[(657,.k),(1,.gone),(3,.k),(762,.gone),(773,.gone)]⟩,⟨(.x 3),[(8,.k),(9,.k),(10,.k),(11,.k),(12,.k),(13,.k)],[(657,.k),(1,.gone),(3,.k),(762,.gone),(773,.gone)]⟩]) .n .n)) (.s .n (.s .n (.s (.b none (.l [] ⟨.n,[(8,.k),(9,.k),(10,.k),(11,.k),(12,.k),(13,.k),(15,.v (.int .u64)),(17,.k),(18,.v (.slc (.int .u32)))],[(657,.k),(1,.gone),(3,.k),(762,.gone),(773,.gone)]⟩ [⟨(.x 6),[(8,.k),(9,.k),(10,.k),(11,.k),(12,.k),(13,.k),(15,.v (.int .u64)),(17,.k),(18,.v (.slc (.int .u32)))],[(657,.k),(1,.gone),(3,.k),(762,.gone),(773,.gone)]⟩] .n)) .n))))))))) .n))))) .n))))))))))) (fn:=Tryz.f117) Tryz.func117 (by kernel_rfl) (by kernel_rfl) fun _=>by kernel_rfl
noncomputable def jzke:Fk:=⟨k117,jzfw⟩
def k118:Fc:=⟨118,[.str],[false],[(.slc (.int .u32))],fun x=>wzn x⟩
theorem jzfq:FcOk k118:=wzio hEI [.k wz7d] [] [(1,(.int .u32)),(2,(.int .u32))] (.s .n (.s .n (.s (.s .n (.b none (.l [] ⟨.n,[(0,.k),(3,.own 2),(4,.v (.int .i64))],[(0,.gone),(1,.gone),(2,.own (.int .u32))]⟩ [⟨(.x 0),[(3,.own 2)],[(0,.gone),(1,.gone),(2,.own (.int .u32))]⟩] (.s .n (.s (.b none (.s .n (.s (.s .n (.b none (.l [] ⟨.n,[(0,.k),(3,.k),(4,.k),(5,.v (.int .u32)),(20,.k),(21,.k),(22,.v (.int .i64))],[(0,.gone),(1,.gone),(2,.k)]⟩ [⟨(.x 2),[(0,.k),(3,.k),(4,.k),(5,.v (.int .u32))],[(0,.gone),(1,.gone),(2,.k)]⟩] .n))) .n))) .n))))) .n))) (fn:=Tryz.f118) Tryz.func118 (by kernel_rfl) (by kernel_rfl) fun _=>by kernel_rfl
noncomputable def wz8y:Fk:=⟨k118,jzfq⟩
def k89:Fc:=⟨89,[.str,.str],[false,false],[.str],fun x=>qzeo x.1 x.2⟩
theorem jzhv(H1:FcOk k117)(H2:FcOk k118)(H3:FcOk k119):FcOk k89 :=
 ⟨by kernel_rfl,fun x y e=>qzm1 (fun a b r h=>H1.ok (a,b) r h) (fun a r h=>H2.ok a r h) (fun a r h=>H3.ok a r h) x.1 x.2 y e⟩
noncomputable def xk89:Fk:=⟨k89,jzhv jzfw jzfq jzfh⟩
def k90:Fc:=⟨90,[.str,.str],[false,false],[.str,.str,(.int .i64)],fun x=>qza9 x.1 x.2⟩
theorem yk90:FcOk k90:=wzio hEI [.k wz8y,.k jzke,.k wz8s] [] [] .n (fn:=Tryz.f90) Tryz.func90 (by kernel_rfl) (by kernel_rfl) fun _=>by kernel_rfl
noncomputable def xk90:Fk:=⟨k90,yk90⟩
def k65:Fc:=⟨65,[(.us 9)],[false],[(.us 1)],fun x=>qzw x⟩
theorem yk65:FcOk k65:=wzio hEI [.k xk89,.k xk90] [] [] .n (fn:=Tryz.f65) Tryz.func65 (by kernel_rfl) (by kernel_rfl) fun _=>by kernel_rfl
noncomputable def xk65:Fk:=⟨k65,yk65⟩
def k38:Fc:=⟨38,[(.int .i64)],[false],[(.us 1)],fun x=>qzz x⟩
theorem yk38:FcOk k38:=wzio hEI [.k xk68,.k xk69,.k xk65] [] [] .n (fn:=Tryz.f38) Tryz.func38 (by kernel_rfl) (by kernel_rfl) fun _=>by kernel_rfl
noncomputable def xk38:Fk:=⟨k38,yk38⟩
def k42:Fc:=⟨42,[],[],[(.us 0),(.slc (.us 4))],fun x=>wz6z ⟩
theorem yk42:FcOk k42:=wzio hEI [.k xk38] [] [(1,(.us 2)),(3,(.int .i64)),(4,(.us 4))] .n (fn:=Tryz.f42) Tryz.func42 (by kernel_rfl) (by kernel_rfl) fun _=>by kernel_rfl
noncomputable def xk42:Fk:=⟨k42,yk42⟩
def k103:Fc:=⟨103,[.str],[false],[.bool],fun x=>qzcb x⟩
theorem jzkc:FcOk k103:=wzio hEI [] [] [] .n (fn:=Tryz.f103) Tryz.func103 (by kernel_rfl) (by kernel_rfl) fun _=>by kernel_rfl
noncomputable def jzk0:Fk:=⟨k103,jzkc⟩
def k76:Fc:=⟨76,[(.us 1)],[false],[.bool],fun x=>yzs x⟩
theorem yk76:FcOk k76:=wzio hEI [.k jzk0,.k xk89] [] [] .n (fn:=Tryz.f76) Tryz.func76 (by kernel_rfl) (by kernel_rfl) fun _=>by kernel_rfl
noncomputable def xk76:Fk:=⟨k76,yk76⟩
def k131:Fc:=⟨131,[(.int .i64)],[false],[.bool],fun x=>wz5p x⟩
theorem jzk2:FcOk k131:=wzio hEI [] [] [] .n (fn:=Tryz.f131) Tryz.func131 (by kernel_rfl) (by kernel_rfl) fun _=>by kernel_rfl
noncomputable def jzjs:Fk:=⟨k131,jzk2⟩
def k132:Fc:=⟨132,[(.us 1)],[false],[.bool],fun x=>wz5b x⟩
theorem jzkd:FcOk k132:=wzio hEI [.k xk76] [] [] .n (fn:=Tryz.f132) Tryz.func132 (by kernel_rfl) (by kernel_rfl) fun _=>by kernel_rfl
noncomputable def jzkj:Fk:=⟨k132,jzkd⟩
def k62:Fc:=⟨62,[(.us 1)],[false],[(.us 9)],fun x=>jzg x⟩
theorem yk62:FcOk k62:=wzio hEI [.k xk76] [] [] .n (fn:=Tryz.f62) Tryz.func62 (by kernel_rfl) (by kernel_rfl) fun _=>by kernel_rfl
noncomputable def xk62:Fk:=⟨k62,yk62⟩
def k91:Fc:=⟨91,[.str,.str],[false,false],[.str],fun x=>qzau x.1 x.2⟩
theorem yk91:FcOk k91:=wzio hEI [.k wz8y,.k jzcn,.k wz8s] [] [] .n (fn:=Tryz.f91) Tryz.func91 (by kernel_rfl) (by kernel_rfl) fun _=>by kernel_rfl
noncomputable def xk91:Fk:=⟨k91,yk91⟩
def k121:Fc:=⟨121,[(.slc (.int .u32)),(.slc (.int .u32))],[false,false],[(.slc (.int .u32))],fun x=>vzk x.1 x.2⟩
theorem jzi9:FcOk k121:=wzio hEI [.k jzc6,.k wz7d] [] [(0,(.int .u32)),(1,(.int .u32))] (.s .n (.s .n (.s .n (.s (.s .n (.b none (.l [] ⟨.n,[(0,.k),(1,.k),(5,.own 1),(6,.v (.int .u64)),(14,.k),(15,.v (.int .i64))],[(0,.gone),(1,.own (.int .u32))]⟩ [⟨(.x 0),[(5,.own 1)],[(0,.gone),(1,.own (.int .u32))]⟩] .n))) .n)))) (fn:=Tryz.f121) Tryz.func121 (by kernel_rfl) (by kernel_rfl) fun _=>by kernel_rfl
noncomputable def jzi3:Fk:=⟨k121,jzi9⟩
def k92:Fc:=⟨92,[.str,.str],[false,false],[.str],fun x=>qzg3 x.1 x.2⟩
theorem yk92:FcOk k92:=wzio hEI [.k wz8y,.k jzi3,.k wz8s] [] [] .n (fn:=Tryz.f92) Tryz.func92 (by kernel_rfl) (by kernel_rfl) fun _=>by kernel_rfl
noncomputable def xk92:Fk:=⟨k92,yk92⟩
def k93:Fc:=⟨93,[.str,.str],[false,false],[(.int .i64)],fun x=>qzgu x.1 x.2⟩
theorem yk93:FcOk k93:=wzio hEI [.k wz8y,.k jzcw] [] [] .n (fn:=Tryz.f93) Tryz.func93 (by kernel_rfl) (by kernel_rfl) fun _=>by kernel_rfl
noncomputable def xk93:Fk:=⟨k93,yk93⟩
def k94:Fc:=⟨94,[.str,.str],[false,false],[.str,(.int .i64)],fun x=>qzgk x.1 x.2⟩
theorem yk94:FcOk k94:=wzio hEI [.k wz8y,.k jzcw,.k jze8,.k wz8s] [] [] .n (fn:=Tryz.f94) Tryz.func94 (by kernel_rfl) (by kernel_rfl) fun _=>by kernel_rfl
noncomputable def xk94:Fk:=⟨k94,yk94⟩
def k67:Fc:=⟨67,[(.us 9),(.us 9)],[false,false],[(.us 9)],fun x=>wz3 x.1 x.2⟩
theorem yk67:FcOk k67:=wzio hEI [.k xk91,.k xk92,.k xk93,.k xk94] [] [] (.s .n (.s .n (.s .n (.s (.s .n (.c (some [⟨.n,[(2,.ptr 0 0),(4,.k),(5,.v .str),(6,.v .str),(7,.k)],[(0,.box (.us 9)),(1,.gone),(2,.k)]⟩]) .n .n)) .n)))) (fn:=Tryz.f67) Tryz.func67 (by kernel_rfl) (by kernel_rfl) fun _=>by kernel_rfl
noncomputable def xk67:Fk:=⟨k67,yk67⟩
def k63:Fc:=⟨63,[(.us 9),(.us 9)],[false,false],[(.us 9)],fun x=>wz5 x.1 x.2⟩
theorem yk63:FcOk k63:=wzio hEI [.k xk67] [] [] .n (fn:=Tryz.f63) Tryz.func63 (by kernel_rfl) (by kernel_rfl) fun _=>by kernel_rfl
noncomputable def xk63:Fk:=⟨k63,yk63⟩
def k33:Fc:=⟨33,[(.us 1),(.us 1)],[false,false],[(.int .i64)],fun x=>wz0 x.1 x.2⟩
theorem yk33:FcOk k33:=wzio hEI [.k xk62,.k xk63] [] [] .n (fn:=Tryz.f33) Tryz.func33 (by kernel_rfl) (by kernel_rfl) fun _=>by kernel_rfl
noncomputable def xk33:Fk:=⟨k33,yk33⟩
def k104:Fc:=⟨104,[(.us 3)],[false],[(.int .i64)],fun x=>wz31 x⟩
theorem jzki:FcOk k104:=wzio hEI [.k jzjs,.k jzkj,.k xk33] [] [] (.s .n (.s .n (.s (.s .n (.b none (.l [] ⟨.n,[(1,.k),(16,.k),(17,.k),(18,.v (.int .i64))],[(0,.k),(1,.gone)]⟩ [⟨(.x 0),[],[(0,.k),(1,.gone)]⟩,⟨.r,[(2,.v (.int .i64))],[(0,.gone),(1,.gone)]⟩] .n))) .n))) (fn:=Tryz.f104) Tryz.func104 (by kernel_rfl) (by kernel_rfl) fun _=>by kernel_rfl
noncomputable def jzfc:Fk:=⟨k104,jzki⟩
def k88:Fc:=⟨88,[(.us 4)],[false],[.bool],fun x=>wz4o x⟩
theorem yk88:FcOk k88:=wzio hEI [.k xk76,.k jzfc] [] [] .n (fn:=Tryz.f88) Tryz.func88 (by kernel_rfl) (by kernel_rfl) fun _=>by kernel_rfl
noncomputable def xk88:Fk:=⟨k88,yk88⟩
def k64:Fc:=⟨64,[(.slc (.us 4))],[false],[(.int .i64)],fun x=>wz4n x⟩
theorem yk64:FcOk k64:=wzio hEI [.k xk88] [] [] (.s .n (.s .n (.s .n (.s (.s .n (.b none (.l [] ⟨.n,[(3,.v (.int .i64)),(9,.k),(10,.k),(11,.v (.int .i64))],[(0,.gone)]⟩ [⟨(.x 0),[],[(0,.gone)]⟩,⟨.r,[(2,.v (.int .i64))],[(0,.gone)]⟩] .n))) .n)))) (fn:=Tryz.f64) Tryz.func64 (by kernel_rfl) (by kernel_rfl) fun _=>by kernel_rfl
noncomputable def xk64:Fk:=⟨k64,yk64⟩
def k101:Fc:=⟨101,[(.int .i64)],[false],[.bool],fun x=>wz5j x⟩
theorem jzky:FcOk k101:=wzio hEI [] [] [] .n (fn:=Tryz.f101) Tryz.func101 (by kernel_rfl) (by kernel_rfl) fun _=>by kernel_rfl
noncomputable def jzkp:Fk:=⟨k101,jzky⟩
def k130:Fc:=⟨130,[(.slc (.int .i64)),(.fn 3)],[false,false],[(.int .i64)],fun x=>wz29 x.1 x.2.g⟩
theorem jziy:FcOk k130:=wzio hEI [] [] [] (.s .n (.s (.s .n (.b none (.l [] ⟨.n,[(0,.k),(1,.k),(7,.k),(8,.v (.int .i64))],[]⟩ [⟨(.x 0),[],[]⟩,⟨.r,[(4,.v (.int .i64))],[]⟩] .n))) .n)) (fn:=Tryz.f130) Tryz.func130 (by kernel_rfl) (by kernel_rfl) fun _=>by kernel_rfl
noncomputable def jzkx:Fk:=⟨k130,jziy⟩
def k102:Fc:=⟨102,[(.slc (.int .i64)),(.fn 3)],[false,false],[.bool],fun x=>jz8 x.1 x.2.g⟩
theorem jzkn:FcOk k102:=wzio hEI [.k jzkx] [] [] .n (fn:=Tryz.f102) Tryz.func102 (by kernel_rfl) (by kernel_rfl) fun _=>by kernel_rfl
noncomputable def jzig:Fk:=⟨k102,jzkn⟩
def k75:Fc:=⟨75,[(.us 0)],[false],[.bool],fun x=>wz40 x⟩
theorem yk75:FcOk k75:=wzio hEI [.k jzkp,.k jzig] [] [] .n (fn:=Tryz.f75) Tryz.func75 (by kernel_rfl) (by kernel_rfl) fun _=>by kernel_rfl
noncomputable def xk75:Fk:=⟨k75,yk75⟩
def k44:Fc:=⟨44,[(.us 0),(.slc (.us 4)),(.us 1)],[false,false,false],[(.int .i64)],fun x=>wz2z x.1 x.2.1 x.2.2⟩
theorem yk44:FcOk k44:=wzio hEI [.k xk64,.k xk75,.k xk76] [] [] (.s .n (.s .n (.s .n (.s (.s .n (.b none (.l [] ⟨.n,[(3,.k),(5,.k),(18,.k),(19,.k),(20,.v (.int .i64))],[(0,.k),(1,.k),(2,.gone)]⟩ [⟨(.x 0),[(5,.k)],[(0,.k),(1,.k),(2,.gone)]⟩,⟨.r,[(6,.v (.int .i64))],[(0,.gone),(1,.gone),(2,.gone)]⟩] .n))) .n)))) (fn:=Tryz.f44) Tryz.func44 (by kernel_rfl) (by kernel_rfl) fun _=>by kernel_rfl
noncomputable def xk44:Fk:=⟨k44,yk44⟩
def k134:Fc:=⟨134,[(.int .i64),(.us 3),(.int .i64)],[false,true,true],[.bool],fun x=>wz39 x.1 x.2.1 x.2.2⟩
theorem jzk9:FcOk k134:=wzio hEI [] [] [] .n (fn:=Tryz.f134) Tryz.func134 (by kernel_rfl) (by kernel_rfl) fun _=>by kernel_rfl
noncomputable def jzit:Fk:=⟨k134,jzk9⟩
def k133:Fc:=⟨133,[(.int .i64),(.fn 3)],[false,false],[(.int .i64)],fun x=>wz4u x.1 x.2.g⟩
theorem jzi2:FcOk k133:=wzio hEI [] [] [] (.s .n (.s .n (.s (.b none (.l [] ⟨.n,[(1,.k),(5,.v (.int .i64)),(6,.v (.int .i64))],[]⟩ [⟨(.x 0),[(5,.v (.int .i64))],[]⟩] .n)) .n))) (fn:=Tryz.f133) Tryz.func133 (by kernel_rfl) (by kernel_rfl) fun _=>by kernel_rfl
noncomputable def jzji:Fk:=⟨k133,jzi2⟩
def k73:Fc:=⟨73,[(.us 9),(.us 9)],[false,false],[(.us 9)],fun x=>wzv x.1 x.2⟩
theorem yk73:FcOk k73:=wzio hEI [.k xk91] [] [] .n (fn:=Tryz.f73) Tryz.func73 (by kernel_rfl) (by kernel_rfl) fun _=>by kernel_rfl
noncomputable def xk73:Fk:=⟨k73,yk73⟩
def k167:Fc:=⟨167,[(.us 9),(.us 9)],[false,false],[(.us 9)],fun x=>wz4 x.1 x.2⟩
theorem jzj8:FcOk k167:=wzio hEI [.k xk73] [] [] .n (fn:=Tryz.f167) Tryz.func167 (by kernel_rfl) (by kernel_rfl) fun _=>by kernel_rfl
noncomputable def jzk6:Fk:=⟨k167,jzj8⟩
def k135:Fc:=⟨135,[(.int .i64),(.int .i64)],[false,false],[(.us 1),(.int .i64)],fun x=>qzlk x.1 x.2⟩
theorem jzkm:FcOk k135:=wzio hEI [.k xk68,.k xk69,.k jzk6,.k xk65] [] [] .n (fn:=Tryz.f135) Tryz.func135 (by kernel_rfl) (by kernel_rfl) fun _=>by kernel_rfl
noncomputable def jzib:Fk:=⟨k135,jzkm⟩
def k66:Fc:=⟨66,[(.fn 5),(.us 1)],[false,false],[(.us 1)],fun x=>qza0 x.1.g x.2⟩
theorem yk66:FcOk k66:=wzio hEI [.k xk62,.k xk65] [] [] .n (fn:=Tryz.f66) Tryz.func66 (by kernel_rfl) (by kernel_rfl) fun _=>by kernel_rfl
noncomputable def xk66:Fk:=⟨k66,yk66⟩
def k136:Fc:=⟨136,[(.us 1),(.us 1)],[false,false],[(.us 1)],fun x=>qzbh x.1 x.2⟩
theorem jzk7:FcOk k136:=wzio hEI [.k xk62,.k xk63,.k xk66] [] [] .n (fn:=Tryz.f136) Tryz.func136 (by kernel_rfl) (by kernel_rfl) fun _=>by kernel_rfl
noncomputable def jzkg:Fk:=⟨k136,jzk7⟩
def k40:Fc:=⟨40,[(.us 1),(.us 1)],[false,false],[(.us 1)],fun x=>qzcw x.1 x.2⟩
theorem yk40:FcOk k40:=wzio hEI [.k xk62,.k xk73,.k xk66] [] [] .n (fn:=Tryz.f40) Tryz.func40 (by kernel_rfl) (by kernel_rfl) fun _=>by kernel_rfl
noncomputable def xk40:Fk:=⟨k40,yk40⟩
def k37:Fc:=⟨37,[(.us 1),(.us 1)],[false,false],[(.us 1)],fun x=>qzbi x.1 x.2⟩
theorem yk37:FcOk k37:=wzio hEI [.k xk62,.k xk67,.k xk66] [] [] .n (fn:=Tryz.f37) Tryz.func37 (by kernel_rfl) (by kernel_rfl) fun _=>by kernel_rfl
noncomputable def xk37:Fk:=⟨k37,yk37⟩
def k105:Fc:=⟨105,[(.us 3),(.int .i64)],[false,false],[(.us 1)],fun x=>wz6g x.1 x.2⟩
theorem jzkf:FcOk k105:=wzio hEI [.k jzit,.k jzji,.k jzib,.k jzkg,.k xk40,.k xk37] [] [] .n (fn:=Tryz.f105) Tryz.func105 (by kernel_rfl) (by kernel_rfl) fun _=>by kernel_rfl
noncomputable def jzja:Fk:=⟨k105,jzkf⟩
def k78:Fc:=⟨78,[(.us 3),(.int .i64)],[false,false],[(.us 1)],fun x=>wz5m x.1 x.2⟩
theorem yk78:FcOk k78:=wzio hEI [.k jzfc,.k jzja] [] [] .n (fn:=Tryz.f78) Tryz.func78 (by kernel_rfl) (by kernel_rfl) fun _=>by kernel_rfl
noncomputable def xk78:Fk:=⟨k78,yk78⟩
def s77:Sc:=⟨77,[(.slc (.us 4)),(.us 0)],[true,true],1,fun x st=>wz2x x.1 x.2 st⟩
theorem ys77:ScOk s77:=jzgn [.k xk78] [] [(1001,(.int .i64)),(11001,(.us 1))] (.s .n (.b none (.l [] ⟨.n,[(0,.k),(2,.k),(11,.k),(12,.k),(13,.v (.int .i64))],[(1000,.gone),(1001,.gone),(1002,.gone),(1899,.out 1 false)]⟩ [⟨(.x 0),[],[(1000,.gone),(1001,.gone),(1002,.gone),(1899,.out 1 false)]⟩,⟨.r,[],[(1899,.out 1 true),(1000,.gone),(1001,.gone),(1002,.gone)]⟩] (.s .n (.s .n (.s (.b none (.s .n (.s .n (.s .n (.b none (.l [] ⟨.n,[(0,.k),(2,.k),(5,.k),(6,.mp 1001),(7,.v (.int .i64)),(11,.k),(12,.k),(13,.k)],[(1000,.k),(1001,.map (.int .i64) (.us 1)),(1002,.gone),(1899,.out 1 false)]⟩ [⟨(.x 2),[(0,.k),(2,.k),(11,.k),(12,.k),(13,.k)],[(1000,.k),(1001,.map (.int .i64) (.us 1)),(1002,.gone),(1899,.out 1 false)]⟩,⟨.r,[],[(1899,.out 1 true),(1000,.gone),(1001,.gone),(1002,.gone)]⟩] (.s .n (.s (.b none (.s .n (.s .n (.s (.s .n (.c (some [⟨.n,[(0,.k),(2,.k),(5,.k),(6,.mp 1001),(7,.k),(9,.ptr 1002 0),(11,.k),(12,.k),(13,.k)],[(1000,.k),(1001,.map (.int .i64) (.us 1)),(1002,.box (.us 1)),(1899,.k)]⟩]) .n .n)) .n)))) .n)))))))) .n)))))) (fn:=Tryz.f77) Tryz.func77 (by kernel_rfl) (by kernel_rfl) fun _ _=>by kernel_rfl
noncomputable def xs77:Sk:=⟨s77,ys77⟩
noncomputable def q45:Qc:=⟨45,[(.us 0),(.slc (.us 4))],[false,false],xs77,fun x=>wz2u x.1 x.2⟩
theorem yq45:QcOk q45:=jzee hEI [.s xs77] [] [] .n (fn:=Tryz.f45) Tryz.func45 (by kernel_rfl) (by kernel_rfl) fun _=>by kernel_rfl
noncomputable def xq45:Qk:=⟨q45,yq45⟩
def k13:Fc:=⟨13,[(.us 0),(.slc (.us 4))],[false,false],[(.slc (.us 1)),(.int .i64)],fun x=>wz3z x.1 x.2⟩
theorem yk13:FcOk k13:=wzio hEI [.k xk44,.q xq45,.s xs77] [] [(3,(.us 1)),(4,(.us 1))] (.s .n (.s .n (.s .n (.s (.s .n (.b none (.r [] ⟨.n,[(7,.ptr 1 0),(19,.k)],[(0,.gone),(1,.rown 4),(2,.gone),(3,.gone),(4,.own (.us 1))]⟩ [] .n .n))) .n)))) (fn:=Tryz.f13) Tryz.func13 (by kernel_rfl) (by kernel_rfl) fun _=>by kernel_rfl
noncomputable def xk13:Fk:=⟨k13,yk13⟩
def k82:Fc:=⟨82,[(.sq 1),(.fn 2)],[false,false],[(.int .i64),(.us 1),.bool],fun x=>wz6l x.1.g (fun a0 a1=>x.2.g (a0,a1))⟩
theorem yk82:FcOk k82:=wzio hEI [] [] [] (.s .n (.s (.s .n (.b none (.r [] ⟨.n,[(3,.k),(4,.ptr 1 0),(5,.ptr 2 0),(6,.ptr 3 0),(9,.k)],[(0,.k),(1,.box (.int .i64)),(2,.box (.us 1)),(3,.box .bool),(4,.gone)]⟩ [] .n .n))) .n)) (fn:=Tryz.f82) Tryz.func82 (by kernel_rfl) (by kernel_rfl) fun _=>by kernel_rfl
noncomputable def xk82:Fk:=⟨k82,yk82⟩
def k48:Fc:=⟨48,[(.us 0),(.slc (.us 4)),(.fn 2)],[false,false,false],[(.us 16),(.int .i64)],fun x=>wz3j x.1 x.2.1 (fun a0 a1=>x.2.2.g (a0,a1))⟩
theorem yk48:FcOk k48:=wzio hEI [.k xk44,.q xq45,.k xk82,.s xs77] [] [] .n (fn:=Tryz.f48) Tryz.func48 (by kernel_rfl) (by kernel_rfl) fun _=>by kernel_rfl
noncomputable def xk48:Fk:=⟨k48,yk48⟩
def k49:Fc:=⟨49,[(.us 1),(.us 1)],[false,false],[.bool],fun x=>wz5w x.1 x.2⟩
theorem yk49:FcOk k49:=wzio hEI [.k xk33] [] [] .n (fn:=Tryz.f49) Tryz.func49 (by kernel_rfl) (by kernel_rfl) fun _=>by kernel_rfl
noncomputable def xk49:Fk:=⟨k49,yk49⟩
def k15:Fc:=⟨15,[(.us 0),(.slc (.us 4))],[false,false],[(.us 16),(.int .i64)],fun x=>wz4a x.1 x.2⟩
theorem yk15:FcOk k15:=wzio hEI [.k xk48,.k xk49] [] [] .n (fn:=Tryz.f15) Tryz.func15 (by kernel_rfl) (by kernel_rfl) fun _=>by kernel_rfl
noncomputable def xk15:Fk:=⟨k15,yk15⟩
def k51:Fc:=⟨51,[(.us 1),(.us 1)],[false,false],[.bool],fun x=>wz6d x.1 x.2⟩
theorem yk51:FcOk k51:=wzio hEI [.k xk33] [] [] .n (fn:=Tryz.f51) Tryz.func51 (by kernel_rfl) (by kernel_rfl) fun _=>by kernel_rfl
noncomputable def xk51:Fk:=⟨k51,yk51⟩
def k17:Fc:=⟨17,[(.us 0),(.slc (.us 4))],[false,false],[(.us 16),(.int .i64)],fun x=>wz4r x.1 x.2⟩
theorem yk17:FcOk k17:=wzio hEI [.k xk48,.k xk51] [] [] .n (fn:=Tryz.f17) Tryz.func17 (by kernel_rfl) (by kernel_rfl) fun _=>by kernel_rfl
noncomputable def xk17:Fk:=⟨k17,yk17⟩
def k19:Fc:=⟨19,[(.us 0),(.slc (.us 4)),(.us 1)],[false,false,false],[(.int .i64),(.int .i64)],fun x=>wz3f x.1 x.2.1 x.2.2⟩
theorem yk19:FcOk k19:=wzio hEI [.k xk44,.q xq45,.k xk33,.s xs77] [] [] (.s .n (.s .n (.s .n (.s (.s .n (.b none (.r [] ⟨.n,[(5,.k),(9,.ptr 2 0),(21,.k)],[(0,.gone),(1,.k),(2,.box (.int .i64)),(3,.gone)]⟩ [] .n .n))) .n)))) (fn:=Tryz.f19) Tryz.func19 (by kernel_rfl) (by kernel_rfl) fun _=>by kernel_rfl
noncomputable def xk19:Fk:=⟨k19,yk19⟩
def k155:Fc:=⟨155,[(.int .u32)],[false],[(.int .i64)],fun x=>jza8 x⟩
theorem jzjb:FcOk k155:=wzio hEI [] [] [] (.s .n (.s (.s .n (.c (some [⟨.n,[(0,.v (.int .u32)),(2,.v (.int .i64))],[]⟩]) .n .n)) .n)) (fn:=Tryz.f155) Tryz.func155 (by kernel_rfl) (by kernel_rfl) fun _=>by kernel_rfl
noncomputable def jzjo:Fk:=⟨k155,jzjb⟩
def k156:Fc:=⟨156,[(.int .u64)],[false],[(.int .i64)],fun x=>wz7x x⟩
theorem jzi1:FcOk k156:=wzio hEI [] [] [] (.s .n (.s (.s .n (.c (some [⟨.n,[(0,.v (.int .u64)),(2,.v (.int .i64))],[]⟩]) .n .n)) (.s (.s .n (.c (some [⟨.n,[(0,.v (.int .u64)),(2,.v (.int .i64))],[]⟩]) .n .n)) .n))) (fn:=Tryz.f156) Tryz.func156 (by kernel_rfl) (by kernel_rfl) fun _=>by kernel_rfl
noncomputable def jzjr:Fk:=⟨k156,jzi1⟩
def k113:Fc:=⟨113,[(.int .u64)],[false],[(.int .i64)],fun x=>jzc7 x⟩
theorem jzfj:FcOk k113:=wzio hEI [.k jzjo,.k jzjr] [] [] .n (fn:=Tryz.f113) Tryz.func113 (by kernel_rfl) (by kernel_rfl) fun _=>by kernel_rfl
noncomputable def jzla:Fk:=⟨k113,jzfj⟩
theorem jzhz(H113:FcOk k113):OcOk o56:=⟨by kernel_rfl,fun l x y h id ep hF hid=>jzjf (H113.ok (0:Int) (0:Int) (by kernel_rfl)) l x y h id ep hF (hid.trans (congrArg (AObj.amap ep) (jzge l)))⟩
noncomputable def xo56:Ok1:=⟨o56,jzhz jzfj⟩
def k58:Fc:=⟨58,[(.us 1),(.us 1)],[false,false],[(.int .i64)],fun x=>wz33 x.1 x.2⟩
theorem yk58:FcOk k58:=wzio hEI [.k xk33] [] [] .n (fn:=Tryz.f58) Tryz.func58 (by kernel_rfl) (by kernel_rfl) fun _=>by kernel_rfl
noncomputable def xk58:Fk:=⟨k58,yk58⟩
def k24:Fc:=⟨24,[(.us 0),(.slc (.us 4))],[false,false],[(.slc (.us 7)),(.int .i64)],fun x=>wz26 x.1 x.2⟩
theorem yk24:FcOk k24:=wzio hEI [.k xk44,.q xq45,.m xm57,.o xo56,.k xk58,.s xs77] [] [(1,(.us 1)),(5,(.us 7)),(6,(.us 7)),(10001,(.int .i64))] (.s .n (.s .n (.s .n (.s (.s .n (.b none (.r [] ⟨.n,[(7,.ptr 2 0),(24,.k)],[(0,.gone),(1,.map (.us 1) (.int .i64)),(2,.rmp 1),(3,.gone)]⟩ [] .n .n))) (.s .n (.s .n (.s (.s .n (.b none (.l [] ⟨.n,[(7,.k),(10,.own 6),(11,.v (.int .i64)),(35,.k),(36,.k),(37,.v (.int .i64))],[(0,.gone),(1,.k),(2,.k),(3,.gone),(4,.gone),(5,.gone),(6,.own (.us 7))]⟩ [⟨(.x 2),[(10,.own 6)],[(0,.gone),(1,.k),(2,.k),(3,.gone),(4,.gone),(5,.gone),(6,.own (.us 7))]⟩] .n))) .n))))))) (fn:=Tryz.f24) Tryz.func24 (by kernel_rfl) (by kernel_rfl) fun _=>by kernel_rfl
noncomputable def xk24:Fk:=⟨k24,yk24⟩
def k54:Fc:=⟨54,[(.us 7),(.int .i64)],[false,true],[.bool],fun x=>wz3v x.1 x.2⟩
theorem yk54:FcOk k54:=wzio hEI [] [] [] .n (fn:=Tryz.f54) Tryz.func54 (by kernel_rfl) (by kernel_rfl) fun _=>by kernel_rfl
noncomputable def xk54:Fk:=⟨k54,yk54⟩
def k53:Fc:=⟨53,[(.slc (.us 7)),(.fn 0)],[false,false],[(.int .i64)],fun x=>qzas x.1 x.2.g⟩
theorem yk53:FcOk k53:=wzio hEI [] [] [] (.s .n (.s (.s .n (.b none (.l [] ⟨.n,[(0,.k),(1,.k),(7,.k),(8,.v (.int .i64))],[]⟩ [⟨(.x 0),[],[]⟩,⟨.r,[(4,.v (.int .i64))],[]⟩] .n))) .n)) (fn:=Tryz.f53) Tryz.func53 (by kernel_rfl) (by kernel_rfl) fun _=>by kernel_rfl
noncomputable def xk53:Fk:=⟨k53,yk53⟩
def k21:Fc:=⟨21,[(.us 0),(.slc (.us 4)),(.int .i64)],[false,false,false],[(.us 1),(.int .i64)],fun x=>wz3a x.1 x.2.1 x.2.2⟩
theorem yk21:FcOk k21:=wzio hEI [.k xk24,.k xk54,.k xk53] [] [] .n (fn:=Tryz.f21) Tryz.func21 (by kernel_rfl) (by kernel_rfl) fun _=>by kernel_rfl
noncomputable def xk21:Fk:=⟨k21,yk21⟩
def k26:Fc:=⟨26,[(.us 0),(.slc (.us 4)),(.us 1)],[false,false,false],[(.slc (.us 8)),(.int .i64)],fun x=>wz3x x.1 x.2.1 x.2.2⟩
theorem yk26:FcOk k26:=wzio hEI [.k xk44,.q xq45,.k xk33,.s xs77] [] [(4,(.us 8)),(5,(.us 8))] (.s .n (.s .n (.s .n (.s (.s .n (.b none (.r [] ⟨.n,[(5,.k),(9,.ptr 2 0),(22,.k)],[(0,.gone),(1,.k),(2,.rown 5),(3,.gone),(4,.gone),(5,.own (.us 8))]⟩ [] .n (.b none (.s (.s .n (.c (some [⟨.n,[(5,.k),(9,.k),(10,.k),(22,.k)],[(0,.gone),(1,.k),(2,.k),(3,.gone),(4,.gone),(5,.k)]⟩,⟨(.x 1),[(5,.k),(9,.k),(22,.k)],[(0,.gone),(1,.k),(2,.k),(3,.gone),(4,.gone),(5,.k)]⟩]) .n .n)) .n))))) .n)))) (fn:=Tryz.f26) Tryz.func26 (by kernel_rfl) (by kernel_rfl) fun _=>by kernel_rfl
noncomputable def xk26:Fk:=⟨k26,yk26⟩
def k28:Fc:=⟨28,[(.us 5),(.us 5),(.int .i64)],[false,false,false],[(.int .i64),(.int .i64)],fun x=>wz7s x.1 x.2.1 x.2.2⟩
theorem yk28:FcOk k28:=wzio hEI [.k xk26] [] [] (.s .n (.s .n (.s .n (.s .n (.s .n (.s .n (.s .n (.s (.b none (.l [] ⟨.n,[(2,.k),(8,.v (.slc (.us 8))),(10,.v (.slc (.us 8))),(11,.v (.int .i64))],[(0,.gone),(1,.gone)]⟩ [⟨(.x 0),[(11,.v (.int .i64))],[(0,.gone),(1,.gone)]⟩] .n)) .n)))))))) (fn:=Tryz.f28) Tryz.func28 (by kernel_rfl) (by kernel_rfl) fun _=>by kernel_rfl
noncomputable def xk28:Fk:=⟨k28,yk28⟩
def k43:Fc:=⟨43,[(.slc (.int .i64))],[false],[(.slc (.us 1))],fun x=>wz7l x⟩
theorem yk43:FcOk k43:=wzio hEI [.k xk38] [] [(0,(.us 1)),(1,(.us 1))] (.s .n (.s .n (.s (.s .n (.b none (.l [] ⟨.n,[(3,.own 1),(6,.k),(7,.k),(8,.v (.int .i64))],[(0,.gone),(1,.own (.us 1))]⟩ [⟨(.x 0),[(3,.own 1)],[(0,.gone),(1,.own (.us 1))]⟩] .n))) .n))) (fn:=Tryz.f43) Tryz.func43 (by kernel_rfl) (by kernel_rfl) fun _=>by kernel_rfl
noncomputable def xk43:Fk:=⟨k43,yk43⟩
def k23:Fc:=⟨23,[(.slc (.us 1)),(.slc (.us 1))],[false,false],[.bool],fun x=>wz4h x.1 x.2⟩
theorem yk23:FcOk k23:=wzio hEI [] [] [] (.s .n (.s .n (.s (.s .n (.b none (.l [] ⟨.n,[(0,.k),(1,.k),(5,.v (.int .i64))],[]⟩ [⟨(.x 0),[],[]⟩,⟨.r,[(4,.v .bool)],[]⟩] .n))) .n))) (fn:=Tryz.f23) Tryz.func23 (by kernel_rfl) (by kernel_rfl) fun _=>by kernel_rfl
noncomputable def xk23:Fk:=⟨k23,yk23⟩
def k30:Fc:=⟨30,[(.slc (.us 7)),(.slc (.us 7))],[false,false],[.bool],fun x=>wz59 x.1 x.2⟩
theorem yk30:FcOk k30:=wzio hEI [] [] [] (.s .n (.s .n (.s (.s .n (.b none (.l [] ⟨.n,[(0,.k),(1,.k),(5,.v (.int .i64))],[]⟩ [⟨(.x 0),[],[]⟩,⟨.r,[(4,.v .bool)],[]⟩] .n))) .n))) (fn:=Tryz.f30) Tryz.func30 (by kernel_rfl) (by kernel_rfl) fun _=>by kernel_rfl
noncomputable def xk30:Fk:=⟨k30,yk30⟩
def k31:Fc:=⟨31,[(.slc (.us 8)),(.slc (.us 8))],[false,false],[.bool],fun x=>wz6e x.1 x.2⟩
theorem yk31:FcOk k31:=wzio hEI [] [] [] (.s .n (.s .n (.s (.s .n (.b none (.l [] ⟨.n,[(0,.k),(1,.k),(5,.v (.int .i64))],[]⟩ [⟨(.x 0),[],[]⟩,⟨.r,[(4,.v .bool)],[]⟩] .n))) .n))) (fn:=Tryz.f31) Tryz.func31 (by kernel_rfl) (by kernel_rfl) fun _=>by kernel_rfl
noncomputable def xk31:Fk:=⟨k31,yk31⟩
def k12:Fc:=⟨12,[],[],[.bool],fun x=>wz3n ⟩
set_option maxRecDepth 100000 in
theorem u12:wz3n=some true:=by decide +kernel
theorem t12:funT [.k xk42,.k xk13,.k xk15,.k xk17,.k xk38,.k xk19,.k xk21,.k xk24,.k xk26,.k xk28,.k xk43,.k xk23,.k xk33,.k xk30,.k xk31] [(5,(.int .i64)),(6,(.us 7)),(7,(.us 8))] (cRs Tryz.prog Tryz.f12.results.toList) Tryz.f12.ntmps (cF Tryz.prog [] Tryz.f12) .n k12 ()=some true:=by kernel_rfl
theorem yk12:FcOk k12:=wzio hEI [.k xk42,.k xk13,.k xk15,.k xk17,.k xk38,.k xk19,.k xk21,.k xk24,.k xk26,.k xk28,.k xk43,.k xk23,.k xk33,.k xk30,.k xk31] [] [(5,(.int .i64)),(6,(.us 7)),(7,(.us 8))] .n (fn:=Tryz.f12) Tryz.func12 (by kernel_rfl) (by kernel_rfl) fun _=>t12.trans u12.symm
noncomputable def xk12:Fk:=⟨k12,yk12⟩
def k32:Fc:=⟨32,[(.slc (.us 4))],[false],[(.int .i64)],fun x=>jzmr x⟩
theorem yk32:FcOk k32:=wzio hEI [] [] [] (.s .n (.s .n (.s (.s .n (.b none (.l [] ⟨.n,[(3,.v (.int .i64)),(6,.k),(7,.k),(8,.v (.int .i64))],[(0,.gone)]⟩ [⟨(.x 0),[(3,.v (.int .i64))],[(0,.gone)]⟩] .n))) .n))) (fn:=Tryz.f32) Tryz.func32 (by kernel_rfl) (by kernel_rfl) fun _=>by kernel_rfl
noncomputable def xk32:Fk:=⟨k32,yk32⟩
def k6:Fc:=⟨6,[(.us 5),(.slc (.int .u8)),(.int .u8)],[false,false,false],[.bool],fun x=>jz43 x.1 x.2.1 x.2.2⟩
theorem yk6:FcOk k6:=wzio hEI [.k xk12,.k xk19,.k xk15,.k xk17,.k xk32,.k xk21,.k xk33] [] [(3,(.int .i64)),(4,(.int .i64))] (.s .n (.s .n (.s .n (.s .n (.s .n (.s .n (.s .n (.s (.s .n (.b none (.l [] ⟨.n,[(1,.k),(2,.k),(3,.k),(7,.k),(8,.k),(9,.k),(11,.k),(13,.ptr 5 0),(73,.k),(74,.v (.int .i64))],[(0,.k),(1,.k),(2,.k),(3,.vec (.int .i64)),(5,.rag (.us 0) 1 3)]⟩ [⟨(.x 0),[(2,.k),(3,.k),(7,.k),(8,.k),(9,.k),(11,.k),(13,.ptr 5 0)],[(0,.k),(1,.k),(2,.k),(3,.vec (.int .i64)),(5,.rag (.us 0) 1 3)]⟩] .n))) .n)))))))) (fn:=Tryz.f6) Tryz.func6 (by kernel_rfl) (by kernel_rfl) fun _=>by kernel_rfl
noncomputable def xk6:Fk:=⟨k6,yk6⟩
end Go.Am

