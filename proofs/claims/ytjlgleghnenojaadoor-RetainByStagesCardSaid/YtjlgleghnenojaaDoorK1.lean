/- Part K1: contracts of the functions of this seat. No condition. -/
import Derived.Test.YtjlgleghnenojaaDoorD6
set_option linter.unusedVariables false
namespace Go.Am
open Go.Proofs
theorem hEI:∀i,qzt (TabT.E i):=hEE
theorem fOk(H:List Fe)(sm:List (Nat×Nat))(ty:List (Nat×CT))(h:HT){C:Fc}{fn:Func}(hf:TabT.P.funcs[C.f]?=some fn)(he:kzz TabT.P C.f=true:=by kernel_rfl)(hc:ckF TabT.P sm fn C.a.length=true:=by kernel_rfl)(ht:∀x,funT H ty (cRs TabT.P fn.results.toList) fn.ntmps (cF TabT.P sm fn) h C x=C.F x:=by intro _;kernel_rfl):FcOk C:=wzio hEI H sm ty h hf he hc ht
def k4:Fc:=⟨4,[(.us 0)],[false],[.bool],fun x=>wz4t x⟩
theorem yk4:FcOk k4:=fOk [] [] [] (.s .n (.s .n (.s (.s .n (.b none (.l [] ⟨.n,[(1,.k),(3,.v (.int .i64))],[(0,.k)]⟩ [⟨(.x 0),[],[(0,.k)]⟩,⟨.r,[(2,.v .bool)],[(0,.gone)]⟩] .n))) .n))) (fn:=Tryd.f4) Tryd.func4
noncomputable def xk4:Fk:=⟨k4,yk4⟩
def k57:Fc:=⟨57,[(.slc (.us 2)),(.fn 1)],[false,false],[(.int .i64)],fun x=>qzas x.1 x.2.g⟩
theorem yk57:FcOk k57:=fOk [] [] [] (.s .n (.s (.s .n (.b none (.l [] ⟨.n,[(0,.k),(1,.k),(7,.k),(8,.v (.int .i64))],[]⟩ [⟨(.x 0),[],[]⟩,⟨.r,[(4,.v (.int .i64))],[]⟩] .n))) .n)) (fn:=Tryd.f57) Tryd.func57
noncomputable def xk57:Fk:=⟨k57,yk57⟩
theorem yk39:FcOk k39:=fOk [.k xk57] [] [] .n (fn:=Tryd.f39) Tryd.func39
noncomputable def xk39:Fk:=⟨k39,yk39⟩
theorem yk41:FcOk k41:=fOk [] [] [] .n (fn:=Tryd.f41) Tryd.func41
noncomputable def xk41:Fk:=⟨k41,yk41⟩
def k40:Fc:=⟨40,[(.us 2)],[false],[.bool],fun x=>kzja x⟩
theorem yk40:FcOk k40:=fOk [.k xk41] [] [] .n (fn:=Tryd.f40) Tryd.func40
noncomputable def xk40:Fk:=⟨k40,yk40⟩
theorem yk18:FcOk k18:=fOk [.k xk39,.k xk40] [] [] .n (fn:=Tryd.f18) Tryd.func18
noncomputable def xk18:Fk:=⟨k18,yk18⟩
noncomputable def xk19:Fk:=⟨k19,kzvm yk18 yk41⟩
def k46:Fc:=⟨46,[(.int .i64)],[false],[.bool],fun x=>kzi8 x⟩
theorem yk46:FcOk k46:=fOk [] [] [] .n (fn:=Tryd.f46) Tryd.func46
noncomputable def xk46:Fk:=⟨k46,yk46⟩
def k59:Fc:=⟨59,[(.int .i64),(.int .i64),(.int .i64)],[false,true,true],[(.us 6)],fun x=>kzik x.1 x.2.1 x.2.2⟩
theorem yk59:FcOk k59:=fOk [] [] [] .n (fn:=Tryd.f59) Tryd.func59
noncomputable def xk59:Fk:=⟨k59,yk59⟩
theorem yk68:FcOk k68:=fOk [] [] [] .n (fn:=Tryd.f68) Tryd.func68
noncomputable def xk68:Fk:=⟨k68,yk68⟩
def k63:Fc:=⟨63,[(.int .i64)],[false],[(.int .i64)],fun x=>kzip x⟩
theorem yk63:FcOk k63:=fOk [.k xk68] [] [] .n (fn:=Tryd.f63) Tryd.func63
noncomputable def xk63:Fk:=⟨k63,yk63⟩
noncomputable def xk61:Fk:=⟨k61,kzvj yk68⟩
def k60:Fc:=⟨60,[(.int .i64)],[false],[(.int .i64),(.int .i64),(.int .i64),(.int .i64)],fun x=>kzju x⟩
theorem yk60:FcOk k60:=fOk [.k xk63,.k xk61] [] [] (.s .n (.s .n (.s .n (.s (.b none (.l [] ⟨.n,[(0,.v (.int .i64)),(2,.v (.int .i64)),(3,.k)],[]⟩ [⟨(.x 0),[(0,.v (.int .i64)),(2,.v (.int .i64)),(3,.k)],[]⟩] .n)) (.s (.b none (.l [] ⟨.n,[(0,.v (.int .i64)),(2,.k),(3,.v (.int .i64))],[]⟩ [⟨(.x 2),[(0,.v (.int .i64)),(2,.k),(3,.v (.int .i64))],[]⟩] .n)) .n))))) (fn:=Tryd.f60) Tryd.func60
noncomputable def xk60:Fk:=⟨k60,yk60⟩
def k62:Fc:=⟨62,[(.int .i64),(.int .i64),(.int .i64)],[false,false,false],[(.int .i64),(.int .i64)],fun x=>kzj3 x.1 x.2.1 x.2.2⟩
theorem yk62:FcOk k62:=fOk [.k xk61,.k xk63] [] [] (.s .n (.s .n (.s .n (.s (.s .n (.b none (.l [] ⟨.n,[(0,.k),(1,.k),(8,.v (.int .i64)),(9,.v (.int .i64))],[]⟩ [⟨(.x 0),[(0,.k),(1,.k),(8,.v (.int .i64))],[]⟩] .n))) (.s (.s .n (.b none (.l [] ⟨.n,[(0,.k),(1,.k),(8,.v (.int .i64)),(10,.v (.int .i64))],[]⟩ [⟨(.x 2),[(8,.v (.int .i64))],[]⟩] .n))) .n))))) (fn:=Tryd.f62) Tryd.func62
noncomputable def xk62:Fk:=⟨k62,yk62⟩
def k47:Fc:=⟨47,[(.int .i64),(.int .i64)],[false,false],[(.us 6)],fun x=>kzi2 x.1 x.2⟩
theorem yk47:FcOk k47:=fOk [.k xk59,.k xk60,.k xk61,.k xk62,.k xk63] [] [] .n (fn:=Tryd.f47) Tryd.func47
noncomputable def xk47:Fk:=⟨k47,yk47⟩
theorem yk49:FcOk k49:=fOk [.k xk46,.k xk47] [] [] .n (fn:=Tryd.f49) Tryd.func49
noncomputable def xk49:Fk:=⟨k49,yk49⟩
theorem yk64:FcOk k64:=fOk [] [] [] .n (fn:=Tryd.f64) Tryd.func64
noncomputable def xk64:Fk:=⟨k64,yk64⟩
noncomputable def xk50:Fk:=⟨k50,kzvq yk39 yk64⟩
noncomputable def xk32:Fk:=⟨k32,kzvn yk49 xk50.ok⟩
def k14:Fc:=⟨14,[(.us 1),(.slc (.us 2)),(.int .i64),(.int .i64),(.int .i64)],[false,false,false,false,false],[(.int .i64),(.int .i64)],fun x=>kzla x.1 x.2.1 x.2.2.1 x.2.2.2.1 x.2.2.2.2⟩
theorem yk14:FcOk k14:=fOk [.k xk19,.k xk32] [] [] .n (fn:=Tryd.f14) Tryd.func14
noncomputable def xk14:Fk:=⟨k14,yk14⟩
def k20:Fc:=⟨20,[(.int .i64),(.int .i64)],[false,false],[.bool],fun x=>kzi1 x.1 x.2⟩
theorem yk20:FcOk k20:=fOk [] [] [] .n (fn:=Tryd.f20) Tryd.func20
noncomputable def xk20:Fk:=⟨k20,yk20⟩
def s42:Sc:=⟨42,[(.us 5),(.us 10)],[true,true],3,fun x st=>kzil x.1 x.2 st⟩
theorem ys42:ScOk s42:=jzgn [.k xk32] [] [] (.s .n (.s (.s .n (.b none (.l [] ⟨.n,[(0,.k),(1,.k),(2,.k),(4,.ptr 1000 0),(5,.v (.int .i64))],[(1000,.box (.us 6)),(1001,.gone),(1899,.out 3 false)]⟩ [⟨(.x 0),[(0,.k),(4,.ptr 1000 0)],[(1000,.box (.us 6)),(1001,.gone),(1899,.out 3 false)]⟩,⟨.r,[],[(1899,.out 3 true),(1000,.gone),(1001,.gone)]⟩] .n))) .n)) (fn:=Tryd.f42) Tryd.func42 (by kernel_rfl) (by kernel_rfl) fun _ _=>by kernel_rfl
noncomputable def xs42:Sk:=⟨s42,ys42⟩
noncomputable def q21:Qc:=⟨21,[(.us 10),(.us 5)],[false,false],xs42,fun x=>kzi5 x.1 x.2⟩
theorem yq21:QcOk q21:=jzee hEI [.s xs42] [] [] .n (fn:=Tryd.f21) Tryd.func21 (by kernel_rfl) (by kernel_rfl) fun _=>by kernel_rfl
noncomputable def xq21:Qk:=⟨q21,yq21⟩
def k6:Fc:=⟨6,[(.us 1),(.slc (.us 2)),(.int .i64),(.us 5),(.int .i64)],[false,false,false,false,false],[(.slc (.us 6)),(.int .i64)],fun x=>kzjn x.1 x.2.1 x.2.2.1 x.2.2.2.1 x.2.2.2.2⟩
theorem yk6:FcOk k6:=fOk [.k xk19,.k xk20,.q xq21,.s xs42] [] [(7,(.us 6)),(8,(.us 6))] (.s .n (.s .n (.s .n (.s .n (.s .n (.s (.s .n (.b none (.r [] ⟨.n,[(10,.k),(11,.k),(14,.ptr 5 0),(35,.k)],[(0,.gone),(1,.gone),(2,.k),(3,.k),(4,.gone),(5,.rown 8),(6,.gone),(7,.gone),(8,.own (.us 6))]⟩ [⟨.r,[(10,.ptr 2 0),(11,.ptr 3 0)],[(2,.box (.slc (.us 6))),(3,.box (.int .i64)),(0,.gone),(1,.gone),(4,.gone),(5,.gone),(6,.gone),(7,.gone),(8,.gone)]⟩] .n .n))) .n)))))) (fn:=Tryd.f6) Tryd.func6
noncomputable def xk6:Fk:=⟨k6,yk6⟩
def k15:Fc:=⟨15,[(.us 1),(.slc (.us 2)),(.int .i64),(.us 5),(.int .i64),(.int .i64)],[false,false,false,false,false,false],[(.slc (.us 6)),(.int .i64)],fun x=>kzlx x.1 x.2.1 x.2.2.1 x.2.2.2.1 x.2.2.2.2.1 x.2.2.2.2.2⟩
theorem yk15:FcOk k15:=fOk [.k xk19,.k xk20,.q xq21,.k xk32,.s xs42] [] [(8,(.us 6)),(9,(.us 6))] (.s .n (.s .n (.s .n (.s .n (.s .n (.s .n (.s .n (.s (.s .n (.b none (.r [] ⟨.n,[(12,.k),(13,.k),(14,.k),(17,.ptr 6 0),(49,.k)],[(0,.gone),(1,.gone),(2,.k),(3,.k),(4,.k),(5,.gone),(6,.rown 9),(7,.gone),(8,.gone),(9,.own (.us 6))]⟩ [⟨.r,[(12,.ptr 2 0),(13,.ptr 3 0)],[(2,.box (.slc (.us 6))),(3,.box (.int .i64)),(0,.gone),(1,.gone),(4,.gone),(5,.gone),(6,.gone),(7,.gone),(8,.gone),(9,.gone)]⟩] .n (.b none (.s (.s .n (.c (some [⟨.n,[(12,.k),(13,.k),(14,.k),(17,.k),(18,.k),(49,.k)],[(0,.gone),(1,.gone),(2,.k),(3,.k),(4,.k),(5,.gone),(6,.k),(7,.k),(8,.gone),(9,.k)]⟩,⟨(.x 1),[(12,.k),(13,.k),(14,.k),(17,.k),(49,.k)],[(0,.gone),(1,.gone),(2,.k),(3,.k),(4,.k),(5,.gone),(6,.k),(7,.k),(8,.gone),(9,.k)]⟩]) .n .n)) .n))))) .n)))))))) (fn:=Tryd.f15) Tryd.func15
noncomputable def xk15:Fk:=⟨k15,yk15⟩
def k31:Fc:=⟨31,[(.int .i64),(.int .i64),(.int .i64)],[false,false,false],[.bool],fun x=>kzir x.1 x.2.1 x.2.2⟩
theorem yk31:FcOk k31:=fOk [] [] [] .n (fn:=Tryd.f31) Tryd.func31
noncomputable def xk31:Fk:=⟨k31,yk31⟩
def k58:Fc:=⟨58,[(.slc (.int .i64)),(.fn 2)],[false,false],[(.int .i64)],fun x=>wz29 x.1 x.2.g⟩
theorem yk58:FcOk k58:=fOk [] [] [] (.s .n (.s (.s .n (.b none (.l [] ⟨.n,[(0,.k),(1,.k),(7,.k),(8,.v (.int .i64))],[]⟩ [⟨(.x 0),[],[]⟩,⟨.r,[(4,.v (.int .i64))],[]⟩] .n))) .n)) (fn:=Tryd.f58) Tryd.func58
noncomputable def xk58:Fk:=⟨k58,yk58⟩
def k43:Fc:=⟨43,[(.slc (.int .i64)),(.fn 2)],[false,false],[.bool],fun x=>kziu x.1 x.2.g⟩
theorem yk43:FcOk k43:=fOk [.k xk58] [] [] .n (fn:=Tryd.f43) Tryd.func43
noncomputable def xk43:Fk:=⟨k43,yk43⟩
def k44:Fc:=⟨44,[(.int .i64)],[false],[.bool],fun x=>kzjr x⟩
theorem yk44:FcOk k44:=fOk [.k xk31] [] [] .n (fn:=Tryd.f44) Tryd.func44
noncomputable def xk44:Fk:=⟨k44,yk44⟩
theorem yk22:FcOk k22:=fOk [.k xk31,.k xk43,.k xk44] [] [] .n (fn:=Tryd.f22) Tryd.func22
noncomputable def xk22:Fk:=⟨k22,yk22⟩
theorem yk23:FcOk k23:=fOk [] [] [(1,(.us 7))] .n (fn:=Tryd.f23) Tryd.func23
noncomputable def xk23:Fk:=⟨k23,yk23⟩
theorem yk34:FcOk k34:=fOk [] [] [] .n (fn:=Tryd.f34) Tryd.func34
noncomputable def xk34:Fk:=⟨k34,yk34⟩
theorem yk30:FcOk k30:=fOk [] [] [] .n (fn:=Tryd.f30) Tryd.func30
noncomputable def xk30:Fk:=⟨k30,yk30⟩
theorem yk24:FcOk k24:=fOk [.k xk34,.k xk23,.k xk30] [] [] .n (fn:=Tryd.f24) Tryd.func24
noncomputable def xk24:Fk:=⟨k24,yk24⟩
noncomputable def xk7:Fk:=⟨k7,kzv8 yk22 yk23 yk24⟩
def k45:Fc:=⟨45,[(.us 8)],[false],[(.int .i64)],fun x=>kzk1 x⟩
theorem yk45:FcOk k45:=fOk [.k xk30,.k xk31] [] [] (.s .n (.s .n (.s .n (.s (.s .n (.b none (.l [] ⟨.n,[(1,.k),(41,.k),(42,.k),(43,.v (.int .i64))],[(0,.k),(1,.gone)]⟩ [⟨(.x 0),[(1,.k)],[(0,.k),(1,.gone)]⟩,⟨.r,[(2,.v (.int .i64))],[(0,.gone),(1,.gone),(2,.gone)]⟩] .n))) (.s .n (.s (.s .n (.b none (.l [] ⟨.n,[(1,.k),(5,.v (.int .i64)),(59,.k),(60,.k),(61,.v (.int .i64))],[(0,.k),(1,.gone),(2,.gone)]⟩ [⟨(.x 2),[(1,.k),(5,.v (.int .i64))],[(0,.k),(1,.gone),(2,.gone)]⟩,⟨.r,[(2,.v (.int .i64))],[(0,.gone),(1,.gone),(2,.gone)]⟩] .n))) .n)))))) (fn:=Tryd.f45) Tryd.func45
noncomputable def xk45:Fk:=⟨k45,yk45⟩
theorem yk25:FcOk k25:=fOk [.k xk45] [] [] (.s .n (.s .n (.s (.s .n (.b none (.l [] ⟨.n,[(0,.k),(10,.k),(11,.k),(12,.v (.int .i64))],[(0,.gone)]⟩ [⟨(.x 0),[(0,.k)],[(0,.gone)]⟩,⟨.r,[(2,.v (.int .i64))],[(0,.gone)]⟩] .n))) .n))) (fn:=Tryd.f25) Tryd.func25
noncomputable def xk25:Fk:=⟨k25,yk25⟩
def k26:Fc:=⟨26,[(.us 6)],[false],[.bool],fun x=>kziw x⟩
theorem yk26:FcOk k26:=fOk [.k xk46,.k xk47] [] [] .n (fn:=Tryd.f26) Tryd.func26
noncomputable def xk26:Fk:=⟨k26,yk26⟩
noncomputable def xv55:Ck:=⟨v55,kzu2⟩
noncomputable def xv56:Ck:=⟨v56,kzv0⟩
def k38:Fc:=⟨38,[(.slc (.us 8))],[false],[(.slc (.us 8))],fun x=>kzkf x⟩
theorem yk38:FcOk k38:=fOk [.c xv55,.c xv56] [] [] (.s .n (.s .n (.s (.s .n (.b none (.l [] ⟨.n,[(3,.vec 606),(8,.k),(9,.v (.int .i64))],[(606,.vec (.us 8)),(619,.gone)]⟩ [⟨(.x 0),[(3,.vec 606)],[(606,.vec (.us 8)),(619,.gone)]⟩] .n))) .n))) (fn:=Tryd.f38) Tryd.func38
noncomputable def xk38:Fk:=⟨k38,yk38⟩
def k27:Fc:=⟨27,[(.slc (.us 8)),(.int .i64)],[false,false],[(.slc (.us 8)),(.slc (.us 8)),(.int .i64)],fun x=>kzkn x.1 x.2⟩
theorem yk27:FcOk k27:=fOk [.k xk25,.k xk31,.k xk38,.k xk34,.k xk23,.k xk30] [(6,2),(8,4),(12,2),(14,4)] [(1,(.us 8)),(2,(.us 8)),(3,(.us 8)),(4,(.us 8)),(5,(.us 8)),(7,(.us 8)),(11,(.us 8)),(13,(.us 8))] (.s .n (.s .n (.s .n (.s (.s .n (.b none (.l [] ⟨.n,[(1,.k),(4,.own 2),(5,.own 4),(37,.k),(38,.k),(39,.v (.int .i64))],[(0,.gone),(1,.gone),(2,.own (.us 8)),(3,.gone),(4,.own (.us 8)),(5,.gone),(7,.gone),(9,.gone),(10,.gone),(11,.gone),(13,.gone)]⟩ [⟨(.x 0),[(4,.own 2),(5,.own 4)],[(0,.gone),(1,.gone),(2,.own (.us 8)),(3,.gone),(4,.own (.us 8)),(5,.gone),(7,.gone),(9,.gone),(10,.gone),(11,.gone),(13,.gone)]⟩,⟨.r,[(4,.v (.slc (.us 8))),(5,.v (.slc (.us 8))),(6,.v (.int .i64))],[(0,.gone),(1,.gone),(2,.gone),(3,.gone),(4,.gone),(5,.gone),(7,.gone),(9,.gone),(10,.gone),(11,.gone),(13,.gone)]⟩] .n))) .n)))) (fn:=Tryd.f27) Tryd.func27
noncomputable def xk27:Fk:=⟨k27,yk27⟩
theorem yk37:FcOk k37:=fOk [] [] [(2,(.us 8)),(3,(.us 8))] (.s .n (.s .n (.s (.s .n (.b none (.l [] ⟨.n,[(1,.k),(5,.own 3),(11,.k),(12,.k),(13,.v (.int .i64))],[(0,.gone),(1,.gone),(2,.gone),(3,.own (.us 8))]⟩ [⟨(.x 0),[(5,.own 3)],[(0,.gone),(1,.gone),(2,.gone),(3,.own (.us 8))]⟩] (.s .n (.s .n (.s (.b none (.s .n (.s (.s .n (.s .n (.c (some [⟨.n,[(1,.k),(5,.k),(7,.k),(11,.k),(12,.k),(13,.k)],[(0,.k),(1,.gone),(2,.gone),(3,.k)]⟩,⟨(.x 1),[(1,.k),(5,.own 3),(11,.k),(12,.k),(13,.k)],[(0,.gone),(1,.gone),(2,.gone),(3,.own (.us 8))]⟩]) .n .n))) .n))) .n)))))) .n))) (fn:=Tryd.f37) Tryd.func37
noncomputable def xk37:Fk:=⟨k37,yk37⟩
def k78:Fc:=⟨78,[(.int .u32)],[false],[(.int .i64)],fun x=>jza8 x⟩
theorem yk78:FcOk k78:=fOk [] [] [] (.s .n (.s (.s .n (.c (some [⟨.n,[(0,.v (.int .u32)),(2,.v (.int .i64))],[]⟩]) .n .n)) .n)) (fn:=Tryd.f78) Tryd.func78
noncomputable def xk78:Fk:=⟨k78,yk78⟩
def k79:Fc:=⟨79,[(.int .u64)],[false],[(.int .i64)],fun x=>wz7x x⟩
theorem yk79:FcOk k79:=fOk [] [] [] (.s .n (.s (.s .n (.c (some [⟨.n,[(0,.v (.int .u64)),(2,.v (.int .i64))],[]⟩]) .n .n)) (.s (.s .n (.c (some [⟨.n,[(0,.v (.int .u64)),(2,.v (.int .i64))],[]⟩]) .n .n)) .n))) (fn:=Tryd.f79) Tryd.func79
noncomputable def xk79:Fk:=⟨k79,yk79⟩
theorem yk67:FcOk k67:=fOk [.k xk78,.k xk79] [] [] .n (fn:=Tryd.f67) Tryd.func67
noncomputable def xk67:Fk:=⟨k67,yk67⟩
noncomputable def xk16:Fk:=⟨k16,kzvw yk25 yk37 yk24 yk30 yk34 yk23 yk67⟩
noncomputable def xk28:Fk:=⟨k28,kzvo yk25 yk37 yk24⟩
noncomputable def xk17:Fk:=⟨k17,kzus yk25 yk37 yk24⟩
def k9:Fc:=⟨9,[(.slc (.us 8)),(.slc (.us 6))],[false,false],[(.slc (.us 8)),(.int .i64)],fun x=>kziz x.1 x.2⟩
theorem yk9:FcOk k9:=fOk [.k xk25,.k xk26,.k xk27,.k xk16,.k xk28,.k xk17] [(3,2),(4,2)] [(2,(.us 8))] (.s .n (.s .n (.s .n (.s (.s .n (.b none (.l [] ⟨.n,[(0,.k),(1,.k),(7,.v (.int .i64)),(22,.k),(23,.k),(24,.v (.int .i64))],[(0,.gone)]⟩ [⟨(.x 0),[(0,.k),(1,.k)],[(0,.gone)]⟩,⟨.r,[(4,.v (.slc (.us 8))),(5,.v (.int .i64))],[(0,.gone),(1,.gone),(2,.gone)]⟩] (.s .n (.s .n (.s (.b none (.s .n (.s (.s .n (.c (some [⟨.n,[(0,.k),(1,.k),(7,.k),(9,.k),(22,.k),(23,.k),(24,.k)],[(0,.k)]⟩,⟨(.x 1),[(0,.k),(1,.k),(7,.k),(22,.k),(23,.k),(24,.k)],[(0,.k)]⟩]) .n .n)) .n))) .n)))))) (.s .n (.s .n (.s (.s .n (.b none (.l [] ⟨.n,[(10,.own 2),(11,.v (.slc (.us 8))),(70,.k),(71,.k),(72,.v (.int .i64))],[(0,.gone),(1,.gone),(2,.own (.us 8))]⟩ [⟨(.x 2),[(10,.own 2),(11,.v (.slc (.us 8)))],[(0,.gone),(1,.gone),(2,.own (.us 8))]⟩,⟨.r,[(4,.v (.slc (.us 8))),(5,.v (.int .i64))],[(0,.gone),(1,.gone),(2,.gone)]⟩] (.s .n (.s .n (.s (.b none (.s .n (.s (.s .n (.c (some [⟨.n,[(10,.k),(11,.k),(13,.k),(70,.k),(71,.k),(72,.k)],[(0,.gone),(1,.k),(2,.k)]⟩,⟨(.x 3),[(10,.k),(11,.k),(70,.k),(71,.k),(72,.k)],[(0,.gone),(1,.k),(2,.k)]⟩]) .n .n)) .n))) .n)))))) .n))))))) (fn:=Tryd.f9) Tryd.func9
noncomputable def xk9:Fk:=⟨k9,yk9⟩
def k11:Fc:=⟨11,[(.slc (.us 8)),(.slc (.us 8))],[false,false],[.bool],fun x=>kzjy x.1 x.2⟩
theorem yk11:FcOk k11:=fOk [] [] [] (.s .n (.s .n (.s (.s .n (.b none (.l [] ⟨.n,[(0,.k),(1,.k),(5,.v (.int .i64))],[]⟩ [⟨(.x 0),[],[]⟩,⟨.r,[(4,.v .bool)],[]⟩] (.s .n (.s (.b none (.s .n (.s .n (.b none (.l [] ⟨.n,[(0,.k),(1,.k),(5,.k),(6,.v (.int .i64))],[]⟩ [⟨(.x 2),[(0,.k),(1,.k),(5,.k)],[]⟩,⟨.r,[(4,.v .bool)],[]⟩] .n))))) .n))))) .n))) (fn:=Tryd.f11) Tryd.func11
noncomputable def xk11:Fk:=⟨k11,yk11⟩
def k5:Fc:=⟨5,[],[],[.bool],fun x=>kzi6 ⟩
set_option maxRecDepth 100000 in
theorem u5:kzi6=some true:=by decide +kernel
theorem t5:funT [.k xk14,.k xk6,.k xk15,.k xk7,.k xk9,.k xk16,.k xk17,.k xk11,.k xk18] [(1,(.us 2)),(2,(.us 4)),(4,(.int .i64)),(5,(.us 6))] (cRs Tryd.prog Tryd.f5.results.toList) Tryd.f5.ntmps (cF Tryd.prog [] Tryd.f5) (.s .n (.s .n (.s .n (.s .n (.s (.s .n (.b none (.l [1] ⟨.n,[(1,.k),(2,.k),(37,.k),(38,.k),(39,.v (.int .i64))],[(0,.k),(1,.gone),(2,.k),(3,.gone)]⟩ [⟨(.x 0),[(1,.k),(2,.k)],[(0,.k),(1,.gone),(2,.k),(3,.gone)]⟩,⟨.r,[(0,.v .bool)],[(0,.gone),(1,.gone),(2,.gone),(3,.gone),(4,.gone),(5,.gone)]⟩] .n))) .n))))) k5 ()=some true:=by kernel_rfl
theorem yk5:FcOk k5:=wzio hEI [.k xk14,.k xk6,.k xk15,.k xk7,.k xk9,.k xk16,.k xk17,.k xk11,.k xk18] [] [(1,(.us 2)),(2,(.us 4)),(4,(.int .i64)),(5,(.us 6))] (.s .n (.s .n (.s .n (.s .n (.s (.s .n (.b none (.l [1] ⟨.n,[(1,.k),(2,.k),(37,.k),(38,.k),(39,.v (.int .i64))],[(0,.k),(1,.gone),(2,.k),(3,.gone)]⟩ [⟨(.x 0),[(1,.k),(2,.k)],[(0,.k),(1,.gone),(2,.k),(3,.gone)]⟩,⟨.r,[(0,.v .bool)],[(0,.gone),(1,.gone),(2,.gone),(3,.gone),(4,.gone),(5,.gone)]⟩] .n))) .n))))) (fn:=Tryd.f5) Tryd.func5 (by kernel_rfl) (by kernel_rfl) fun _=>t5.trans u5.symm
noncomputable def xk5:Fk:=⟨k5,yk5⟩
def k8:Fc:=⟨8,[(.slc (.us 6)),(.us 5)],[false,false],[(.slc (.us 6))],fun x=>kzjq x.1 x.2⟩
theorem yk8:FcOk k8:=fOk [] [] [(2,(.us 6)),(3,(.us 6))] (.s .n (.s .n (.s (.s .n (.b none (.l [] ⟨.n,[(3,.k),(5,.own 3),(8,.k),(9,.k),(10,.v (.int .i64))],[(0,.k),(1,.gone),(2,.gone),(3,.own (.us 6))]⟩ [⟨(.x 0),[(5,.own 3)],[(0,.k),(1,.gone),(2,.gone),(3,.own (.us 6))]⟩] .n))) .n))) (fn:=Tryd.f8) Tryd.func8
noncomputable def xk8:Fk:=⟨k8,yk8⟩
def k10:Fc:=⟨10,[(.slc (.us 6)),(.slc (.us 6))],[false,false],[(.slc (.us 6))],fun x=>kzjl x.1 x.2⟩
theorem yk10:FcOk k10:=fOk [] [] [(2,(.us 6)),(3,(.us 6))] (.s .n (.s .n (.s (.s .n (.b none (.l [] ⟨.n,[(1,.k),(5,.own 3),(11,.k),(12,.k),(13,.v (.int .i64))],[(0,.gone),(1,.gone),(2,.gone),(3,.own (.us 6))]⟩ [⟨(.x 0),[(5,.own 3)],[(0,.gone),(1,.gone),(2,.gone),(3,.own (.us 6))]⟩] (.s .n (.s .n (.s (.b none (.s .n (.s .n (.s (.s .n (.b none (.l [] ⟨.n,[(1,.k),(5,.k),(7,.k),(8,.v .bool),(11,.k),(12,.k),(13,.k),(17,.k),(18,.k),(19,.v (.int .i64))],[(0,.k),(1,.gone),(2,.gone),(3,.k)]⟩ [⟨(.x 2),[(1,.k),(5,.k),(7,.k),(8,.v .bool),(11,.k),(12,.k),(13,.k)],[(0,.k),(1,.gone),(2,.gone),(3,.k)]⟩] .n))) .n)))) .n)))))) .n))) (fn:=Tryd.f10) Tryd.func10
noncomputable def xk10:Fk:=⟨k10,yk10⟩
theorem yk29:FcOk k29:=fOk [.k xk30] [] [] .n (fn:=Tryd.f29) Tryd.func29
noncomputable def xk29:Fk:=⟨k29,yk29⟩
noncomputable def xk12:Fk:=⟨k12,kzbl yk25 yk29 yk30⟩
def k13:Fc:=⟨13,[(.slc (.us 8)),(.us 0)],[false,false],[.bool],fun x=>kzj6 x.1 x.2⟩
theorem yk13:FcOk k13:=fOk [.k xk25,.k xk22,.k xk30,.k xk31] [] [(2,(.int .i64)),(10002,(.int .i64))] (.s .n (.s .n (.s .n (.s .n (.s (.s .n (.b none (.l [] ⟨.n,[(3,.k),(50,.k),(51,.k),(52,.v (.int .i64))],[(0,.k),(1,.gone),(2,.gone),(3,.gone)]⟩ [⟨(.x 0),[],[(0,.k),(1,.gone),(2,.gone),(3,.gone)]⟩,⟨.r,[(4,.v .bool)],[(0,.gone),(1,.gone),(2,.gone),(3,.gone)]⟩] (.s .n (.s .n (.s (.b none (.s .n (.s .n (.s (.s .n (.b none (.l [] ⟨.n,[(3,.k),(6,.k),(7,.mp 2),(50,.k),(51,.k),(52,.k),(58,.k),(59,.k),(60,.v (.int .i64))],[(0,.k),(1,.k),(2,.map (.int .i64) (.int .i64)),(3,.gone)]⟩ [⟨(.x 2),[(3,.k),(6,.k),(7,.mp 2),(50,.k),(51,.k),(52,.k)],[(0,.k),(1,.k),(2,.map (.int .i64) (.int .i64)),(3,.gone)]⟩] .n))) (.s .n (.b none (.l [] ⟨.n,[(3,.k),(6,.k),(7,.mp 2),(50,.k),(51,.k),(52,.k),(82,.k),(83,.k),(84,.v (.int .i64))],[(0,.k),(1,.k),(2,.map (.int .i64) (.int .i64)),(3,.gone)]⟩ [⟨(.x 4),[(3,.k),(50,.k),(51,.k),(52,.k)],[(0,.k),(1,.k),(2,.map (.int .i64) (.int .i64)),(3,.gone)]⟩,⟨.r,[(4,.v .bool)],[(0,.gone),(1,.gone),(2,.gone),(3,.gone)]⟩] .n))))))) .n)))))) .n))))) (fn:=Tryd.f13) Tryd.func13
noncomputable def xk13:Fk:=⟨k13,yk13⟩
def k3:Fc:=⟨3,[(.us 0),(.us 1),(.us 3)],[false,false,false],[.bool],fun x=>kzjf x.1 x.2.1 x.2.2⟩
theorem yk3:FcOk k3:=fOk [.k xk4,.k xk5,.k xk6,.k xk7,.k xk8,.k xk10,.k xk9,.k xk11,.k xk12,.k xk13] [] [] .n (fn:=Tryd.f3) Tryd.func3
noncomputable def xk3:Fk:=⟨k3,yk3⟩
end Go.Am

