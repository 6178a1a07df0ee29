/- Part G1 of the proof that the last part closes: the code of the functions of this seat over abstract operations. No condition. -/
import Derived.Test.YtpflinpbkifmhaaGreatDoorA4
import Derived.Test.YtpflinpbkifmhaaGreatDoorChecked
set_option linter.unusedVariables false
namespace Go.Am
open Go.Proofs
def wzcq (b:Nat):List qzc:=[
 ⟨(some 3),.box (b+0) (.t 1),none⟩,
 ⟨(some 4),.mv (.c (.nils)),none⟩,
 ⟨(some 5),.mv (.c (.int .i64 0)),none⟩]
def wzbr (b:Nat):List qzc:=[
 ⟨(some 7),.mv (.t 0),none⟩,
 ⟨(some 8),.load true 3 (.t 3),none⟩,
 ⟨(some 9),.callf 33 [.t 7,.t 8],none⟩,
 ⟨(some 6),.mv (.t 9),none⟩]
def qz6z (b:Nat):List qzc:=[
 ⟨(some 10),.mv (.t 6),none⟩,
 ⟨(some 11),.bin .neq false (.t 10) (.c (.int .i64 0)),none⟩]
def wza1 (b:Nat):List qzc:=[
 ⟨(some 12),.mv (.t 6),none⟩,
 ⟨(some 4),.mv (.c (.nils)),none⟩,
 ⟨(some 5),.mv (.t 12),none⟩]
def qz7o (b:Nat):List qzc:=[
 ⟨(some 13),.mv (.t 0),none⟩,
 ⟨(some 14),.load true 3 (.t 3),none⟩,
 ⟨(some 15),.build [.bool false,.str [],.str []] [(0,3,.t 14)],none⟩,
 ⟨(some 16),.mkfn 35 1 [.t 15],none⟩,
 ⟨(some 17),.callf 34 [.t 13,.t 16],none⟩,
 ⟨(some 4),.mv (.t 17),none⟩,
 ⟨(some 5),.mv (.c (.int .i64 0)),none⟩]
def c10 (b:Nat):qzk:=.seq (.reg false (wzcq b) []) (.seq (.seq (.reg false (wzbr b) []) (.seq (.reg false (qz6z b) []) (.cond (.t 11) (.seq (.reg false (wza1 b) []) (.ret)) (.skip)))) (.seq (.reg false (qz7o b) []) (.ret)))
def rs10:List ARes:=[.t 4,.t 5]
theorem ck10:∃ c,Tryz.f10.body=some c∧∀ b,qzg Tryz.prog c (c10 b)=true:=⟨_,rfl,fun b=>by kernel_rfl⟩
theorem cr10:qzi Tryz.prog Tryz.f10.results.toList rs10=true:=by kernel_rfl
def qz4v (b:Nat):List qzc:=[
 ⟨(some 3),.box (b+0) (.t 1),none⟩,
 ⟨(some 4),.alloc (b+1) [.nils,.bool false,.str [],.str []],none⟩,
 ⟨(some 5),.mv (.c (.int .i64 0)),none⟩]
def wzbe (b:Nat):List qzc:=[
 ⟨(some 11),.mv (.t 0),none⟩,
 ⟨(some 12),.load true 3 (.t 3),none⟩,
 ⟨(some 13),.callf 33 [.t 11,.t 12],none⟩,
 ⟨(some 6),.mv (.t 13),none⟩]
def qz76 (b:Nat):List qzc:=[
 ⟨(some 14),.mv (.t 6),none⟩,
 ⟨(some 15),.bin .neq false (.t 14) (.c (.int .i64 0)),none⟩]
def qz7n (b:Nat):List qzc:=[
 ⟨(some 16),.build [.nils,.bool false,.str [],.str []] [],none⟩,
 ⟨(some 17),.mv (.t 6),none⟩,
 ⟨none,.store 4 (.t 4) (.t 16),none⟩,
 ⟨(some 5),.mv (.t 17),none⟩]
def qz98 (b:Nat):List qzc:=[
 ⟨(some 18),.mv (.t 0),none⟩,
 ⟨(some 7),.mv (.t 18),none⟩]
def qz8z (b:Nat):List qzc:=[
 ⟨(some 19),.mv (.t 7),none⟩,
 ⟨(some 20),.callf 38 [.t 19],none⟩,
 ⟨(some 21),.mv (.t 7),none⟩,
 ⟨(some 22),.callf 36 [.t 21],none⟩,
 ⟨(some 8),.alloc (b+2) [.bool false,.str [],.str []],none⟩,
 ⟨(some 9),.alloc (b+3) [.bool false,.str [],.str []],none⟩,
 ⟨none,.store 3 (.t 8) (.t 20),none⟩,
 ⟨none,.store 3 (.t 9) (.t 22),none⟩]
def qz59 (b:Nat):List qzc:=[
 ⟨(some 24),.load true 3 (.t 3),none⟩,
 ⟨(some 25),.load true 3 (.t 8),none⟩,
 ⟨(some 26),.callf 26 [.t 24,.t 25],none⟩,
 ⟨(some 27),.bin .lss false (.t 26) (.c (.int .i64 0)),none⟩,
 ⟨(some 23),.mv (.t 27),none⟩]
def wza6 (b:Nat):List qzc:=[
 ⟨(some 28),.load true 3 (.t 3),none⟩,
 ⟨(some 29),.load true 3 (.t 8),none⟩,
 ⟨(some 30),.callf 39 [.t 28,.t 29],none⟩,
 ⟨(some 10),.alloc (b+4) [.bool false,.str [],.str []],none⟩,
 ⟨none,.store 3 (.t 10) (.t 30),none⟩]
def qz6e (b:Nat):List qzc:=[
 ⟨(some 31),.mv (.t 7),none⟩,
 ⟨(some 32),.mkfn 40 0 [.t 10],none⟩,
 ⟨(some 33),.callf 34 [.t 31,.t 32],none⟩,
 ⟨(some 34),.build [.nils,.bool false,.str [],.str []] [(0,1,.t 33)],none⟩,
 ⟨none,.store 4 (.t 4) (.t 34),none⟩,
 ⟨(some 5),.mv (.c (.int .i64 0)),none⟩]
def qz8o (b:Nat):List qzc:=[
 ⟨(some 36),.load true 3 (.t 3),none⟩,
 ⟨(some 37),.load true 3 (.t 9),none⟩,
 ⟨(some 38),.callf 26 [.t 36,.t 37],none⟩,
 ⟨(some 39),.bin .gtr false (.t 38) (.c (.int .i64 0)),none⟩,
 ⟨(some 35),.mv (.t 39),none⟩]
def qzz9 (b:Nat):List qzc:=[
 ⟨(some 40),.mv (.t 7),none⟩,
 ⟨(some 41),.callf 34 [.t 40,.c (.fn 41 0 [])],none⟩,
 ⟨(some 42),.load true 3 (.t 3),none⟩,
 ⟨(some 43),.load true 3 (.t 9),none⟩,
 ⟨(some 44),.callf 29 [.t 42,.t 43],none⟩,
 ⟨(some 45),.build [.nils,.bool false,.str [],.str []] [(0,1,.t 41),(1,3,.t 44)],none⟩,
 ⟨none,.store 4 (.t 4) (.t 45),none⟩,
 ⟨(some 5),.mv (.c (.int .i64 0)),none⟩]
def wzd6:List (List Nat):=[[],[0],[],[],[0,1,2,3],[0,1,2,3,4],[0,1,2,3,4,5],[0,1,2,3,4,5,6]]
def qz0c (b:Nat):List qzc:=[
 ⟨(some 46),.mv (.t 7),none⟩,
 ⟨(some 47),.mv (.t 7),none⟩,
 ⟨(some 48),.load true 3 (.t 3),none⟩,
 ⟨(some 49),.callf 37 [.t 47,.t 48],none⟩,
 ⟨(some 50),.build [.bool false,.str [],.str []] [(0,3,.t 49)],none⟩,
 ⟨(some 51),.mkfn 35 1 [.t 50],none⟩,
 ⟨(some 52),.callf 34 [.t 46,.t 51],none⟩,
 ⟨(some 53),.build [.nils,.bool false,.str [],.str []] [(0,1,.t 52)],none⟩,
 ⟨none,.store 4 (.t 4) (.t 53),none⟩,
 ⟨(some 5),.mv (.c (.int .i64 0)),none⟩]
def c12 (b:Nat):qzk:=.seq (.reg false (qz4v b) []) (.seq (.seq (.reg false (wzbe b) []) (.seq (.reg false (qz76 b) []) (.cond (.t 15) (.seq (.reg false (qz7n b) []) (.ret)) (.skip)))) (.seq (.reg false (qz98 b) []) (.seq (.reg false (qz8z b) []) (.seq (.block 0 (.seq (.reg false (qz59 b) []) (.cond (.t 23) (.seq (.reg false (wza6 b) []) (.seq (.reg false (qz6e b) []) (.ret))) (.seq (.reg false (qz8o b) []) (.cond (.t 35) (.seq (.reg true (qzz9 b) wzd6) (.ret)) (.skip)))))) (.seq (.reg false (qz0c b) []) (.ret))))))
def rs12:List ARes:=[.c 4 true 4,.t 5]
theorem ck12:∃ c,Tryz.f12.body=some c∧∀ b,qzg Tryz.prog c (c12 b)=true:=⟨_,rfl,fun b=>by kernel_rfl⟩
theorem cr12:qzi Tryz.prog Tryz.f12.results.toList rs12=true:=by kernel_rfl
def qz7h (b:Nat):List qzc:=[
 ⟨(some 2),.mv (.c (.int .i64 0)),none⟩]
def qz67 (b:Nat):List qzc:=[
 ⟨(some 6),.mv (.t 0),none⟩,
 ⟨(some 7),.len false (.t 6),none⟩,
 ⟨(some 3),.mv (.t 7),none⟩]
def wzat (b:Nat):List qzc:=[
 ⟨(some 8),.mv (.t 3),none⟩,
 ⟨(some 9),.bin .lss false (.t 8) (.c (.int .i64 1)),none⟩,
 ⟨(some 10),.mv (.t 9),none⟩,
 ⟨(some 11),.mv (.t 3),(some (10,false))⟩,
 ⟨(some 12),.bin .gtr false (.t 11) (.c (.int .i64 8)),(some (10,false))⟩,
 ⟨(some 13),.pick (.t 10) (.c (.bool true)) (.t 12),none⟩]
def qz6h (b:Nat):List qzc:=[
 ⟨(some 2),.mv (.c (.int .i64 2)),none⟩]
def qz7v (b:Nat):List qzc:=[
 ⟨(some 14),.mv (.t 0),none⟩,
 ⟨(some 15),.len false (.t 14),none⟩,
 ⟨(some 16),.mv (.c (.int .i64 0)),none⟩]
def wzaj (b:Nat):List qzc:=[
 ⟨(some 17),.bin .lss false (.t 16) (.t 15),none⟩]
def wza4 (b:Nat):List qzc:=[
 ⟨(some 18),.mv (.t 16),none⟩,
 ⟨(some 19),.iaddrS 8 (.t 14) (.t 16),none⟩,
 ⟨(some 20),.load true 8 (.t 19),none⟩,
 ⟨(some 5),.alloc (b+0) [.int .i64 0,.int .i64 0,.bool false,.str [],.str [],.bool false,.str [],.str []],none⟩,
 ⟨(some 4),.mv (.t 18),none⟩,
 ⟨none,.store 8 (.t 5) (.t 20),none⟩]
def qz53 (b:Nat):List qzc:=[
 ⟨(some 22),.faddr 0 (.t 5),none⟩,
 ⟨(some 23),.load false 1 (.t 22),none⟩,
 ⟨(some 24),.bin .lss false (.t 23) (.c (.int .i64 0)),none⟩,
 ⟨(some 25),.mv (.t 24),none⟩,
 ⟨(some 26),.faddr 0 (.t 5),(some (25,false))⟩,
 ⟨(some 27),.load false 1 (.t 26),(some (25,false))⟩,
 ⟨(some 28),.bin .geq false (.t 27) (.c (.int .i64 8)),(some (25,false))⟩,
 ⟨(some 29),.pick (.t 25) (.c (.bool true)) (.t 28),none⟩,
 ⟨(some 30),.mv (.t 29),none⟩,
 ⟨(some 31),.faddr 1 (.t 5),(some (30,false))⟩,
 ⟨(some 32),.load false 1 (.t 31),(some (30,false))⟩,
 ⟨(some 33),.bin .lss false (.t 32) (.c (.int .i64 1)),(some (30,false))⟩,
 ⟨(some 34),.pick (.t 30) (.c (.bool true)) (.t 33),none⟩,
 ⟨(some 35),.mv (.t 34),none⟩,
 ⟨(some 36),.faddr 1 (.t 5),(some (35,false))⟩,
 ⟨(some 37),.load false 1 (.t 36),(some (35,false))⟩,
 ⟨(some 38),.bin .gtr false (.t 37) (.c (.int .i64 1000000)),(some (35,false))⟩,
 ⟨(some 39),.pick (.t 35) (.c (.bool true)) (.t 38),none⟩,
 ⟨(some 21),.mv (.t 39),none⟩]
def qz9h (b:Nat):List qzc:=[
 ⟨(some 2),.mv (.c (.int .i64 3)),none⟩]
def qz5h (b:Nat):List qzc:=[
 ⟨(some 41),.faddr 2 (.t 5),none⟩,
 ⟨(some 42),.load true 3 (.t 41),none⟩,
 ⟨(some 43),.callf 51 [.t 42],none⟩,
 ⟨(some 44),.not (.t 43),none⟩,
 ⟨(some 45),.mv (.t 44),none⟩,
 ⟨(some 46),.faddr 5 (.t 5),(some (45,false))⟩,
 ⟨(some 47),.load true 3 (.t 46),(some (45,false))⟩,
 ⟨(some 48),.callf 51 [.t 47],(some (45,false))⟩,
 ⟨(some 49),.not (.t 48),(some (45,false))⟩,
 ⟨(some 50),.pick (.t 45) (.c (.bool true)) (.t 49),none⟩,
 ⟨(some 51),.mv (.t 50),none⟩,
 ⟨(some 52),.faddr 2 (.t 5),(some (51,false))⟩,
 ⟨(some 53),.load true 3 (.t 52),(some (51,false))⟩,
 ⟨(some 54),.faddr 5 (.t 5),(some (51,false))⟩,
 ⟨(some 55),.load true 3 (.t 54),(some (51,false))⟩,
 ⟨(some 56),.callf 26 [.t 53,.t 55],(some (51,false))⟩,
 ⟨(some 57),.bin .gtr false (.t 56) (.c (.int .i64 0)),(some (51,false))⟩,
 ⟨(some 58),.pick (.t 51) (.c (.bool true)) (.t 57),none⟩,
 ⟨(some 40),.mv (.t 58),none⟩]
def qzy7 (b:Nat):List qzc:=[
 ⟨(some 2),.mv (.c (.int .i64 1)),none⟩]
def qzx6 (b:Nat):List qzc:=[
 ⟨(some 60),.mv (.t 0),none⟩,
 ⟨(some 61),.mv (.t 4),none⟩,
 ⟨(some 62),.slice false 8 (.t 60) none (some (.t 61)),none⟩,
 ⟨(some 63),.mkfn 53 0 [.t 5],none⟩,
 ⟨(some 64),.callf 52 [.t 62,.t 63],none⟩,
 ⟨(some 59),.mv (.t 64),none⟩]
def qzza (b:Nat):List qzc:=[
 ⟨(some 2),.mv (.c (.int .i64 9)),none⟩]
def qzxx (b:Nat):List qzc:=[
 ⟨(some 65),.bin .add false (.t 16) (.c (.int .i64 1)),none⟩,
 ⟨(some 16),.mv (.t 65),none⟩]
def wzbl (b:Nat):qzk:=.seq (.reg false (wzaj b) []) (.seq (.cond (.t 17) (.skip) (.exit 0)) (.seq (.block 1 (.seq (.reg false (wza4 b) []) (.block 2 (.seq (.reg false (qz53 b) []) (.cond (.t 21) (.seq (.reg false (qz9h b) []) (.ret)) (.seq (.reg false (qz5h b) []) (.cond (.t 40) (.seq (.reg false (qzy7 b) []) (.ret)) (.seq (.reg false (qzx6 b) []) (.cond (.t 59) (.seq (.reg false (qzza b) []) (.ret)) (.skip)))))))))) (.reg false (qzxx b) [])))
def qzz5 (b:Nat):List qzc:=[
 ⟨(some 2),.mv (.c (.int .i64 0)),none⟩]
def c16 (b:Nat):qzk:=.seq (.reg false (qz7h b) []) (.seq (.seq (.reg false (qz67 b) []) (.seq (.reg false (wzat b) []) (.cond (.t 13) (.seq (.reg false (qz6h b) []) (.ret)) (.skip)))) (.seq (.seq (.reg false (qz7v b) []) (.block 0 (.loop (wzbl b)))) (.seq (.reg false (qzz5 b) []) (.ret))))
def rs16:List ARes:=[.t 2]
theorem ck16:∃ c,Tryz.f16.body=some c∧∀ b,qzg Tryz.prog c (c16 b)=true:=⟨_,rfl,fun b=>by kernel_rfl⟩
theorem cr16:qzi Tryz.prog Tryz.f16.results.toList rs16=true:=by kernel_rfl
def qz99 (b:Nat):List qzc:=[
 ⟨(some 2),.box (b+0) (.t 0),none⟩,
 ⟨(some 3),.box (b+1) (.t 1),none⟩,
 ⟨(some 4),.alloc (b+2) [.bool false,.str [],.str []],none⟩]
def qz4w (b:Nat):List qzc:=[
 ⟨(some 5),.load true 3 (.t 2),none⟩,
 ⟨(some 6),.callf 61 [.t 5],none⟩,
 ⟨(some 7),.mkfn 64 1 [.t 6],none⟩,
 ⟨(some 8),.load true 3 (.t 3),none⟩,
 ⟨(some 9),.callf 63 [.t 7,.t 8],none⟩,
 ⟨none,.store 3 (.t 4) (.t 9),none⟩]
def wzen:List (List Nat):=[[],[0],[0,1],[],[0,1,2,3],[0,1,2,3,4]]
def c24 (b:Nat):qzk:=.seq (.reg false (qz99 b) []) (.seq (.reg true (qz4w b) wzen) (.ret))
def rs24:List ARes:=[.c 4 true 3]
theorem ck24:∃ c,Tryz.f24.body=some c∧∀ b,qzg Tryz.prog c (c24 b)=true:=⟨_,rfl,fun b=>by kernel_rfl⟩
theorem cr24:qzi Tryz.prog Tryz.f24.results.toList rs24=true:=by kernel_rfl
def wzbu (b:Nat):List qzc:=[
 ⟨(some 2),.box (b+0) (.t 0),none⟩,
 ⟨(some 3),.box (b+1) (.t 1),none⟩,
 ⟨(some 4),.alloc (b+2) [.bool false,.str [],.str []],none⟩]
def qz9i (b:Nat):List qzc:=[
 ⟨(some 5),.load true 3 (.t 2),none⟩,
 ⟨(some 6),.callf 61 [.t 5],none⟩,
 ⟨(some 7),.mkfn 67 1 [.t 6],none⟩,
 ⟨(some 8),.load true 3 (.t 3),none⟩,
 ⟨(some 9),.callf 63 [.t 7,.t 8],none⟩,
 ⟨none,.store 3 (.t 4) (.t 9),none⟩]
def wzfl:List (List Nat):=[[],[0],[0,1],[],[0,1,2,3],[0,1,2,3,4]]
def c27 (b:Nat):qzk:=.seq (.reg false (wzbu b) []) (.seq (.reg true (qz9i b) wzfl) (.ret))
def rs27:List ARes:=[.c 4 true 3]
theorem ck27:∃ c,Tryz.f27.body=some c∧∀ b,qzg Tryz.prog c (c27 b)=true:=⟨_,rfl,fun b=>by kernel_rfl⟩
theorem cr27:qzi Tryz.prog Tryz.f27.results.toList rs27=true:=by kernel_rfl
def qz5k (b:Nat):List qzc:=[
 ⟨(some 2),.box (b+0) (.t 0),none⟩,
 ⟨(some 3),.box (b+1) (.t 1),none⟩,
 ⟨(some 4),.alloc (b+2) [.bool false,.str [],.str []],none⟩]
def qz9l (b:Nat):List qzc:=[
 ⟨(some 5),.load true 3 (.t 2),none⟩,
 ⟨(some 6),.callf 61 [.t 5],none⟩,
 ⟨(some 7),.mkfn 66 1 [.t 6],none⟩,
 ⟨(some 8),.load true 3 (.t 3),none⟩,
 ⟨(some 9),.callf 63 [.t 7,.t 8],none⟩,
 ⟨none,.store 3 (.t 4) (.t 9),none⟩]
def wzeg:List (List Nat):=[[],[0],[0,1],[],[0,1,2,3],[0,1,2,3,4]]
def c29 (b:Nat):qzk:=.seq (.reg false (qz5k b) []) (.seq (.reg true (qz9l b) wzeg) (.ret))
def rs29:List ARes:=[.c 4 true 3]
theorem ck29:∃ c,Tryz.f29.body=some c∧∀ b,qzg Tryz.prog c (c29 b)=true:=⟨_,rfl,fun b=>by kernel_rfl⟩
theorem cr29:qzi Tryz.prog Tryz.f29.results.toList rs29=true:=by kernel_rfl
def qz49 (b:Nat):List qzc:=[
 ⟨(some 4),.mv (.c (.nils)),none⟩]
def wzah (b:Nat):List qzc:=[
 ⟨(some 5),.mv (.c (.nils)),none⟩]
def qz5f (b:Nat):List qzc:=[
 ⟨(some 8),.mv (.t 0),none⟩,
 ⟨(some 9),.len false (.t 8),none⟩,
 ⟨(some 10),.mv (.c (.int .i64 0)),none⟩]
def wzap (b:Nat):List qzc:=[
 ⟨(some 11),.bin .lss false (.t 10) (.t 9),none⟩]
def qz6o (b:Nat):List qzc:=[
 ⟨(some 12),.iaddrS 8 (.t 8) (.t 10),none⟩,
 ⟨(some 13),.load true 8 (.t 12),none⟩,
 ⟨(some 7),.alloc (b+0) [.int .i64 0,.int .i64 0,.bool false,.str [],.str [],.bool false,.str [],.str []],none⟩,
 ⟨none,.store 8 (.t 7) (.t 13),none⟩]
def qzwp (b:Nat):List qzc:=[
 ⟨(some 14),.mv (.t 5),none⟩,
 ⟨(some 15),.mv (.t 1),none⟩,
 ⟨(some 16),.load true 8 (.t 7),none⟩,
 ⟨(some 17),.callv (.t 15) [.t 16],none⟩,
 ⟨(some 18),.bslice (b+1) 3 1 [.bool false,.str [],.str []] [(0,3,.t 17)],none⟩,
 ⟨(some 19),.append (b+2) 3 40 (.t 14) (.t 18),none⟩,
 ⟨(some 5),.mv (.t 19),none⟩]
def wzcr (b:Nat):List qzc:=[
 ⟨(some 20),.bin .add false (.t 10) (.c (.int .i64 1)),none⟩,
 ⟨(some 10),.mv (.t 20),none⟩]
def qz9x (b:Nat):qzk:=.seq (.reg false (wzap b) []) (.seq (.cond (.t 11) (.skip) (.exit 0)) (.seq (.block 1 (.seq (.reg false (qz6o b) []) (.reg false (qzwp b) []))) (.reg false (wzcr b) [])))
def qz44 (b:Nat):List qzc:=[
 ⟨(some 21),.mv (.t 5),none⟩,
 ⟨(some 4),.mv (.t 21),none⟩]
def c34 (b:Nat):qzk:=.seq (.reg false (qz49 b) []) (.seq (.reg false (wzah b) []) (.seq (.seq (.reg false (qz5f b) []) (.block 0 (.loop (qz9x b)))) (.seq (.reg false (qz44 b) []) (.ret))))
def rs34:List ARes:=[.t 4]
theorem ck34:∃ c,Tryz.f34.body=some c∧∀ b,qzg Tryz.prog c (c34 b)=true:=⟨_,rfl,fun b=>by kernel_rfl⟩
theorem cr34:qzi Tryz.prog Tryz.f34.results.toList rs34=true:=by kernel_rfl
def qz8l (b:Nat):List qzc:=[
 ⟨(some 2),.alloc (b+0) [.bool false,.str [],.str []],none⟩]
def qz71 (b:Nat):List qzc:=[
 ⟨(some 3),.mv (.t 0),none⟩,
 ⟨(some 4),.callf 34 [.t 3,.c (.fn 72 0 [])],none⟩,
 ⟨(some 5),.callf 25 [.t 4],none⟩,
 ⟨none,.store 3 (.t 2) (.t 5),none⟩]
def c36 (b:Nat):qzk:=.seq (.reg false (qz8l b) []) (.seq (.reg false (qz71 b) []) (.ret))
def rs36:List ARes:=[.c 2 true 3]
theorem ck36:∃ c,Tryz.f36.body=some c∧∀ b,qzg Tryz.prog c (c36 b)=true:=⟨_,rfl,fun b=>by kernel_rfl⟩
theorem cr36:qzi Tryz.prog Tryz.f36.results.toList rs36=true:=by kernel_rfl
def wzbj (b:Nat):List qzc:=[
 ⟨(some 3),.box (b+0) (.t 1),none⟩,
 ⟨(some 4),.alloc (b+1) [.bool false,.str [],.str []],none⟩]
def qz7m (b:Nat):List qzc:=[
 ⟨(some 5),.mv (.c (.nils)),none⟩]
def qz4m (b:Nat):List qzc:=[
 ⟨(some 14),.mv (.t 0),none⟩,
 ⟨(some 15),.len false (.t 14),none⟩,
 ⟨(some 16),.mv (.c (.int .i64 0)),none⟩]
def qz8r (b:Nat):List qzc:=[
 ⟨(some 17),.bin .lss false (.t 16) (.t 15),none⟩]
def qz34 (b:Nat):List qzc:=[
 ⟨(some 18),.iaddrS 8 (.t 14) (.t 16),none⟩,
 ⟨(some 19),.load true 8 (.t 18),none⟩,
 ⟨(some 7),.alloc (b+2) [.int .i64 0,.int .i64 0,.bool false,.str [],.str [],.bool false,.str [],.str []],none⟩,
 ⟨none,.store 8 (.t 7) (.t 19),none⟩]
def qz4j (b:Nat):List qzc:=[
 ⟨(some 20),.faddr 1 (.t 7),none⟩,
 ⟨(some 21),.load false 1 (.t 20),none⟩,
 ⟨(some 22),.callf 28 [.t 21],none⟩,
 ⟨(some 8),.alloc (b+3) [.bool false,.str [],.str []],none⟩,
 ⟨none,.store 3 (.t 8) (.t 22),none⟩]
def qzwt (b:Nat):List qzc:=[
 ⟨(some 23),.mv (.t 5),none⟩,
 ⟨(some 24),.faddr 2 (.t 7),none⟩,
 ⟨(some 25),.load true 3 (.t 24),none⟩,
 ⟨(some 26),.load true 3 (.t 8),none⟩,
 ⟨(some 27),.callf 39 [.t 25,.t 26],none⟩,
 ⟨(some 28),.faddr 5 (.t 7),none⟩,
 ⟨(some 29),.load true 3 (.t 28),none⟩,
 ⟨(some 30),.load true 3 (.t 8),none⟩,
 ⟨(some 31),.callf 39 [.t 29,.t 30],none⟩,
 ⟨(some 32),.bslice (b+4) 3 2 [.bool false,.str [],.str [],.bool false,.str [],.str []] [(0,3,.t 27),(3,3,.t 31)],none⟩,
 ⟨(some 33),.append (b+5) 3 40 (.t 23) (.t 32),none⟩,
 ⟨(some 5),.mv (.t 33),none⟩]
def wzei:List (List Nat):=[[],[],[1],[],[1,2,3],[],[5],[],[1,2,3,4,5,6,7],[1,2,3,4,5,6,7,8],[0,1,2,3,4,5,6,7,8,9],[0,1,2,3,4,5,6,7,8,9,10]]
def qz40 (b:Nat):List qzc:=[
 ⟨(some 34),.bin .add false (.t 16) (.c (.int .i64 1)),none⟩,
 ⟨(some 16),.mv (.t 34),none⟩]
def qz4n (b:Nat):qzk:=.seq (.reg false (qz8r b) []) (.seq (.cond (.t 17) (.skip) (.exit 0)) (.seq (.block 1 (.seq (.reg false (qz34 b) []) (.seq (.reg false (qz4j b) []) (.reg true (qzwt b) wzei)))) (.reg false (qz40 b) [])))
def qz9z (b:Nat):List qzc:=[
 ⟨(some 35),.mv (.t 5),none⟩,
 ⟨(some 36),.callf 73 [.t 35,.c (.fn 74 0 [])],none⟩]
def qz7w (b:Nat):List qzc:=[
 ⟨(some 9),.alloc (b+6) [.bool false,.str [],.str []],none⟩]
def qz03 (b:Nat):List qzc:=[
 ⟨(some 37),.mv (.t 5),none⟩,
 ⟨(some 38),.len false (.t 37),none⟩,
 ⟨(some 39),.mv (.c (.int .i64 0)),none⟩]
def qz2f (b:Nat):List qzc:=[
 ⟨(some 40),.bin .lss false (.t 39) (.t 38),none⟩]
def qz2b (b:Nat):List qzc:=[
 ⟨(some 41),.iaddrS 3 (.t 37) (.t 39),none⟩,
 ⟨(some 42),.load true 3 (.t 41),none⟩,
 ⟨(some 11),.alloc (b+7) [.bool false,.str [],.str []],none⟩,
 ⟨none,.store 3 (.t 11) (.t 42),none⟩]
def qz12 (b:Nat):List qzc:=[
 ⟨(some 43),.mv (.t 0),none⟩,
 ⟨(some 44),.load true 3 (.t 9),none⟩,
 ⟨(some 45),.build [.bool false,.str [],.str []] [(0,3,.t 44)],none⟩,
 ⟨(some 46),.mkfn 35 1 [.t 45],none⟩,
 ⟨(some 47),.callf 34 [.t 43,.t 46],none⟩,
 ⟨(some 48),.callf 25 [.t 47],none⟩,
 ⟨(some 49),.mv (.t 0),none⟩,
 ⟨(some 50),.load true 3 (.t 11),none⟩,
 ⟨(some 51),.build [.bool false,.str [],.str []] [(0,3,.t 50)],none⟩,
 ⟨(some 52),.mkfn 35 1 [.t 51],none⟩,
 ⟨(some 53),.callf 34 [.t 49,.t 52],none⟩,
 ⟨(some 54),.callf 25 [.t 53],none⟩,
 ⟨(some 12),.alloc (b+8) [.bool false,.str [],.str []],none⟩,
 ⟨(some 13),.alloc (b+9) [.bool false,.str [],.str []],none⟩,
 ⟨none,.store 3 (.t 12) (.t 48),none⟩,
 ⟨none,.store 3 (.t 13) (.t 54),none⟩]
def wzdt:List (List Nat):=[[],[],[1],[1,2],[0,1,2,3],[0,1,2,3,4],[],[],[7],[7,8],[0,1,2,3,4,5,6,7,8,9],[0,1,2,3,4,5,6,7,8,9,10],[],[],[0,1,2,3,4,5,6,7,8,9,10,11,12,13],[0,1,2,3,4,5,6,7,8,9,10,11,12,13,14]]
def qzyf (b:Nat):List qzc:=[
 ⟨(some 55),.load true 3 (.t 3),none⟩,
 ⟨(some 56),.load true 3 (.t 12),none⟩,
 ⟨(some 57),.callf 26 [.t 55,.t 56],none⟩,
 ⟨(some 58),.bin .leq false (.t 57) (.c (.int .i64 0)),none⟩]
def qz0r (b:Nat):List qzc:=[
 ⟨(some 59),.load true 3 (.t 3),none⟩,
 ⟨(some 60),.load true 3 (.t 13),none⟩,
 ⟨(some 61),.callf 26 [.t 59,.t 60],none⟩,
 ⟨(some 62),.bin .leq false (.t 61) (.c (.int .i64 0)),none⟩]
def qz2k (b:Nat):List qzc:=[
 ⟨(some 63),.load true 3 (.t 9),none⟩,
 ⟨(some 64),.load true 3 (.t 3),none⟩,
 ⟨(some 65),.load true 3 (.t 12),none⟩,
 ⟨(some 66),.callf 29 [.t 64,.t 65],none⟩,
 ⟨(some 67),.load true 3 (.t 13),none⟩,
 ⟨(some 68),.load true 3 (.t 12),none⟩,
 ⟨(some 69),.callf 29 [.t 67,.t 68],none⟩,
 ⟨(some 70),.callf 39 [.t 66,.t 69],none⟩,
 ⟨(some 71),.load true 3 (.t 11),none⟩,
 ⟨(some 72),.load true 3 (.t 9),none⟩,
 ⟨(some 73),.callf 29 [.t 71,.t 72],none⟩,
 ⟨(some 74),.callf 27 [.t 70,.t 73],none⟩,
 ⟨(some 75),.callf 24 [.t 63,.t 74],none⟩,
 ⟨none,.store 3 (.t 4) (.t 75),none⟩]
def wzdr:List (List Nat):=[[],[],[],[1,2],[],[],[1,2,3,4,5],[1,2,3,4,5,6],[],[],[1,2,3,4,5,6,7,8,9],[1,2,3,4,5,6,7,8,9,10],[0,1,2,3,4,5,6,7,8,9,10,11],[0,1,2,3,4,5,6,7,8,9,10,11,12]]
def qzyp (b:Nat):List qzc:=[
 ⟨(some 76),.load true 3 (.t 11),none⟩,
 ⟨none,.store 3 (.t 9) (.t 76),none⟩]
def qz2r (b:Nat):List qzc:=[
 ⟨(some 77),.bin .add false (.t 39) (.c (.int .i64 1)),none⟩,
 ⟨(some 39),.mv (.t 77),none⟩]
def wzbp (b:Nat):qzk:=.seq (.reg false (qz2f b) []) (.seq (.cond (.t 40) (.skip) (.exit 2)) (.seq (.block 3 (.seq (.reg false (qz2b b) []) (.seq (.reg true (qz12 b) wzdt) (.seq (.seq (.reg false (qzyf b) []) (.cond (.t 58) (.exit 2) (.skip))) (.seq (.seq (.reg false (qz0r b) []) (.cond (.t 62) (.seq (.reg true (qz2k b) wzdr) (.ret)) (.skip))) (.reg false (qzyp b) [])))))) (.reg false (qz2r b) [])))
def qz2u (b:Nat):List qzc:=[
 ⟨(some 78),.load true 3 (.t 9),none⟩,
 ⟨none,.store 3 (.t 4) (.t 78),none⟩]
def c37 (b:Nat):qzk:=.seq (.reg false (wzbj b) []) (.seq (.reg false (qz7m b) []) (.seq (.seq (.reg false (qz4m b) []) (.block 0 (.loop (qz4n b)))) (.seq (.reg false (qz9z b) []) (.seq (.reg false (qz7w b) []) (.seq (.seq (.reg false (qz03 b) []) (.block 2 (.loop (wzbp b)))) (.seq (.reg false (qz2u b) []) (.ret)))))))
def rs37:List ARes:=[.c 4 true 3]
theorem ck37:∃ c,Tryz.f37.body=some c∧∀ b,qzg Tryz.prog c (c37 b)=true:=⟨_,rfl,fun b=>by kernel_rfl⟩
theorem cr37:qzi Tryz.prog Tryz.f37.results.toList rs37=true:=by kernel_rfl
def wzae (b:Nat):List qzc:=[
 ⟨(some 2),.alloc (b+0) [.bool false,.str [],.str []],none⟩]
def qz7e (b:Nat):List qzc:=[
 ⟨(some 3),.mv (.t 0),none⟩,
 ⟨(some 4),.callf 34 [.t 3,.c (.fn 75 0 [])],none⟩,
 ⟨(some 5),.callf 25 [.t 4],none⟩,
 ⟨none,.store 3 (.t 2) (.t 5),none⟩]
def c38 (b:Nat):qzk:=.seq (.reg false (wzae b) []) (.seq (.reg false (qz7e b) []) (.ret))
def rs38:List ARes:=[.c 2 true 3]
theorem ck38:∃ c,Tryz.f38.body=some c∧∀ b,qzg Tryz.prog c (c38 b)=true:=⟨_,rfl,fun b=>by kernel_rfl⟩
theorem cr38:qzi Tryz.prog Tryz.f38.results.toList rs38=true:=by kernel_rfl
def qz5d (b:Nat):List qzc:=[
 ⟨(some 4),.mv (.c (.bool false)),none⟩]
def qz46 (b:Nat):List qzc:=[
 ⟨(some 5),.mv (.t 0),none⟩,
 ⟨(some 6),.mv (.t 1),none⟩,
 ⟨(some 7),.callf 87 [.t 5,.t 6],none⟩,
 ⟨(some 8),.bin .geq false (.t 7) (.c (.int .i64 0)),none⟩,
 ⟨(some 4),.mv (.t 8),none⟩]
def c52 (b:Nat):qzk:=.seq (.reg false (qz5d b) []) (.seq (.reg false (qz46 b) []) (.ret))
def rs52:List ARes:=[.t 4]
theorem ck52:∃ c,Tryz.f52.body=some c∧∀ b,qzg Tryz.prog c (c52 b)=true:=⟨_,rfl,fun b=>by kernel_rfl⟩
theorem cr52:qzi Tryz.prog Tryz.f52.results.toList rs52=true:=by kernel_rfl
def qz6d (b:Nat):List qzc:=[
 ⟨(some 4),.mv (.c (.str [])),none⟩]
def qz83 (b:Nat):List qzc:=[
 ⟨(some 5),.alloc (b+0) [.nilfn],none⟩]
def wzao (b:Nat):List qzc:=[
 ⟨(some 6),.mkfn 92 0 [.t 5],none⟩,
 ⟨none,.store 1 (.t 5) (.t 6),none⟩]
def qz5o (b:Nat):List qzc:=[
 ⟨(some 7),.load false 1 (.t 5),none⟩,
 ⟨(some 8),.mv (.t 0),none⟩,
 ⟨(some 9),.callf 94 [.t 8],none⟩,
 ⟨(some 10),.mv (.t 1),none⟩,
 ⟨(some 11),.callf 94 [.t 10],none⟩,
 ⟨(some 12),.callv (.t 7) [.t 9,.t 11],none⟩,
 ⟨(some 13),.callf 95 [.t 12],none⟩,
 ⟨(some 4),.mv (.t 13),none⟩]
def wzet:List (List Nat):=[[],[],[1],[],[1,2,3],[0,1,2,3,4],[0,1,2,3,4,5],[0,1,2,3,4,5,6]]
def c60 (b:Nat):qzk:=.seq (.reg false (qz6d b) []) (.seq (.reg false (qz83 b) []) (.seq (.reg false (wzao b) []) (.seq (.reg true (qz5o b) wzet) (.ret))))
def rs60:List ARes:=[.t 4]
theorem ck60:∃ c,Tryz.f60.body=some c∧∀ b,qzg Tryz.prog c (c60 b)=true:=⟨_,rfl,fun b=>by kernel_rfl⟩
theorem cr60:qzi Tryz.prog Tryz.f60.results.toList rs60=true:=by kernel_rfl
def qz9v (b:Nat):List qzc:=[
 ⟨(some 3),.box (b+0) (.t 1),none⟩,
 ⟨(some 4),.alloc (b+1) [.bool false,.str [],.str []],none⟩]
def qz9r (b:Nat):List qzc:=[
 ⟨(some 5),.mv (.t 0),none⟩,
 ⟨(some 6),.load true 3 (.t 3),none⟩,
 ⟨(some 7),.callf 61 [.t 6],none⟩,
 ⟨(some 8),.callv (.t 5) [.t 7],none⟩,
 ⟨(some 9),.callf 62 [.t 8],none⟩,
 ⟨none,.store 3 (.t 4) (.t 9),none⟩]
def c63 (b:Nat):qzk:=.seq (.reg false (qz9v b) []) (.seq (.reg false (qz9r b) []) (.ret))
def rs63:List ARes:=[.c 4 true 3]
theorem ck63:∃ c,Tryz.f63.body=some c∧∀ b,qzg Tryz.prog c (c63 b)=true:=⟨_,rfl,fun b=>by kernel_rfl⟩
theorem cr63:qzi Tryz.prog Tryz.f63.results.toList rs63=true:=by kernel_rfl
def wzfw (b:Nat):List qzc:=[
 ⟨(some 5),.mv (.t 0),none⟩,
 ⟨(some 6),.len false (.t 5),none⟩,
 ⟨(some 4),.mv (.t 6),none⟩]
def wzgc (b:Nat):List qzc:=[
 ⟨(some 7),.mv (.t 0),none⟩,
 ⟨(some 8),.mv (.t 4),none⟩,
 ⟨(some 9),.mv (.t 4),none⟩,
 ⟨(some 10),.conv .u64 (.t 9),none⟩,
 ⟨(some 11),.callf 104 [.t 10],none⟩,
 ⟨(some 12),.mv (.t 1),none⟩,
 ⟨(some 13),.callf 103 [.t 7,.c (.int .i64 0),.t 8,.t 11,.t 12],none⟩]
def c73 (b:Nat):qzk:=.seq (.reg false (wzfw b) []) (.reg false (wzgc b) [])
def rs73:List ARes:=[]
theorem ck73:∃ c,Tryz.f73.body=some c∧∀ b,qzg Tryz.prog c (c73 b)=true:=⟨_,rfl,fun b=>by kernel_rfl⟩
theorem cr73:qzi Tryz.prog Tryz.f73.results.toList rs73=true:=by kernel_rfl
def qz9s (b:Nat):List qzc:=[
 ⟨(some 2),.box (b+0) (.t 0),none⟩,
 ⟨(some 3),.box (b+1) (.t 1),none⟩,
 ⟨(some 4),.alloc (b+2) [.bool false,.str [],.str []],none⟩,
 ⟨(some 5),.mv (.c (.int .i64 0)),none⟩]
def qz4l (b:Nat):List qzc:=[
 ⟨(some 6),.load true 3 (.t 3),none⟩,
 ⟨(some 7),.callf 61 [.t 6],none⟩,
 ⟨(some 8),.field false 1 1 (.t 7),none⟩,
 ⟨(some 9),.bin .eql false (.t 8) (.c (.str [])),none⟩]
def wzcs (b:Nat):List qzc:=[
 ⟨(some 10),.build [.bool false,.str [],.str []] [],none⟩,
 ⟨none,.store 3 (.t 4) (.t 10),none⟩,
 ⟨(some 5),.mv (.c (.int .i64 1)),none⟩]
def qz9d (b:Nat):List qzc:=[
 ⟨(some 11),.load true 3 (.t 2),none⟩,
 ⟨(some 12),.callf 61 [.t 11],none⟩,
 ⟨(some 13),.mkfn 102 1 [.t 12],none⟩,
 ⟨(some 14),.load true 3 (.t 3),none⟩,
 ⟨(some 15),.callf 63 [.t 13,.t 14],none⟩,
 ⟨none,.store 3 (.t 4) (.t 15),none⟩,
 ⟨(some 5),.mv (.c (.int .i64 0)),none⟩]
def wzer:List (List Nat):=[[],[0],[0,1],[],[0,1,2,3],[0,1,2,3,4],[0,1,2,3,4,5]]
def c76 (b:Nat):qzk:=.seq (.reg false (qz9s b) []) (.seq (.seq (.reg false (qz4l b) []) (.cond (.t 9) (.seq (.reg false (wzcs b) []) (.ret)) (.skip))) (.seq (.reg true (qz9d b) wzer) (.ret)))
def rs76:List ARes:=[.c 4 true 3,.t 5]
theorem ck76:∃ c,Tryz.f76.body=some c∧∀ b,qzg Tryz.prog c (c76 b)=true:=⟨_,rfl,fun b=>by kernel_rfl⟩
theorem cr76:qzi Tryz.prog Tryz.f76.results.toList rs76=true:=by kernel_rfl
def qz94 (b:Nat):List qzc:=[
 ⟨(some 4),.mv (.c (.int .i64 0)),none⟩]
def qz35 (b:Nat):List qzc:=[
 ⟨(some 6),.mv (.t 0),none⟩,
 ⟨(some 7),.len false (.t 6),none⟩,
 ⟨(some 8),.mv (.c (.int .i64 0)),none⟩]
def qz9y (b:Nat):List qzc:=[
 ⟨(some 9),.bin .lss false (.t 8) (.t 7),none⟩]
def qz70 (b:Nat):List qzc:=[
 ⟨(some 10),.mv (.t 8),none⟩,
 ⟨(some 5),.mv (.t 10),none⟩]
def qz5l (b:Nat):List qzc:=[
 ⟨(some 11),.mv (.t 1),none⟩,
 ⟨(some 12),.mv (.t 0),none⟩,
 ⟨(some 13),.mv (.t 5),none⟩,
 ⟨(some 14),.iaddrS 8 (.t 12) (.t 13),none⟩,
 ⟨(some 15),.load true 8 (.t 14),none⟩,
 ⟨(some 16),.callv (.t 11) [.t 15],none⟩]
def qz7q (b:Nat):List qzc:=[
 ⟨(some 17),.mv (.t 5),none⟩,
 ⟨(some 4),.mv (.t 17),none⟩]
def qz5m (b:Nat):List qzc:=[
 ⟨(some 18),.bin .add false (.t 8) (.c (.int .i64 1)),none⟩,
 ⟨(some 8),.mv (.t 18),none⟩]
def qz8v (b:Nat):qzk:=.seq (.reg false (qz9y b) []) (.seq (.cond (.t 9) (.skip) (.exit 0)) (.seq (.block 1 (.seq (.reg false (qz70 b) []) (.seq (.reg false (qz5l b) []) (.cond (.t 16) (.seq (.reg false (qz7q b) []) (.ret)) (.skip))))) (.reg false (qz5m b) [])))
def qz80 (b:Nat):List qzc:=[
 ⟨(some 4),.mv (.c (.int .i64 (-1))),none⟩]
def c87 (b:Nat):qzk:=.seq (.reg false (qz94 b) []) (.seq (.seq (.reg false (qz35 b) []) (.block 0 (.loop (qz8v b)))) (.seq (.reg false (qz80 b) []) (.ret)))
def rs87:List ARes:=[.t 4]
theorem ck87:∃ c,Tryz.f87.body=some c∧∀ b,qzg Tryz.prog c (c87 b)=true:=⟨_,rfl,fun b=>by kernel_rfl⟩
theorem cr87:qzi Tryz.prog Tryz.f87.results.toList rs87=true:=by kernel_rfl
def qz36 (b:Nat):List qzc:=[
 ⟨(some 5),.mv (.c (.nils)),none⟩]
def qz9c (b:Nat):List qzc:=[
 ⟨(some 8),.mv (.t 1),none⟩,
 ⟨(some 9),.len false (.t 8),none⟩,
 ⟨(some 10),.bin .eql false (.t 9) (.c (.int .i64 0)),none⟩]
def qz7i (b:Nat):List qzc:=[
 ⟨(some 11),.mv (.t 0),none⟩,
 ⟨(some 5),.mv (.t 11),none⟩]
def wzax (b:Nat):List qzc:=[
 ⟨(some 13),.mv (.t 0),none⟩,
 ⟨(some 14),.mv (.t 1),none⟩,
 ⟨(some 15),.callf 93 [.t 13,.t 14],none⟩,
 ⟨(some 12),.mv (.t 15),none⟩,
 ⟨(some 16),.extract 0 (.t 12),none⟩,
 ⟨(some 17),.extract 1 (.t 12),none⟩,
 ⟨(some 6),.mv (.t 16),none⟩,
 ⟨(some 7),.mv (.t 17),none⟩]
def qz6x (b:Nat):List qzc:=[
 ⟨(some 18),.load false 1 (.t 2),none⟩,
 ⟨(some 19),.mv (.t 1),none⟩,
 ⟨(some 20),.mv (.t 7),none⟩,
 ⟨(some 21),.callv (.t 18) [.t 19,.t 20],none⟩,
 ⟨(some 5),.mv (.t 21),none⟩]
def c92 (b:Nat):qzk:=.seq (.reg false (qz36 b) []) (.seq (.seq (.reg false (qz9c b) []) (.cond (.t 10) (.seq (.reg false (qz7i b) []) (.ret)) (.skip))) (.seq (.reg false (wzax b) []) (.seq (.reg false (qz6x b) []) (.ret))))
def rs92:List ARes:=[.t 5]
theorem ck92:∃ c,Tryz.f92.body=some c∧∀ b,qzg Tryz.prog c (c92 b)=true:=⟨_,rfl,fun b=>by kernel_rfl⟩
theorem cr92:qzi Tryz.prog Tryz.f92.results.toList rs92=true:=by kernel_rfl
def qz90 (b:Nat):List qzc:=[
 ⟨(some 4),.mv (.c (.nils)),none⟩,
 ⟨(some 5),.mv (.c (.nils)),none⟩]
def wzbv (b:Nat):List qzc:=[
 ⟨(some 20),.mv (.t 0),none⟩,
 ⟨(some 21),.mv (.t 1),none⟩,
 ⟨(some 22),.callf 112 [.t 20,.t 21],none⟩,
 ⟨(some 23),.bin .lss false (.t 22) (.c (.int .i64 0)),none⟩]
def wzaa (b:Nat):List qzc:=[
 ⟨(some 24),.mv (.t 0),none⟩,
 ⟨(some 4),.mv (.c (.nils)),none⟩,
 ⟨(some 5),.mv (.t 24),none⟩]
def qz9p (b:Nat):List qzc:=[
 ⟨(some 25),.mv (.t 1),none⟩,
 ⟨(some 26),.len false (.t 25),none⟩,
 ⟨(some 27),.bin .eql false (.t 26) (.c (.int .i64 1)),none⟩]
def qz8e (b:Nat):List qzc:=[
 ⟨(some 29),.mv (.t 0),none⟩,
 ⟨(some 30),.mv (.t 1),none⟩,
 ⟨(some 31),.iaddrS 1 (.t 30) (.c (.int .i64 0)),none⟩,
 ⟨(some 32),.load false 1 (.t 31),none⟩,
 ⟨(some 33),.callf 113 [.t 29,.t 32],none⟩,
 ⟨(some 28),.mv (.t 33),none⟩,
 ⟨(some 34),.extract 0 (.t 28),none⟩,
 ⟨(some 35),.extract 1 (.t 28),none⟩,
 ⟨(some 6),.mv (.t 34),none⟩,
 ⟨(some 7),.mv (.t 35),none⟩]
def qzwe (b:Nat):List qzc:=[
 ⟨(some 36),.mv (.t 6),none⟩,
 ⟨(some 37),.mv (.t 7),none⟩,
 ⟨(some 38),.bslice (b+0) 1 1 [.int .u32 0] [(0,1,.t 37)],none⟩,
 ⟨(some 39),.callf 114 [.t 38],none⟩,
 ⟨(some 4),.mv (.t 36),none⟩,
 ⟨(some 5),.mv (.t 39),none⟩]
def wzal (b:Nat):List qzc:=[
 ⟨(some 8),.mv (.c (.int .i64 0)),none⟩]
def qz4s (b:Nat):List qzc:=[
 ⟨(some 40),.mv (.t 1),none⟩,
 ⟨(some 41),.mv (.t 1),none⟩,
 ⟨(some 42),.len false (.t 41),none⟩,
 ⟨(some 43),.bin .sub false (.t 42) (.c (.int .i64 1)),none⟩,
 ⟨(some 44),.iaddrS 1 (.t 40) (.t 43),none⟩,
 ⟨(some 45),.load false 1 (.t 44),none⟩,
 ⟨(some 46),.mv (.t 8),none⟩,
 ⟨(some 47),.bin .shl false (.t 45) (.t 46),none⟩,
 ⟨(some 48),.bin .lss false (.t 47) (.c (.int .u32 2147483648)),none⟩]
def wzaf (b:Nat):List qzc:=[
 ⟨(some 49),.mv (.t 8),none⟩,
 ⟨(some 50),.bin .add false (.t 49) (.c (.int .i64 1)),none⟩,
 ⟨(some 8),.mv (.t 50),none⟩]
def qz7x (b:Nat):qzk:=.seq (.seq (.reg false (qz4s b) []) (.cond (.t 48) (.skip) (.exit 0))) (.block 1 (.reg false (wzaf b) []))
def wzce (b:Nat):List qzc:=[
 ⟨(some 51),.mv (.t 1),none⟩,
 ⟨(some 52),.mv (.t 8),none⟩,
 ⟨(some 53),.callf 115 [.t 51,.t 52],none⟩,
 ⟨(some 9),.mv (.t 53),none⟩]
def qz2e (b:Nat):List qzc:=[
 ⟨(some 54),.mv (.t 0),none⟩,
 ⟨(some 55),.mv (.t 8),none⟩,
 ⟨(some 56),.callf 115 [.t 54,.t 55],none⟩,
 ⟨(some 57),.callf 116 [.t 56],none⟩,
 ⟨(some 58),.bslice (b+3) 1 2 [.int .u32 0,.int .u32 0] [(0,1,.c (.int .u32 0)),(1,1,.c (.int .u32 0))],none⟩,
 ⟨(some 59),.append (b+4) 1 4 (.t 57) (.t 58),none⟩,
 ⟨(some 10),.mv (.t 59),none⟩]
def qzx7 (b:Nat):List qzc:=[
 ⟨(some 60),.mv (.t 9),none⟩,
 ⟨(some 61),.len false (.t 60),none⟩,
 ⟨(some 11),.mv (.t 61),none⟩]
def qzxy (b:Nat):List qzc:=[
 ⟨(some 62),.mv (.t 0),none⟩,
 ⟨(some 63),.len false (.t 62),none⟩,
 ⟨(some 64),.mv (.t 11),none⟩,
 ⟨(some 65),.bin .sub false (.t 63) (.t 64),none⟩,
 ⟨(some 66),.bin .add false (.t 65) (.c (.int .i64 2)),none⟩,
 ⟨(some 67),.mks (b+5) 1 4 [.int .u32 0] (.t 66),none⟩,
 ⟨(some 12),.mv (.t 67),none⟩]
def qz1e (b:Nat):List qzc:=[
 ⟨(some 68),.mv (.t 10),none⟩,
 ⟨(some 69),.len false (.t 68),none⟩,
 ⟨(some 70),.mv (.t 11),none⟩,
 ⟨(some 71),.bin .sub false (.t 69) (.t 70),none⟩,
 ⟨(some 72),.bin .sub false (.t 71) (.c (.int .i64 1)),none⟩,
 ⟨(some 13),.mv (.t 72),none⟩]
def qzyu (b:Nat):List qzc:=[
 ⟨(some 73),.mv (.t 13),none⟩,
 ⟨(some 74),.bin .geq false (.t 73) (.c (.int .i64 0)),none⟩]
def qzyt (b:Nat):List qzc:=[
 ⟨(some 77),.mv (.t 10),none⟩,
 ⟨(some 78),.mv (.t 13),none⟩,
 ⟨(some 79),.mv (.t 11),none⟩,
 ⟨(some 80),.bin .add false (.t 78) (.t 79),none⟩,
 ⟨(some 81),.iaddrS 1 (.t 77) (.t 80),none⟩,
 ⟨(some 82),.load false 1 (.t 81),none⟩,
 ⟨(some 83),.conv .u64 (.t 82),none⟩,
 ⟨(some 84),.bin .shl false (.t 83) (.c (.int .u64 32)),none⟩,
 ⟨(some 85),.mv (.t 10),none⟩,
 ⟨(some 86),.mv (.t 13),none⟩,
 ⟨(some 87),.mv (.t 11),none⟩,
 ⟨(some 88),.bin .add false (.t 86) (.t 87),none⟩,
 ⟨(some 89),.bin .sub false (.t 88) (.c (.int .i64 1)),none⟩,
 ⟨(some 90),.iaddrS 1 (.t 85) (.t 89),none⟩,
 ⟨(some 91),.load false 1 (.t 90),none⟩,
 ⟨(some 92),.conv .u64 (.t 91),none⟩,
 ⟨(some 93),.bin .or false (.t 84) (.t 92),none⟩,
 ⟨(some 14),.mv (.t 93),none⟩]
def wzcz:List (List Nat):=[[],[],[],[1,2],[0,1,2,3],[0,1,2,3,4],[0,1,2,3,4,5],[0,1,2,3,4,5,6],[],[],[],[9,10],[9,10,11],[8,9,10,11,12],[8,9,10,11,12,13],[8,9,10,11,12,13,14],[0,1,2,3,4,5,6,7,8,9,10,11,12,13,14,15],[0,1,2,3,4,5,6,7,8,9,10,11,12,13,14,15,16]]
def qz1o (b:Nat):List qzc:=[
 ⟨(some 94),.mv (.t 14),none⟩,
 ⟨(some 95),.mv (.t 9),none⟩,
 ⟨(some 96),.mv (.t 11),none⟩,
 ⟨(some 97),.bin .sub false (.t 96) (.c (.int .i64 1)),none⟩,
 ⟨(some 98),.iaddrS 1 (.t 95) (.t 97),none⟩,
 ⟨(some 99),.load false 1 (.t 98),none⟩,
 ⟨(some 100),.conv .u64 (.t 99),none⟩,
 ⟨(some 101),.bin .quo false (.t 94) (.t 100),none⟩,
 ⟨(some 102),.min (.t 101) (.c (.int .u64 4294967295)),none⟩,
 ⟨(some 15),.mv (.t 102),none⟩,
 ⟨(some 16),.mv (.c (.int .u64 0)),none⟩]
def qzzm (b:Nat):List qzc:=[
 ⟨(some 103),.mv (.t 14),none⟩,
 ⟨(some 104),.mv (.t 15),none⟩,
 ⟨(some 105),.mv (.t 9),none⟩,
 ⟨(some 106),.mv (.t 11),none⟩,
 ⟨(some 107),.bin .sub false (.t 106) (.c (.int .i64 1)),none⟩,
 ⟨(some 108),.iaddrS 1 (.t 105) (.t 107),none⟩,
 ⟨(some 109),.load false 1 (.t 108),none⟩,
 ⟨(some 110),.conv .u64 (.t 109),none⟩,
 ⟨(some 111),.bin .mul false (.t 104) (.t 110),none⟩,
 ⟨(some 112),.bin .sub false (.t 103) (.t 111),none⟩,
 ⟨(some 16),.mv (.t 112),none⟩]
def qzsv (b:Nat):List qzc:=[
 ⟨(some 113),.mv (.t 16),none⟩,
 ⟨(some 114),.bin .lss false (.t 113) (.c (.int .u64 4294967296)),none⟩,
 ⟨(some 115),.mv (.t 114),none⟩,
 ⟨(some 116),.mv (.t 15),(some (115,true))⟩,
 ⟨(some 117),.mv (.t 9),(some (115,true))⟩,
 ⟨(some 118),.mv (.t 11),(some (115,true))⟩,
 ⟨(some 119),.bin .sub false (.t 118) (.c (.int .i64 2)),(some (115,true))⟩,
 ⟨(some 120),.iaddrS 1 (.t 117) (.t 119),(some (115,true))⟩,
 ⟨(some 121),.load false 1 (.t 120),(some (115,true))⟩,
 ⟨(some 122),.conv .u64 (.t 121),(some (115,true))⟩,
 ⟨(some 123),.bin .mul false (.t 116) (.t 122),(some (115,true))⟩,
 ⟨(some 124),.mv (.t 16),(some (115,true))⟩,
 ⟨(some 125),.bin .shl false (.t 124) (.c (.int .u64 32)),(some (115,true))⟩,
 ⟨(some 126),.mv (.t 10),(some (115,true))⟩,
 ⟨(some 127),.mv (.t 13),(some (115,true))⟩,
 ⟨(some 128),.mv (.t 11),(some (115,true))⟩,
 ⟨(some 129),.bin .add false (.t 127) (.t 128),(some (115,true))⟩,
 ⟨(some 130),.bin .sub false (.t 129) (.c (.int .i64 2)),(some (115,true))⟩,
 ⟨(some 131),.iaddrS 1 (.t 126) (.t 130),(some (115,true))⟩,
 ⟨(some 132),.load false 1 (.t 131),(some (115,true))⟩,
 ⟨(some 133),.conv .u64 (.t 132),(some (115,true))⟩,
 ⟨(some 134),.bin .or false (.t 125) (.t 133),(some (115,true))⟩,
 ⟨(some 135),.bin .gtr false (.t 123) (.t 134),(some (115,true))⟩,
 ⟨(some 136),.pick (.t 115) (.t 135) (.c (.bool false)),none⟩]
def wzdf:List (List Nat):=[[],[0],[0,1],[0,1,2],[0,1,2],[0,1,2],[0,1,2,5],[0,1,2,4,5,6],[0,1,2,4,5,6,7],[0,1,2,4,5,6,7,8],[0,1,2,3,4,5,6,7,8,9],[0,1,2],[0,1,2,11],[0,1,2],[0,1,2],[0,1,2],[0,1,2,14,15],[0,1,2,14,15,16],[0,1,2,13,14,15,16,17],[0,1,2,13,14,15,16,17,18],[0,1,2,13,14,15,16,17,18,19],[0,1,2,11,12,13,14,15,16,17,18,19,20],[0,1,2,3,4,5,6,7,8,9,10,11,12,13,14,15,16,17,18,19,20,21],[0,1,2,3,4,5,6,7,8,9,10,11,12,13,14,15,16,17,18,19,20,21,22]]
def qzzd (b:Nat):List qzc:=[
 ⟨(some 137),.mv (.t 15),none⟩,
 ⟨(some 138),.bin .sub false (.t 137) (.c (.int .u64 1)),none⟩,
 ⟨(some 15),.mv (.t 138),none⟩]
def qz0g (b:Nat):List qzc:=[
 ⟨(some 139),.mv (.t 16),none⟩,
 ⟨(some 140),.mv (.t 9),none⟩,
 ⟨(some 141),.mv (.t 11),none⟩,
 ⟨(some 142),.bin .sub false (.t 141) (.c (.int .i64 1)),none⟩,
 ⟨(some 143),.iaddrS 1 (.t 140) (.t 142),none⟩,
 ⟨(some 144),.load false 1 (.t 143),none⟩,
 ⟨(some 145),.conv .u64 (.t 144),none⟩,
 ⟨(some 146),.bin .add false (.t 139) (.t 145),none⟩,
 ⟨(some 16),.mv (.t 146),none⟩]
def wzas (b:Nat):qzk:=.seq (.seq (.reg true (qzsv b) wzdf) (.cond (.t 136) (.skip) (.exit 4))) (.block 5 (.seq (.reg false (qzzd b) []) (.reg false (qz0g b) [])))
def qz00 (b:Nat):List qzc:=[
 ⟨(some 147),.mv (.t 15),none⟩,
 ⟨(some 148),.bin .eql false (.t 147) (.c (.int .u64 0)),none⟩]
def qzy5 (b:Nat):List qzc:=[
 ⟨(some 149),.mv (.t 10),none⟩,
 ⟨(some 150),.mv (.t 13),none⟩,
 ⟨(some 151),.mv (.t 13),none⟩,
 ⟨(some 152),.mv (.t 11),none⟩,
 ⟨(some 153),.bin .add false (.t 151) (.t 152),none⟩,
 ⟨(some 154),.bin .add false (.t 153) (.c (.int .i64 1)),none⟩,
 ⟨(some 155),.slice false 1 (.t 149) (some (.t 150)) (some (.t 154)),none⟩,
 ⟨(some 17),.mv (.t 155),none⟩]
def qzsw (b:Nat):List qzc:=[
 ⟨(some 156),.mv (.t 9),none⟩,
 ⟨(some 157),.mv (.t 15),none⟩,
 ⟨(some 158),.conv .u32 (.t 157),none⟩,
 ⟨(some 159),.bslice (b+6) 1 1 [.int .u32 0] [(0,1,.t 158)],none⟩,
 ⟨(some 160),.callf 117 [.t 156,.t 159],none⟩,
 ⟨(some 18),.mv (.t 160),none⟩]
def qzuc (b:Nat):List qzc:=[
 ⟨(some 161),.mv (.t 17),none⟩,
 ⟨(some 162),.callf 116 [.t 161],none⟩,
 ⟨(some 163),.callf 114 [.t 162],none⟩,
 ⟨(some 164),.mv (.t 18),none⟩,
 ⟨(some 165),.callf 112 [.t 163,.t 164],none⟩,
 ⟨(some 166),.bin .lss false (.t 165) (.c (.int .i64 0)),none⟩]
def qz1j (b:Nat):List qzc:=[
 ⟨(some 167),.mv (.t 15),none⟩,
 ⟨(some 168),.bin .sub false (.t 167) (.c (.int .u64 1)),none⟩,
 ⟨(some 15),.mv (.t 168),none⟩]
def qz11 (b:Nat):List qzc:=[
 ⟨(some 169),.mv (.t 18),none⟩,
 ⟨(some 170),.mv (.t 9),none⟩,
 ⟨(some 171),.callf 118 [.t 169,.t 170],none⟩,
 ⟨(some 18),.mv (.t 171),none⟩]
def qz8b (b:Nat):qzk:=.seq (.seq (.reg false (qzuc b) []) (.cond (.t 166) (.skip) (.exit 6))) (.block 7 (.seq (.reg false (qz1j b) []) (.reg false (qz11 b) [])))
def qzs3 (b:Nat):List qzc:=[
 ⟨(some 172),.mv (.t 17),none⟩,
 ⟨(some 173),.callf 116 [.t 172],none⟩,
 ⟨(some 174),.callf 114 [.t 173],none⟩,
 ⟨(some 175),.mv (.t 18),none⟩,
 ⟨(some 176),.callf 118 [.t 174,.t 175],none⟩,
 ⟨(some 19),.mv (.t 176),none⟩]
def qz22 (b:Nat):List qzc:=[
 ⟨(some 177),.mv (.t 17),none⟩,
 ⟨none,.clear [.int .u32 0] (.t 177),none⟩]
def qz0b (b:Nat):List qzc:=[
 ⟨(some 178),.mv (.t 17),none⟩,
 ⟨(some 179),.mv (.t 19),none⟩,
 ⟨(some 180),.copy 1 (.t 178) (.t 179),none⟩]
def qz1t (b:Nat):List qzc:=[
 ⟨(some 181),.mv (.t 12),none⟩,
 ⟨(some 182),.mv (.t 13),none⟩,
 ⟨(some 183),.mv (.t 15),none⟩,
 ⟨(some 184),.conv .u32 (.t 183),none⟩,
 ⟨(some 185),.iaddrS 1 (.t 181) (.t 182),none⟩,
 ⟨none,.store 1 (.t 185) (.t 184),none⟩]
def qzsz (b:Nat):List qzc:=[
 ⟨(some 75),.mv (.t 13),none⟩,
 ⟨(some 76),.bin .sub false (.t 75) (.c (.int .i64 1)),none⟩,
 ⟨(some 13),.mv (.t 76),none⟩]
def qz9a (b:Nat):qzk:=.seq (.seq (.reg false (qzyu b) []) (.cond (.t 74) (.skip) (.exit 2))) (.seq (.block 3 (.seq (.reg true (qzyt b) wzcz) (.seq (.reg false (qz1o b) []) (.seq (.reg false (qzzm b) []) (.seq (.block 4 (.loop (wzas b))) (.seq (.seq (.reg false (qz00 b) []) (.cond (.t 148) (.exit 3) (.skip))) (.seq (.reg false (qzy5 b) []) (.seq (.reg false (qzsw b) []) (.seq (.block 6 (.loop (qz8b b))) (.seq (.reg false (qzs3 b) []) (.seq (.reg false (qz22 b) []) (.seq (.reg false (qz0b b) []) (.reg false (qz1t b) []))))))))))))) (.reg false (qzsz b) []))
def qz2d (b:Nat):List qzc:=[
 ⟨(some 186),.mv (.t 12),none⟩,
 ⟨(some 187),.callf 114 [.t 186],none⟩,
 ⟨(some 188),.mv (.t 10),none⟩,
 ⟨(some 189),.callf 114 [.t 188],none⟩,
 ⟨(some 190),.mv (.t 8),none⟩,
 ⟨(some 191),.neg (.t 190),none⟩,
 ⟨(some 192),.callf 115 [.t 189,.t 191],none⟩,
 ⟨(some 4),.mv (.t 187),none⟩,
 ⟨(some 5),.mv (.t 192),none⟩]
def c93 (b:Nat):qzk:=.seq (.reg false (qz90 b) []) (.scope (.seq (.seq (.reg false (wzbv b) []) (.cond (.t 23) (.seq (.reg false (wzaa b) []) (.ret)) (.skip))) (.seq (.seq (.reg false (qz9p b) []) (.cond (.t 27) (.seq (.reg false (qz8e b) []) (.seq (.reg false (qzwe b) []) (.ret))) (.skip))) (.seq (.reg false (wzal b) []) (.seq (.block 0 (.loop (qz7x b))) (.seq (.reg false (wzce b) []) (.seq (.reg false (qz2e b) []) (.seq (.reg false (qzx7 b) []) (.seq (.reg false (qzxy b) []) (.seq (.label 0) (.seq (.seq (.reg false (qz1e b) []) (.block 2 (.loop (qz9a b)))) (.seq (.reg false (qz2d b) []) (.ret)))))))))))))
def rs93:List ARes:=[.t 4,.t 5]
theorem ck93:∃ c,Tryz.f93.body=some c∧∀ b,qzg Tryz.prog c (c93 b)=true:=⟨_,rfl,fun b=>by kernel_rfl⟩
theorem cr93:qzi Tryz.prog Tryz.f93.results.toList rs93=true:=by kernel_rfl
def qz50 (b:Nat):List qzc:=[
 ⟨(some 2),.mv (.c (.str [])),none⟩]
def wzad (b:Nat):List qzc:=[
 ⟨(some 3),.mv (.c (.nils)),none⟩]
def wza9 (b:Nat):List qzc:=[
 ⟨(some 6),.mv (.t 0),none⟩,
 ⟨(some 7),.len false (.t 6),none⟩,
 ⟨(some 8),.mv (.c (.int .i64 0)),none⟩]
def wzb1 (b:Nat):List qzc:=[
 ⟨(some 9),.bin .lss false (.t 8) (.t 7),none⟩]
def wzb8 (b:Nat):List qzc:=[
 ⟨(some 10),.iaddrS 1 (.t 6) (.t 8),none⟩,
 ⟨(some 11),.load false 1 (.t 10),none⟩,
 ⟨(some 5),.mv (.t 11),none⟩]
def qzxa (b:Nat):List qzc:=[
 ⟨(some 12),.mv (.t 3),none⟩,
 ⟨(some 13),.mv (.t 5),none⟩,
 ⟨(some 14),.conv .u8 (.t 13),none⟩,
 ⟨(some 15),.mv (.t 5),none⟩,
 ⟨(some 16),.bin .shr false (.t 15) (.c (.int .u64 8)),none⟩,
 ⟨(some 17),.conv .u8 (.t 16),none⟩,
 ⟨(some 18),.mv (.t 5),none⟩,
 ⟨(some 19),.bin .shr false (.t 18) (.c (.int .u64 16)),none⟩,
 ⟨(some 20),.conv .u8 (.t 19),none⟩,
 ⟨(some 21),.mv (.t 5),none⟩,
 ⟨(some 22),.bin .shr false (.t 21) (.c (.int .u64 24)),none⟩,
 ⟨(some 23),.conv .u8 (.t 22),none⟩,
 ⟨(some 24),.bslice (b+0) 1 4 [.int .u8 0,.int .u8 0,.int .u8 0,.int .u8 0] [(0,1,.t 14),(1,1,.t 17),(2,1,.t 20),(3,1,.t 23)],none⟩,
 ⟨(some 25),.append (b+1) 1 1 (.t 12) (.t 24),none⟩,
 ⟨(some 3),.mv (.t 25),none⟩]
def qz47 (b:Nat):List qzc:=[
 ⟨(some 26),.bin .add false (.t 8) (.c (.int .i64 1)),none⟩,
 ⟨(some 8),.mv (.t 26),none⟩]
def wzcd (b:Nat):qzk:=.seq (.reg false (wzb1 b) []) (.seq (.cond (.t 9) (.skip) (.exit 0)) (.seq (.block 1 (.seq (.reg false (wzb8 b) []) (.reg false (qzxa b) []))) (.reg false (qz47 b) [])))
def qz92 (b:Nat):List qzc:=[
 ⟨(some 27),.mv (.t 3),none⟩,
 ⟨(some 28),.callf 119 [.t 27],none⟩]
def qz65 (b:Nat):List qzc:=[
 ⟨(some 29),.mv (.t 3),none⟩,
 ⟨(some 30),.b2s (.t 29),none⟩,
 ⟨(some 31),.callf 120 [.t 30],none⟩,
 ⟨(some 2),.mv (.t 31),none⟩]
def c95 (b:Nat):qzk:=.seq (.reg false (qz50 b) []) (.seq (.reg false (wzad b) []) (.seq (.seq (.reg false (wza9 b) []) (.block 0 (.loop (wzcd b)))) (.seq (.reg false (qz92 b) []) (.seq (.reg false (qz65 b) []) (.ret)))))
def rs95:List ARes:=[.t 2]
theorem ck95:∃ c,Tryz.f95.body=some c∧∀ b,qzg Tryz.prog c (c95 b)=true:=⟨_,rfl,fun b=>by kernel_rfl⟩
theorem cr95:qzi Tryz.prog Tryz.f95.results.toList rs95=true:=by kernel_rfl
def qzz0 (b:Nat):List qzc:=[
 ⟨(some 2),.mv (.c (.nils)),none⟩]
def qzsp (b:Nat):List qzc:=[
 ⟨(some 3),.mv (.t 0),none⟩,
 ⟨(some 4),.isnil false (.t 3),none⟩]
def wzfp (b:Nat):List qzc:=[
 ⟨(some 2),.mv (.c (.nils)),none⟩]
def qzso (b:Nat):List qzc:=[
 ⟨(some 5),.bslice (b+0) 1 0 [] [],none⟩,
 ⟨(some 6),.mv (.t 0),none⟩,
 ⟨(some 7),.append (b+1) 1 4 (.t 5) (.t 6),none⟩,
 ⟨(some 2),.mv (.t 7),none⟩]
def c116 (b:Nat):qzk:=.seq (.reg false (qzz0 b) []) (.seq (.seq (.reg false (qzsp b) []) (.cond (.t 4) (.seq (.reg false (wzfp b) []) (.ret)) (.skip))) (.seq (.reg false (qzso b) []) (.ret)))
def qzpj:List ARes:=[.t 2]
theorem wzf8:∃ c,Tryz.f116.body=some c∧∀ b,qzg Tryz.prog c (c116 b)=true:=⟨_,rfl,fun b=>by kernel_rfl⟩
theorem wzfv:qzi Tryz.prog Tryz.f116.results.toList qzpj=true:=by kernel_rfl
def wzfb (b:Nat):List qzc:=[
 ⟨(some 4),.mv (.t 0),none⟩,
 ⟨(some 5),.len false (.t 4),none⟩,
 ⟨(some 6),.bin .sub false (.t 5) (.c (.int .i64 1)),none⟩,
 ⟨(some 2),.mv (.c (.int .i64 0)),none⟩,
 ⟨(some 3),.mv (.t 6),none⟩]
def wzfn (b:Nat):List qzc:=[
 ⟨(some 7),.mv (.t 2),none⟩,
 ⟨(some 8),.mv (.t 3),none⟩,
 ⟨(some 9),.bin .lss false (.t 7) (.t 8),none⟩]
def wzfi (b:Nat):List qzc:=[
 ⟨(some 14),.mv (.t 0),none⟩,
 ⟨(some 15),.mv (.t 2),none⟩,
 ⟨(some 16),.mv (.t 0),none⟩,
 ⟨(some 17),.mv (.t 3),none⟩,
 ⟨(some 18),.mv (.t 0),none⟩,
 ⟨(some 19),.mv (.t 3),none⟩,
 ⟨(some 20),.iaddrS 1 (.t 18) (.t 19),none⟩,
 ⟨(some 21),.load false 1 (.t 20),none⟩,
 ⟨(some 22),.mv (.t 0),none⟩,
 ⟨(some 23),.mv (.t 2),none⟩,
 ⟨(some 24),.iaddrS 1 (.t 22) (.t 23),none⟩,
 ⟨(some 25),.load false 1 (.t 24),none⟩,
 ⟨(some 26),.iaddrS 1 (.t 14) (.t 15),none⟩,
 ⟨none,.store 1 (.t 26) (.t 21),none⟩,
 ⟨(some 27),.iaddrS 1 (.t 16) (.t 17),none⟩,
 ⟨none,.store 1 (.t 27) (.t 25),none⟩]
def wzcx:List (List Nat):=[[],[],[],[],[],[],[4,5],[4,5,6],[],[],[8,9],[8,9,10],[0,1,4,5,6,7,8,9,10,11],[0,1,4,5,6,7,8,9,10,11,12],[0,1,2,3,4,5,6,7,8,9,10,11,12,13],[0,1,2,3,4,5,6,7,8,9,10,11,12,13,14]]
def wzfk (b:Nat):List qzc:=[
 ⟨(some 10),.mv (.t 2),none⟩,
 ⟨(some 11),.bin .add false (.t 10) (.c (.int .i64 1)),none⟩,
 ⟨(some 12),.mv (.t 3),none⟩,
 ⟨(some 13),.bin .sub false (.t 12) (.c (.int .i64 1)),none⟩,
 ⟨(some 2),.mv (.t 11),none⟩,
 ⟨(some 3),.mv (.t 13),none⟩]
def wzem (b:Nat):qzk:=.seq (.seq (.reg false (wzfn b) []) (.cond (.t 9) (.skip) (.exit 0))) (.seq (.block 1 (.reg true (wzfi b) wzcx)) (.reg false (wzfk b) []))
def c119 (b:Nat):qzk:=.seq (.reg false (wzfb b) []) (.block 0 (.loop (wzem b)))
def wzgt:List ARes:=[]
theorem wzg9:∃ c,Tryz.f119.body=some c∧∀ b,qzg Tryz.prog c (c119 b)=true:=⟨_,rfl,fun b=>by kernel_rfl⟩
theorem wzg8:qzi Tryz.prog Tryz.f119.results.toList wzgt=true:=by kernel_rfl
def qzz7 (b:Nat):List qzc:=[
 ⟨(some 4),.mv (.c (.str [])),none⟩]
def qz0z (b:Nat):List qzc:=[
 ⟨(some 7),.mv (.t 0),none⟩,
 ⟨(some 8),.bin .eql false (.t 7) (.c (.str [])),none⟩,
 ⟨(some 9),.mv (.t 8),none⟩,
 ⟨(some 10),.mv (.t 1),(some (9,false))⟩,
 ⟨(some 11),.bin .eql false (.t 10) (.c (.str [])),(some (9,false))⟩,
 ⟨(some 12),.pick (.t 9) (.c (.bool true)) (.t 11),none⟩]
def qz2o (b:Nat):List qzc:=[
 ⟨(some 13),.mv (.t 0),none⟩,
 ⟨(some 4),.mv (.t 13),none⟩]
def qzt6 (b:Nat):List qzc:=[
 ⟨(some 14),.mv (.t 1),none⟩,
 ⟨(some 15),.len true (.t 14),none⟩,
 ⟨(some 16),.bin .eql false (.t 15) (.c (.int .i64 1)),none⟩,
 ⟨(some 17),.mv (.t 16),none⟩,
 ⟨(some 18),.mv (.t 1),(some (17,true))⟩,
 ⟨(some 19),.sidx (.t 18) (.c (.int .i64 0)),(some (17,true))⟩,
 ⟨(some 20),.bin .lss false (.t 19) (.c (.int .u8 128)),(some (17,true))⟩,
 ⟨(some 21),.pick (.t 17) (.t 20) (.c (.bool false)),none⟩]
def qz2m (b:Nat):List qzc:=[
 ⟨(some 22),.mv (.t 0),none⟩,
 ⟨(some 23),.mv (.t 1),none⟩,
 ⟨(some 24),.sidx (.t 23) (.c (.int .i64 0)),none⟩,
 ⟨(some 25),.callf 146 [.t 22,.t 24],none⟩,
 ⟨(some 4),.mv (.t 25),none⟩]
def wzff (b:Nat):List qzc:=[
 ⟨(some 27),.mv (.t 1),none⟩,
 ⟨(some 28),.callf 147 [.t 27],none⟩,
 ⟨(some 26),.mv (.t 28),none⟩,
 ⟨(some 29),.extract 0 (.t 26),none⟩,
 ⟨(some 30),.extract 1 (.t 26),none⟩,
 ⟨(some 5),.alloc (b+0) [.bool false,.bool false,.bool false,.bool false,.bool false,.bool false,.bool false,.bool false,.bool false,.bool false,.bool false,.bool false,.bool false,.bool false,.bool false,.bool false,.bool false,.bool false,.bool false,.bool false,.bool false,.bool false,.bool false,.bool false,.bool false,.bool false,.bool false,.bool false,.bool false,.bool false,.bool false,.bool false,.bool false,.bool false,.bool false,.bool false,.bool false,.bool false,.bool false,.bool false,.bool false,.bool false,.bool false,.bool false,.bool false,.bool false,.bool false,.bool false,.bool false,.bool false,.bool false,.bool false,.bool false,.bool false,.bool false,.bool false,.bool false,.bool false,.bool false,.bool false,.bool false,.bool false,.bool false,.bool false,.bool false,.bool false,.bool false,.bool false,.bool false,.bool false,.bool false,.bool false,.bool false,.bool false,.bool false,.bool false,.bool false,.bool false,.bool false,.bool false,.bool false,.bool false,.bool false,.bool false,.bool false,.bool false,.bool false,.bool false,.bool false,.bool false,.bool false,.bool false,.bool false,.bool false,.bool false,.bool false,.bool false,.bool false,.bool false,.bool false,.bool false,.bool false,.bool false,.bool false,.bool false,.bool false,.bool false,.bool false,.bool false,.bool false,.bool false,.bool false,.bool false,.bool false,.bool false,.bool false,.bool false,.bool false,.bool false,.bool false,.bool false,.bool false,.bool false,.bool false,.bool false,.bool false,.bool false,.bool false,.bool false,.bool false,.bool false,.bool false,.bool false,.bool false,.bool false,.bool false,.bool false,.bool false,.bool false,.bool false,.bool false,.bool false,.bool false,.bool false,.bool false,.bool false,.bool false,.bool false,.bool false,.bool false,.bool false,.bool false,.bool false,.bool false,.bool false,.bool false,.bool false,.bool false,.bool false,.bool false,.bool false,.bool false,.bool false,.bool false,.bool false,.bool false,.bool false,.bool false,.bool false,.bool false,.bool false,.bool false,.bool false,.bool false,.bool false,.bool false,.bool false,.bool false,.bool false,.bool false,.bool false,.bool false,.bool false,.bool false,.bool false,.bool false,.bool false,.bool false,.bool false,.bool false,.bool false,.bool false,.bool false,.bool false,.bool false,.bool false,.bool false,.bool false,.bool false,.bool false,.bool false,.bool false,.bool false,.bool false,.bool false,.bool false,.bool false,.bool false,.bool false,.bool false,.bool false,.bool false,.bool false,.bool false,.bool false,.bool false,.bool false,.bool false,.bool false,.bool false,.bool false,.bool false,.bool false,.bool false,.bool false,.bool false,.bool false,.bool false,.bool false,.bool false,.bool false,.bool false,.bool false,.bool false,.bool false,.bool false,.bool false,.bool false,.bool false,.bool false,.bool false,.bool false,.bool false,.bool false,.bool false,.bool false,.bool false,.bool false,.bool false,.bool false,.bool false,.bool false,.bool false,.bool false,.bool false,.bool false],none⟩,
 ⟨none,.store 256 (.t 5) (.t 29),none⟩,
 ⟨(some 6),.mv (.t 30),none⟩]
def wzeb (b:Nat):List qzc:=[
 ⟨(some 31),.mv (.t 6),none⟩]
def wzep (b:Nat):List qzc:=[
 ⟨(some 32),.mv (.t 0),none⟩,
 ⟨(some 33),.callf 148 [.t 32,.t 5],none⟩,
 ⟨(some 4),.mv (.t 33),none⟩]
def wzes (b:Nat):List qzc:=[
 ⟨(some 34),.mv (.t 0),none⟩,
 ⟨(some 35),.mv (.t 1),none⟩,
 ⟨(some 36),.callf 149 [.t 34,.t 35],none⟩,
 ⟨(some 4),.mv (.t 36),none⟩]
def c137 (b:Nat):qzk:=.seq (.reg false (qzz7 b) []) (.seq (.seq (.reg false (qz0z b) []) (.cond (.t 12) (.seq (.reg false (qz2o b) []) (.ret)) (.skip))) (.seq (.seq (.reg false (qzt6 b) []) (.cond (.t 21) (.seq (.reg false (qz2m b) []) (.ret)) (.skip))) (.seq (.seq (.reg false (wzff b) []) (.seq (.reg false (wzeb b) []) (.cond (.t 31) (.seq (.reg false (wzep b) []) (.ret)) (.skip)))) (.seq (.reg false (wzes b) []) (.ret)))))
def qzlw:List ARes:=[.t 4]
theorem wzg4:∃ c,Tryz.f137.body=some c∧∀ b,qzg Tryz.prog c (c137 b)=true:=⟨_,rfl,fun b=>by kernel_rfl⟩
theorem wzgr:qzi Tryz.prog Tryz.f137.results.toList qzlw=true:=by kernel_rfl
end Go.Am

