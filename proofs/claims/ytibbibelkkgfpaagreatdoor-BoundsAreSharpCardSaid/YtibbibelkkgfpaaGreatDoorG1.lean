/- Part G1: the code of some functions of this seat over abstract operations. No condition. -/
import Derived.Test.YtibbibelkkgfpaaGreatDoorF2
set_option linter.unusedVariables false
namespace Go.Am
open Go.Proofs
@[simp] abbrev sO(d:Nat)(p:Ao):Ak:=⟨some d,p,none⟩
def Y6(b:Nat):List Ak:=[
    sO 4 (.box (b+0) (.t 1)),sO 5 (.box (b+1) (.t 2)),sO 6 (.alloc (b+2) [.bool false,.str [],.str []]),sO 7 (.alloc (b+3) [.int .i64 0,.nils])]
def Y8(b:Nat):List Ak:=[
    sO 24 (.mkfn 91 0 [.t 4,.t 5]),sO 8 (.mv (.t 24))]
def Y9(b:Nat):List Ak:=[
    sO 9 (.alloc (b+4) [.bool false,.str [],.str []])]
def YD(b:Nat):List Ak:=[
    sO 10 (.alloc (b+5) [.int .i64 0,.nils])]
def YJ(b:Nat):List Ak:=[
    sO 25 (.mv (.t 0)),sO 26 (.len false (.t 25)),sO 27 (.bin .gtr false (.t 26) (.c (.int .i64 0)))]
def YO(b:Nat):List Ak:=[
    sO 28 (.mv (.t 0)),sO 29 (.iaddrS 5 (.t 28) (.c (.int .i64 0))),sO 30 (.faddr 0 (.t 29)),sO 31 (.load false 1 (.t 30)),sO 32 (.mv (.t 0)),sO 33 (.mv (.t 0)),sO 34 (.len false (.t 33)),sO 35 (.bin .sub false (.t 34) (.c (.int .i64 1))),sO 36 (.iaddrS 5 (.t 32) (.t 35)),sO 37 (.faddr 1 (.t 36)),sO 38 (.load false 1 (.t 37)),sO 39 (.mv (.t 0)),sO 40 (.iaddrS 5 (.t 39) (.c (.int .i64 0))),sO 41 (.faddr 0 (.t 40)),sO 42 (.load false 1 (.t 41)),sO 43 (.bin .sub false (.t 38) (.t 42)),sO 44 (.mks (b+6) 1 8 [.int .i64 0] (.t 43)),sO 45 (.build [.int .i64 0,.nils] [(0,1,.t 31),(1,1,.t 44)]),⟨none,.store 2 (.t 10) (.t 45),none⟩]
def wzr4:List (List Nat):=[[],[0],[0,1],[0,1,2],[],[],[5],[5,6],[4,5,6,7],[4,5,6,7,8],[4,5,6,7,8,9],[],[11],[11,12],[11,12,13],[4,5,6,7,8,9,10,11,12,13,14],[4,5,6,7,8,9,10,11,12,13,14,15],[0,1,2,3,4,5,6,7,8,9,10,11,12,13,14,15,16],[0,1,2,3,4,5,6,7,8,9,10,11,12,13,14,15,16,17]]
def PG(b:Nat):List Ak:=[
    sO 46 (.mv (.t 0)),sO 47 (.len false (.t 46)),sO 48 (.mv (.c (.int .i64 0)))]
def P9(b:Nat):List Ak:=[
    sO 49 (.bin .lss false (.t 48) (.t 47))]
def Yv(b:Nat):List Ak:=[
    sO 50 (.iaddrS 5 (.t 46) (.t 48)),sO 51 (.load true 5 (.t 50)),sO 12 (.alloc (b+7) [.int .i64 0,.int .i64 0,.nils,.int .i64 0,.int .i64 0]),⟨none,.store 5 (.t 12) (.t 51),none⟩]
def Yw(b:Nat):List Ak:=[
    sO 52 (.mkmap (b+8)),sO 13 (.mv (.t 52))]
def PC(b:Nat):List Ak:=[
    sO 53 (.faddr 2 (.t 12)),sO 54 (.load false 1 (.t 53)),sO 55 (.len false (.t 54)),sO 56 (.bin .eql false (.t 55) (.c (.int .i64 0)))]
def Yx(b:Nat):List Ak:=[
    sO 57 (.load true 5 (.t 12)),sO 58 (.load false 1 (.t 4)),sO 59 (.callf 44 [.t 57,.t 58]),sO 60 (.len false (.t 59)),sO 61 (.mv (.c (.int .i64 0)))]
def XW(b:Nat):List Ak:=[
    sO 62 (.bin .lss false (.t 61) (.t 60))]
def XX(b:Nat):List Ak:=[
    sO 63 (.iaddrS 2 (.t 59) (.t 61)),sO 64 (.load true 2 (.t 63)),sO 15 (.alloc (b+9) [.int .i64 0,.int .i64 0]),⟨none,.store 2 (.t 15) (.t 64),none⟩]
def XY(b:Nat):List Ak:=[
    sO 65 (.faddr 3 (.t 12)),sO 66 (.load false 1 (.t 65)),sO 16 (.mv (.t 66))]
def Ya(b:Nat):List Ak:=[
    sO 67 (.mv (.t 8)),sO 68 (.faddr 0 (.t 15)),sO 69 (.load false 1 (.t 68)),sO 70 (.faddr 4 (.t 12)),sO 71 (.load false 1 (.t 70)),sO 72 (.callv (.t 67) [.t 69,.t 71]),sO 73 (.mv (.t 8)),sO 74 (.faddr 0 (.t 15)),sO 75 (.load false 1 (.t 74)),sO 76 (.faddr 3 (.t 12)),sO 77 (.load false 1 (.t 76)),sO 78 (.callv (.t 73) [.t 75,.t 77]),sO 79 (.callf 23 [.t 72,.t 78]),sO 80 (.bin .lss false (.t 79) (.c (.int .i64 0)))]
def wzpu:List (List Nat):=[[],[],[1],[],[3],[0,1,2,3,4],[],[],[7],[],[9],[0,1,2,3,4,5,6,7,8,9,10],[0,1,2,3,4,5,6,7,8,9,10,11],[0,1,2,3,4,5,6,7,8,9,10,11,12]]
def Yb(b:Nat):List Ak:=[
    sO 81 (.faddr 4 (.t 12)),sO 82 (.load false 1 (.t 81)),sO 16 (.mv (.t 82))]
def Py(b:Nat):List Ak:=[
    sO 83 (.faddr 1 (.t 15)),sO 84 (.load false 1 (.t 83)),sO 85 (.mv (.c (.int .i64 0)))]
def XT(b:Nat):List Ak:=[
    sO 86 (.bin .lss false (.t 85) (.t 84))]
def Ma(b:Nat):List Ak:=[
    sO 87 (.mv (.t 13)),sO 88 (.faddr 0 (.t 15)),sO 89 (.load false 1 (.t 88)),sO 90 (.mv (.t 13)),sO 91 (.faddr 0 (.t 15)),sO 92 (.load false 1 (.t 91)),sO 93 (.mlook 1 false (.nils) (.t 90) (.t 92)),sO 94 (.mv (.t 16)),sO 95 (.bslice (b+10) 1 1 [.int .i64 0] [(0,1,.t 94)]),sO 96 (.append (b+11) 1 8 (.t 93) (.t 95)),⟨none,.mupd 1 (.t 87) (.t 89) (.t 96),none⟩]
def XS:List (List Nat):=[[],[],[1],[],[],[4],[3,4,5],[],[7],[3,4,5,6,7,8],[0,1,2,3,4,5,6,7,8,9]]
def XU(b:Nat):List Ak:=[
    sO 97 (.bin .add false (.t 85) (.c (.int .i64 1))),sO 85 (.mv (.t 97))]
def Px(b:Nat):AO:=.seq (.reg false (XT b) []) (.seq (.cond (.t 86) (.skip) (.exit 4)) (.seq (.block 5 (.reg true (Ma b) XS)) (.reg false (XU b) [])))
def Pz(b:Nat):List Ak:=[
    sO 98 (.load true 3 (.t 9)),sO 99 (.faddr 1 (.t 15)),sO 100 (.load false 1 (.t 99)),sO 101 (.callf 42 [.t 100]),sO 102 (.mv (.t 8)),sO 103 (.faddr 0 (.t 15)),sO 104 (.load false 1 (.t 103)),sO 105 (.mv (.t 16)),sO 106 (.callv (.t 102) [.t 104,.t 105]),sO 107 (.callf 30 [.t 101,.t 106]),sO 108 (.callf 31 [.t 98,.t 107]),⟨none,.store 3 (.t 9) (.t 108),none⟩]
def XZ:List (List Nat):=[[],[],[1],[1,2],[],[],[5],[],[1,2,3,4,5,6,7],[1,2,3,4,5,6,7,8],[0,1,2,3,4,5,6,7,8,9],[0,1,2,3,4,5,6,7,8,9,10]]
def P0(b:Nat):List Ak:=[
    sO 109 (.bin .add false (.t 61) (.c (.int .i64 1))),sO 61 (.mv (.t 109))]
def XV(b:Nat):AO:=.seq (.reg false (XW b) []) (.seq (.cond (.t 62) (.skip) (.exit 2)) (.seq (.block 3 (.seq (.reg false (XX b) []) (.seq (.reg false (XY b) []) (.seq (.seq (.reg true (Ya b) wzpu) (.cond (.t 80) (.reg false (Yb b) []) (.skip))) (.seq (.seq (.reg false (Py b) []) (.block 4 (.loop (Px b)))) (.reg true (Pz b) XZ)))))) (.reg false (P0 b) [])))
def Yy(b:Nat):List Ak:=[
    sO 110 (.load true 5 (.t 12)),sO 111 (.load false 1 (.t 4)),sO 112 (.mv (.t 8)),sO 113 (.callf 94 [.t 110,.t 111,.t 112]),sO 17 (.mv (.t 113))]
def Yz(b:Nat):List Ak:=[
    sO 114 (.mv (.t 17)),sO 115 (.callf 95 [.t 114])]
def Y4(b:Nat):List Ak:=[
    sO 116 (.mv (.t 17)),sO 117 (.nilck (.t 116)),sO 118 (.faddr 7 (.t 117)),sO 119 (.load false 1 (.t 118)),sO 120 (.len false (.t 119)),sO 121 (.mv (.c (.int .i64 0)))]
def Yn(b:Nat):List Ak:=[
    sO 122 (.bin .lss false (.t 121) (.t 120))]
def Yo(b:Nat):List Ak:=[
    sO 123 (.mv (.t 121)),sO 124 (.iaddrS 1 (.t 119) (.t 121)),sO 125 (.load false 1 (.t 124)),sO 18 (.mv (.t 123)),sO 19 (.mv (.t 125))]
def Yp(b:Nat):List Ak:=[
    sO 126 (.mv (.t 19)),sO 127 (.len false (.t 126)),sO 128 (.mv (.c (.int .i64 0)))]
def Yh(b:Nat):List Ak:=[
    sO 129 (.bin .lss false (.t 128) (.t 127))]
def Yi(b:Nat):List Ak:=[
    sO 130 (.mv (.t 128)),sO 131 (.iaddrS 1 (.t 126) (.t 128)),sO 132 (.load false 1 (.t 131)),sO 20 (.mv (.t 130)),sO 21 (.mv (.t 132))]
def Yj(b:Nat):List Ak:=[
    sO 133 (.mv (.t 21)),sO 134 (.mv (.c (.int .i64 0)))]
def Ye(b:Nat):List Ak:=[
    sO 135 (.bin .lss false (.t 134) (.t 133))]
def Mb(b:Nat):List Ak:=[
    sO 136 (.mv (.t 13)),sO 137 (.mv (.t 17)),sO 138 (.nilck (.t 137)),sO 139 (.faddr 5 (.t 138)),sO 140 (.load false 1 (.t 139)),sO 141 (.mv (.t 20)),sO 142 (.iaddrS 2 (.t 140) (.t 141)),sO 143 (.faddr 0 (.t 142)),sO 144 (.load false 1 (.t 143)),sO 145 (.mv (.t 13)),sO 146 (.mv (.t 17)),sO 147 (.nilck (.t 146)),sO 148 (.faddr 5 (.t 147)),sO 149 (.load false 1 (.t 148)),sO 150 (.mv (.t 20)),sO 151 (.iaddrS 2 (.t 149) (.t 150)),sO 152 (.faddr 0 (.t 151)),sO 153 (.load false 1 (.t 152)),sO 154 (.mlook 1 false (.nils) (.t 145) (.t 153)),sO 155 (.faddr 2 (.t 12)),sO 156 (.load false 1 (.t 155)),sO 157 (.mv (.t 18)),sO 158 (.iaddrS 2 (.t 156) (.t 157)),sO 159 (.faddr 0 (.t 158)),sO 160 (.load false 1 (.t 159)),sO 161 (.bslice (b+12) 1 1 [.int .i64 0] [(0,1,.t 160)]),sO 162 (.append (b+13) 1 8 (.t 154) (.t 161)),⟨none,.mupd 1 (.t 136) (.t 144) (.t 162),none⟩]
def Yc:List (List Nat):=[[],[],[1],[1,2],[1,2,3],[],[1,2,3,4,5],[1,2,3,4,5,6],[1,2,3,4,5,6,7],[],[],[10],[10,11],[10,11,12],[],[10,11,12,13,14],[10,11,12,13,14,15],[10,11,12,13,14,15,16],[9,10,11,12,13,14,15,16,17],[],[19],[],[19,20,21],[19,20,21,22],[19,20,21,22,23],[19,20,21,22,23,24],[9,10,11,12,13,14,15,16,17,18,19,20,21,22,23,24,25],[0,1,2,3,4,5,6,7,8,9,10,11,12,13,14,15,16,17,18,19,20,21,22,23,24,25,26]]
def Yf(b:Nat):List Ak:=[
    sO 163 (.bin .add false (.t 134) (.c (.int .i64 1))),sO 134 (.mv (.t 163))]
def Yd(b:Nat):AO:=.seq (.reg false (Ye b) []) (.seq (.cond (.t 135) (.skip) (.exit 10)) (.seq (.block 11 (.reg true (Mb b) Yc)) (.reg false (Yf b) [])))
def Yk(b:Nat):List Ak:=[
    sO 164 (.load true 3 (.t 9)),sO 165 (.mv (.t 21)),sO 166 (.callf 42 [.t 165]),sO 167 (.mv (.t 17)),sO 168 (.nilck (.t 167)),sO 169 (.faddr 6 (.t 168)),sO 170 (.load false 1 (.t 169)),sO 171 (.mv (.t 18)),sO 172 (.iaddrS 1 (.t 170) (.t 171)),sO 173 (.load false 1 (.t 172)),sO 174 (.mv (.t 20)),sO 175 (.iaddrS 3 (.t 173) (.t 174)),sO 176 (.load true 3 (.t 175)),sO 177 (.callf 30 [.t 166,.t 176]),sO 178 (.callf 31 [.t 164,.t 177]),⟨none,.store 3 (.t 9) (.t 178),none⟩]
def wzoe:List (List Nat):=[[],[],[1],[],[3],[3,4],[3,4,5],[],[3,4,5,6,7],[3,4,5,6,7,8],[],[3,4,5,6,7,8,9,10],[3,4,5,6,7,8,9,10,11],[1,2,3,4,5,6,7,8,9,10,11,12],[0,1,2,3,4,5,6,7,8,9,10,11,12,13],[0,1,2,3,4,5,6,7,8,9,10,11,12,13,14]]
def Yl(b:Nat):List Ak:=[
    sO 179 (.bin .add false (.t 128) (.c (.int .i64 1))),sO 128 (.mv (.t 179))]
def Yg(b:Nat):AO:=.seq (.reg false (Yh b) []) (.seq (.cond (.t 129) (.skip) (.exit 8)) (.seq (.block 9 (.seq (.reg false (Yi b) []) (.seq (.seq (.reg false (Yj b) []) (.block 10 (.loop (Yd b)))) (.reg true (Yk b) wzoe)))) (.reg false (Yl b) [])))
def Yq(b:Nat):List Ak:=[
    sO 180 (.bin .add false (.t 121) (.c (.int .i64 1))),sO 121 (.mv (.t 180))]
def Ym(b:Nat):AO:=.seq (.reg false (Yn b) []) (.seq (.cond (.t 122) (.skip) (.exit 6)) (.seq (.block 7 (.seq (.reg false (Yo b) []) (.seq (.reg false (Yp b) []) (.block 8 (.loop (Yg b)))))) (.reg false (Yq b) [])))
def PA(b:Nat):List Ak:=[
    sO 181 (.faddr 0 (.t 12)),sO 182 (.load false 1 (.t 181)),sO 22 (.alloc (b+14) [.int .i64 0]),⟨none,.store 1 (.t 22) (.t 182),none⟩]
def Yr(b:Nat):List Ak:=[
    sO 183 (.load false 1 (.t 22)),sO 184 (.faddr 1 (.t 12)),sO 185 (.load false 1 (.t 184)),sO 186 (.bin .lss false (.t 183) (.t 185))]
def Yt(b:Nat):List Ak:=[
    sO 189 (.load false 1 (.t 4)),sO 190 (.len false (.t 189)),sO 191 (.mkfn 96 0 [.t 4,.t 22]),sO 192 (.callf 81 [.t 190,.t 191]),sO 23 (.mv (.t 192))]
def P7(b:Nat):List Ak:=[
    sO 193 (.mv (.t 23)),sO 194 (.load false 1 (.t 4)),sO 195 (.len false (.t 194)),sO 196 (.bin .eql false (.t 193) (.t 195)),sO 197 (.mv (.t 196)),⟨(some 198),.load false 1 (.t 4),(some (197,false))⟩,⟨(some 199),.mv (.t 23),(some (197,false))⟩,⟨(some 200),.iaddrS 7 (.t 198) (.t 199),(some (197,false))⟩,⟨(some 201),.faddr 0 (.t 200),(some (197,false))⟩,⟨(some 202),.load false 1 (.t 201),(some (197,false))⟩,⟨(some 203),.load false 1 (.t 22),(some (197,false))⟩,⟨(some 204),.bin .gtr false (.t 202) (.t 203),(some (197,false))⟩,sO 205 (.pick (.t 197) (.c (.bool true)) (.t 204))]
def wzpt:List (List Nat):=[[],[],[1],[0,1,2],[0,1,2,3],[0,1,2,3,4],[0,1,2,3,4],[0,1,2,3,4,5,6],[0,1,2,3,4,5,6,7],[0,1,2,3,4,5,6,7,8],[0,1,2,3,4],[0,1,2,3,4,5,6,7,8,9,10],[0,1,2,3,4,5,6,7,8,9,10,11]]
def P8(b:Nat):List Ak:=[
    sO 23 (.mv (.c (.int .i64 (-1))))]
def P2(b:Nat):List Ak:=[
    sO 206 (.faddr 1 (.t 10)),sO 207 (.load false 1 (.t 206)),sO 208 (.load false 1 (.t 22)),sO 209 (.faddr 0 (.t 10)),sO 210 (.load false 1 (.t 209)),sO 211 (.bin .sub false (.t 208) (.t 210)),sO 212 (.mv (.t 13)),sO 213 (.mv (.t 23)),sO 214 (.mlook 1 false (.nils) (.t 212) (.t 213)),sO 215 (.iaddrS 1 (.t 214) (.c (.int .i64 0))),sO 216 (.load false 1 (.t 215)),sO 217 (.iaddrS 1 (.t 207) (.t 211)),⟨none,.store 1 (.t 217) (.t 216),none⟩]
def Ys:List (List Nat):=[[],[0],[],[],[3],[2,3,4],[],[],[6,7],[6,7,8],[6,7,8,9],[0,1,2,3,4,5,6,7,8,9,10],[0,1,2,3,4,5,6,7,8,9,10,11]]
def P3(b:Nat):List Ak:=[
    sO 218 (.mv (.t 13)),sO 219 (.mv (.t 23)),sO 220 (.mv (.t 13)),sO 221 (.mv (.t 23)),sO 222 (.mlook 1 false (.nils) (.t 220) (.t 221)),sO 223 (.slice false 1 (.t 222) (some (.c (.int .i64 1))) none),⟨none,.mupd 1 (.t 218) (.t 219) (.t 223),none⟩]
def P4(b:Nat):List Ak:=[
    sO 224 (.load false 1 (.t 22))]
def P5(b:Nat):List Ak:=[
    sO 22 (.alloc (b+15) [.int .i64 0]),⟨none,.store 1 (.t 22) (.t 224),none⟩]
def P6(b:Nat):List Ak:=[
    sO 187 (.load false 1 (.t 22)),sO 188 (.bin .add false (.t 187) (.c (.int .i64 1))),⟨none,.store 1 (.t 22) (.t 188),none⟩]
def P1(b:Nat):AO:=.seq (.seq (.reg false (Yr b) []) (.cond (.t 186) (.skip) (.exit 12))) (.seq (.block 13 (.seq (.reg false (Yt b) []) (.seq (.seq (.reg true (P7 b) wzpt) (.cond (.t 205) (.reg false (P8 b) []) (.skip))) (.seq (.reg true (P2 b) Ys) (.reg false (P3 b) []))))) (.seq (.seq (.reg false (P4 b) []) (.reg false (P5 b) [])) (.reg false (P6 b) [])))
def PB(b:Nat):List Ak:=[
    sO 225 (.bin .add false (.t 48) (.c (.int .i64 1))),sO 48 (.mv (.t 225))]
def Yu(b:Nat):AO:=.seq (.reg false (P9 b) []) (.seq (.cond (.t 49) (.skip) (.exit 0)) (.seq (.block 1 (.seq (.reg false (Yv b) []) (.seq (.reg false (Yw b) []) (.seq (.seq (.reg false (PC b) []) (.cond (.t 56) (.seq (.reg false (Yx b) []) (.block 2 (.loop (XV b)))) (.seq (.reg false (Yy b) []) (.seq (.reg false (Yz b) []) (.seq (.reg false (Y4 b) []) (.block 6 (.loop (Ym b)))))))) (.seq (.reg false (PA b) []) (.block 12 (.loop (P1 b)))))))) (.reg false (PB b) [])))
def PD(b:Nat):List Ak:=[
    sO 226 (.load false 1 (.t 5))]
def PE(b:Nat):List Ak:=[
    sO 227 (.load true 3 (.t 9)),sO 228 (.callf 93 [.t 227]),⟨none,.store 3 (.t 9) (.t 228),none⟩]
def Mc(b:Nat):List Ak:=[
    sO 229 (.load true 3 (.t 9)),sO 230 (.load true 2 (.t 10)),⟨none,.store 3 (.t 6) (.t 229),none⟩,⟨none,.store 2 (.t 7) (.t 230),none⟩]
def PF:List (List Nat):=[[],[],[0],[0,1,2]]
def c50(b:Nat):AO:=.seq (.reg false (Y6 b) []) (.seq (.reg false (Y8 b) []) (.seq (.reg false (Y9 b) []) (.seq (.reg false (YD b) []) (.seq (.seq (.reg false (YJ b) []) (.cond (.t 27) (.reg true (YO b) wzr4) (.skip))) (.seq (.seq (.reg false (PG b) []) (.block 0 (.loop (Yu b)))) (.seq (.seq (.reg false (PD b) []) (.cond (.t 226) (.reg false (PE b) []) (.skip))) (.seq (.reg true (Mc b) PF) (.ret))))))))
def rs50:List ARes:=[.c 6 true 3,.c 7 true 2]
theorem ck50:∃c,Tryz.f50.body=some c/\∀b,AH Tryz.prog c (c50 b)=true:=⟨_,rfl,fun b=>by kernel_rfl⟩
theorem cr50:D7 Tryz.prog Tryz.f50.results.toList rs50=true:=by kernel_rfl
def XC(b:Nat):List Ak:=[
    sO 3 (.box (b+0) (.t 0)),sO 6 (.mv (.c (.nilp)))]
def XD(b:Nat):List Ak:=[
    sO 18 (.load true 5 (.t 3)),sO 19 (.load true 5 (.t 3)),sO 20 (.mv (.t 1)),sO 21 (.callf 44 [.t 19,.t 20]),sO 22 (.build [.int .i64 0,.int .i64 0,.nils,.int .i64 0,.int .i64 0,.nils,.nils,.nils] [(0,5,.t 18),(5,1,.t 21)]),sO 23 (.box (b+1) (.t 22)),sO 7 (.mv (.t 23))]
def wzsl:List (List Nat):=[[],[],[],[1,2],[0,1,2,3],[0,1,2,3,4],[0,1,2,3,4,5]]
def XE(b:Nat):List Ak:=[
    sO 24 (.mv (.t 7)),sO 25 (.nilck (.t 24)),sO 26 (.faddr 5 (.t 25)),sO 27 (.load false 1 (.t 26)),sO 28 (.len false (.t 27)),sO 29 (.mks (b+2) 1 8 [.int .i64 0] (.t 28)),sO 8 (.mv (.t 29))]
def XF(b:Nat):List Ak:=[
    sO 30 (.mv (.t 7)),sO 31 (.nilck (.t 30)),sO 32 (.faddr 5 (.t 31)),sO 33 (.load false 1 (.t 32)),sO 34 (.len false (.t 33)),sO 35 (.mv (.c (.int .i64 0)))]
def Xl(b:Nat):List Ak:=[
    sO 36 (.bin .lss false (.t 35) (.t 34))]
def Xm(b:Nat):List Ak:=[
    sO 37 (.mv (.t 35)),sO 38 (.iaddrS 2 (.t 33) (.t 35)),sO 39 (.load true 2 (.t 38)),sO 10 (.alloc (b+3) [.int .i64 0,.int .i64 0]),sO 9 (.mv (.t 37)),⟨none,.store 2 (.t 10) (.t 39),none⟩]
def Xn(b:Nat):List Ak:=[
    sO 40 (.mv (.t 8)),sO 41 (.mv (.t 9)),sO 42 (.faddr 1 (.t 10)),sO 43 (.load false 1 (.t 42)),sO 44 (.iaddrS 1 (.t 40) (.t 41)),⟨none,.store 1 (.t 44) (.t 43),none⟩]
def Xo(b:Nat):List Ak:=[
    sO 45 (.bin .add false (.t 35) (.c (.int .i64 1))),sO 35 (.mv (.t 45))]
def Xk(b:Nat):AO:=.seq (.reg false (Xl b) []) (.seq (.cond (.t 36) (.skip) (.exit 0)) (.seq (.block 1 (.seq (.reg false (Xm b) []) (.reg false (Xn b) []))) (.reg false (Xo b) [])))
def XG(b:Nat):List Ak:=[
    sO 11 (.mv (.c (.int .i64 0)))]
def XH(b:Nat):List Ak:=[
    sO 46 (.faddr 2 (.t 3)),sO 47 (.load false 1 (.t 46)),sO 48 (.len false (.t 47)),sO 49 (.mv (.c (.int .i64 0)))]
def X6(b:Nat):List Ak:=[
    sO 50 (.bin .lss false (.t 49) (.t 48))]
def X7(b:Nat):List Ak:=[
    sO 51 (.mv (.t 49)),sO 52 (.iaddrS 2 (.t 47) (.t 49)),sO 53 (.load true 2 (.t 52)),sO 13 (.alloc (b+4) [.int .i64 0,.int .i64 0]),sO 12 (.mv (.t 51)),⟨none,.store 2 (.t 13) (.t 53),none⟩]
def LW(b:Nat):List Ak:=[
    sO 54 (.mv (.t 7)),sO 55 (.mv (.t 7)),sO 56 (.mv (.t 7)),sO 57 (.nilck (.t 56)),sO 58 (.faddr 6 (.t 57)),sO 59 (.load false 1 (.t 58)),sO 60 (.bslice (b+5) 1 1 [.nils] [(0,1,.c (.nils))]),sO 61 (.append (b+6) 1 24 (.t 59) (.t 60)),sO 62 (.mv (.t 7)),sO 63 (.nilck (.t 62)),sO 64 (.faddr 7 (.t 63)),sO 65 (.load false 1 (.t 64)),sO 66 (.mv (.t 7)),sO 67 (.nilck (.t 66)),sO 68 (.faddr 5 (.t 67)),sO 69 (.load false 1 (.t 68)),sO 70 (.len false (.t 69)),sO 71 (.mks (b+7) 1 8 [.int .i64 0] (.t 70)),sO 72 (.bslice (b+8) 1 1 [.nils] [(0,1,.t 71)]),sO 73 (.append (b+9) 1 24 (.t 65) (.t 72)),sO 74 (.nilck (.t 54)),sO 75 (.faddr 6 (.t 74)),⟨none,.store 1 (.t 75) (.t 61),none⟩,sO 76 (.nilck (.t 55)),sO 77 (.faddr 7 (.t 76)),⟨none,.store 1 (.t 77) (.t 73),none⟩]
def X3:List (List Nat):=[[],[],[],[2],[2,3],[2,3,4],[],[2,3,4,5,6],[],[8],[8,9],[8,9,10],[],[12],[12,13],[12,13,14],[12,13,14,15],[12,13,14,15,16],[12,13,14,15,16,17],[2,3,4,5,6,7,8,9,10,11,12,13,14,15,16,17,18],[0,2,3,4,5,6,7,8,9,10,11,12,13,14,15,16,17,18,19],[0,2,3,4,5,6,7,8,9,10,11,12,13,14,15,16,17,18,19,20],[0,2,3,4,5,6,7,8,9,10,11,12,13,14,15,16,17,18,19,20,21],[0,1,2,3,4,5,6,7,8,9,10,11,12,13,14,15,16,17,18,19,20,21,22],[0,1,2,3,4,5,6,7,8,9,10,11,12,13,14,15,16,17,18,19,20,21,22,23],[0,1,2,3,4,5,6,7,8,9,10,11,12,13,14,15,16,17,18,19,20,21,22,23,24]]
def X8(b:Nat):List Ak:=[
    sO 78 (.mv (.t 7)),sO 79 (.nilck (.t 78)),sO 80 (.faddr 5 (.t 79)),sO 81 (.load false 1 (.t 80)),sO 82 (.len false (.t 81)),sO 83 (.mv (.c (.int .i64 0)))]
def Xz(b:Nat):List Ak:=[
    sO 84 (.bin .lss false (.t 83) (.t 82))]
def X0(b:Nat):List Ak:=[
    sO 85 (.iaddrS 2 (.t 81) (.t 83)),sO 86 (.load true 2 (.t 85)),sO 15 (.alloc (b+10) [.int .i64 0,.int .i64 0]),⟨none,.store 2 (.t 15) (.t 86),none⟩]
def Ps(b:Nat):List Ak:=[
    sO 87 (.mv (.t 7)),sO 88 (.nilck (.t 87)),sO 89 (.faddr 6 (.t 88)),sO 90 (.load false 1 (.t 89)),sO 91 (.mv (.t 12)),sO 92 (.mv (.t 7)),sO 93 (.nilck (.t 92)),sO 94 (.faddr 6 (.t 93)),sO 95 (.load false 1 (.t 94)),sO 96 (.mv (.t 12)),sO 97 (.iaddrS 1 (.t 95) (.t 96)),sO 98 (.load false 1 (.t 97)),sO 99 (.mv (.t 2)),sO 100 (.faddr 0 (.t 15)),sO 101 (.load false 1 (.t 100)),sO 102 (.faddr 0 (.t 13)),sO 103 (.load false 1 (.t 102)),sO 104 (.callv (.t 99) [.t 101,.t 103]),sO 105 (.bslice (b+11) 3 1 [.bool false,.str [],.str []] [(0,3,.t 104)]),sO 106 (.append (b+12) 3 40 (.t 98) (.t 105)),sO 107 (.iaddrS 1 (.t 90) (.t 91)),⟨none,.store 1 (.t 107) (.t 106),none⟩]
def wzq0:List (List Nat):=[[],[0],[0,1],[0,1,2],[],[],[5],[5,6],[5,6,7],[],[5,6,7,8,9],[5,6,7,8,9,10],[],[],[13],[],[15],[12,13,14,15,16],[12,13,14,15,16,17],[5,6,7,8,9,10,11,12,13,14,15,16,17,18],[0,1,2,3,4,5,6,7,8,9,10,11,12,13,14,15,16,17,18,19],[0,1,2,3,4,5,6,7,8,9,10,11,12,13,14,15,16,17,18,19,20]]
def Pt(b:Nat):List Ak:=[
    sO 108 (.bin .add false (.t 83) (.c (.int .i64 1))),sO 83 (.mv (.t 108))]
def Xy(b:Nat):AO:=.seq (.reg false (Xz b) []) (.seq (.cond (.t 84) (.skip) (.exit 4)) (.seq (.block 5 (.seq (.reg false (X0 b) []) (.reg true (Ps b) wzq0))) (.reg false (Pt b) [])))
def X9(b:Nat):List Ak:=[
    sO 109 (.faddr 1 (.t 13)),sO 110 (.load false 1 (.t 109)),sO 16 (.mv (.t 110))]
def Xq(b:Nat):List Ak:=[
    sO 111 (.mv (.t 16)),sO 112 (.bin .gtr false (.t 111) (.c (.int .i64 0)))]
def Xr(b:Nat):List Ak:=[
    sO 113 (.mv (.t 8)),sO 114 (.mv (.t 11)),sO 115 (.iaddrS 1 (.t 113) (.t 114)),sO 116 (.load false 1 (.t 115)),sO 117 (.bin .eql false (.t 116) (.c (.int .i64 0)))]
def Xs(b:Nat):List Ak:=[
    sO 118 (.mv (.t 11)),sO 119 (.bin .add false (.t 118) (.c (.int .i64 1))),sO 11 (.mv (.t 119))]
def Xt(b:Nat):List Ak:=[
    sO 120 (.mv (.t 16)),sO 121 (.mv (.t 8)),sO 122 (.mv (.t 11)),sO 123 (.iaddrS 1 (.t 121) (.t 122)),sO 124 (.load false 1 (.t 123)),sO 125 (.min (.t 120) (.t 124)),sO 17 (.mv (.t 125))]
def Xu(b:Nat):List Ak:=[
    sO 126 (.mv (.t 7)),sO 127 (.nilck (.t 126)),sO 128 (.faddr 7 (.t 127)),sO 129 (.load false 1 (.t 128)),sO 130 (.mv (.t 12)),sO 131 (.iaddrS 1 (.t 129) (.t 130)),sO 132 (.load false 1 (.t 131)),sO 133 (.mv (.t 11)),sO 134 (.iaddrS 1 (.t 132) (.t 133)),sO 135 (.load false 1 (.t 134)),sO 136 (.mv (.t 17)),sO 137 (.bin .add false (.t 135) (.t 136)),sO 138 (.iaddrS 1 (.t 132) (.t 133)),⟨none,.store 1 (.t 138) (.t 137),none⟩]
def Xv(b:Nat):List Ak:=[
    sO 139 (.mv (.t 8)),sO 140 (.mv (.t 11)),sO 141 (.iaddrS 1 (.t 139) (.t 140)),sO 142 (.load false 1 (.t 141)),sO 143 (.mv (.t 17)),sO 144 (.bin .sub false (.t 142) (.t 143)),sO 145 (.iaddrS 1 (.t 139) (.t 140)),⟨none,.store 1 (.t 145) (.t 144),none⟩]
def Xw(b:Nat):List Ak:=[
    sO 146 (.mv (.t 16)),sO 147 (.mv (.t 17)),sO 148 (.bin .sub false (.t 146) (.t 147)),sO 16 (.mv (.t 148))]
def Xp(b:Nat):AO:=.seq (.seq (.reg false (Xq b) []) (.cond (.t 112) (.skip) (.exit 6))) (.block 7 (.seq (.seq (.reg false (Xr b) []) (.cond (.t 117) (.seq (.reg false (Xs b) []) (.exit 7)) (.skip))) (.seq (.reg false (Xt b) []) (.seq (.reg false (Xu b) []) (.seq (.reg false (Xv b) []) (.reg false (Xw b) []))))))
def XA(b:Nat):List Ak:=[
    sO 149 (.bin .add false (.t 49) (.c (.int .i64 1))),sO 49 (.mv (.t 149))]
def X5(b:Nat):AO:=.seq (.reg false (X6 b) []) (.seq (.cond (.t 50) (.skip) (.exit 2)) (.seq (.block 3 (.seq (.reg false (X7 b) []) (.seq (.reg true (LW b) X3) (.seq (.seq (.reg false (X8 b) []) (.block 4 (.loop (Xy b)))) (.seq (.reg false (X9 b) []) (.block 6 (.loop (Xp b)))))))) (.reg false (XA b) [])))
def XI(b:Nat):List Ak:=[
    sO 150 (.mv (.t 7)),sO 6 (.mv (.t 150))]
def c94(b:Nat):AO:=.seq (.reg false (XC b) []) (.seq (.reg true (XD b) wzsl) (.seq (.reg false (XE b) []) (.seq (.seq (.reg false (XF b) []) (.block 0 (.loop (Xk b)))) (.seq (.reg false (XG b) []) (.seq (.seq (.reg false (XH b) []) (.block 2 (.loop (X5 b)))) (.seq (.reg false (XI b) []) (.ret)))))))
def rs94:List ARes:=[.t 6]
theorem ck94:∃c,Tryz.f94.body=some c/\∀b,AH Tryz.prog c (c94 b)=true:=⟨_,rfl,fun b=>by kernel_rfl⟩
theorem cr94:D7 Tryz.prog Tryz.f94.results.toList rs94=true:=by kernel_rfl
def WY(b:Nat):List Ak:=[
    sO 21 (.mv (.t 0)),sO 22 (.nilck (.t 21)),sO 23 (.faddr 5 (.t 22)),sO 24 (.load false 1 (.t 23)),sO 25 (.len false (.t 24)),sO 2 (.mv (.t 25))]
def WZ(b:Nat):List Ak:=[
    sO 26 (.mv (.t 2)),sO 27 (.mks (b+0) 1 24 [.nils] (.t 26)),sO 3 (.mv (.t 27))]
def Xa(b:Nat):List Ak:=[
    sO 28 (.mv (.t 2)),sO 29 (.mks (b+1) 3 40 [.bool false,.str [],.str []] (.t 28)),sO 30 (.mv (.t 2)),sO 31 (.mks (b+2) 1 8 [.int .i64 0] (.t 30)),sO 4 (.mv (.t 29)),sO 5 (.mv (.t 31))]
def wzsn:List (List Nat):=[[],[0],[],[2],[0,1],[0,1,2,3,4]]
def Xb(b:Nat):List Ak:=[
    sO 32 (.mv (.t 2)),sO 33 (.mv (.c (.int .i64 0)))]
def Wz(b:Nat):List Ak:=[
    sO 34 (.bin .lss false (.t 33) (.t 32))]
def W0(b:Nat):List Ak:=[
    sO 35 (.mv (.t 33)),sO 6 (.mv (.t 35))]
def W1(b:Nat):List Ak:=[
    sO 36 (.mv (.t 3)),sO 37 (.mv (.t 6)),sO 38 (.mv (.t 2)),sO 39 (.mks (b+3) 4 48 [.int .i64 0,.bool false,.str [],.str []] (.t 38)),sO 40 (.iaddrS 1 (.t 36) (.t 37)),⟨none,.store 1 (.t 40) (.t 39),none⟩]
def W2(b:Nat):List Ak:=[
    sO 41 (.mv (.t 2)),sO 42 (.mv (.c (.int .i64 0)))]
def Wt(b:Nat):List Ak:=[
    sO 43 (.bin .lss false (.t 42) (.t 41))]
def Wu(b:Nat):List Ak:=[
    sO 44 (.mv (.t 42)),sO 7 (.mv (.t 44))]
def Wv(b:Nat):List Ak:=[
    sO 45 (.mv (.t 3)),sO 46 (.mv (.t 6)),sO 47 (.iaddrS 1 (.t 45) (.t 46)),sO 48 (.load false 1 (.t 47)),sO 49 (.mv (.t 7)),sO 50 (.iaddrS 4 (.t 48) (.t 49)),sO 51 (.faddr 0 (.t 50)),⟨none,.store 1 (.t 51) (.c (.int .i64 (-1))),none⟩]
def Ww(b:Nat):List Ak:=[
    sO 52 (.mv (.t 0)),sO 53 (.nilck (.t 52)),sO 54 (.faddr 7 (.t 53)),sO 55 (.load false 1 (.t 54)),sO 56 (.len false (.t 55)),sO 57 (.mv (.c (.int .i64 0)))]
def Wn(b:Nat):List Ak:=[
    sO 58 (.bin .lss false (.t 57) (.t 56))]
def Wo(b:Nat):List Ak:=[
    sO 59 (.mv (.t 57)),sO 8 (.mv (.t 59))]
def Wp(b:Nat):List Ak:=[
    sO 60 (.mv (.t 0)),sO 61 (.nilck (.t 60)),sO 62 (.faddr 6 (.t 61)),sO 63 (.load false 1 (.t 62)),sO 64 (.mv (.t 8)),sO 65 (.iaddrS 1 (.t 63) (.t 64)),sO 66 (.load false 1 (.t 65)),sO 67 (.mv (.t 7)),sO 68 (.iaddrS 3 (.t 66) (.t 67)),sO 69 (.load true 3 (.t 68)),sO 70 (.mv (.t 0)),sO 71 (.nilck (.t 70)),sO 72 (.faddr 6 (.t 71)),sO 73 (.load false 1 (.t 72)),sO 74 (.mv (.t 8)),sO 75 (.iaddrS 1 (.t 73) (.t 74)),sO 76 (.load false 1 (.t 75)),sO 77 (.mv (.t 6)),sO 78 (.iaddrS 3 (.t 76) (.t 77)),sO 79 (.load true 3 (.t 78)),sO 80 (.callf 111 [.t 69,.t 79]),sO 9 (.alloc (b+4) [.bool false,.str [],.str []]),⟨none,.store 3 (.t 9) (.t 80),none⟩]
def wzqj:List (List Nat):=[[],[0],[0,1],[0,1,2],[],[0,1,2,3,4],[0,1,2,3,4,5],[],[0,1,2,3,4,5,6,7],[0,1,2,3,4,5,6,7,8],[],[10],[10,11],[10,11,12],[],[10,11,12,13,14],[10,11,12,13,14,15],[],[10,11,12,13,14,15,16,17],[10,11,12,13,14,15,16,17,18],[0,1,2,3,4,5,6,7,8,9,10,11,12,13,14,15,16,17,18,19],[],[0,1,2,3,4,5,6,7,8,9,10,11,12,13,14,15,16,17,18,19,20,21]]
def LT(b:Nat):List Ak:=[
    sO 81 (.mv (.t 0)),sO 82 (.nilck (.t 81)),sO 83 (.faddr 7 (.t 82)),sO 84 (.load false 1 (.t 83)),sO 85 (.mv (.t 8)),sO 86 (.iaddrS 1 (.t 84) (.t 85)),sO 87 (.load false 1 (.t 86)),sO 88 (.mv (.t 6)),sO 89 (.iaddrS 1 (.t 87) (.t 88)),sO 90 (.load false 1 (.t 89)),sO 91 (.bin .gtr false (.t 90) (.c (.int .i64 0))),sO 92 (.mv (.t 91)),⟨(some 93),.mv (.t 3),(some (92,true))⟩,⟨(some 94),.mv (.t 6),(some (92,true))⟩,⟨(some 95),.iaddrS 1 (.t 93) (.t 94),(some (92,true))⟩,⟨(some 96),.load false 1 (.t 95),(some (92,true))⟩,⟨(some 97),.mv (.t 7),(some (92,true))⟩,⟨(some 98),.iaddrS 4 (.t 96) (.t 97),(some (92,true))⟩,⟨(some 99),.faddr 0 (.t 98),(some (92,true))⟩,⟨(some 100),.load false 1 (.t 99),(some (92,true))⟩,⟨(some 101),.bin .lss false (.t 100) (.c (.int .i64 0)),(some (92,true))⟩,⟨(some 102),.mv (.t 101),(some (92,true))⟩,⟨(some 103),.load true 3 (.t 9),(some (102,false))⟩,⟨(some 104),.mv (.t 3),(some (102,false))⟩,⟨(some 105),.mv (.t 6),(some (102,false))⟩,⟨(some 106),.iaddrS 1 (.t 104) (.t 105),(some (102,false))⟩,⟨(some 107),.load false 1 (.t 106),(some (102,false))⟩,⟨(some 108),.mv (.t 7),(some (102,false))⟩,⟨(some 109),.iaddrS 4 (.t 107) (.t 108),(some (102,false))⟩,⟨(some 110),.faddr 1 (.t 109),(some (102,false))⟩,⟨(some 111),.load true 3 (.t 110),(some (102,false))⟩,⟨(some 112),.callf 23 [.t 103,.t 111],(some (102,false))⟩,⟨(some 113),.bin .lss false (.t 112) (.c (.int .i64 0)),(some (102,false))⟩,⟨(some 114),.pick (.t 102) (.c (.bool true)) (.t 113),(some (92,true))⟩,sO 115 (.pick (.t 92) (.t 114) (.c (.bool false)))]
def wzqp:List (List Nat):=[[],[0],[0,1],[0,1,2],[],[0,1,2,3,4],[0,1,2,3,4,5],[],[0,1,2,3,4,5,6,7],[0,1,2,3,4,5,6,7,8],[0,1,2,3,4,5,6,7,8,9],[0,1,2,3,4,5,6,7,8,9,10],[0,1,2,3,4,5,6,7,8,9,10,11],[0,1,2,3,4,5,6,7,8,9,10,11],[0,1,2,3,4,5,6,7,8,9,10,11,12,13],[0,1,2,3,4,5,6,7,8,9,10,11,12,13,14],[0,1,2,3,4,5,6,7,8,9,10,11],[0,1,2,3,4,5,6,7,8,9,10,11,12,13,14,15,16],[0,1,2,3,4,5,6,7,8,9,10,11,12,13,14,15,16,17],[0,1,2,3,4,5,6,7,8,9,10,11,12,13,14,15,16,17,18],[0,1,2,3,4,5,6,7,8,9,10,11,12,13,14,15,16,17,18,19],[0,1,2,3,4,5,6,7,8,9,10,11,12,13,14,15,16,17,18,19,20],[0,1,2,3,4,5,6,7,8,9,10,11,12,13,14,15,16,17,18,19,20,21],[0,1,2,3,4,5,6,7,8,9,10,11,12,13,14,15,16,17,18,19,20,21],[0,1,2,3,4,5,6,7,8,9,10,11,12,13,14,15,16,17,18,19,20,21],[0,1,2,3,4,5,6,7,8,9,10,11,12,13,14,15,16,17,18,19,20,21,23,24],[0,1,2,3,4,5,6,7,8,9,10,11,12,13,14,15,16,17,18,19,20,21,23,24,25],[0,1,2,3,4,5,6,7,8,9,10,11,12,13,14,15,16,17,18,19,20,21],[0,1,2,3,4,5,6,7,8,9,10,11,12,13,14,15,16,17,18,19,20,21,23,24,25,26,27],[0,1,2,3,4,5,6,7,8,9,10,11,12,13,14,15,16,17,18,19,20,21,23,24,25,26,27,28],[0,1,2,3,4,5,6,7,8,9,10,11,12,13,14,15,16,17,18,19,20,21,23,24,25,26,27,28,29],[0,1,2,3,4,5,6,7,8,9,10,11,12,13,14,15,16,17,18,19,20,21,22,23,24,25,26,27,28,29,30],[0,1,2,3,4,5,6,7,8,9,10,11,12,13,14,15,16,17,18,19,20,21,22,23,24,25,26,27,28,29,30,31],[0,1,2,3,4,5,6,7,8,9,10,11,12,13,14,15,16,17,18,19,20,21,22,23,24,25,26,27,28,29,30,31,32],[0,1,2,3,4,5,6,7,8,9,10,11,12,13,14,15,16,17,18,19,20,21,22,23,24,25,26,27,28,29,30,31,32,33]]
def Pq(b:Nat):List Ak:=[
    sO 116 (.mv (.t 3)),sO 117 (.mv (.t 6)),sO 118 (.iaddrS 1 (.t 116) (.t 117)),sO 119 (.load false 1 (.t 118)),sO 120 (.mv (.t 7)),sO 121 (.mv (.t 8)),sO 122 (.load true 3 (.t 9)),sO 123 (.build [.int .i64 0,.bool false,.str [],.str []] [(0,1,.t 121),(1,3,.t 122)]),sO 124 (.iaddrS 4 (.t 119) (.t 120)),⟨none,.store 4 (.t 124) (.t 123),none⟩]
def Wq:List (List Nat):=[[],[],[0,1],[0,1,2],[],[],[],[5,6],[0,1,2,3,4,5,6,7],[0,1,2,3,4,5,6,7,8]]
def LS(b:Nat):List Ak:=[
    sO 125 (.bin .add false (.t 57) (.c (.int .i64 1))),sO 57 (.mv (.t 125))]
def Wm(b:Nat):AO:=.seq (.reg false (Wn b) []) (.seq (.cond (.t 58) (.skip) (.exit 6)) (.seq (.block 7 (.seq (.reg false (Wo b) []) (.seq (.reg true (Wp b) wzqj) (.seq (.reg true (LT b) wzqp) (.cond (.t 115) (.reg true (Pq b) Wq) (.skip)))))) (.reg false (LS b) [])))
def Wx(b:Nat):List Ak:=[
    sO 126 (.bin .add false (.t 42) (.c (.int .i64 1))),sO 42 (.mv (.t 126))]
def Wr(b:Nat):AO:=.seq (.reg false (Wt b) []) (.seq (.cond (.t 43) (.skip) (.exit 4)) (.seq (.block 5 (.seq (.reg false (Wu b) []) (.seq (.reg false (Wv b) []) (.seq (.reg false (Ww b) []) (.block 6 (.loop (Wm b))))))) (.reg false (Wx b) [])))
def W3(b:Nat):List Ak:=[
    sO 127 (.bin .add false (.t 33) (.c (.int .i64 1))),sO 33 (.mv (.t 127))]
def Wy(b:Nat):AO:=.seq (.reg false (Wz b) []) (.seq (.cond (.t 34) (.skip) (.exit 2)) (.seq (.block 3 (.seq (.reg false (W0 b) []) (.seq (.reg false (W1 b) []) (.seq (.reg false (W2 b) []) (.block 4 (.loop (Wr b))))))) (.reg false (W3 b) [])))
def Xc(b:Nat):List Ak:=[
    sO 128 (.mv (.t 4)),⟨none,.clear [.bool false,.str [],.str []] (.t 128),none⟩]
def Xd(b:Nat):List Ak:=[
    sO 10 (.mv (.c (.int .i64 (-1))))]
def Xe(b:Nat):List Ak:=[
    sO 129 (.mv (.t 2)),sO 130 (.bin .add false (.t 129) (.c (.int .i64 1))),sO 131 (.mv (.c (.int .i64 0)))]
def WF(b:Nat):List Ak:=[
    sO 132 (.bin .lss false (.t 131) (.t 130))]
def WG(b:Nat):List Ak:=[
    sO 10 (.mv (.c (.int .i64 (-1))))]
def WH(b:Nat):List Ak:=[
    sO 133 (.mv (.t 2)),sO 134 (.mv (.c (.int .i64 0)))]
def WA(b:Nat):List Ak:=[
    sO 135 (.bin .lss false (.t 134) (.t 133))]
def WB(b:Nat):List Ak:=[
    sO 136 (.mv (.t 134)),sO 11 (.mv (.t 136))]
def WC(b:Nat):List Ak:=[
    sO 137 (.mv (.t 2)),sO 138 (.mv (.c (.int .i64 0)))]
def W5(b:Nat):List Ak:=[
    sO 139 (.bin .lss false (.t 138) (.t 137))]
def W6(b:Nat):List Ak:=[
    sO 140 (.mv (.t 138)),sO 12 (.mv (.t 140))]
def W7(b:Nat):List Ak:=[
    sO 141 (.mv (.t 3)),sO 142 (.mv (.t 11)),sO 143 (.iaddrS 1 (.t 141) (.t 142)),sO 144 (.load false 1 (.t 143)),sO 145 (.mv (.t 12)),sO 146 (.iaddrS 4 (.t 144) (.t 145)),sO 147 (.load true 4 (.t 146)),sO 13 (.alloc (b+5) [.int .i64 0,.bool false,.str [],.str []]),⟨none,.store 4 (.t 13) (.t 147),none⟩]
def LU(b:Nat):List Ak:=[
    sO 148 (.mv (.t 11)),sO 149 (.mv (.t 12)),sO 150 (.bin .neq false (.t 148) (.t 149)),sO 151 (.mv (.t 150)),⟨(some 152),.faddr 0 (.t 13),(some (151,true))⟩,⟨(some 153),.load false 1 (.t 152),(some (151,true))⟩,⟨(some 154),.bin .geq false (.t 153) (.c (.int .i64 0)),(some (151,true))⟩,sO 155 (.pick (.t 151) (.t 154) (.c (.bool false))),sO 156 (.mv (.t 155)),⟨(some 157),.mv (.t 4),(some (156,true))⟩,⟨(some 158),.mv (.t 11),(some (156,true))⟩,⟨(some 159),.iaddrS 3 (.t 157) (.t 158),(some (156,true))⟩,⟨(some 160),.load true 3 (.t 159),(some (156,true))⟩,⟨(some 161),.faddr 1 (.t 13),(some (156,true))⟩,⟨(some 162),.load true 3 (.t 161),(some (156,true))⟩,⟨(some 163),.callf 31 [.t 160,.t 162],(some (156,true))⟩,⟨(some 164),.mv (.t 4),(some (156,true))⟩,⟨(some 165),.mv (.t 12),(some (156,true))⟩,⟨(some 166),.iaddrS 3 (.t 164) (.t 165),(some (156,true))⟩,⟨(some 167),.load true 3 (.t 166),(some (156,true))⟩,⟨(some 168),.callf 23 [.t 163,.t 167],(some (156,true))⟩,⟨(some 169),.bin .lss false (.t 168) (.c (.int .i64 0)),(some (156,true))⟩,sO 170 (.pick (.t 156) (.t 169) (.c (.bool false)))]
def wzqu:List (List Nat):=[[],[],[0,1],[0,1,2],[0,1,2,3],[0,1,2,3,4],[0,1,2,3,4,5],[0,1,2,3,4,5,6],[0,1,2,3,4,5,6,7],[0,1,2,3,4,5,6,7,8],[0,1,2,3,4,5,6,7,8],[0,1,2,3,4,5,6,7,8,9,10],[0,1,2,3,4,5,6,7,8,9,10,11],[0,1,2,3,4,5,6,7,8],[0,1,2,3,4,5,6,7,8,13],[0,1,2,3,4,5,6,7,8,9,10,11,12,13,14],[0,1,2,3,4,5,6,7,8],[0,1,2,3,4,5,6,7,8],[0,1,2,3,4,5,6,7,8,16,17],[0,1,2,3,4,5,6,7,8,16,17,18],[0,1,2,3,4,5,6,7,8,9,10,11,12,13,14,15,16,17,18,19],[0,1,2,3,4,5,6,7,8,9,10,11,12,13,14,15,16,17,18,19,20],[0,1,2,3,4,5,6,7,8,9,10,11,12,13,14,15,16,17,18,19,20,21]]
def W8(b:Nat):List Ak:=[
    sO 171 (.mv (.t 4)),sO 172 (.mv (.t 12)),sO 173 (.mv (.t 5)),sO 174 (.mv (.t 12)),sO 175 (.mv (.t 4)),sO 176 (.mv (.t 11)),sO 177 (.iaddrS 3 (.t 175) (.t 176)),sO 178 (.load true 3 (.t 177)),sO 179 (.faddr 1 (.t 13)),sO 180 (.load true 3 (.t 179)),sO 181 (.callf 31 [.t 178,.t 180]),sO 182 (.mv (.t 11)),sO 183 (.mv (.t 12)),sO 184 (.iaddrS 3 (.t 171) (.t 172)),⟨none,.store 3 (.t 184) (.t 181),none⟩,sO 185 (.iaddrS 1 (.t 173) (.t 174)),⟨none,.store 1 (.t 185) (.t 182),none⟩,sO 10 (.mv (.t 183))]
def wzpy:List (List Nat):=[[],[],[],[],[],[],[4,5],[4,5,6],[],[8],[4,5,6,7,8,9],[],[],[0,1,4,5,6,7,8,9,10],[0,1,4,5,6,7,8,9,10,13],[0,1,2,3,4,5,6,7,8,9,10,11,13,14],[0,1,2,3,4,5,6,7,8,9,10,11,13,14,15],[0,1,2,3,4,5,6,7,8,9,10,11,12,13,14,15,16]]
def Pr(b:Nat):List Ak:=[
    sO 186 (.bin .add false (.t 138) (.c (.int .i64 1))),sO 138 (.mv (.t 186))]
def W4(b:Nat):AO:=.seq (.reg false (W5 b) []) (.seq (.cond (.t 139) (.skip) (.exit 12)) (.seq (.block 13 (.seq (.reg false (W6 b) []) (.seq (.reg false (W7 b) []) (.seq (.reg true (LU b) wzqu) (.cond (.t 170) (.reg true (W8 b) wzpy) (.skip)))))) (.reg false (Pr b) [])))
def WD(b:Nat):List Ak:=[
    sO 187 (.bin .add false (.t 134) (.c (.int .i64 1))),sO 134 (.mv (.t 187))]
def W9(b:Nat):AO:=.seq (.reg false (WA b) []) (.seq (.cond (.t 135) (.skip) (.exit 10)) (.seq (.block 11 (.seq (.reg false (WB b) []) (.seq (.reg false (WC b) []) (.block 12 (.loop (W4 b)))))) (.reg false (WD b) [])))
def WI(b:Nat):List Ak:=[
    sO 188 (.mv (.t 10)),sO 189 (.bin .lss false (.t 188) (.c (.int .i64 0)))]
def WJ(b:Nat):List Ak:=[
    sO 190 (.bin .add false (.t 131) (.c (.int .i64 1))),sO 131 (.mv (.t 190))]
def WE(b:Nat):AO:=.seq (.reg false (WF b) []) (.seq (.cond (.t 132) (.skip) (.exit 8)) (.seq (.block 9 (.seq (.reg false (WG b) []) (.seq (.seq (.reg false (WH b) []) (.block 10 (.loop (W9 b)))) (.seq (.reg false (WI b) []) (.cond (.t 189) (.exit 0) (.skip)))))) (.reg false (WJ b) [])))
def Xf(b:Nat):List Ak:=[
    sO 191 (.mv (.t 10)),sO 14 (.mv (.t 191))]
def Xg(b:Nat):List Ak:=[
    sO 192 (.mv (.t 2)),sO 193 (.mv (.c (.int .i64 0)))]
def WL(b:Nat):List Ak:=[
    sO 194 (.bin .lss false (.t 193) (.t 192))]
def WM(b:Nat):List Ak:=[
    sO 195 (.mv (.t 5)),sO 196 (.mv (.t 14)),sO 197 (.iaddrS 1 (.t 195) (.t 196)),sO 198 (.load false 1 (.t 197)),sO 14 (.mv (.t 198))]
def WN(b:Nat):List Ak:=[
    sO 199 (.bin .add false (.t 193) (.c (.int .i64 1))),sO 193 (.mv (.t 199))]
def WK(b:Nat):AO:=.seq (.reg false (WL b) []) (.seq (.cond (.t 194) (.skip) (.exit 14)) (.seq (.block 15 (.reg false (WM b) [])) (.reg false (WN b) [])))
def Xh(b:Nat):List Ak:=[
    sO 15 (.mv (.c (.int .i64 1402560)))]
def Xi(b:Nat):List Ak:=[
    sO 200 (.mv (.t 14)),sO 16 (.mv (.t 200)),sO 17 (.mv (.c (.bool false)))]
def JW(b:Nat):List Ak:=[
    sO 201 (.mv (.t 17)),sO 202 (.not (.t 201)),sO 203 (.mv (.t 202)),⟨(some 204),.mv (.t 16),(some (203,false))⟩,⟨(some 205),.mv (.t 14),(some (203,false))⟩,⟨(some 206),.bin .neq false (.t 204) (.t 205),(some (203,false))⟩,sO 207 (.pick (.t 203) (.c (.bool true)) (.t 206))]
def WR(b:Nat):List Ak:=[
    sO 212 (.mv (.t 15)),sO 213 (.mv (.t 0)),sO 214 (.nilck (.t 213)),sO 215 (.faddr 7 (.t 214)),sO 216 (.load false 1 (.t 215)),sO 217 (.mv (.t 3)),sO 218 (.mv (.t 5)),sO 219 (.mv (.t 16)),sO 220 (.iaddrS 1 (.t 218) (.t 219)),sO 221 (.load false 1 (.t 220)),sO 222 (.iaddrS 1 (.t 217) (.t 221)),sO 223 (.load false 1 (.t 222)),sO 224 (.mv (.t 16)),sO 225 (.iaddrS 4 (.t 223) (.t 224)),sO 226 (.faddr 0 (.t 225)),sO 227 (.load false 1 (.t 226)),sO 228 (.iaddrS 1 (.t 216) (.t 227)),sO 229 (.load false 1 (.t 228)),sO 230 (.mv (.t 5)),sO 231 (.mv (.t 16)),sO 232 (.iaddrS 1 (.t 230) (.t 231)),sO 233 (.load false 1 (.t 232)),sO 234 (.iaddrS 1 (.t 229) (.t 233)),sO 235 (.load false 1 (.t 234)),sO 236 (.min (.t 212) (.t 235)),sO 15 (.mv (.t 236))]
def wzrf:List (List Nat):=[[],[],[1],[1,2],[1,2,3],[],[],[],[6,7],[6,7,8],[5,6,7,8,9],[5,6,7,8,9,10],[],[5,6,7,8,9,10,11,12],[5,6,7,8,9,10,11,12,13],[5,6,7,8,9,10,11,12,13,14],[1,2,3,4,5,6,7,8,9,10,11,12,13,14,15],[1,2,3,4,5,6,7,8,9,10,11,12,13,14,15,16],[],[],[18,19],[18,19,20],[1,2,3,4,5,6,7,8,9,10,11,12,13,14,15,16,17,18,19,20,21],[1,2,3,4,5,6,7,8,9,10,11,12,13,14,15,16,17,18,19,20,21,22],[0,1,2,3,4,5,6,7,8,9,10,11,12,13,14,15,16,17,18,19,20,21,22,23],[0,1,2,3,4,5,6,7,8,9,10,11,12,13,14,15,16,17,18,19,20,21,22,23,24]]
def WS(b:Nat):List Ak:=[
    sO 208 (.mv (.t 5)),sO 209 (.mv (.t 16)),sO 210 (.iaddrS 1 (.t 208) (.t 209)),sO 211 (.load false 1 (.t 210)),sO 16 (.mv (.t 211)),sO 17 (.mv (.c (.bool true)))]
def WQ(b:Nat):AO:=.seq (.seq (.reg false (JW b) []) (.cond (.t 207) (.skip) (.exit 16))) (.seq (.block 17 (.reg true (WR b) wzrf)) (.reg false (WS b) []))
def Xj(b:Nat):List Ak:=[
    sO 237 (.mv (.t 14)),sO 18 (.mv (.t 237)),sO 19 (.mv (.c (.bool false)))]
def JX(b:Nat):List Ak:=[
    sO 238 (.mv (.t 19)),sO 239 (.not (.t 238)),sO 240 (.mv (.t 239)),⟨(some 241),.mv (.t 18),(some (240,false))⟩,⟨(some 242),.mv (.t 14),(some (240,false))⟩,⟨(some 243),.bin .neq false (.t 241) (.t 242),(some (240,false))⟩,sO 244 (.pick (.t 240) (.c (.bool true)) (.t 243))]
def WU(b:Nat):List Ak:=[
    sO 249 (.mv (.t 3)),sO 250 (.mv (.t 5)),sO 251 (.mv (.t 18)),sO 252 (.iaddrS 1 (.t 250) (.t 251)),sO 253 (.load false 1 (.t 252)),sO 254 (.iaddrS 1 (.t 249) (.t 253)),sO 255 (.load false 1 (.t 254)),sO 256 (.mv (.t 18)),sO 257 (.iaddrS 4 (.t 255) (.t 256)),sO 258 (.faddr 0 (.t 257)),sO 259 (.load false 1 (.t 258)),sO 20 (.mv (.t 259))]
def WV(b:Nat):List Ak:=[
    sO 260 (.mv (.t 0)),sO 261 (.nilck (.t 260)),sO 262 (.faddr 7 (.t 261)),sO 263 (.load false 1 (.t 262)),sO 264 (.mv (.t 20)),sO 265 (.iaddrS 1 (.t 263) (.t 264)),sO 266 (.load false 1 (.t 265)),sO 267 (.mv (.t 5)),sO 268 (.mv (.t 18)),sO 269 (.iaddrS 1 (.t 267) (.t 268)),sO 270 (.load false 1 (.t 269)),sO 271 (.iaddrS 1 (.t 266) (.t 270)),sO 272 (.load false 1 (.t 271)),sO 273 (.mv (.t 15)),sO 274 (.bin .sub false (.t 272) (.t 273)),sO 275 (.iaddrS 1 (.t 266) (.t 270)),⟨none,.store 1 (.t 275) (.t 274),none⟩]
def wzon:List (List Nat):=[[],[0],[0,1],[0,1,2],[],[0,1,2,3,4],[0,1,2,3,4,5],[],[],[7,8],[7,8,9],[0,1,2,3,4,5,6,7,8,9,10],[0,1,2,3,4,5,6,7,8,9,10,11],[],[0,1,2,3,4,5,6,7,8,9,10,11,12,13],[0,1,2,3,4,5,6,7,8,9,10,11,12,13,14],[0,1,2,3,4,5,6,7,8,9,10,11,12,13,14,15]]
def WW(b:Nat):List Ak:=[
    sO 276 (.mv (.t 0)),sO 277 (.nilck (.t 276)),sO 278 (.faddr 7 (.t 277)),sO 279 (.load false 1 (.t 278)),sO 280 (.mv (.t 20)),sO 281 (.iaddrS 1 (.t 279) (.t 280)),sO 282 (.load false 1 (.t 281)),sO 283 (.mv (.t 18)),sO 284 (.iaddrS 1 (.t 282) (.t 283)),sO 285 (.load false 1 (.t 284)),sO 286 (.mv (.t 15)),sO 287 (.bin .add false (.t 285) (.t 286)),sO 288 (.iaddrS 1 (.t 282) (.t 283)),⟨none,.store 1 (.t 288) (.t 287),none⟩]
def WX(b:Nat):List Ak:=[
    sO 245 (.mv (.t 5)),sO 246 (.mv (.t 18)),sO 247 (.iaddrS 1 (.t 245) (.t 246)),sO 248 (.load false 1 (.t 247)),sO 18 (.mv (.t 248)),sO 19 (.mv (.c (.bool true)))]
def WT(b:Nat):AO:=.seq (.seq (.reg false (JX b) []) (.cond (.t 244) (.skip) (.exit 18))) (.seq (.block 19 (.seq (.reg false (WU b) []) (.seq (.reg true (WV b) wzon) (.reg false (WW b) [])))) (.reg false (WX b) []))
def wzvs(b:Nat):AO:=.block 1 (.seq (.seq (.reg false (Xb b) []) (.block 2 (.loop (Wy b)))) (.seq (.reg false (Xc b) []) (.seq (.reg false (Xd b) []) (.seq (.seq (.reg false (Xe b) []) (.block 8 (.loop (WE b)))) (.seq (.reg false (Xf b) []) (.seq (.seq (.reg false (Xg b) []) (.block 14 (.loop (WK b)))) (.seq (.reg false (Xh b) []) (.seq (.seq (.reg false (Xi b) []) (.block 16 (.loop (WQ b)))) (.seq (.reg false (Xj b) []) (.block 18 (.loop (WT b))))))))))))
def c95(b:Nat):AO:=.scope (.seq (.reg false (WY b) []) (.seq (.reg false (WZ b) []) (.seq (.reg true (Xa b) wzsn) (.seq (.label 0) (.block 0 (.loop (wzvs b)))))))
def rs95:List ARes:=[]
theorem ck95:∃c,Tryz.f95.body=some c/\∀b,AH Tryz.prog c (c95 b)=true:=⟨_,rfl,fun b=>by kernel_rfl⟩
theorem cr95:D7 Tryz.prog Tryz.f95.results.toList rs95=true:=by kernel_rfl
def VJ(b:Nat):List Ak:=[
    sO 2 (.box (b+0) (.t 0)),sO 4 (.alloc (b+1) [.bool false,.str [],.str []]),sO 5 (.mv (.c (.int .i64 0)))]
def VK(b:Nat):List Ak:=[
    sO 17 (.mv (.t 1)),sO 18 (.callf 37 [.t 17]),sO 6 (.mv (.t 18))]
def VL(b:Nat):List Ak:=[
    sO 19 (.mv (.t 6)),sO 20 (.bin .neq false (.t 19) (.c (.int .i64 0)))]
def VM(b:Nat):List Ak:=[
    sO 21 (.build [.bool false,.str [],.str []] []),sO 22 (.mv (.t 6)),⟨none,.store 3 (.t 4) (.t 21),none⟩,sO 5 (.mv (.t 22))]
def VN(b:Nat):List Ak:=[
    sO 24 (.load true 2 (.t 2)),sO 25 (.callf 34 [.t 24]),sO 23 (.mv (.t 25)),sO 26 (.extract 0 (.t 23)),sO 27 (.extract 1 (.t 23)),sO 7 (.mv (.t 26)),sO 8 (.mv (.t 27))]
def VP(b:Nat):List Ak:=[
    sO 28 (.mv (.t 8)),sO 29 (.bin .neq false (.t 28) (.c (.int .i64 0)))]
def VQ(b:Nat):List Ak:=[
    sO 30 (.build [.bool false,.str [],.str []] []),⟨none,.store 3 (.t 4) (.t 30),none⟩,sO 5 (.mv (.c (.int .i64 1)))]
def VS(b:Nat):List Ak:=[
    sO 31 (.mv (.t 1)),sO 32 (.callf 51 [.t 31]),sO 9 (.mv (.t 32))]
def VT(b:Nat):List Ak:=[
    sO 33 (.mv (.t 1)),sO 34 (.len false (.t 33)),sO 35 (.mv (.c (.int .i64 0)))]
def VU(b:Nat):List Ak:=[
    sO 36 (.bin .lss false (.t 35) (.t 34))]
def VW(b:Nat):List Ak:=[
    sO 37 (.mv (.t 35)),sO 38 (.iaddrS 7 (.t 33) (.t 35)),sO 39 (.load true 7 (.t 38)),sO 11 (.alloc (b+2) [.int .i64 0,.int .i64 0,.bool false,.str [],.str [],.int .i64 0,.nils]),sO 10 (.mv (.t 37)),⟨none,.store 7 (.t 11) (.t 39),none⟩]
def VX(b:Nat):List Ak:=[
    sO 40 (.faddr 0 (.t 11)),sO 41 (.load false 1 (.t 40)),sO 42 (.faddr 0 (.t 2)),sO 43 (.load false 1 (.t 42)),sO 44 (.bin .lss false (.t 41) (.t 43)),sO 45 (.mv (.t 44)),⟨(some 46),.faddr 1 (.t 11),(some (45,false))⟩,⟨(some 47),.load false 1 (.t 46),(some (45,false))⟩,⟨(some 48),.faddr 0 (.t 2),(some (45,false))⟩,⟨(some 49),.load false 1 (.t 48),(some (45,false))⟩,⟨(some 50),.faddr 1 (.t 2),(some (45,false))⟩,⟨(some 51),.load false 1 (.t 50),(some (45,false))⟩,⟨(some 52),.len false (.t 51),(some (45,false))⟩,⟨(some 53),.bin .add false (.t 49) (.t 52),(some (45,false))⟩,⟨(some 54),.bin .gtr false (.t 47) (.t 53),(some (45,false))⟩,sO 55 (.pick (.t 45) (.c (.bool true)) (.t 54))]
def VY(b:Nat):List Ak:=[
    sO 56 (.build [.bool false,.str [],.str []] []),⟨none,.store 3 (.t 4) (.t 56),none⟩,sO 5 (.mv (.c (.int .i64 19)))]
def VZ(b:Nat):List Ak:=[
    sO 57 (.mkmap (b+3)),sO 12 (.mv (.t 57))]
def Wa(b:Nat):List Ak:=[
    sO 58 (.faddr 1 (.t 2)),sO 59 (.load false 1 (.t 58)),sO 60 (.faddr 0 (.t 11)),sO 61 (.load false 1 (.t 60)),sO 62 (.faddr 0 (.t 2)),sO 63 (.load false 1 (.t 62)),sO 64 (.bin .sub false (.t 61) (.t 63)),sO 65 (.faddr 1 (.t 11)),sO 66 (.load false 1 (.t 65)),sO 67 (.faddr 0 (.t 2)),sO 68 (.load false 1 (.t 67)),sO 69 (.bin .sub false (.t 66) (.t 68)),sO 70 (.slice false 1 (.t 59) (some (.t 64)) (some (.t 69))),sO 71 (.len false (.t 70)),sO 72 (.mv (.c (.int .i64 0)))]
def Wb(b:Nat):List Ak:=[
    sO 73 (.bin .lss false (.t 72) (.t 71))]
def Wd(b:Nat):List Ak:=[
    sO 74 (.iaddrS 1 (.t 70) (.t 72)),sO 75 (.load false 1 (.t 74)),sO 14 (.mv (.t 75))]
def We(b:Nat):List Ak:=[
    sO 76 (.mv (.t 12)),sO 77 (.mv (.t 14)),sO 78 (.mlook 1 false (.int .i64 0) (.t 76) (.t 77)),sO 79 (.bin .add false (.t 78) (.c (.int .i64 1))),⟨none,.mupd 1 (.t 76) (.t 77) (.t 79),none⟩]
def Wf(b:Nat):List Ak:=[
    sO 80 (.bin .add false (.t 72) (.c (.int .i64 1))),sO 72 (.mv (.t 80))]
def wzuz(b:Nat):AO:=.seq (.reg false (Wb b) []) (.seq (.cond (.t 73) (.skip) (.exit 2)) (.seq (.block 3 (.seq (.reg false (Wd b) []) (.reg false (We b) []))) (.reg false (Wf b) [])))
def Wg(b:Nat):List Ak:=[
    sO 81 (.mv (.t 12)),sO 82 (.mrange (b+4) (.t 81))]
def Wh(b:Nat):List Ak:=[
    sO 83 (.mnext (.t 82)),sO 84 (.extract 0 (.t 83))]
def Wi(b:Nat):List Ak:=[
    sO 85 (.mentry (.t 82)),sO 86 (.extract 0 (.t 85)),sO 87 (.extract 1 (.t 85)),sO 15 (.mv (.t 86)),sO 16 (.mv (.t 87))]
def Wj(b:Nat):List Ak:=[
    sO 88 (.mv (.t 9)),sO 89 (.mv (.t 16)),sO 90 (.mv (.t 10)),sO 91 (.mv (.t 15)),sO 92 (.callf 52 [.t 88,.t 89,.t 90,.t 91])]
def wzv4(b:Nat):AO:=.seq (.reg false (Wh b) []) (.seq (.cond (.t 84) (.skip) (.exit 4)) (.block 5 (.seq (.reg false (Wi b) []) (.reg false (Wj b) []))))
def Wl(b:Nat):List Ak:=[
    sO 93 (.bin .add false (.t 35) (.c (.int .i64 1))),sO 35 (.mv (.t 93))]
def wzup(b:Nat):AO:=.seq (.reg false (VU b) []) (.seq (.cond (.t 36) (.skip) (.exit 0)) (.seq (.block 1 (.seq (.reg false (VW b) []) (.seq (.seq (.reg false (VX b) []) (.cond (.t 55) (.seq (.reg false (VY b) []) (.ret)) (.skip))) (.seq (.reg false (VZ b) []) (.seq (.seq (.reg false (Wa b) []) (.block 2 (.loop (wzuz b)))) (.seq (.reg false (Wg b) []) (.block 4 (.loop (wzv4 b))))))))) (.reg false (Wl b) [])))
def VV(b:Nat):List Ak:=[
    sO 94 (.mv (.t 9)),sO 95 (.nilck (.t 94)),sO 96 (.faddr 2 (.t 95)),sO 97 (.load true 3 (.t 96)),⟨none,.store 3 (.t 4) (.t 97),none⟩,sO 5 (.mv (.c (.int .i64 0)))]
def c21(b:Nat):AO:=.seq (.reg false (VJ b) []) (.seq (.seq (.reg false (VK b) []) (.seq (.reg false (VL b) []) (.cond (.t 20) (.seq (.reg false (VM b) []) (.ret)) (.skip)))) (.seq (.seq (.reg false (VN b) []) (.seq (.reg false (VP b) []) (.cond (.t 29) (.seq (.reg false (VQ b) []) (.ret)) (.skip)))) (.seq (.reg false (VS b) []) (.seq (.seq (.reg false (VT b) []) (.block 0 (.loop (wzup b)))) (.seq (.reg false (VV b) []) (.ret))))))
def rs21:List ARes:=[.c 4 true 3,.t 5]
theorem ck21:∃c,Tryz.f21.body=some c/\∀b,AH Tryz.prog c (c21 b)=true:=⟨_,rfl,fun b=>by kernel_rfl⟩
theorem cr21:D7 Tryz.prog Tryz.f21.results.toList rs21=true:=by kernel_rfl
def Vn(b:Nat):List Ak:=[
    sO 1 (.box (b+0) (.t 0)),sO 2 (.mv (.c (.nils))),sO 3 (.mv (.c (.int .i64 0)))]
def Vo(b:Nat):List Ak:=[
    sO 10 (.load true 2 (.t 1)),sO 11 (.callf 53 [.t 10]),sO 12 (.not (.t 11))]
def Vp(b:Nat):List Ak:=[
    sO 2 (.mv (.c (.nils))),sO 3 (.mv (.c (.int .i64 1)))]
def Vq(b:Nat):List Ak:=[
    sO 4 (.mv (.c (.nils)))]
def Vr(b:Nat):List Ak:=[
    sO 13 (.faddr 1 (.t 1)),sO 14 (.load false 1 (.t 13)),sO 15 (.len false (.t 14)),sO 16 (.mv (.c (.int .i64 0)))]
def Vs(b:Nat):List Ak:=[
    sO 17 (.bin .lss false (.t 16) (.t 15))]
def Vt(b:Nat):List Ak:=[
    sO 18 (.mv (.t 16)),sO 19 (.iaddrS 1 (.t 14) (.t 16)),sO 20 (.load false 1 (.t 19)),sO 5 (.mv (.t 18)),sO 6 (.mv (.t 20))]
def LM(b:Nat):List Ak:=[
    sO 21 (.mv (.t 4)),sO 22 (.faddr 0 (.t 1)),sO 23 (.load false 1 (.t 22)),sO 24 (.mv (.t 5)),sO 25 (.bin .add false (.t 23) (.t 24)),sO 26 (.faddr 0 (.t 1)),sO 27 (.load false 1 (.t 26)),sO 28 (.mv (.t 5)),sO 29 (.bin .add false (.t 27) (.t 28)),sO 30 (.bin .add false (.t 29) (.c (.int .i64 1))),sO 31 (.mv (.t 6)),sO 32 (.callf 67 [.t 25,.t 30,.t 31]),sO 33 (.bslice (b+1) 5 1 [.int .i64 0,.int .i64 0,.nils,.int .i64 0,.int .i64 0] [(0,5,.t 32)]),sO 34 (.append (b+2) 5 56 (.t 21) (.t 33)),sO 4 (.mv (.t 34))]
def Vu(b:Nat):List Ak:=[
    sO 35 (.mv (.t 4)),sO 36 (.len false (.t 35)),sO 7 (.mv (.t 36))]
def Vv(b:Nat):List Ak:=[
    sO 37 (.mv (.t 7)),sO 38 (.bin .gtr false (.t 37) (.c (.int .i64 1)))]
def Vw(b:Nat):List Ak:=[
    sO 40 (.mv (.t 4)),sO 41 (.mv (.t 7)),sO 42 (.bin .sub false (.t 41) (.c (.int .i64 2))),sO 43 (.iaddrS 5 (.t 40) (.t 42)),sO 44 (.load true 5 (.t 43)),sO 45 (.mv (.t 4)),sO 46 (.mv (.t 7)),sO 47 (.bin .sub false (.t 46) (.c (.int .i64 1))),sO 48 (.iaddrS 5 (.t 45) (.t 47)),sO 49 (.load true 5 (.t 48)),sO 50 (.callf 68 [.t 44,.t 49]),sO 39 (.mv (.t 50)),sO 51 (.extract 0 (.t 39)),sO 52 (.extract 1 (.t 39)),sO 8 (.alloc (b+3) [.int .i64 0,.int .i64 0,.nils,.int .i64 0,.int .i64 0]),⟨none,.store 5 (.t 8) (.t 51),none⟩,sO 9 (.mv (.t 52))]
def wzru:List (List Nat):=[[],[],[1],[0,1,2],[0,1,2,3],[],[],[6],[5,6,7],[5,6,7,8],[0,1,2,3,4,5,6,7,8,9],[0,1,2,3,4,5,6,7,8,9,10],[0,1,2,3,4,5,6,7,8,9,10,11],[0,1,2,3,4,5,6,7,8,9,10,11],[],[0,1,2,3,4,5,6,7,8,9,10,11,12,14],[0,1,2,3,4,5,6,7,8,9,10,11,12,13,14,15]]
def Vy(b:Nat):List Ak:=[
    sO 53 (.mv (.t 9))]
def Vz(b:Nat):List Ak:=[
    sO 54 (.mv (.t 4)),sO 55 (.mv (.t 7)),sO 56 (.bin .sub false (.t 55) (.c (.int .i64 2))),sO 57 (.slice false 5 (.t 54) none (some (.t 56))),sO 58 (.load true 5 (.t 8)),sO 59 (.bslice (b+4) 5 1 [.int .i64 0,.int .i64 0,.nils,.int .i64 0,.int .i64 0] [(0,5,.t 58)]),sO 60 (.append (b+5) 5 56 (.t 57) (.t 59)),sO 4 (.mv (.t 60))]
def wzp9:List (List Nat):=[[],[],[1],[0,1,2],[],[4],[0,1,2,3,4,5],[0,1,2,3,4,5,6]]
def LN(b:Nat):List Ak:=[
    sO 61 (.bin .add false (.t 16) (.c (.int .i64 1))),sO 16 (.mv (.t 61))]
def wzuu(b:Nat):AO:=.seq (.reg false (Vs b) []) (.seq (.cond (.t 17) (.skip) (.exit 0)) (.seq (.block 1 (.seq (.reg false (Vt b) []) (.seq (.reg false (LM b) []) (.seq (.reg false (Vu b) []) (.seq (.reg false (Vv b) []) (.cond (.t 38) (.seq (.reg true (Vw b) wzru) (.seq (.reg false (Vy b) []) (.cond (.t 53) (.reg true (Vz b) wzp9) (.skip)))) (.skip))))))) (.reg false (LN b) [])))
def Ph(b:Nat):List Ak:=[
    sO 62 (.mv (.t 4)),sO 63 (.len false (.t 62)),sO 64 (.bin .gtr false (.t 63) (.c (.int .i64 2000)))]
def V0(b:Nat):List Ak:=[
    sO 2 (.mv (.c (.nils))),sO 3 (.mv (.c (.int .i64 2)))]
def Pi(b:Nat):List Ak:=[
    sO 65 (.mv (.t 4)),sO 2 (.mv (.t 65)),sO 3 (.mv (.c (.int .i64 0)))]
def c34(b:Nat):AO:=.seq (.reg false (Vn b) []) (.seq (.seq (.reg false (Vo b) []) (.cond (.t 12) (.seq (.reg false (Vp b) []) (.ret)) (.skip))) (.seq (.reg false (Vq b) []) (.seq (.seq (.reg false (Vr b) []) (.block 0 (.loop (wzuu b)))) (.seq (.seq (.reg false (Ph b) []) (.cond (.t 64) (.seq (.reg false (V0 b) []) (.ret)) (.skip))) (.seq (.reg false (Pi b) []) (.ret))))))
def rs34:List ARes:=[.t 2,.t 3]
theorem ck34:∃c,Tryz.f34.body=some c/\∀b,AH Tryz.prog c (c34 b)=true:=⟨_,rfl,fun b=>by kernel_rfl⟩
theorem cr34:D7 Tryz.prog Tryz.f34.results.toList rs34=true:=by kernel_rfl
def VC(b:Nat):List Ak:=[
    sO 2 (.mv (.c (.nilp)))]
def VD(b:Nat):List Ak:=[
    sO 3 (.mv (.t 0)),sO 4 (.mkmap (b+0)),sO 5 (.build [.nils,.nilmp,.bool false,.str [],.str []] [(0,1,.t 3),(1,1,.t 4)]),sO 6 (.box (b+1) (.t 5)),sO 2 (.mv (.t 6))]
def c51(b:Nat):AO:=.seq (.reg false (VC b) []) (.seq (.reg false (VD b) []) (.ret))
def rs51:List ARes:=[.t 2]
theorem ck51:∃c,Tryz.f51.body=some c/\∀b,AH Tryz.prog c (c51 b)=true:=⟨_,rfl,fun b=>by kernel_rfl⟩
theorem cr51:D7 Tryz.prog Tryz.f51.results.toList rs51=true:=by kernel_rfl
def Im(b:Nat):List Ak:=[
    sO 8 (.mv (.t 0)),sO 9 (.mv (.t 0)),sO 10 (.nilck (.t 9)),sO 11 (.faddr 2 (.t 10)),sO 12 (.load true 3 (.t 11)),sO 13 (.mv (.t 1)),sO 14 (.callf 42 [.t 13]),sO 15 (.mv (.t 0)),sO 16 (.mv (.t 2)),sO 17 (.mv (.t 3)),sO 18 (.callf 97 [.t 15,.t 16,.t 17]),sO 19 (.callf 30 [.t 14,.t 18]),sO 20 (.callf 31 [.t 12,.t 19]),sO 21 (.nilck (.t 8)),sO 22 (.faddr 2 (.t 21)),⟨none,.store 3 (.t 22) (.t 20),none⟩]
def wzsb:List (List Nat):=[[],[],[1],[1,2],[1,2,3],[],[5],[],[],[],[5,6,7,8,9],[5,6,7,8,9,10],[1,2,3,4,5,6,7,8,9,10,11],[0,1,2,3,4,5,6,7,8,9,10,11,12],[0,1,2,3,4,5,6,7,8,9,10,11,12,13],[0,1,2,3,4,5,6,7,8,9,10,11,12,13,14]]
def c52(b:Nat):AO:=.reg true (Im b) wzsb
def rs52:List ARes:=[]
theorem ck52:∃c,Tryz.f52.body=some c/\∀b,AH Tryz.prog c (c52 b)=true:=⟨_,rfl,fun b=>by kernel_rfl⟩
theorem cr52:D7 Tryz.prog Tryz.f52.results.toList rs52=true:=by kernel_rfl
def Vg(b:Nat):List Ak:=[
    sO 4 (.mv (.c (.str [])))]
def Vh(b:Nat):List Ak:=[
    sO 5 (.alloc (b+0) [.nilfn])]
def Vi(b:Nat):List Ak:=[
    sO 6 (.mkfn 102 0 [.t 5]),⟨none,.store 1 (.t 5) (.t 6),none⟩]
def Vj(b:Nat):List Ak:=[
    sO 7 (.load false 1 (.t 5)),sO 8 (.mv (.t 0)),sO 9 (.callf 104 [.t 8]),sO 10 (.mv (.t 1)),sO 11 (.callf 104 [.t 10]),sO 12 (.callv (.t 7) [.t 9,.t 11]),sO 13 (.callf 105 [.t 12]),sO 4 (.mv (.t 13))]
def wzsf:List (List Nat):=[[],[],[1],[],[1,2,3],[0,1,2,3,4],[0,1,2,3,4,5],[0,1,2,3,4,5,6]]
def c61(b:Nat):AO:=.seq (.reg false (Vg b) []) (.seq (.reg false (Vh b) []) (.seq (.reg false (Vi b) []) (.seq (.reg true (Vj b) wzsf) (.ret))))
def rs61:List ARes:=[.t 4]
theorem ck61:∃c,Tryz.f61.body=some c/\∀b,AH Tryz.prog c (c61 b)=true:=⟨_,rfl,fun b=>by kernel_rfl⟩
theorem cr61:D7 Tryz.prog Tryz.f61.results.toList rs61=true:=by kernel_rfl
def V3(b:Nat):List Ak:=[
    sO 6 (.alloc (b+0) [.bool false,.str [],.str []])]
def V5(b:Nat):List Ak:=[
    sO 10 (.mv (.t 1)),sO 11 (.bin .lss false (.t 10) (.c (.int .i64 0)))]
def wzut(b:Nat):List Ak:=[
    sO 12 (.build [.bool false,.str [],.str []] []),⟨none,.store 3 (.t 6) (.t 12),none⟩]
def V6(b:Nat):List Ak:=[
    sO 13 (.mv (.t 1)),sO 14 (.mv (.t 2)),sO 15 (.build [.int .i64 0,.int .i64 0] [(0,1,.t 13),(1,1,.t 14)]),sO 7 (.alloc (b+1) [.int .i64 0,.int .i64 0]),⟨none,.store 2 (.t 7) (.t 15),none⟩]
def Pj(b:Nat):List Ak:=[
    sO 17 (.mv (.t 0)),sO 18 (.nilck (.t 17)),sO 19 (.faddr 1 (.t 18)),sO 20 (.load false 1 (.t 19)),sO 21 (.load true 2 (.t 7)),sO 22 (.mlook 16 true (.agg [.bool false,.str [],.str []]) (.t 20) (.t 21)),sO 16 (.mv (.t 22)),sO 23 (.extract 0 (.t 16)),sO 24 (.extract 1 (.t 16)),sO 8 (.alloc (b+2) [.bool false,.str [],.str []]),⟨none,.store 3 (.t 8) (.t 23),none⟩,sO 9 (.mv (.t 24))]
def wztd:List (List Nat):=[[],[0],[0,1],[0,1,2],[],[0,1,2,3,4],[0,1,2,3,4,5],[0,1,2,3,4,5,6],[0,1,2,3,4,5,6],[],[0,1,2,3,4,5,6,7,9],[0,1,2,3,4,5,6,7,8,9,10]]
def Pl(b:Nat):List Ak:=[
    sO 25 (.mv (.t 9)),sO 26 (.not (.t 25))]
def V7(b:Nat):List Ak:=[
    sO 27 (.mv (.t 0)),sO 28 (.nilck (.t 27)),sO 29 (.faddr 0 (.t 28)),sO 30 (.load false 1 (.t 29)),sO 31 (.mv (.t 1)),sO 32 (.iaddrS 7 (.t 30) (.t 31)),sO 33 (.load true 7 (.t 32)),sO 34 (.mv (.t 2)),sO 35 (.callf 132 [.t 33,.t 34]),⟨none,.store 3 (.t 8) (.t 35),none⟩]
def V8(b:Nat):List Ak:=[
    sO 36 (.mv (.t 0)),sO 37 (.nilck (.t 36)),sO 38 (.faddr 1 (.t 37)),sO 39 (.load false 1 (.t 38)),sO 40 (.load true 2 (.t 7)),sO 41 (.load true 3 (.t 8)),⟨none,.mupd 16 (.t 39) (.t 40) (.t 41),none⟩]
def wztr:List (List Nat):=[[],[0],[0,1],[0,1,2],[],[],[0,1,2,3,4,5]]
def Pm(b:Nat):List Ak:=[
    sO 42 (.load true 3 (.t 8)),⟨none,.store 3 (.t 6) (.t 42),none⟩]
def c97(b:Nat):AO:=.seq (.reg false (V3 b) []) (.seq (.seq (.reg false (V5 b) []) (.cond (.t 11) (.seq (.reg false (wzut b) []) (.ret)) (.skip))) (.seq (.reg false (V6 b) []) (.seq (.reg true (Pj b) wztd) (.seq (.seq (.reg false (Pl b) []) (.cond (.t 26) (.seq (.reg false (V7 b) []) (.reg true (V8 b) wztr)) (.skip))) (.seq (.reg false (Pm b) []) (.ret))))))
def rs97:List ARes:=[.c 6 true 3]
theorem ck97:∃c,Tryz.f97.body=some c/\∀b,AH Tryz.prog c (c97 b)=true:=⟨_,rfl,fun b=>by kernel_rfl⟩
theorem cr97:D7 Tryz.prog Tryz.f97.results.toList rs97=true:=by kernel_rfl
def UY(b:Nat):List Ak:=[
    sO 5 (.mv (.c (.nils)))]
def Va(b:Nat):List Ak:=[
    sO 8 (.mv (.t 1)),sO 9 (.len false (.t 8)),sO 10 (.bin .eql false (.t 9) (.c (.int .i64 0)))]
def Vb(b:Nat):List Ak:=[
    sO 11 (.mv (.t 0)),sO 5 (.mv (.t 11))]
def Ve(b:Nat):List Ak:=[
    sO 13 (.mv (.t 0)),sO 14 (.mv (.t 1)),sO 15 (.callf 103 [.t 13,.t 14]),sO 12 (.mv (.t 15)),sO 16 (.extract 0 (.t 12)),sO 17 (.extract 1 (.t 12)),sO 6 (.mv (.t 16)),sO 7 (.mv (.t 17))]
def Vf(b:Nat):List Ak:=[
    sO 18 (.load false 1 (.t 2)),sO 19 (.mv (.t 1)),sO 20 (.mv (.t 7)),sO 21 (.callv (.t 18) [.t 19,.t 20]),sO 5 (.mv (.t 21))]
def c102(b:Nat):AO:=.seq (.reg false (UY b) []) (.seq (.seq (.reg false (Va b) []) (.cond (.t 10) (.seq (.reg false (Vb b) []) (.ret)) (.skip))) (.seq (.reg false (Ve b) []) (.seq (.reg false (Vf b) []) (.ret))))
def JS:List ARes:=[.t 5]
theorem wzwx:∃c,Tryz.f102.body=some c/\∀b,AH Tryz.prog c (c102 b)=true:=⟨_,rfl,fun b=>by kernel_rfl⟩
theorem wzuo:D7 Tryz.prog Tryz.f102.results.toList JS=true:=by kernel_rfl
def UW(b:Nat):List Ak:=[
    sO 2 (.mv (.c (.nils)))]
def Pf(b:Nat):List Ak:=[
    sO 3 (.mv (.t 0)),sO 4 (.isnil false (.t 3))]
def wzr0(b:Nat):List Ak:=[
    sO 2 (.mv (.c (.nils)))]
def Pg(b:Nat):List Ak:=[
    sO 5 (.bslice (b+0) 1 0 [] []),sO 6 (.mv (.t 0)),sO 7 (.append (b+1) 1 4 (.t 5) (.t 6)),sO 2 (.mv (.t 7))]
def c140(b:Nat):AO:=.seq (.reg false (UW b) []) (.seq (.seq (.reg false (Pf b) []) (.cond (.t 4) (.seq (.reg false (wzr0 b) []) (.ret)) (.skip))) (.seq (.reg false (Pg b) []) (.ret)))
def JR:List ARes:=[.t 2]
theorem wzub:∃c,Tryz.f140.body=some c/\∀b,AH Tryz.prog c (c140 b)=true:=⟨_,rfl,fun b=>by kernel_rfl⟩
theorem wzus:D7 Tryz.prog Tryz.f140.results.toList JR=true:=by kernel_rfl
end Go.Am

