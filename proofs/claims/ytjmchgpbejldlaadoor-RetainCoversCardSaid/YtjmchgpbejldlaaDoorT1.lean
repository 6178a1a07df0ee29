/- Part T1 of the proof that the last part closes: the table of these functions. No condition. -/
import Derived.Test.YtjmchgpbejldlaaDoorE2
import Derived.Test.YtjmchgpbejldlaaDoorG2
set_option linter.unusedVariables false
namespace Go.Am
open Go.Proofs
def en3 : Nat × Ent := (3, ⟨c3 0, rs3, 153⟩)
theorem eo3 : EntOk Tryd.prog en3 := by obtain ⟨c, h1, h2⟩ := ck3; exact ⟨by kernel_rfl, Tryd.f3, c, rfl, h1, h2 0, cr3, by kernel_rfl⟩
def en4 : Nat × Ent := (4, ⟨c4 0, rs4, 319⟩)
theorem eo4 : EntOk Tryd.prog en4 := by obtain ⟨c, h1, h2⟩ := ck4; exact ⟨by kernel_rfl, Tryd.f4, c, rfl, h1, h2 0, cr4, by kernel_rfl⟩
def en5 : Nat × Ent := (5, ⟨c5 0, rs5, 29⟩)
theorem eo5 : EntOk Tryd.prog en5 := by obtain ⟨c, h1, h2⟩ := ck5; exact ⟨by kernel_rfl, Tryd.f5, c, rfl, h1, h2 0, cr5, by kernel_rfl⟩
def en6 : Nat × Ent := (6, ⟨c6 0, rs6, 197⟩)
theorem eo6 : EntOk Tryd.prog en6 := by obtain ⟨c, h1, h2⟩ := ck6; exact ⟨by kernel_rfl, Tryd.f6, c, rfl, h1, h2 0, cr6, by kernel_rfl⟩
def en7 : Nat × Ent := (7, ⟨c7 0, rs7, 35⟩)
theorem eo7 : EntOk Tryd.prog en7 := by obtain ⟨c, h1, h2⟩ := ck7; exact ⟨by kernel_rfl, Tryd.f7, c, rfl, h1, h2 0, cr7, by kernel_rfl⟩
def en8 : Nat × Ent := (8, ⟨c8 0, rs8, 45⟩)
theorem eo8 : EntOk Tryd.prog en8 := by obtain ⟨c, h1, h2⟩ := ck8; exact ⟨by kernel_rfl, Tryd.f8, c, rfl, h1, h2 0, cr8, by kernel_rfl⟩
def en9 : Nat × Ent := (9, ⟨c9 0, rs9, 70⟩)
theorem eo9 : EntOk Tryd.prog en9 := by obtain ⟨c, h1, h2⟩ := ck9; exact ⟨by kernel_rfl, Tryd.f9, c, rfl, h1, h2 0, cr9, by kernel_rfl⟩
def en10 : Nat × Ent := (10, ⟨c10 0, rs10, 36⟩)
theorem eo10 : EntOk Tryd.prog en10 := by obtain ⟨c, h1, h2⟩ := ck10; exact ⟨by kernel_rfl, Tryd.f10, c, rfl, h1, h2 0, cr10, by kernel_rfl⟩
def en11 : Nat × Ent := (11, ⟨c11 0, rs11, 103⟩)
theorem eo11 : EntOk Tryd.prog en11 := by obtain ⟨c, h1, h2⟩ := ck11; exact ⟨by kernel_rfl, Tryd.f11, c, rfl, h1, h2 0, cr11, by kernel_rfl⟩
def en12 : Nat × Ent := (12, ⟨c12 0, rs12, 96⟩)
theorem eo12 : EntOk Tryd.prog en12 := by obtain ⟨c, h1, h2⟩ := ck12; exact ⟨by kernel_rfl, Tryd.f12, c, rfl, h1, h2 0, cr12, by kernel_rfl⟩
def en13 : Nat × Ent := (13, ⟨c13 0, rs13, 39⟩)
theorem eo13 : EntOk Tryd.prog en13 := by obtain ⟨c, h1, h2⟩ := ck13; exact ⟨by kernel_rfl, Tryd.f13, c, rfl, h1, h2 0, cr13, by kernel_rfl⟩
def en14 : Nat × Ent := (14, ⟨c14 0, rs14, 82⟩)
theorem eo14 : EntOk Tryd.prog en14 := by obtain ⟨c, h1, h2⟩ := ck14; exact ⟨by kernel_rfl, Tryd.f14, c, rfl, h1, h2 0, cr14, by kernel_rfl⟩
def en15 : Nat × Ent := (15, ⟨c15 0, rs15, 26⟩)
theorem eo15 : EntOk Tryd.prog en15 := by obtain ⟨c, h1, h2⟩ := ck15; exact ⟨by kernel_rfl, Tryd.f15, c, rfl, h1, h2 0, cr15, by kernel_rfl⟩
def en16 : Nat × Ent := (16, ⟨c16 0, rs16, 66⟩)
theorem eo16 : EntOk Tryd.prog en16 := by obtain ⟨c, h1, h2⟩ := ck16; exact ⟨by kernel_rfl, Tryd.f16, c, rfl, h1, h2 0, cr16, by kernel_rfl⟩
def en17 : Nat × Ent := (17, ⟨c17 0, rs17, 125⟩)
theorem eo17 : EntOk Tryd.prog en17 := by obtain ⟨c, h1, h2⟩ := ck17; exact ⟨by kernel_rfl, Tryd.f17, c, rfl, h1, h2 0, cr17, by kernel_rfl⟩
def en18 : Nat × Ent := (18, ⟨c18 0, rs18, 162⟩)
theorem eo18 : EntOk Tryd.prog en18 := by obtain ⟨c, h1, h2⟩ := ck18; exact ⟨by kernel_rfl, Tryd.f18, c, rfl, h1, h2 0, cr18, by kernel_rfl⟩
def en19 : Nat × Ent := (19, ⟨c19 0, rs19, 68⟩)
theorem eo19 : EntOk Tryd.prog en19 := by obtain ⟨c, h1, h2⟩ := ck19; exact ⟨by kernel_rfl, Tryd.f19, c, rfl, h1, h2 0, cr19, by kernel_rfl⟩
def en20 : Nat × Ent := (20, ⟨c20 0, rs20, 110⟩)
theorem eo20 : EntOk Tryd.prog en20 := by obtain ⟨c, h1, h2⟩ := ck20; exact ⟨by kernel_rfl, Tryd.f20, c, rfl, h1, h2 0, cr20, by kernel_rfl⟩
def en21 : Nat × Ent := (21, ⟨c21 0, rs21, 62⟩)
theorem eo21 : EntOk Tryd.prog en21 := by obtain ⟨c, h1, h2⟩ := ck21; exact ⟨by kernel_rfl, Tryd.f21, c, rfl, h1, h2 0, cr21, by kernel_rfl⟩
def en22 : Nat × Ent := (22, ⟨c22 0, rs22, 9⟩)
theorem eo22 : EntOk Tryd.prog en22 := by obtain ⟨c, h1, h2⟩ := ck22; exact ⟨by kernel_rfl, Tryd.f22, c, rfl, h1, h2 0, cr22, by kernel_rfl⟩
def en23 : Nat × Ent := (23, ⟨c23 0, rs23, 16⟩)
theorem eo23 : EntOk Tryd.prog en23 := by obtain ⟨c, h1, h2⟩ := ck23; exact ⟨by kernel_rfl, Tryd.f23, c, rfl, h1, h2 0, cr23, by kernel_rfl⟩
def en24 : Nat × Ent := (24, ⟨c24 0, rs24, 6⟩)
theorem eo24 : EntOk Tryd.prog en24 := by obtain ⟨c, h1, h2⟩ := ck24; exact ⟨by kernel_rfl, Tryd.f24, c, rfl, h1, h2 0, cr24, by kernel_rfl⟩
def en25 : Nat × Ent := (25, ⟨c25 0, rs25, 29⟩)
theorem eo25 : EntOk Tryd.prog en25 := by obtain ⟨c, h1, h2⟩ := ck25; exact ⟨by kernel_rfl, Tryd.f25, c, rfl, h1, h2 0, cr25, by kernel_rfl⟩
def en26 : Nat × Ent := (26, ⟨c26 0, rs26, 36⟩)
theorem eo26 : EntOk Tryd.prog en26 := by obtain ⟨c, h1, h2⟩ := ck26; exact ⟨by kernel_rfl, Tryd.f26, c, rfl, h1, h2 0, cr26, by kernel_rfl⟩
def en27 : Nat × Ent := (27, ⟨c27 0, rs27, 9⟩)
theorem eo27 : EntOk Tryd.prog en27 := by obtain ⟨c, h1, h2⟩ := ck27; exact ⟨by kernel_rfl, Tryd.f27, c, rfl, h1, h2 0, cr27, by kernel_rfl⟩
def en28 : Nat × Ent := (28, ⟨c28 0, rs28, 24⟩)
theorem eo28 : EntOk Tryd.prog en28 := by obtain ⟨c, h1, h2⟩ := ck28; exact ⟨by kernel_rfl, Tryd.f28, c, rfl, h1, h2 0, cr28, by kernel_rfl⟩
def en29 : Nat × Ent := (29, ⟨c29 0, rs29, 9⟩)
theorem eo29 : EntOk Tryd.prog en29 := by obtain ⟨c, h1, h2⟩ := ck29; exact ⟨by kernel_rfl, Tryd.f29, c, rfl, h1, h2 0, cr29, by kernel_rfl⟩
def en30 : Nat × Ent := (30, ⟨c30 0, rs30, 9⟩)
theorem eo30 : EntOk Tryd.prog en30 := by obtain ⟨c, h1, h2⟩ := ck30; exact ⟨by kernel_rfl, Tryd.f30, c, rfl, h1, h2 0, cr30, by kernel_rfl⟩
def en31 : Nat × Ent := (31, ⟨c31 0, rs31, 22⟩)
theorem eo31 : EntOk Tryd.prog en31 := by obtain ⟨c, h1, h2⟩ := ck31; exact ⟨by kernel_rfl, Tryd.f31, c, rfl, h1, h2 0, cr31, by kernel_rfl⟩
def en32 : Nat × Ent := (32, ⟨c32 0, rs32, 16⟩)
theorem eo32 : EntOk Tryd.prog en32 := by obtain ⟨c, h1, h2⟩ := ck32; exact ⟨by kernel_rfl, Tryd.f32, c, rfl, h1, h2 0, cr32, by kernel_rfl⟩
def en33 : Nat × Ent := (33, ⟨c33 0, rs33, 67⟩)
theorem eo33 : EntOk Tryd.prog en33 := by obtain ⟨c, h1, h2⟩ := ck33; exact ⟨by kernel_rfl, Tryd.f33, c, rfl, h1, h2 0, cr33, by kernel_rfl⟩
def en34 : Nat × Ent := (34, ⟨c34 0, rs34, 69⟩)
theorem eo34 : EntOk Tryd.prog en34 := by obtain ⟨c, h1, h2⟩ := ck34; exact ⟨by kernel_rfl, Tryd.f34, c, rfl, h1, h2 0, cr34, by kernel_rfl⟩
def en35 : Nat × Ent := (35, ⟨c35 0, rs35, 25⟩)
theorem eo35 : EntOk Tryd.prog en35 := by obtain ⟨c, h1, h2⟩ := ck35; exact ⟨by kernel_rfl, Tryd.f35, c, rfl, h1, h2 0, cr35, by kernel_rfl⟩
def en36 : Nat × Ent := (36, ⟨c36 0, rs36, 108⟩)
theorem eo36 : EntOk Tryd.prog en36 := by obtain ⟨c, h1, h2⟩ := ck36; exact ⟨by kernel_rfl, Tryd.f36, c, rfl, h1, h2 0, cr36, by kernel_rfl⟩
def en37 : Nat × Ent := (37, ⟨c37 0, rs37, 49⟩)
theorem eo37 : EntOk Tryd.prog en37 := by obtain ⟨c, h1, h2⟩ := ck37; exact ⟨by kernel_rfl, Tryd.f37, c, rfl, h1, h2 0, cr37, by kernel_rfl⟩
def en38 : Nat × Ent := (38, ⟨c38 0, rs38, 4⟩)
theorem eo38 : EntOk Tryd.prog en38 := by obtain ⟨c, h1, h2⟩ := ck38; exact ⟨by kernel_rfl, Tryd.f38, c, rfl, h1, h2 0, cr38, by kernel_rfl⟩
def en39 : Nat × Ent := (39, ⟨c39 0, rs39, 7⟩)
theorem eo39 : EntOk Tryd.prog en39 := by obtain ⟨c, h1, h2⟩ := ck39; exact ⟨by kernel_rfl, Tryd.f39, c, rfl, h1, h2 0, cr39, by kernel_rfl⟩
def en40 : Nat × Ent := (40, ⟨c40 0, rs40, 7⟩)
theorem eo40 : EntOk Tryd.prog en40 := by obtain ⟨c, h1, h2⟩ := ck40; exact ⟨by kernel_rfl, Tryd.f40, c, rfl, h1, h2 0, cr40, by kernel_rfl⟩
def en41 : Nat × Ent := (41, ⟨c41 0, rs41, 9⟩)
theorem eo41 : EntOk Tryd.prog en41 := by obtain ⟨c, h1, h2⟩ := ck41; exact ⟨by kernel_rfl, Tryd.f41, c, rfl, h1, h2 0, cr41, by kernel_rfl⟩
def en42 : Nat × Ent := (42, ⟨c42 0, rs42, 4⟩)
theorem eo42 : EntOk Tryd.prog en42 := by obtain ⟨c, h1, h2⟩ := ck42; exact ⟨by kernel_rfl, Tryd.f42, c, rfl, h1, h2 0, cr42, by kernel_rfl⟩
def en43 : Nat × Ent := (43, ⟨c43 0, rs43, 44⟩)
theorem eo43 : EntOk Tryd.prog en43 := by obtain ⟨c, h1, h2⟩ := ck43; exact ⟨by kernel_rfl, Tryd.f43, c, rfl, h1, h2 0, cr43, by kernel_rfl⟩
def en44 : Nat × Ent := (44, ⟨c44 0, rs44, 24⟩)
theorem eo44 : EntOk Tryd.prog en44 := by obtain ⟨c, h1, h2⟩ := ck44; exact ⟨by kernel_rfl, Tryd.f44, c, rfl, h1, h2 0, cr44, by kernel_rfl⟩
def en45 : Nat × Ent := (45, ⟨c45 0, rs45, 28⟩)
theorem eo45 : EntOk Tryd.prog en45 := by obtain ⟨c, h1, h2⟩ := ck45; exact ⟨by kernel_rfl, Tryd.f45, c, rfl, h1, h2 0, cr45, by kernel_rfl⟩
def en46 : Nat × Ent := (46, ⟨c46 0, rs46, 21⟩)
theorem eo46 : EntOk Tryd.prog en46 := by obtain ⟨c, h1, h2⟩ := ck46; exact ⟨by kernel_rfl, Tryd.f46, c, rfl, h1, h2 0, cr46, by kernel_rfl⟩
def en47 : Nat × Ent := (47, ⟨c47 0, rs47, 27⟩)
theorem eo47 : EntOk Tryd.prog en47 := by obtain ⟨c, h1, h2⟩ := ck47; exact ⟨by kernel_rfl, Tryd.f47, c, rfl, h1, h2 0, cr47, by kernel_rfl⟩
def en48 : Nat × Ent := (48, ⟨c48 0, rs48, 62⟩)
theorem eo48 : EntOk Tryd.prog en48 := by obtain ⟨c, h1, h2⟩ := ck48; exact ⟨by kernel_rfl, Tryd.f48, c, rfl, h1, h2 0, cr48, by kernel_rfl⟩
def en49 : Nat × Ent := (49, ⟨c49 0, rs49, 72⟩)
theorem eo49 : EntOk Tryd.prog en49 := by obtain ⟨c, h1, h2⟩ := ck49; exact ⟨by kernel_rfl, Tryd.f49, c, rfl, h1, h2 0, cr49, by kernel_rfl⟩
def en50 : Nat × Ent := (50, ⟨c50 0, rs50, 67⟩)
theorem eo50 : EntOk Tryd.prog en50 := by obtain ⟨c, h1, h2⟩ := ck50; exact ⟨by kernel_rfl, Tryd.f50, c, rfl, h1, h2 0, cr50, by kernel_rfl⟩
def en51 : Nat × Ent := (51, ⟨c51 0, rs51, 19⟩)
theorem eo51 : EntOk Tryd.prog en51 := by obtain ⟨c, h1, h2⟩ := ck51; exact ⟨by kernel_rfl, Tryd.f51, c, rfl, h1, h2 0, cr51, by kernel_rfl⟩
def en52 : Nat × Ent := (52, ⟨c52 0, rs52, 15⟩)
theorem eo52 : EntOk Tryd.prog en52 := by obtain ⟨c, h1, h2⟩ := ck52; exact ⟨by kernel_rfl, Tryd.f52, c, rfl, h1, h2 0, cr52, by kernel_rfl⟩
def en53 : Nat × Ent := (53, ⟨c53 0, rs53, 9⟩)
theorem eo53 : EntOk Tryd.prog en53 := by obtain ⟨c, h1, h2⟩ := ck53; exact ⟨by kernel_rfl, Tryd.f53, c, rfl, h1, h2 0, cr53, by kernel_rfl⟩
def en54 : Nat × Ent := (54, ⟨c54 0, rs54, 6⟩)
theorem eo54 : EntOk Tryd.prog en54 := by obtain ⟨c, h1, h2⟩ := ck54; exact ⟨by kernel_rfl, Tryd.f54, c, rfl, h1, h2 0, cr54, by kernel_rfl⟩
def en55 : Nat × Ent := (55, ⟨c55 0, rs55, 102⟩)
theorem eo55 : EntOk Tryd.prog en55 := by obtain ⟨c, h1, h2⟩ := ck55; exact ⟨by kernel_rfl, Tryd.f55, c, rfl, h1, h2 0, cr55, by kernel_rfl⟩
def en56 : Nat × Ent := (56, ⟨c56 0, rs56, 9⟩)
theorem eo56 : EntOk Tryd.prog en56 := by obtain ⟨c, h1, h2⟩ := ck56; exact ⟨by kernel_rfl, Tryd.f56, c, rfl, h1, h2 0, cr56, by kernel_rfl⟩
def en57 : Nat × Ent := (57, ⟨c57 0, rs57, 60⟩)
theorem eo57 : EntOk Tryd.prog en57 := by obtain ⟨c, h1, h2⟩ := ck57; exact ⟨by kernel_rfl, Tryd.f57, c, rfl, h1, h2 0, cr57, by kernel_rfl⟩
def en58 : Nat × Ent := (58, ⟨c58 0, rs58, 37⟩)
theorem eo58 : EntOk Tryd.prog en58 := by obtain ⟨c, h1, h2⟩ := ck58; exact ⟨by kernel_rfl, Tryd.f58, c, rfl, h1, h2 0, cr58, by kernel_rfl⟩
def en59 : Nat × Ent := (59, ⟨c59 0, rs59, 5⟩)
theorem eo59 : EntOk Tryd.prog en59 := by obtain ⟨c, h1, h2⟩ := ck59; exact ⟨by kernel_rfl, Tryd.f59, c, rfl, h1, h2 0, cr59, by kernel_rfl⟩
def en61 : Nat × Ent := (61, ⟨c61 0, rs61, 14⟩)
theorem eo61 : EntOk Tryd.prog en61 := by obtain ⟨c, h1, h2⟩ := ck61; exact ⟨by kernel_rfl, Tryd.f61, c, rfl, h1, h2 0, cr61, by kernel_rfl⟩
def en62 : Nat × Ent := (62, ⟨c62 0, rs62, 8⟩)
theorem eo62 : EntOk Tryd.prog en62 := by obtain ⟨c, h1, h2⟩ := ck62; exact ⟨by kernel_rfl, Tryd.f62, c, rfl, h1, h2 0, cr62, by kernel_rfl⟩
def en63 : Nat × Ent := (63, ⟨c63 0, rs63, 8⟩)
theorem eo63 : EntOk Tryd.prog en63 := by obtain ⟨c, h1, h2⟩ := ck63; exact ⟨by kernel_rfl, Tryd.f63, c, rfl, h1, h2 0, cr63, by kernel_rfl⟩
def en64 : Nat × Ent := (64, ⟨c64 0, rs64, 16⟩)
theorem eo64 : EntOk Tryd.prog en64 := by obtain ⟨c, h1, h2⟩ := ck64; exact ⟨by kernel_rfl, Tryd.f64, c, rfl, h1, h2 0, cr64, by kernel_rfl⟩
def en65 : Nat × Ent := (65, ⟨c65 0, rs65, 48⟩)
theorem eo65 : EntOk Tryd.prog en65 := by obtain ⟨c, h1, h2⟩ := ck65; exact ⟨by kernel_rfl, Tryd.f65, c, rfl, h1, h2 0, cr65, by kernel_rfl⟩
def en66 : Nat × Ent := (66, ⟨c66 0, rs66, 19⟩)
theorem eo66 : EntOk Tryd.prog en66 := by obtain ⟨c, h1, h2⟩ := ck66; exact ⟨by kernel_rfl, Tryd.f66, c, rfl, h1, h2 0, cr66, by kernel_rfl⟩
def en67 : Nat × Ent := (67, ⟨c67 0, rs67, 19⟩)
theorem eo67 : EntOk Tryd.prog en67 := by obtain ⟨c, h1, h2⟩ := ck67; exact ⟨by kernel_rfl, Tryd.f67, c, rfl, h1, h2 0, cr67, by kernel_rfl⟩
def en68 : Nat × Ent := (68, ⟨c68 0, rs68, 38⟩)
theorem eo68 : EntOk Tryd.prog en68 := by obtain ⟨c, h1, h2⟩ := ck68; exact ⟨by kernel_rfl, Tryd.f68, c, rfl, h1, h2 0, cr68, by kernel_rfl⟩
def en69 : Nat × Ent := (69, ⟨c69 0, rs69, 15⟩)
theorem eo69 : EntOk Tryd.prog en69 := by obtain ⟨c, h1, h2⟩ := ck69; exact ⟨by kernel_rfl, Tryd.f69, c, rfl, h1, h2 0, cr69, by kernel_rfl⟩
def en70 : Nat × Ent := (70, ⟨c70 0, rs70, 58⟩)
theorem eo70 : EntOk Tryd.prog en70 := by obtain ⟨c, h1, h2⟩ := ck70; exact ⟨by kernel_rfl, Tryd.f70, c, rfl, h1, h2 0, cr70, by kernel_rfl⟩
def en71 : Nat × Ent := (71, ⟨c71 0, rs71, 5⟩)
theorem eo71 : EntOk Tryd.prog en71 := by obtain ⟨c, h1, h2⟩ := ck71; exact ⟨by kernel_rfl, Tryd.f71, c, rfl, h1, h2 0, cr71, by kernel_rfl⟩
def en72 : Nat × Ent := (72, ⟨c72 0, rs72, 13⟩)
theorem eo72 : EntOk Tryd.prog en72 := by obtain ⟨c, h1, h2⟩ := ck72; exact ⟨by kernel_rfl, Tryd.f72, c, rfl, h1, h2 0, cr72, by kernel_rfl⟩
def en75 : Nat × Ent := (75, ⟨c75 0, rs75, 48⟩)
theorem eo75 : EntOk Tryd.prog en75 := by obtain ⟨c, h1, h2⟩ := ck75; exact ⟨by kernel_rfl, Tryd.f75, c, rfl, h1, h2 0, cr75, by kernel_rfl⟩
def en76 : Nat × Ent := (76, ⟨c76 0, rs76, 16⟩)
theorem eo76 : EntOk Tryd.prog en76 := by obtain ⟨c, h1, h2⟩ := ck76; exact ⟨by kernel_rfl, Tryd.f76, c, rfl, h1, h2 0, cr76, by kernel_rfl⟩
def en88 : Nat × Ent := (88, ⟨c88 0, rs88, 7⟩)
theorem eo88 : EntOk Tryd.prog en88 := by obtain ⟨c, h1, h2⟩ := ck88; exact ⟨by kernel_rfl, Tryd.f88, c, rfl, h1, h2 0, cr88, by kernel_rfl⟩
def en89 : Nat × Ent := (89, ⟨c89 0, rs89, 25⟩)
theorem eo89 : EntOk Tryd.prog en89 := by obtain ⟨c, h1, h2⟩ := ck89; exact ⟨by kernel_rfl, Tryd.f89, c, rfl, h1, h2 0, cr89, by kernel_rfl⟩
def en96 : Nat × Ent := (96, ⟨c96 0, rs96, 14⟩)
theorem eo96 : EntOk Tryd.prog en96 := by obtain ⟨c, h1, h2⟩ := ck96; exact ⟨by kernel_rfl, Tryd.f96, c, rfl, h1, h2 0, cr96, by kernel_rfl⟩
def tab : List (Nat × Ent) := [en3, en4, en5, en6, en7, en8, en9, en10, en11, en12, en13, en14, en15, en16, en17, en18, en19, en20, en21, en22, en23, en24, en25, en26, en27, en28, en29, en30, en31, en32, en33, en34, en35, en36, en37, en38, en39, en40, en41, en42, en43, en44, en45, en46, en47, en48, en49, en50, en51, en52, en53, en54, en55, en56, en57, en58, en59, en61, en62, en63, en64, en65, en66, en67, en68, en69, en70, en71, en72, en75, en76, en88, en89, en96]
theorem tab_ok : ∀ x ∈ tab, EntOk Tryd.prog x := by
  unfold tab
  refine List.forall_mem_cons.2 ⟨eo3, ?_⟩
  refine List.forall_mem_cons.2 ⟨eo4, ?_⟩
  refine List.forall_mem_cons.2 ⟨eo5, ?_⟩
  refine List.forall_mem_cons.2 ⟨eo6, ?_⟩
  refine List.forall_mem_cons.2 ⟨eo7, ?_⟩
  refine List.forall_mem_cons.2 ⟨eo8, ?_⟩
  refine List.forall_mem_cons.2 ⟨eo9, ?_⟩
  refine List.forall_mem_cons.2 ⟨eo10, ?_⟩
  refine List.forall_mem_cons.2 ⟨eo11, ?_⟩
  refine List.forall_mem_cons.2 ⟨eo12, ?_⟩
  refine List.forall_mem_cons.2 ⟨eo13, ?_⟩
  refine List.forall_mem_cons.2 ⟨eo14, ?_⟩
  refine List.forall_mem_cons.2 ⟨eo15, ?_⟩
  refine List.forall_mem_cons.2 ⟨eo16, ?_⟩
  refine List.forall_mem_cons.2 ⟨eo17, ?_⟩
  refine List.forall_mem_cons.2 ⟨eo18, ?_⟩
  refine List.forall_mem_cons.2 ⟨eo19, ?_⟩
  refine List.forall_mem_cons.2 ⟨eo20, ?_⟩
  refine List.forall_mem_cons.2 ⟨eo21, ?_⟩
  refine List.forall_mem_cons.2 ⟨eo22, ?_⟩
  refine List.forall_mem_cons.2 ⟨eo23, ?_⟩
  refine List.forall_mem_cons.2 ⟨eo24, ?_⟩
  refine List.forall_mem_cons.2 ⟨eo25, ?_⟩
  refine List.forall_mem_cons.2 ⟨eo26, ?_⟩
  refine List.forall_mem_cons.2 ⟨eo27, ?_⟩
  refine List.forall_mem_cons.2 ⟨eo28, ?_⟩
  refine List.forall_mem_cons.2 ⟨eo29, ?_⟩
  refine List.forall_mem_cons.2 ⟨eo30, ?_⟩
  refine List.forall_mem_cons.2 ⟨eo31, ?_⟩
  refine List.forall_mem_cons.2 ⟨eo32, ?_⟩
  refine List.forall_mem_cons.2 ⟨eo33, ?_⟩
  refine List.forall_mem_cons.2 ⟨eo34, ?_⟩
  refine List.forall_mem_cons.2 ⟨eo35, ?_⟩
  refine List.forall_mem_cons.2 ⟨eo36, ?_⟩
  refine List.forall_mem_cons.2 ⟨eo37, ?_⟩
  refine List.forall_mem_cons.2 ⟨eo38, ?_⟩
  refine List.forall_mem_cons.2 ⟨eo39, ?_⟩
  refine List.forall_mem_cons.2 ⟨eo40, ?_⟩
  refine List.forall_mem_cons.2 ⟨eo41, ?_⟩
  refine List.forall_mem_cons.2 ⟨eo42, ?_⟩
  refine List.forall_mem_cons.2 ⟨eo43, ?_⟩
  refine List.forall_mem_cons.2 ⟨eo44, ?_⟩
  refine List.forall_mem_cons.2 ⟨eo45, ?_⟩
  refine List.forall_mem_cons.2 ⟨eo46, ?_⟩
  refine List.forall_mem_cons.2 ⟨eo47, ?_⟩
  refine List.forall_mem_cons.2 ⟨eo48, ?_⟩
  refine List.forall_mem_cons.2 ⟨eo49, ?_⟩
  refine List.forall_mem_cons.2 ⟨eo50, ?_⟩
  refine List.forall_mem_cons.2 ⟨eo51, ?_⟩
  refine List.forall_mem_cons.2 ⟨eo52, ?_⟩
  refine List.forall_mem_cons.2 ⟨eo53, ?_⟩
  refine List.forall_mem_cons.2 ⟨eo54, ?_⟩
  refine List.forall_mem_cons.2 ⟨eo55, ?_⟩
  refine List.forall_mem_cons.2 ⟨eo56, ?_⟩
  refine List.forall_mem_cons.2 ⟨eo57, ?_⟩
  refine List.forall_mem_cons.2 ⟨eo58, ?_⟩
  refine List.forall_mem_cons.2 ⟨eo59, ?_⟩
  refine List.forall_mem_cons.2 ⟨eo61, ?_⟩
  refine List.forall_mem_cons.2 ⟨eo62, ?_⟩
  refine List.forall_mem_cons.2 ⟨eo63, ?_⟩
  refine List.forall_mem_cons.2 ⟨eo64, ?_⟩
  refine List.forall_mem_cons.2 ⟨eo65, ?_⟩
  refine List.forall_mem_cons.2 ⟨eo66, ?_⟩
  refine List.forall_mem_cons.2 ⟨eo67, ?_⟩
  refine List.forall_mem_cons.2 ⟨eo68, ?_⟩
  refine List.forall_mem_cons.2 ⟨eo69, ?_⟩
  refine List.forall_mem_cons.2 ⟨eo70, ?_⟩
  refine List.forall_mem_cons.2 ⟨eo71, ?_⟩
  refine List.forall_mem_cons.2 ⟨eo72, ?_⟩
  refine List.forall_mem_cons.2 ⟨eo75, ?_⟩
  refine List.forall_mem_cons.2 ⟨eo76, ?_⟩
  refine List.forall_mem_cons.2 ⟨eo88, ?_⟩
  refine List.forall_mem_cons.2 ⟨eo89, ?_⟩
  refine List.forall_mem_cons.2 ⟨eo96, ?_⟩
  exact fun x hx => by cases hx
theorem tab_lt : tabLt tab = true := by kernel_rfl
end Go.Am
