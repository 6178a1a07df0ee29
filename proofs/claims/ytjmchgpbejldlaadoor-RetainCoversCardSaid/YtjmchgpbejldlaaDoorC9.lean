/- Part C9 of the proof that the last part closes: contracts of functions and plain lemmas. No condition. -/
import Derived.Test.YtjmchgpbejldlaaDoorC8
set_option linter.unusedVariables false
set_option maxRecDepth 100000
namespace Go.Am
open Go.Proofs
def sf0 : Fact := (7, [.agg [.int .i64 (1), .int .i64 (2), .int .i64 (40), .int .i64 (400)], .slc 3 [[.int .i64 (3), .int .i64 (100), .int .i64 (101)]], .int .i64 (3), .int .i64 (50), .int .i64 (1)], .tup [.int .i64 (0), .int .i64 (0)])
theorem sf0_ok : FactOk EE Tryd.prog sf0 := Fact.of hookA_ok [] (by kernel_rfl)
def sf1 : Fact := (7, [.agg [.int .i64 (1), .int .i64 (2), .int .i64 (40), .int .i64 (400)], .slc 3 [[.int .i64 (3), .int .i64 (100), .int .i64 (101)]], .int .i64 (3), .int .i64 (50), .int .i64 (2)], .tup [.int .i64 (1), .int .i64 (0)])
theorem sf1_ok : FactOk EE Tryd.prog sf1 := Fact.of hookA_ok [] (by kernel_rfl)
def sf2 : Fact := (7, [.agg [.int .i64 (1), .int .i64 (2), .int .i64 (40), .int .i64 (400)], .slc 3 [[.int .i64 (3), .int .i64 (100), .int .i64 (101)]], .int .i64 (3), .int .i64 (50), .int .i64 (3)], .tup [.int .i64 (2), .int .i64 (0)])
theorem sf2_ok : FactOk EE Tryd.prog sf2 := Fact.of hookA_ok [] (by kernel_rfl)
def sf3 : Fact := (7, [.agg [.int .i64 (1), .int .i64 (2), .int .i64 (40), .int .i64 (400)], .slc 3 [[.int .i64 (3), .int .i64 (100), .int .i64 (101)]], .int .i64 (3), .int .i64 (50), .int .i64 (40)], .tup [.int .i64 (2), .int .i64 (0)])
theorem sf3_ok : FactOk EE Tryd.prog sf3 := Fact.of hookA_ok [] (by kernel_rfl)
def sf4 : Fact := (7, [.agg [.int .i64 (1), .int .i64 (2), .int .i64 (40), .int .i64 (400)], .slc 3 [[.int .i64 (3), .int .i64 (100), .int .i64 (101)]], .int .i64 (3), .int .i64 (50), .int .i64 (73)], .tup [.int .i64 (2), .int .i64 (0)])
theorem sf4_ok : FactOk EE Tryd.prog sf4 := Fact.of hookA_ok [] (by kernel_rfl)
def sf5 : Fact := (7, [.agg [.int .i64 (1), .int .i64 (2), .int .i64 (40), .int .i64 (400)], .slc 3 [[.int .i64 (3), .int .i64 (100), .int .i64 (101)]], .int .i64 (3), .int .i64 (50), .int .i64 (800)], .tup [.int .i64 (2), .int .i64 (0)])
theorem sf5_ok : FactOk EE Tryd.prog sf5 := Fact.of hookA_ok [] (by kernel_rfl)
def sf6 : Fact := (7, [.agg [.int .i64 (1), .int .i64 (2), .int .i64 (40), .int .i64 (400)], .slc 3 [[.int .i64 (3), .int .i64 (100), .int .i64 (101)]], .int .i64 (4), .int .i64 (50), .int .i64 (70)], .tup [.int .i64 (2), .int .i64 (0)])
theorem sf6_ok : FactOk EE Tryd.prog sf6 := Fact.of hookA_ok [] (by kernel_rfl)
def sf7 : Fact := (7, [.agg [.int .i64 (1), .int .i64 (2), .int .i64 (40), .int .i64 (400)], .slc 3 [[.int .i64 (3), .int .i64 (100), .int .i64 (101)]], .int .i64 (4), .int .i64 (50), .int .i64 (71)], .tup [.int .i64 (3), .int .i64 (0)])
theorem sf7_ok : FactOk EE Tryd.prog sf7 := Fact.of hookA_ok [] (by kernel_rfl)
def sf8 : Fact := (7, [.agg [.int .i64 (1), .int .i64 (2), .int .i64 (40), .int .i64 (400)], .slc 3 [[.int .i64 (3), .int .i64 (100), .int .i64 (101)]], .int .i64 (4), .int .i64 (50), .int .i64 (765)], .tup [.int .i64 (3), .int .i64 (0)])
theorem sf8_ok : FactOk EE Tryd.prog sf8 := Fact.of hookA_ok [] (by kernel_rfl)
def sf9 : Fact := (7, [.agg [.int .i64 (1), .int .i64 (2), .int .i64 (40), .int .i64 (400)], .slc 3 [[.int .i64 (3), .int .i64 (100), .int .i64 (101)]], .int .i64 (4), .int .i64 (50), .int .i64 (766)], .tup [.int .i64 (4), .int .i64 (0)])
theorem sf9_ok : FactOk EE Tryd.prog sf9 := Fact.of hookA_ok [] (by kernel_rfl)
def sf10 : Fact := (7, [.agg [.int .i64 (1), .int .i64 (2), .int .i64 (40), .int .i64 (400)], .slc 3 [[.int .i64 (3), .int .i64 (100), .int .i64 (101)]], .int .i64 (3), .int .i64 (100), .int .i64 (4)], .tup [.int .i64 (0), .int .i64 (0)])
theorem sf10_ok : FactOk EE Tryd.prog sf10 := Fact.of hookA_ok [] (by kernel_rfl)
def sf11 : Fact := (7, [.agg [.int .i64 (1), .int .i64 (2), .int .i64 (40), .int .i64 (400)], .slc 3 [[.int .i64 (3), .int .i64 (100), .int .i64 (101)]], .int .i64 (3), .int .i64 (104), .int .i64 (4)], .tup [.int .i64 (1), .int .i64 (0)])
theorem sf11_ok : FactOk EE Tryd.prog sf11 := Fact.of hookA_ok [] (by kernel_rfl)
def sf12 : Fact := (8, [.agg [.int .i64 (1), .int .i64 (2), .int .i64 (40), .int .i64 (400)], .slc 3 [[.int .i64 (3), .int .i64 (100), .int .i64 (101)]], .int .i64 (4), .agg [.int .i64 (90), .int .i64 (200)], .int .i64 (3)], .tup [.slc 3 [[.int .i64 (2), .int .i64 (0), .int .i64 (96)], [.int .i64 (1), .int .i64 (96), .int .i64 (100)], [.int .i64 (1), .int .i64 (100), .int .i64 (104)], [.int .i64 (1), .int .i64 (104), .int .i64 (108)], [.int .i64 (1), .int .i64 (108), .int .i64 (112)], [.int .i64 (1), .int .i64 (112), .int .i64 (116)], [.int .i64 (1), .int .i64 (116), .int .i64 (120)], [.int .i64 (1), .int .i64 (120), .int .i64 (124)], [.int .i64 (1), .int .i64 (124), .int .i64 (128)], [.int .i64 (1), .int .i64 (128), .int .i64 (132)], [.int .i64 (1), .int .i64 (132), .int .i64 (136)], [.int .i64 (1), .int .i64 (136), .int .i64 (140)], [.int .i64 (1), .int .i64 (140), .int .i64 (144)], [.int .i64 (1), .int .i64 (144), .int .i64 (148)], [.int .i64 (1), .int .i64 (148), .int .i64 (152)], [.int .i64 (1), .int .i64 (152), .int .i64 (156)], [.int .i64 (1), .int .i64 (156), .int .i64 (160)], [.int .i64 (1), .int .i64 (160), .int .i64 (164)], [.int .i64 (1), .int .i64 (164), .int .i64 (168)], [.int .i64 (1), .int .i64 (168), .int .i64 (172)], [.int .i64 (1), .int .i64 (172), .int .i64 (176)], [.int .i64 (1), .int .i64 (176), .int .i64 (180)], [.int .i64 (1), .int .i64 (180), .int .i64 (184)], [.int .i64 (1), .int .i64 (184), .int .i64 (188)], [.int .i64 (1), .int .i64 (188), .int .i64 (192)], [.int .i64 (0), .int .i64 (192), .int .i64 (200)]], .int .i64 (0)])
theorem sf12_ok : FactOk EE Tryd.prog sf12 := Fact.of hookA_ok [] (by kernel_rfl)
def sf13 : Fact := (9, [.agg [.int .i64 (1), .int .i64 (2), .int .i64 (40), .int .i64 (400)], .slc 3 [[.int .i64 (3), .int .i64 (100), .int .i64 (101)]], .int .i64 (4), .agg [.int .i64 (0), .int .i64 (300)], .int .i64 (2), .int .i64 (3)], .tup [.slc 3 [[.int .i64 (2), .int .i64 (0), .int .i64 (96)], [.int .i64 (1), .int .i64 (96), .int .i64 (100)], [.int .i64 (1), .int .i64 (100), .int .i64 (104)], [.int .i64 (1), .int .i64 (104), .int .i64 (108)], [.int .i64 (1), .int .i64 (108), .int .i64 (112)], [.int .i64 (1), .int .i64 (112), .int .i64 (116)], [.int .i64 (1), .int .i64 (116), .int .i64 (120)], [.int .i64 (1), .int .i64 (120), .int .i64 (124)], [.int .i64 (1), .int .i64 (124), .int .i64 (128)], [.int .i64 (1), .int .i64 (128), .int .i64 (132)], [.int .i64 (1), .int .i64 (132), .int .i64 (136)], [.int .i64 (1), .int .i64 (136), .int .i64 (140)], [.int .i64 (1), .int .i64 (140), .int .i64 (144)], [.int .i64 (1), .int .i64 (144), .int .i64 (148)], [.int .i64 (1), .int .i64 (148), .int .i64 (152)], [.int .i64 (1), .int .i64 (152), .int .i64 (156)], [.int .i64 (1), .int .i64 (156), .int .i64 (160)], [.int .i64 (1), .int .i64 (160), .int .i64 (164)], [.int .i64 (1), .int .i64 (164), .int .i64 (168)], [.int .i64 (1), .int .i64 (168), .int .i64 (172)], [.int .i64 (1), .int .i64 (172), .int .i64 (176)], [.int .i64 (1), .int .i64 (176), .int .i64 (180)], [.int .i64 (1), .int .i64 (180), .int .i64 (184)], [.int .i64 (1), .int .i64 (184), .int .i64 (188)], [.int .i64 (1), .int .i64 (188), .int .i64 (192)]], .int .i64 (0)])
theorem sf13_ok : FactOk EE Tryd.prog sf13 := Fact.of hookA_ok [] (by kernel_rfl)
def sf14 : Fact := (16, [.agg [.int .i64 (0), .slc 1 [[.int .i64 (1)], [.int .i64 (2)], [.int .i64 (1)], [.int .i64 (3)], [.int .i64 (4)], [.int .i64 (4)]]]], .tup [.slc 5 [[.int .i64 (0), .int .i64 (1), .slc 2 [[.int .i64 (1), .int .i64 (1)]], .int .i64 (0), .int .i64 (0)], [.int .i64 (1), .int .i64 (2), .slc 2 [[.int .i64 (2), .int .i64 (1)]], .int .i64 (0), .int .i64 (0)], [.int .i64 (2), .int .i64 (3), .slc 2 [[.int .i64 (1), .int .i64 (1)]], .int .i64 (0), .int .i64 (0)], [.int .i64 (3), .int .i64 (4), .slc 2 [[.int .i64 (3), .int .i64 (1)]], .int .i64 (0), .int .i64 (0)], [.int .i64 (4), .int .i64 (6), .slc 2 [[.int .i64 (4), .int .i64 (2)]], .int .i64 (0), .int .i64 (0)]], .int .i64 (0)])
theorem sf14_ok : FactOk EE Tryd.prog sf14 := Fact.of hookA_ok [] (by kernel_rfl)
def sf15 : Fact := (17, [.slc 5 [[.int .i64 (0), .int .i64 (1), .slc 2 [[.int .i64 (1), .int .i64 (1)]], .int .i64 (0), .int .i64 (0)], [.int .i64 (1), .int .i64 (2), .slc 2 [[.int .i64 (2), .int .i64 (1)]], .int .i64 (0), .int .i64 (0)], [.int .i64 (2), .int .i64 (3), .slc 2 [[.int .i64 (1), .int .i64 (1)]], .int .i64 (0), .int .i64 (0)], [.int .i64 (3), .int .i64 (4), .slc 2 [[.int .i64 (3), .int .i64 (1)]], .int .i64 (0), .int .i64 (0)], [.int .i64 (4), .int .i64 (6), .slc 2 [[.int .i64 (4), .int .i64 (2)]], .int .i64 (0), .int .i64 (0)]], .slc 3 [[.int .i64 (1), .int .i64 (0), .int .i64 (4)]]], .tup [.slc 5 [[.int .i64 (0), .int .i64 (1), .slc 2 [[.int .i64 (1), .int .i64 (1)]], .int .i64 (0), .int .i64 (0)], [.int .i64 (1), .int .i64 (3), .slc 2 [[.int .i64 (1), .int .i64 (1)], [.int .i64 (2), .int .i64 (1)]], .int .i64 (0), .int .i64 (0)], [.int .i64 (3), .int .i64 (4), .slc 2 [[.int .i64 (3), .int .i64 (1)]], .int .i64 (0), .int .i64 (0)], [.int .i64 (4), .int .i64 (6), .slc 2 [[.int .i64 (4), .int .i64 (2)]], .int .i64 (0), .int .i64 (0)]], .int .i64 (0)])
theorem sf15_ok : FactOk EE Tryd.prog sf15 := Fact.of hookA_ok [] (by kernel_rfl)
def sf16 : Fact := (18, [.slc 5 [[.int .i64 (0), .int .i64 (1), .slc 2 [[.int .i64 (1), .int .i64 (1)]], .int .i64 (0), .int .i64 (0)], [.int .i64 (1), .int .i64 (2), .slc 2 [[.int .i64 (2), .int .i64 (1)]], .int .i64 (0), .int .i64 (0)], [.int .i64 (2), .int .i64 (3), .slc 2 [[.int .i64 (1), .int .i64 (1)]], .int .i64 (0), .int .i64 (0)], [.int .i64 (3), .int .i64 (4), .slc 2 [[.int .i64 (3), .int .i64 (1)]], .int .i64 (0), .int .i64 (0)]]], .tup [.slc 5 [[.int .i64 (0), .int .i64 (1), .slc 2 [[.int .i64 (1), .int .i64 (1)]], .int .i64 (0), .int .i64 (0)], [.int .i64 (1), .int .i64 (3), .slc 2 [[.int .i64 (1), .int .i64 (1)], [.int .i64 (2), .int .i64 (1)]], .int .i64 (0), .int .i64 (0)], [.int .i64 (3), .int .i64 (4), .slc 2 [[.int .i64 (3), .int .i64 (1)]], .int .i64 (0), .int .i64 (0)]], .int .i64 (0)])
theorem sf16_ok : FactOk EE Tryd.prog sf16 := Fact.of hookA_ok [] (by kernel_rfl)
def sf17 : Fact := (19, [.slc 5 [[.int .i64 (0), .int .i64 (1), .slc 2 [[.int .i64 (1), .int .i64 (1)]], .int .i64 (0), .int .i64 (0)], [.int .i64 (1), .int .i64 (3), .slc 2 [[.int .i64 (1), .int .i64 (1)], [.int .i64 (2), .int .i64 (1)]], .int .i64 (0), .int .i64 (0)], [.int .i64 (3), .int .i64 (4), .slc 2 [[.int .i64 (3), .int .i64 (1)]], .int .i64 (0), .int .i64 (0)]], .slc 5 [[.int .i64 (4), .int .i64 (6), .slc 2 [[.int .i64 (4), .int .i64 (2)]], .int .i64 (0), .int .i64 (0)]]], .tup [.slc 5 [[.int .i64 (0), .int .i64 (1), .slc 2 [[.int .i64 (1), .int .i64 (1)]], .int .i64 (0), .int .i64 (0)], [.int .i64 (1), .int .i64 (3), .slc 2 [[.int .i64 (1), .int .i64 (1)], [.int .i64 (2), .int .i64 (1)]], .int .i64 (0), .int .i64 (0)], [.int .i64 (3), .int .i64 (4), .slc 2 [[.int .i64 (3), .int .i64 (1)]], .int .i64 (0), .int .i64 (0)], [.int .i64 (4), .int .i64 (6), .slc 2 [[.int .i64 (4), .int .i64 (2)]], .int .i64 (0), .int .i64 (0)]], .int .i64 (0)])
theorem sf17_ok : FactOk EE Tryd.prog sf17 := Fact.of hookA_ok [] (by kernel_rfl)
def sf18 : Fact := (20, [.slc 5 [[.int .i64 (0), .int .i64 (1), .slc 2 [[.int .i64 (1), .int .i64 (1)]], .int .i64 (0), .int .i64 (0)], [.int .i64 (1), .int .i64 (3), .slc 2 [[.int .i64 (1), .int .i64 (1)], [.int .i64 (2), .int .i64 (1)]], .int .i64 (0), .int .i64 (0)], [.int .i64 (3), .int .i64 (4), .slc 2 [[.int .i64 (3), .int .i64 (1)]], .int .i64 (0), .int .i64 (0)], [.int .i64 (4), .int .i64 (6), .slc 2 [[.int .i64 (4), .int .i64 (2)]], .int .i64 (0), .int .i64 (0)]], .slc 5 [[.int .i64 (0), .int .i64 (1), .slc 2 [[.int .i64 (1), .int .i64 (1)]], .int .i64 (0), .int .i64 (0)], [.int .i64 (1), .int .i64 (3), .slc 2 [[.int .i64 (1), .int .i64 (1)], [.int .i64 (2), .int .i64 (1)]], .int .i64 (0), .int .i64 (0)], [.int .i64 (3), .int .i64 (4), .slc 2 [[.int .i64 (3), .int .i64 (1)]], .int .i64 (0), .int .i64 (0)], [.int .i64 (4), .int .i64 (6), .slc 2 [[.int .i64 (4), .int .i64 (2)]], .int .i64 (0), .int .i64 (0)]]], .bool true)
theorem sf18_ok : FactOk EE Tryd.prog sf18 := Fact.of hookA_ok [] (by kernel_rfl)
def sf19 : Fact := (13, [.agg [.int .i64 (1), .int .i64 (2), .int .i64 (40), .int .i64 (400)], .slc 3 [[.int .i64 (3), .int .i64 (100), .int .i64 (101)]]], .int .i64 (0))
theorem sf19_ok : FactOk EE Tryd.prog sf19 := Fact.of hookA_ok [] (by kernel_rfl)
def sfs : List Fact := [sf0, sf1, sf2, sf3, sf4, sf5, sf6, sf7, sf8, sf9, sf10, sf11, sf12, sf13, sf14, sf15, sf16, sf17, sf18, sf19]
theorem sfs_ok : ∀ x ∈ sfs, FactOk EE Tryd.prog x := by
  unfold sfs
  refine List.forall_mem_cons.2 ⟨sf0_ok, ?_⟩
  refine List.forall_mem_cons.2 ⟨sf1_ok, ?_⟩
  refine List.forall_mem_cons.2 ⟨sf2_ok, ?_⟩
  refine List.forall_mem_cons.2 ⟨sf3_ok, ?_⟩
  refine List.forall_mem_cons.2 ⟨sf4_ok, ?_⟩
  refine List.forall_mem_cons.2 ⟨sf5_ok, ?_⟩
  refine List.forall_mem_cons.2 ⟨sf6_ok, ?_⟩
  refine List.forall_mem_cons.2 ⟨sf7_ok, ?_⟩
  refine List.forall_mem_cons.2 ⟨sf8_ok, ?_⟩
  refine List.forall_mem_cons.2 ⟨sf9_ok, ?_⟩
  refine List.forall_mem_cons.2 ⟨sf10_ok, ?_⟩
  refine List.forall_mem_cons.2 ⟨sf11_ok, ?_⟩
  refine List.forall_mem_cons.2 ⟨sf12_ok, ?_⟩
  refine List.forall_mem_cons.2 ⟨sf13_ok, ?_⟩
  refine List.forall_mem_cons.2 ⟨sf14_ok, ?_⟩
  refine List.forall_mem_cons.2 ⟨sf15_ok, ?_⟩
  refine List.forall_mem_cons.2 ⟨sf16_ok, ?_⟩
  refine List.forall_mem_cons.2 ⟨sf17_ok, ?_⟩
  refine List.forall_mem_cons.2 ⟨sf18_ok, ?_⟩
  refine List.forall_mem_cons.2 ⟨sf19_ok, ?_⟩
  exact fun x hx => by cases hx
theorem sanity_ok : FactOk EE Tryd.prog (6, [], .bool true) := Fact.of (factHook_ok sfs_ok) [7, 8, 9, 16, 17, 18, 19, 20, 13] (by kernel_rfl)
theorem sanity_st : Still EE Tryd.prog 6 [] (.bool true) := by
  obtain ⟨args, r, h1, h2, h3⟩ := sanity_ok
  have : args = [] := by have := h1.1; exact List.length_eq_zero_iff.1 this.symm
  subst this
  cases h2
  exact h3
end Go.Am
