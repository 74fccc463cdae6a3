/- The functions' code is what the program says: each function's code compiles to it. No condition. -/
import Derived.Test.YtgecccghlgpmjaaGreatCf2
import Derived.Test.YtgecccghlgpmjaaGreatAi6
import Derived.KernelRfl
import Derived.Test.YtgecccghlgpmjaaGreatProg
namespace Go.AI.Tryz
open Go.Proofs
theorem ok5 : cFunc Tryz.prog ⟨true, false, false, false, [], 6, 0⟩ Tryz.f5 = some cf5 := by kernel_rfl
theorem g5 : Good Tryz.prog 5 (some cf5) := fun _ h => by cases h; exact ⟨_, _, Tryz.func5, ok5, by kernel_rfl⟩
theorem ok12 : cFunc Tryz.prog ⟨true, false, false, false, [], 4, 0⟩ Tryz.f12 = some cf12 := by kernel_rfl
theorem g12 : Good Tryz.prog 12 (some cf12) := fun _ h => by cases h; exact ⟨_, _, Tryz.func12, ok12, by kernel_rfl⟩
theorem ok35 : cFunc Tryz.prog ⟨true, false, false, false, [9, 13], 7, 2⟩ Tryz.f35 = some cf35 := by kernel_rfl
theorem g35 : Good Tryz.prog 35 (some cf35) := fun _ h => by cases h; exact ⟨_, _, Tryz.func35, ok35, by kernel_rfl⟩
theorem ok37 : cFunc Tryz.prog ⟨true, false, false, false, [0], 4, 1⟩ Tryz.f37 = some cf37 := by kernel_rfl
theorem g37 : Good Tryz.prog 37 (some cf37) := fun _ h => by cases h; exact ⟨_, _, Tryz.func37, ok37, by kernel_rfl⟩
theorem ok36 : cFunc Tryz.prog ⟨false, false, false, false, [2, 4, 8], 6, 2⟩ Tryz.f36 = some cf36 := by kernel_rfl
theorem g36 : Good Tryz.prog 36 (some cf36) := fun _ h => by cases h; exact ⟨_, _, Tryz.func36, ok36, by kernel_rfl⟩
theorem ok62 : cFunc Tryz.prog ⟨true, false, false, false, [1], 6, 1⟩ Tryz.f62 = some cf62 := by kernel_rfl
theorem g62 : Good Tryz.prog 62 (some cf62) := fun _ h => by cases h; exact ⟨_, _, Tryz.func62, ok62, by kernel_rfl⟩
theorem ok111 : cFunc Tryz.prog ⟨true, false, false, false, [1], 6, 1⟩ Tryz.f111 = some cf111 := by kernel_rfl
theorem g111 : Good Tryz.prog 111 (some cf111) := fun _ h => by cases h; exact ⟨_, _, Tryz.func111, ok111, by kernel_rfl⟩
theorem ok112 : cFunc Tryz.prog ⟨true, false, false, false, [1], 3, 1⟩ Tryz.f112 = some cf112 := by kernel_rfl
theorem g112 : Good Tryz.prog 112 (some cf112) := fun _ h => by cases h; exact ⟨_, _, Tryz.func112, ok112, by kernel_rfl⟩
theorem ok167 : cFunc Tryz.prog ⟨true, false, false, false, [], 4, 0⟩ Tryz.f167 = some cf167 := by kernel_rfl
theorem g167 : Good Tryz.prog 167 (some cf167) := fun _ h => by cases h; exact ⟨_, _, Tryz.func167, ok167, by kernel_rfl⟩
theorem ok63 : cFunc Tryz.prog ⟨false, false, false, false, [2, 3], 6, 2⟩ Tryz.f63 = some cf63 := by kernel_rfl
theorem g63 : Good Tryz.prog 63 (some cf63) := fun _ h => by cases h; exact ⟨_, _, Tryz.func63, ok63, by kernel_rfl⟩
theorem ok113 : cFunc Tryz.prog ⟨false, false, true, false, [2], 7, 1⟩ Tryz.f113 = some cf113 := by kernel_rfl
theorem g113 : Good Tryz.prog 113 (some cf113) := fun _ h => by cases h; exact ⟨_, _, Tryz.func113, ok113, by kernel_rfl⟩
theorem ok114 : cFunc Tryz.prog ⟨false, false, false, false, [], 6, 0⟩ Tryz.f114 = some cf114 := by kernel_rfl
theorem g114 : Good Tryz.prog 114 (some cf114) := fun _ h => by cases h; exact ⟨_, _, Tryz.func114, ok114, by kernel_rfl⟩
theorem ok168 : cFunc Tryz.prog ⟨false, false, false, false, [], 7, 0⟩ Tryz.f168 = some cf168 := by kernel_rfl
theorem g168 : Good Tryz.prog 168 (some cf168) := fun _ h => by cases h; exact ⟨_, _, Tryz.func168, ok168, by kernel_rfl⟩
theorem ok169 : cFunc Tryz.prog ⟨false, false, false, false, [], 4, 0⟩ Tryz.f169 = some cf169 := by kernel_rfl
theorem g169 : Good Tryz.prog 169 (some cf169) := fun _ h => by cases h; exact ⟨_, _, Tryz.func169, ok169, by kernel_rfl⟩
theorem ok46 : cFunc Tryz.prog ⟨false, false, false, false, [2, 3], 5, 2⟩ Tryz.f46 = some cf46 := by kernel_rfl
theorem g46 : Good Tryz.prog 46 (some cf46) := fun _ h => by cases h; exact ⟨_, _, Tryz.func46, ok46, by kernel_rfl⟩
theorem ok32 : cFunc Tryz.prog ⟨false, false, false, false, [1], 5, 1⟩ Tryz.f32 = some cf32 := by kernel_rfl
theorem g32 : Good Tryz.prog 32 (some cf32) := fun _ h => by cases h; exact ⟨_, _, Tryz.func32, ok32, by kernel_rfl⟩
theorem ok69 : cFunc Tryz.prog ⟨true, false, false, false, [1], 5, 1⟩ Tryz.f69 = some cf69 := by kernel_rfl
theorem g69 : Good Tryz.prog 69 (some cf69) := fun _ h => by cases h; exact ⟨_, _, Tryz.func69, ok69, by kernel_rfl⟩
theorem ok68 : cFunc Tryz.prog ⟨false, false, false, false, [4, 5], 7, 2⟩ Tryz.f68 = some cf68 := by kernel_rfl
theorem g68 : Good Tryz.prog 68 (some cf68) := fun _ h => by cases h; exact ⟨_, _, Tryz.func68, ok68, by kernel_rfl⟩
theorem ok116 : cFunc Tryz.prog ⟨false, false, false, false, [3], 8, 1⟩ Tryz.f116 = some cf116 := by kernel_rfl
theorem g116 : Good Tryz.prog 116 (some cf116) := fun _ h => by cases h; exact ⟨_, _, Tryz.func116, ok116, by kernel_rfl⟩
theorem ok117 : cFunc Tryz.prog ⟨false, false, false, false, [1], 6, 1⟩ Tryz.f117 = some cf117 := by kernel_rfl
theorem g117 : Good Tryz.prog 117 (some cf117) := fun _ h => by cases h; exact ⟨_, _, Tryz.func117, ok117, by kernel_rfl⟩
theorem ok170 : cFunc Tryz.prog ⟨true, false, false, false, [], 5, 0⟩ Tryz.f170 = some cf170 := by kernel_rfl
theorem g170 : Good Tryz.prog 170 (some cf170) := fun _ h => by cases h; exact ⟨_, _, Tryz.func170, ok170, by kernel_rfl⟩
theorem ok122 : cFunc Tryz.prog ⟨true, false, false, false, [2], 3, 1⟩ Tryz.f122 = some cf122 := by kernel_rfl
theorem g122 : Good Tryz.prog 122 (some cf122) := fun _ h => by cases h; exact ⟨_, _, Tryz.func122, ok122, by kernel_rfl⟩
theorem ok119 : cFunc Tryz.prog ⟨true, false, false, false, [3], 4, 1⟩ Tryz.f119 = some cf119 := by kernel_rfl
theorem g119 : Good Tryz.prog 119 (some cf119) := fun _ h => by cases h; exact ⟨_, _, Tryz.func119, ok119, by kernel_rfl⟩
theorem ok171 : cFunc Tryz.prog ⟨true, false, false, false, [], 4, 0⟩ Tryz.f171 = some cf171 := by kernel_rfl
theorem g171 : Good Tryz.prog 171 (some cf171) := fun _ h => by cases h; exact ⟨_, _, Tryz.func171, ok171, by kernel_rfl⟩
theorem ok172 : cFunc Tryz.prog ⟨false, false, false, false, [3, 7], 7, 2⟩ Tryz.f172 = some cf172 := by kernel_rfl
theorem g172 : Good Tryz.prog 172 (some cf172) := fun _ h => by cases h; exact ⟨_, _, Tryz.func172, ok172, by kernel_rfl⟩
theorem ok118 : cFunc Tryz.prog ⟨true, false, false, false, [7], 6, 1⟩ Tryz.f118 = some cf118 := by kernel_rfl
theorem g118 : Good Tryz.prog 118 (some cf118) := fun _ h => by cases h; exact ⟨_, _, Tryz.func118, ok118, by kernel_rfl⟩
theorem ok173 : cFunc Tryz.prog ⟨false, false, false, false, [3], 7, 1⟩ Tryz.f173 = some cf173 := by kernel_rfl
theorem g173 : Good Tryz.prog 173 (some cf173) := fun _ h => by cases h; exact ⟨_, _, Tryz.func173, ok173, by kernel_rfl⟩
theorem ok120 : cFunc Tryz.prog ⟨true, false, false, false, [2], 3, 1⟩ Tryz.f120 = some cf120 := by kernel_rfl
theorem g120 : Good Tryz.prog 120 (some cf120) := fun _ h => by cases h; exact ⟨_, _, Tryz.func120, ok120, by kernel_rfl⟩
theorem ok61 : cFunc Tryz.prog ⟨false, false, false, false, [1], 6, 1⟩ Tryz.f61 = some cf61 := by kernel_rfl
theorem g61 : Good Tryz.prog 61 (some cf61) := fun _ h => by cases h; exact ⟨_, _, Tryz.func61, ok61, by kernel_rfl⟩
theorem ok110 : cFunc Tryz.prog ⟨false, false, false, false, [1], 7, 1⟩ Tryz.f110 = some cf110 := by kernel_rfl
theorem g110 : Good Tryz.prog 110 (some cf110) := fun _ h => by cases h; exact ⟨_, _, Tryz.func110, ok110, by kernel_rfl⟩
theorem ok166 : cFunc Tryz.prog ⟨true, false, false, false, [], 5, 0⟩ Tryz.f166 = some cf166 := by kernel_rfl
theorem g166 : Good Tryz.prog 166 (some cf166) := fun _ h => by cases h; exact ⟨_, _, Tryz.func166, ok166, by kernel_rfl⟩
theorem ok15 : cFunc Tryz.prog ⟨false, false, false, false, [1, 2, 3], 5, 2⟩ Tryz.f15 = some cf15 := by kernel_rfl
theorem g15 : Good Tryz.prog 15 (some cf15) := fun _ h => by cases h; exact ⟨_, _, Tryz.func15, ok15, by kernel_rfl⟩
theorem ok27 : cFunc Tryz.prog ⟨false, false, false, false, [2, 3, 6, 7], 5, 3⟩ Tryz.f27 = some cf27 := by kernel_rfl
theorem g27 : Good Tryz.prog 27 (some cf27) := fun _ h => by cases h; exact ⟨_, _, Tryz.func27, ok27, by kernel_rfl⟩
theorem ok40 : cFunc Tryz.prog ⟨false, false, false, false, [2, 3, 4], 4, 2⟩ Tryz.f40 = some cf40 := by kernel_rfl
theorem g40 : Good Tryz.prog 40 (some cf40) := fun _ h => by cases h; exact ⟨_, _, Tryz.func40, ok40, by kernel_rfl⟩
theorem ok65 : cFunc Tryz.prog ⟨false, false, false, false, [2, 3, 4, 5, 7], 5, 3⟩ Tryz.f65 = some cf65 := by kernel_rfl
theorem g65 : Good Tryz.prog 65 (some cf65) := fun _ h => by cases h; exact ⟨_, _, Tryz.func65, ok65, by kernel_rfl⟩
theorem ok31 : cFunc Tryz.prog ⟨false, false, false, false, [2, 3, 6, 8], 6, 3⟩ Tryz.f31 = some cf31 := by kernel_rfl
theorem g31 : Good Tryz.prog 31 (some cf31) := fun _ h => by cases h; exact ⟨_, _, Tryz.func31, ok31, by kernel_rfl⟩
theorem ok56 : cFunc Tryz.prog ⟨true, false, false, false, [1], 5, 1⟩ Tryz.f56 = some cf56 := by kernel_rfl
theorem g56 : Good Tryz.prog 56 (some cf56) := fun _ h => by cases h; exact ⟨_, _, Tryz.func56, ok56, by kernel_rfl⟩
theorem ok99 : cFunc Tryz.prog ⟨true, false, false, false, [1], 3, 1⟩ Tryz.f99 = some cf99 := by kernel_rfl
theorem g99 : Good Tryz.prog 99 (some cf99) := fun _ h => by cases h; exact ⟨_, _, Tryz.func99, ok99, by kernel_rfl⟩
theorem ok100 : cFunc Tryz.prog ⟨true, false, false, false, [1], 3, 1⟩ Tryz.f100 = some cf100 := by kernel_rfl
theorem g100 : Good Tryz.prog 100 (some cf100) := fun _ h => by cases h; exact ⟨_, _, Tryz.func100, ok100, by kernel_rfl⟩
theorem ok101 : cFunc Tryz.prog ⟨true, false, false, false, [1], 5, 1⟩ Tryz.f101 = some cf101 := by kernel_rfl
theorem g101 : Good Tryz.prog 101 (some cf101) := fun _ h => by cases h; exact ⟨_, _, Tryz.func101, ok101, by kernel_rfl⟩
theorem ok160 : cFunc Tryz.prog ⟨true, false, false, false, [1], 3, 1⟩ Tryz.f160 = some cf160 := by kernel_rfl
theorem g160 : Good Tryz.prog 160 (some cf160) := fun _ h => by cases h; exact ⟨_, _, Tryz.func160, ok160, by kernel_rfl⟩
theorem ok103 : cFunc Tryz.prog ⟨true, false, false, false, [1], 4, 1⟩ Tryz.f103 = some cf103 := by kernel_rfl
theorem g103 : Good Tryz.prog 103 (some cf103) := fun _ h => by cases h; exact ⟨_, _, Tryz.func103, ok103, by kernel_rfl⟩
theorem ok161 : cFunc Tryz.prog ⟨false, false, false, false, [], 4, 0⟩ Tryz.f161 = some cf161 := by kernel_rfl
theorem g161 : Good Tryz.prog 161 (some cf161) := fun _ h => by cases h; exact ⟨_, _, Tryz.func161, ok161, by kernel_rfl⟩
theorem ok192 : cFunc Tryz.prog ⟨false, false, false, false, [], 5, 0⟩ Tryz.f192 = some cf192 := by kernel_rfl
theorem g192 : Good Tryz.prog 192 (some cf192) := fun _ h => by cases h; exact ⟨_, _, Tryz.func192, ok192, by kernel_rfl⟩
theorem ok102 : cFunc Tryz.prog ⟨false, false, false, false, [], 4, 0⟩ Tryz.f102 = some cf102 := by kernel_rfl
theorem g102 : Good Tryz.prog 102 (some cf102) := fun _ h => by cases h; exact ⟨_, _, Tryz.func102, ok102, by kernel_rfl⟩
theorem ok162 : cFunc Tryz.prog ⟨false, false, false, false, [], 5, 0⟩ Tryz.f162 = some cf162 := by kernel_rfl
theorem g162 : Good Tryz.prog 162 (some cf162) := fun _ h => by cases h; exact ⟨_, _, Tryz.func162, ok162, by kernel_rfl⟩
theorem ok57 : cFunc Tryz.prog ⟨false, false, false, false, [1, 5], 5, 2⟩ Tryz.f57 = some cf57 := by kernel_rfl
theorem g57 : Good Tryz.prog 57 (some cf57) := fun _ h => by cases h; exact ⟨_, _, Tryz.func57, ok57, by kernel_rfl⟩
theorem ok58 : cFunc Tryz.prog ⟨false, false, false, false, [], 5, 0⟩ Tryz.f58 = some cf58 := by kernel_rfl
theorem g58 : Good Tryz.prog 58 (some cf58) := fun _ h => by cases h; exact ⟨_, _, Tryz.func58, ok58, by kernel_rfl⟩
theorem ok59 : cFunc Tryz.prog ⟨false, false, false, false, [3, 4, 5], 6, 2⟩ Tryz.f59 = some cf59 := by kernel_rfl
theorem g59 : Good Tryz.prog 59 (some cf59) := fun _ h => by cases h; exact ⟨_, _, Tryz.func59, ok59, by kernel_rfl⟩
theorem ok104 : cFunc Tryz.prog ⟨false, false, false, false, [3, 4], 5, 2⟩ Tryz.f104 = some cf104 := by kernel_rfl
theorem g104 : Good Tryz.prog 104 (some cf104) := fun _ h => by cases h; exact ⟨_, _, Tryz.func104, ok104, by kernel_rfl⟩
theorem ok163 : cFunc Tryz.prog ⟨false, false, false, false, [2, 3, 6, 10], 8, 3⟩ Tryz.f163 = some cf163 := by kernel_rfl
theorem g163 : Good Tryz.prog 163 (some cf163) := fun _ h => by cases h; exact ⟨_, _, Tryz.func163, ok163, by kernel_rfl⟩
theorem ok105 : cFunc Tryz.prog ⟨false, false, false, false, [2, 3, 5], 6, 2⟩ Tryz.f105 = some cf105 := by kernel_rfl
theorem g105 : Good Tryz.prog 105 (some cf105) := fun _ h => by cases h; exact ⟨_, _, Tryz.func105, ok105, by kernel_rfl⟩
theorem ok193 : cFunc Tryz.prog ⟨true, false, false, false, [], 4, 0⟩ Tryz.f193 = some cf193 := by kernel_rfl
theorem g193 : Good Tryz.prog 193 (some cf193) := fun _ h => by cases h; exact ⟨_, _, Tryz.func193, ok193, by kernel_rfl⟩
theorem ok194 : cFunc Tryz.prog ⟨true, false, false, false, [], 4, 0⟩ Tryz.f194 = some cf194 := by kernel_rfl
theorem g194 : Good Tryz.prog 194 (some cf194) := fun _ h => by cases h; exact ⟨_, _, Tryz.func194, ok194, by kernel_rfl⟩
theorem ok164 : cFunc Tryz.prog ⟨false, false, false, false, [2, 4], 5, 2⟩ Tryz.f164 = some cf164 := by kernel_rfl
theorem g164 : Good Tryz.prog 164 (some cf164) := fun _ h => by cases h; exact ⟨_, _, Tryz.func164, ok164, by kernel_rfl⟩
theorem ok195 : cFunc Tryz.prog ⟨false, false, false, false, [3], 4, 1⟩ Tryz.f195 = some cf195 := by kernel_rfl
theorem g195 : Good Tryz.prog 195 (some cf195) := fun _ h => by cases h; exact ⟨_, _, Tryz.func195, ok195, by kernel_rfl⟩
theorem ok205 : cFunc Tryz.prog ⟨false, false, false, false, [8, 9], 6, 2⟩ Tryz.f205 = some cf205 := by kernel_rfl
theorem g205 : Good Tryz.prog 205 (some cf205) := fun _ h => by cases h; exact ⟨_, _, Tryz.func205, ok205, by kernel_rfl⟩
theorem ok106 : cFunc Tryz.prog ⟨false, false, false, false, [2, 6], 5, 2⟩ Tryz.f106 = some cf106 := by kernel_rfl
theorem g106 : Good Tryz.prog 106 (some cf106) := fun _ h => by cases h; exact ⟨_, _, Tryz.func106, ok106, by kernel_rfl⟩
theorem ok196 : cFunc Tryz.prog ⟨false, false, false, false, [2, 3], 7, 2⟩ Tryz.f196 = some cf196 := by kernel_rfl
theorem g196 : Good Tryz.prog 196 (some cf196) := fun _ h => by cases h; exact ⟨_, _, Tryz.func196, ok196, by kernel_rfl⟩
theorem ok197 : cFunc Tryz.prog ⟨false, false, false, false, [2, 3, 16], 8, 2⟩ Tryz.f197 = some cf197 := by kernel_rfl
theorem g197 : Good Tryz.prog 197 (some cf197) := fun _ h => by cases h; exact ⟨_, _, Tryz.func197, ok197, by kernel_rfl⟩
theorem ok206 : cFunc Tryz.prog ⟨false, false, false, false, [4, 5, 6, 7], 5, 3⟩ Tryz.f206 = some cf206 := by kernel_rfl
theorem g206 : Good Tryz.prog 206 (some cf206) := fun _ h => by cases h; exact ⟨_, _, Tryz.func206, ok206, by kernel_rfl⟩
theorem ok107 : cFunc Tryz.prog ⟨false, false, false, false, [2, 3, 4], 4, 2⟩ Tryz.f107 = some cf107 := by kernel_rfl
theorem g107 : Good Tryz.prog 107 (some cf107) := fun _ h => by cases h; exact ⟨_, _, Tryz.func107, ok107, by kernel_rfl⟩
theorem ok165 : cFunc Tryz.prog ⟨false, false, true, true, [], 4, 0⟩ Tryz.f165 = some cf165 := by kernel_rfl
theorem g165 : Good Tryz.prog 165 (some cf165) := fun _ h => by cases h; exact ⟨_, _, Tryz.func165, ok165, by kernel_rfl⟩
theorem ok54 : cFunc Tryz.prog ⟨false, false, false, false, [], 3, 0⟩ Tryz.f54 = some cf54 := by kernel_rfl
theorem g54 : Good Tryz.prog 54 (some cf54) := fun _ h => by cases h; exact ⟨_, _, Tryz.func54, ok54, by kernel_rfl⟩
theorem ok94 : cFunc Tryz.prog ⟨false, false, false, false, [], 4, 0⟩ Tryz.f94 = some cf94 := by kernel_rfl
theorem g94 : Good Tryz.prog 94 (some cf94) := fun _ h => by cases h; exact ⟨_, _, Tryz.func94, ok94, by kernel_rfl⟩
theorem ok50 : cFunc Tryz.prog ⟨false, false, false, false, [], 5, 0⟩ Tryz.f50 = some cf50 := by kernel_rfl
theorem g50 : Good Tryz.prog 50 (some cf50) := fun _ h => by cases h; exact ⟨_, _, Tryz.func50, ok50, by kernel_rfl⟩
theorem ok72 : cFunc Tryz.prog ⟨false, false, false, false, [2], 5, 1⟩ Tryz.f72 = some cf72 := by kernel_rfl
theorem g72 : Good Tryz.prog 72 (some cf72) := fun _ h => by cases h; exact ⟨_, _, Tryz.func72, ok72, by kernel_rfl⟩
theorem ok124 : cFunc Tryz.prog ⟨false, false, false, false, [2], 4, 1⟩ Tryz.f124 = some cf124 := by kernel_rfl
theorem g124 : Good Tryz.prog 124 (some cf124) := fun _ h => by cases h; exact ⟨_, _, Tryz.func124, ok124, by kernel_rfl⟩
theorem ok125 : cFunc Tryz.prog ⟨false, false, false, false, [1], 3, 1⟩ Tryz.f125 = some cf125 := by kernel_rfl
theorem g125 : Good Tryz.prog 125 (some cf125) := fun _ h => by cases h; exact ⟨_, _, Tryz.func125, ok125, by kernel_rfl⟩
theorem ok127 : cFunc Tryz.prog ⟨false, false, false, false, [1], 5, 1⟩ Tryz.f127 = some cf127 := by kernel_rfl
theorem g127 : Good Tryz.prog 127 (some cf127) := fun _ h => by cases h; exact ⟨_, _, Tryz.func127, ok127, by kernel_rfl⟩
theorem ok129 : cFunc Tryz.prog ⟨true, false, false, false, [], 6, 0⟩ Tryz.f129 = some cf129 := by kernel_rfl
theorem g129 : Good Tryz.prog 129 (some cf129) := fun _ h => by cases h; exact ⟨_, _, Tryz.func129, ok129, by kernel_rfl⟩
theorem ok138 : cFunc Tryz.prog ⟨true, false, false, false, [], 3, 0⟩ Tryz.f138 = some cf138 := by kernel_rfl
theorem g138 : Good Tryz.prog 138 (some cf138) := fun _ h => by cases h; exact ⟨_, _, Tryz.func138, ok138, by kernel_rfl⟩
theorem ok130 : cFunc Tryz.prog ⟨false, false, false, false, [1], 7, 1⟩ Tryz.f130 = some cf130 := by kernel_rfl
theorem g130 : Good Tryz.prog 130 (some cf130) := fun _ h => by cases h; exact ⟨_, _, Tryz.func130, ok130, by kernel_rfl⟩
theorem ok132 : cFunc Tryz.prog ⟨false, false, false, false, [2, 4, 5], 6, 2⟩ Tryz.f132 = some cf132 := by kernel_rfl
theorem g132 : Good Tryz.prog 132 (some cf132) := fun _ h => by cases h; exact ⟨_, _, Tryz.func132, ok132, by kernel_rfl⟩
theorem ok183 : cFunc Tryz.prog ⟨false, false, true, true, [], 4, 0⟩ Tryz.f183 = some cf183 := by kernel_rfl
theorem g183 : Good Tryz.prog 183 (some cf183) := fun _ h => by cases h; exact ⟨_, _, Tryz.func183, ok183, by kernel_rfl⟩
theorem ok128 : cFunc Tryz.prog ⟨false, false, false, false, [4], 4, 1⟩ Tryz.f128 = some cf128 := by kernel_rfl
theorem g128 : Good Tryz.prog 128 (some cf128) := fun _ h => by cases h; exact ⟨_, _, Tryz.func128, ok128, by kernel_rfl⟩
theorem ok136 : cFunc Tryz.prog ⟨false, false, false, false, [8], 4, 1⟩ Tryz.f136 = some cf136 := by kernel_rfl
theorem g136 : Good Tryz.prog 136 (some cf136) := fun _ h => by cases h; exact ⟨_, _, Tryz.func136, ok136, by kernel_rfl⟩
theorem ok126 : cFunc Tryz.prog ⟨false, false, false, false, [4], 4, 1⟩ Tryz.f126 = some cf126 := by kernel_rfl
theorem g126 : Good Tryz.prog 126 (some cf126) := fun _ h => by cases h; exact ⟨_, _, Tryz.func126, ok126, by kernel_rfl⟩
theorem ok98 : cFunc Tryz.prog ⟨false, false, false, false, [0], 2, 1⟩ Tryz.f98 = some cf98 := by kernel_rfl
theorem g98 : Good Tryz.prog 98 (some cf98) := fun _ h => by cases h; exact ⟨_, _, Tryz.func98, ok98, by kernel_rfl⟩
theorem ok73 : cFunc Tryz.prog ⟨false, false, false, false, [2], 5, 1⟩ Tryz.f73 = some cf73 := by kernel_rfl
theorem g73 : Good Tryz.prog 73 (some cf73) := fun _ h => by cases h; exact ⟨_, _, Tryz.func73, ok73, by kernel_rfl⟩
theorem ok131 : cFunc Tryz.prog ⟨false, false, false, false, [1], 5, 1⟩ Tryz.f131 = some cf131 := by kernel_rfl
theorem g131 : Good Tryz.prog 131 (some cf131) := fun _ h => by cases h; exact ⟨_, _, Tryz.func131, ok131, by kernel_rfl⟩
theorem ok74 : cFunc Tryz.prog ⟨false, false, false, false, [1, 2], 5, 2⟩ Tryz.f74 = some cf74 := by kernel_rfl
theorem g74 : Good Tryz.prog 74 (some cf74) := fun _ h => by cases h; exact ⟨_, _, Tryz.func74, ok74, by kernel_rfl⟩
theorem ok133 : cFunc Tryz.prog ⟨false, false, false, false, [1, 2], 4, 2⟩ Tryz.f133 = some cf133 := by kernel_rfl
theorem g133 : Good Tryz.prog 133 (some cf133) := fun _ h => by cases h; exact ⟨_, _, Tryz.func133, ok133, by kernel_rfl⟩
theorem ok75 : cFunc Tryz.prog ⟨false, false, false, false, [1, 2], 6, 2⟩ Tryz.f75 = some cf75 := by kernel_rfl
theorem g75 : Good Tryz.prog 75 (some cf75) := fun _ h => by cases h; exact ⟨_, _, Tryz.func75, ok75, by kernel_rfl⟩
theorem ok76 : cFunc Tryz.prog ⟨false, false, false, false, [2], 6, 1⟩ Tryz.f76 = some cf76 := by kernel_rfl
theorem g76 : Good Tryz.prog 76 (some cf76) := fun _ h => by cases h; exact ⟨_, _, Tryz.func76, ok76, by kernel_rfl⟩
theorem ok134 : cFunc Tryz.prog ⟨true, false, false, false, [], 4, 0⟩ Tryz.f134 = some cf134 := by kernel_rfl
theorem g134 : Good Tryz.prog 134 (some cf134) := fun _ h => by cases h; exact ⟨_, _, Tryz.func134, ok134, by kernel_rfl⟩
theorem ok184 : cFunc Tryz.prog ⟨true, false, false, false, [], 5, 0⟩ Tryz.f184 = some cf184 := by kernel_rfl
theorem g184 : Good Tryz.prog 184 (some cf184) := fun _ h => by cases h; exact ⟨_, _, Tryz.func184, ok184, by kernel_rfl⟩
theorem ok135 : cFunc Tryz.prog ⟨false, false, false, false, [1], 5, 1⟩ Tryz.f135 = some cf135 := by kernel_rfl
theorem g135 : Good Tryz.prog 135 (some cf135) := fun _ h => by cases h; exact ⟨_, _, Tryz.func135, ok135, by kernel_rfl⟩
theorem ok77 : cFunc Tryz.prog ⟨false, false, false, false, [2], 5, 1⟩ Tryz.f77 = some cf77 := by kernel_rfl
theorem g77 : Good Tryz.prog 77 (some cf77) := fun _ h => by cases h; exact ⟨_, _, Tryz.func77, ok77, by kernel_rfl⟩
theorem ok137 : cFunc Tryz.prog ⟨false, false, false, false, [1], 5, 1⟩ Tryz.f137 = some cf137 := by kernel_rfl
theorem g137 : Good Tryz.prog 137 (some cf137) := fun _ h => by cases h; exact ⟨_, _, Tryz.func137, ok137, by kernel_rfl⟩
theorem ok78 : cFunc Tryz.prog ⟨false, false, false, false, [2], 6, 1⟩ Tryz.f78 = some cf78 := by kernel_rfl
theorem g78 : Good Tryz.prog 78 (some cf78) := fun _ h => by cases h; exact ⟨_, _, Tryz.func78, ok78, by kernel_rfl⟩
theorem ok139 : cFunc Tryz.prog ⟨false, false, false, false, [2, 3], 6, 2⟩ Tryz.f139 = some cf139 := by kernel_rfl
theorem g139 : Good Tryz.prog 139 (some cf139) := fun _ h => by cases h; exact ⟨_, _, Tryz.func139, ok139, by kernel_rfl⟩
theorem ok185 : cFunc Tryz.prog ⟨false, false, false, false, [8, 9], 6, 2⟩ Tryz.f185 = some cf185 := by kernel_rfl
theorem g185 : Good Tryz.prog 185 (some cf185) := fun _ h => by cases h; exact ⟨_, _, Tryz.func185, ok185, by kernel_rfl⟩
theorem ok140 : cFunc Tryz.prog ⟨false, false, false, false, [1], 4, 1⟩ Tryz.f140 = some cf140 := by kernel_rfl
theorem g140 : Good Tryz.prog 140 (some cf140) := fun _ h => by cases h; exact ⟨_, _, Tryz.func140, ok140, by kernel_rfl⟩
theorem ok142 : cFunc Tryz.prog ⟨false, false, false, false, [1, 2], 3, 2⟩ Tryz.f142 = some cf142 := by kernel_rfl
theorem g142 : Good Tryz.prog 142 (some cf142) := fun _ h => by cases h; exact ⟨_, _, Tryz.func142, ok142, by kernel_rfl⟩
theorem ok141 : cFunc Tryz.prog ⟨false, false, false, false, [2, 3, 4], 4, 2⟩ Tryz.f141 = some cf141 := by kernel_rfl
theorem g141 : Good Tryz.prog 141 (some cf141) := fun _ h => by cases h; exact ⟨_, _, Tryz.func141, ok141, by kernel_rfl⟩
theorem ok79 : cFunc Tryz.prog ⟨false, false, false, false, [2], 6, 1⟩ Tryz.f79 = some cf79 := by kernel_rfl
theorem g79 : Good Tryz.prog 79 (some cf79) := fun _ h => by cases h; exact ⟨_, _, Tryz.func79, ok79, by kernel_rfl⟩
theorem ok143 : cFunc Tryz.prog ⟨false, false, false, false, [3], 5, 1⟩ Tryz.f143 = some cf143 := by kernel_rfl
theorem g143 : Good Tryz.prog 143 (some cf143) := fun _ h => by cases h; exact ⟨_, _, Tryz.func143, ok143, by kernel_rfl⟩
theorem ok144 : cFunc Tryz.prog ⟨false, false, false, false, [2], 5, 1⟩ Tryz.f144 = some cf144 := by kernel_rfl
theorem g144 : Good Tryz.prog 144 (some cf144) := fun _ h => by cases h; exact ⟨_, _, Tryz.func144, ok144, by kernel_rfl⟩
theorem ok80 : cFunc Tryz.prog ⟨false, false, false, false, [1, 2], 6, 2⟩ Tryz.f80 = some cf80 := by kernel_rfl
theorem g80 : Good Tryz.prog 80 (some cf80) := fun _ h => by cases h; exact ⟨_, _, Tryz.func80, ok80, by kernel_rfl⟩
theorem ok81 : cFunc Tryz.prog ⟨false, false, false, false, [1, 2], 5, 2⟩ Tryz.f81 = some cf81 := by kernel_rfl
theorem g81 : Good Tryz.prog 81 (some cf81) := fun _ h => by cases h; exact ⟨_, _, Tryz.func81, ok81, by kernel_rfl⟩
theorem ok145 : cFunc Tryz.prog ⟨false, false, false, false, [1, 2], 4, 2⟩ Tryz.f145 = some cf145 := by kernel_rfl
theorem g145 : Good Tryz.prog 145 (some cf145) := fun _ h => by cases h; exact ⟨_, _, Tryz.func145, ok145, by kernel_rfl⟩
theorem ok82 : cFunc Tryz.prog ⟨false, false, false, false, [1, 2], 6, 2⟩ Tryz.f82 = some cf82 := by kernel_rfl
theorem g82 : Good Tryz.prog 82 (some cf82) := fun _ h => by cases h; exact ⟨_, _, Tryz.func82, ok82, by kernel_rfl⟩
theorem ok83 : cFunc Tryz.prog ⟨false, false, false, false, [2], 6, 1⟩ Tryz.f83 = some cf83 := by kernel_rfl
theorem g83 : Good Tryz.prog 83 (some cf83) := fun _ h => by cases h; exact ⟨_, _, Tryz.func83, ok83, by kernel_rfl⟩
theorem ok146 : cFunc Tryz.prog ⟨false, false, false, false, [2], 4, 1⟩ Tryz.f146 = some cf146 := by kernel_rfl
theorem g146 : Good Tryz.prog 146 (some cf146) := fun _ h => by cases h; exact ⟨_, _, Tryz.func146, ok146, by kernel_rfl⟩
theorem ok84 : cFunc Tryz.prog ⟨false, false, false, false, [1, 2], 5, 2⟩ Tryz.f84 = some cf84 := by kernel_rfl
theorem g84 : Good Tryz.prog 84 (some cf84) := fun _ h => by cases h; exact ⟨_, _, Tryz.func84, ok84, by kernel_rfl⟩
theorem ok147 : cFunc Tryz.prog ⟨false, false, false, false, [0], 2, 1⟩ Tryz.f147 = some cf147 := by kernel_rfl
theorem g147 : Good Tryz.prog 147 (some cf147) := fun _ h => by cases h; exact ⟨_, _, Tryz.func147, ok147, by kernel_rfl⟩
theorem ok85 : cFunc Tryz.prog ⟨false, false, false, false, [1, 2], 4, 2⟩ Tryz.f85 = some cf85 := by kernel_rfl
theorem g85 : Good Tryz.prog 85 (some cf85) := fun _ h => by cases h; exact ⟨_, _, Tryz.func85, ok85, by kernel_rfl⟩
theorem ok148 : cFunc Tryz.prog ⟨false, false, false, false, [3, 6], 6, 2⟩ Tryz.f148 = some cf148 := by kernel_rfl
theorem g148 : Good Tryz.prog 148 (some cf148) := fun _ h => by cases h; exact ⟨_, _, Tryz.func148, ok148, by kernel_rfl⟩
theorem ok187 : cFunc Tryz.prog ⟨false, false, false, false, [1], 3, 1⟩ Tryz.f187 = some cf187 := by kernel_rfl
theorem g187 : Good Tryz.prog 187 (some cf187) := fun _ h => by cases h; exact ⟨_, _, Tryz.func187, ok187, by kernel_rfl⟩
theorem ok186 : cFunc Tryz.prog ⟨false, false, false, false, [2], 4, 1⟩ Tryz.f186 = some cf186 := by kernel_rfl
theorem g186 : Good Tryz.prog 186 (some cf186) := fun _ h => by cases h; exact ⟨_, _, Tryz.func186, ok186, by kernel_rfl⟩
theorem ok203 : cFunc Tryz.prog ⟨false, false, false, false, [4], 6, 1⟩ Tryz.f203 = some cf203 := by kernel_rfl
theorem g203 : Good Tryz.prog 203 (some cf203) := fun _ h => by cases h; exact ⟨_, _, Tryz.func203, ok203, by kernel_rfl⟩
theorem ok159 : cFunc Tryz.prog ⟨false, false, false, false, [2], 4, 1⟩ Tryz.f159 = some cf159 := by kernel_rfl
theorem g159 : Good Tryz.prog 159 (some cf159) := fun _ h => by cases h; exact ⟨_, _, Tryz.func159, ok159, by kernel_rfl⟩
theorem ok191 : cFunc Tryz.prog ⟨false, false, false, false, [4, 6], 5, 2⟩ Tryz.f191 = some cf191 := by kernel_rfl
theorem g191 : Good Tryz.prog 191 (some cf191) := fun _ h => by cases h; exact ⟨_, _, Tryz.func191, ok191, by kernel_rfl⟩
theorem ok108 : cFunc Tryz.prog ⟨false, false, false, false, [3, 6, 10], 6, 2⟩ Tryz.f108 = some cf108 := by kernel_rfl
theorem g108 : Good Tryz.prog 108 (some cf108) := fun _ h => by cases h; exact ⟨_, _, Tryz.func108, ok108, by kernel_rfl⟩
theorem ok188 : cFunc Tryz.prog ⟨false, false, false, false, [3, 6], 4, 2⟩ Tryz.f188 = some cf188 := by kernel_rfl
theorem g188 : Good Tryz.prog 188 (some cf188) := fun _ h => by cases h; exact ⟨_, _, Tryz.func188, ok188, by kernel_rfl⟩
theorem ok204 : cFunc Tryz.prog ⟨false, false, false, false, [4, 6], 5, 2⟩ Tryz.f204 = some cf204 := by kernel_rfl
theorem g204 : Good Tryz.prog 204 (some cf204) := fun _ h => by cases h; exact ⟨_, _, Tryz.func204, ok204, by kernel_rfl⟩
theorem ok149 : cFunc Tryz.prog ⟨true, false, false, false, [1], 3, 1⟩ Tryz.f149 = some cf149 := by kernel_rfl
theorem g149 : Good Tryz.prog 149 (some cf149) := fun _ h => by cases h; exact ⟨_, _, Tryz.func149, ok149, by kernel_rfl⟩
theorem ok86 : cFunc Tryz.prog ⟨false, false, false, false, [2], 4, 1⟩ Tryz.f86 = some cf86 := by kernel_rfl
theorem g86 : Good Tryz.prog 86 (some cf86) := fun _ h => by cases h; exact ⟨_, _, Tryz.func86, ok86, by kernel_rfl⟩
theorem ok151 : cFunc Tryz.prog ⟨false, false, false, false, [2, 3], 4, 2⟩ Tryz.f151 = some cf151 := by kernel_rfl
theorem g151 : Good Tryz.prog 151 (some cf151) := fun _ h => by cases h; exact ⟨_, _, Tryz.func151, ok151, by kernel_rfl⟩
theorem ok150 : cFunc Tryz.prog ⟨true, false, false, false, [1], 3, 1⟩ Tryz.f150 = some cf150 := by kernel_rfl
theorem g150 : Good Tryz.prog 150 (some cf150) := fun _ h => by cases h; exact ⟨_, _, Tryz.func150, ok150, by kernel_rfl⟩
theorem ok87 : cFunc Tryz.prog ⟨false, false, false, false, [1, 2], 4, 2⟩ Tryz.f87 = some cf87 := by kernel_rfl
theorem g87 : Good Tryz.prog 87 (some cf87) := fun _ h => by cases h; exact ⟨_, _, Tryz.func87, ok87, by kernel_rfl⟩
theorem ok152 : cFunc Tryz.prog ⟨false, false, false, false, [1, 2], 4, 2⟩ Tryz.f152 = some cf152 := by kernel_rfl
theorem g152 : Good Tryz.prog 152 (some cf152) := fun _ h => by cases h; exact ⟨_, _, Tryz.func152, ok152, by kernel_rfl⟩
theorem ok153 : cFunc Tryz.prog ⟨true, false, false, false, [1], 3, 1⟩ Tryz.f153 = some cf153 := by kernel_rfl
theorem g153 : Good Tryz.prog 153 (some cf153) := fun _ h => by cases h; exact ⟨_, _, Tryz.func153, ok153, by kernel_rfl⟩
theorem ok88 : cFunc Tryz.prog ⟨false, false, false, false, [1, 2, 5], 6, 2⟩ Tryz.f88 = some cf88 := by kernel_rfl
theorem g88 : Good Tryz.prog 88 (some cf88) := fun _ h => by cases h; exact ⟨_, _, Tryz.func88, ok88, by kernel_rfl⟩
theorem ok154 : cFunc Tryz.prog ⟨false, false, false, false, [1], 4, 1⟩ Tryz.f154 = some cf154 := by kernel_rfl
theorem g154 : Good Tryz.prog 154 (some cf154) := fun _ h => by cases h; exact ⟨_, _, Tryz.func154, ok154, by kernel_rfl⟩
theorem ok89 : cFunc Tryz.prog ⟨false, false, false, false, [2], 5, 1⟩ Tryz.f89 = some cf89 := by kernel_rfl
theorem g89 : Good Tryz.prog 89 (some cf89) := fun _ h => by cases h; exact ⟨_, _, Tryz.func89, ok89, by kernel_rfl⟩
theorem ok155 : cFunc Tryz.prog ⟨false, false, false, false, [1], 3, 1⟩ Tryz.f155 = some cf155 := by kernel_rfl
theorem g155 : Good Tryz.prog 155 (some cf155) := fun _ h => by cases h; exact ⟨_, _, Tryz.func155, ok155, by kernel_rfl⟩
theorem ok189 : cFunc Tryz.prog ⟨false, false, false, false, [2], 4, 1⟩ Tryz.f189 = some cf189 := by kernel_rfl
theorem g189 : Good Tryz.prog 189 (some cf189) := fun _ h => by cases h; exact ⟨_, _, Tryz.func189, ok189, by kernel_rfl⟩
theorem ok156 : cFunc Tryz.prog ⟨false, false, false, false, [1], 4, 1⟩ Tryz.f156 = some cf156 := by kernel_rfl
theorem g156 : Good Tryz.prog 156 (some cf156) := fun _ h => by cases h; exact ⟨_, _, Tryz.func156, ok156, by kernel_rfl⟩
theorem ok157 : cFunc Tryz.prog ⟨false, false, false, false, [1, 2], 3, 2⟩ Tryz.f157 = some cf157 := by kernel_rfl
theorem g157 : Good Tryz.prog 157 (some cf157) := fun _ h => by cases h; exact ⟨_, _, Tryz.func157, ok157, by kernel_rfl⟩
theorem ok190 : cFunc Tryz.prog ⟨false, false, false, false, [2, 4], 5, 2⟩ Tryz.f190 = some cf190 := by kernel_rfl
theorem g190 : Good Tryz.prog 190 (some cf190) := fun _ h => by cases h; exact ⟨_, _, Tryz.func190, ok190, by kernel_rfl⟩
theorem ok90 : cFunc Tryz.prog ⟨false, false, false, false, [1, 2], 5, 2⟩ Tryz.f90 = some cf90 := by kernel_rfl
theorem g90 : Good Tryz.prog 90 (some cf90) := fun _ h => by cases h; exact ⟨_, _, Tryz.func90, ok90, by kernel_rfl⟩
theorem ok91 : cFunc Tryz.prog ⟨false, false, false, false, [2], 5, 1⟩ Tryz.f91 = some cf91 := by kernel_rfl
theorem g91 : Good Tryz.prog 91 (some cf91) := fun _ h => by cases h; exact ⟨_, _, Tryz.func91, ok91, by kernel_rfl⟩
theorem ok158 : cFunc Tryz.prog ⟨false, false, false, false, [3], 5, 1⟩ Tryz.f158 = some cf158 := by kernel_rfl
theorem g158 : Good Tryz.prog 158 (some cf158) := fun _ h => by cases h; exact ⟨_, _, Tryz.func158, ok158, by kernel_rfl⟩
theorem ok92 : cFunc Tryz.prog ⟨false, false, false, false, [1, 2], 5, 2⟩ Tryz.f92 = some cf92 := by kernel_rfl
theorem g92 : Good Tryz.prog 92 (some cf92) := fun _ h => by cases h; exact ⟨_, _, Tryz.func92, ok92, by kernel_rfl⟩
theorem ok93 : cFunc Tryz.prog ⟨false, false, false, false, [1, 2], 6, 2⟩ Tryz.f93 = some cf93 := by kernel_rfl
theorem g93 : Good Tryz.prog 93 (some cf93) := fun _ h => by cases h; exact ⟨_, _, Tryz.func93, ok93, by kernel_rfl⟩
theorem ok96 : cFunc Tryz.prog ⟨false, false, false, false, [5, 8, 10], 6, 2⟩ Tryz.f96 = some cf96 := by kernel_rfl
theorem g96 : Good Tryz.prog 96 (some cf96) := fun _ h => by cases h; exact ⟨_, _, Tryz.func96, ok96, by kernel_rfl⟩
theorem ok95 : cFunc Tryz.prog ⟨false, false, false, false, [2], 5, 1⟩ Tryz.f95 = some cf95 := by kernel_rfl
theorem g95 : Good Tryz.prog 95 (some cf95) := fun _ h => by cases h; exact ⟨_, _, Tryz.func95, ok95, by kernel_rfl⟩
theorem ok42 : cFunc Tryz.prog ⟨true, false, false, false, [], 2, 0⟩ Tryz.f42 = some cf42 := by kernel_rfl
theorem g42 : Good Tryz.prog 42 (some cf42) := fun _ h => by cases h; exact ⟨_, _, Tryz.func42, ok42, by kernel_rfl⟩
theorem ok13 : cFunc Tryz.prog ⟨false, false, false, false, [2, 3, 4, 7], 5, 3⟩ Tryz.f13 = some cf13 := by kernel_rfl
theorem g13 : Good Tryz.prog 13 (some cf13) := fun _ h => by cases h; exact ⟨_, _, Tryz.func13, ok13, by kernel_rfl⟩
theorem ok41 : cFunc Tryz.prog ⟨false, false, false, false, [3, 11, 12], 6, 2⟩ Tryz.f41 = some cf41 := by kernel_rfl
theorem g41 : Good Tryz.prog 41 (some cf41) := fun _ h => by cases h; exact ⟨_, _, Tryz.func41, ok41, by kernel_rfl⟩
theorem ok60 : cFunc Tryz.prog ⟨false, false, false, false, [1, 2], 3, 2⟩ Tryz.f60 = some cf60 := by kernel_rfl
theorem g60 : Good Tryz.prog 60 (some cf60) := fun _ h => by cases h; exact ⟨_, _, Tryz.func60, ok60, by kernel_rfl⟩
theorem ok109 : cFunc Tryz.prog ⟨false, false, false, false, [2, 4], 3, 2⟩ Tryz.f109 = some cf109 := by kernel_rfl
theorem g109 : Good Tryz.prog 109 (some cf109) := fun _ h => by cases h; exact ⟨_, _, Tryz.func109, ok109, by kernel_rfl⟩
theorem ok66 : cFunc Tryz.prog ⟨false, false, false, false, [3, 6], 4, 2⟩ Tryz.f66 = some cf66 := by kernel_rfl
theorem g66 : Good Tryz.prog 66 (some cf66) := fun _ h => by cases h; exact ⟨_, _, Tryz.func66, ok66, by kernel_rfl⟩
theorem ok115 : cFunc Tryz.prog ⟨false, false, false, false, [5, 7], 5, 2⟩ Tryz.f115 = some cf115 := by kernel_rfl
theorem g115 : Good Tryz.prog 115 (some cf115) := fun _ h => by cases h; exact ⟨_, _, Tryz.func115, ok115, by kernel_rfl⟩
theorem ok23 : cFunc Tryz.prog ⟨true, false, false, false, [], 5, 0⟩ Tryz.f23 = some cf23 := by kernel_rfl
theorem g23 : Good Tryz.prog 23 (some cf23) := fun _ h => by cases h; exact ⟨_, _, Tryz.func23, ok23, by kernel_rfl⟩
theorem ok24 : cFunc Tryz.prog ⟨true, false, false, false, [], 5, 0⟩ Tryz.f24 = some cf24 := by kernel_rfl
theorem g24 : Good Tryz.prog 24 (some cf24) := fun _ h => by cases h; exact ⟨_, _, Tryz.func24, ok24, by kernel_rfl⟩
theorem ok51 : cFunc Tryz.prog ⟨true, false, false, false, [], 2, 0⟩ Tryz.f51 = some cf51 := by kernel_rfl
theorem g51 : Good Tryz.prog 51 (some cf51) := fun _ h => by cases h; exact ⟨_, _, Tryz.func51, ok51, by kernel_rfl⟩
theorem ok25 : cFunc Tryz.prog ⟨true, false, false, false, [], 4, 0⟩ Tryz.f25 = some cf25 := by kernel_rfl
theorem g25 : Good Tryz.prog 25 (some cf25) := fun _ h => by cases h; exact ⟨_, _, Tryz.func25, ok25, by kernel_rfl⟩
theorem ok53 : cFunc Tryz.prog ⟨false, false, false, false, [2], 4, 1⟩ Tryz.f53 = some cf53 := by kernel_rfl
theorem g53 : Good Tryz.prog 53 (some cf53) := fun _ h => by cases h; exact ⟨_, _, Tryz.func53, ok53, by kernel_rfl⟩
theorem ok52 : cFunc Tryz.prog ⟨false, false, false, false, [], 5, 0⟩ Tryz.f52 = some cf52 := by kernel_rfl
theorem g52 : Good Tryz.prog 52 (some cf52) := fun _ h => by cases h; exact ⟨_, _, Tryz.func52, ok52, by kernel_rfl⟩
theorem ok26 : cFunc Tryz.prog ⟨true, false, false, false, [], 5, 0⟩ Tryz.f26 = some cf26 := by kernel_rfl
theorem g26 : Good Tryz.prog 26 (some cf26) := fun _ h => by cases h; exact ⟨_, _, Tryz.func26, ok26, by kernel_rfl⟩
theorem pk : ProgOK Tryz.prog CP := ProgOK.of_tree 8 (by kernel_rfl) (⟨Good.none _ _, ⟨Good.none _ _, ⟨Good.none _ _, ⟨Good.none _ _, ⟨g15, ⟨g31, ⟨g63, ⟨g127, trivial, trivial⟩, ⟨g191, trivial, trivial⟩⟩, ⟨g95, ⟨g159, trivial, trivial⟩, ⟨Good.none _ _, trivial, trivial⟩⟩⟩, ⟨Good.none _ _, ⟨g79, ⟨g143, trivial, trivial⟩, ⟨Good.none _ _, trivial, trivial⟩⟩, ⟨g111, ⟨Good.none _ _, trivial, trivial⟩, ⟨Good.none _ _, trivial, trivial⟩⟩⟩⟩, ⟨g23, ⟨Good.none _ _, ⟨Good.none _ _, ⟨g135, trivial, trivial⟩, ⟨Good.none _ _, trivial, trivial⟩⟩, ⟨g103, ⟨g167, trivial, trivial⟩, ⟨Good.none _ _, trivial, trivial⟩⟩⟩, ⟨Good.none _ _, ⟨g87, ⟨g151, trivial, trivial⟩, ⟨Good.none _ _, trivial, trivial⟩⟩, ⟨g119, ⟨g183, trivial, trivial⟩, ⟨Good.none _ _, trivial, trivial⟩⟩⟩⟩⟩, ⟨Good.none _ _, ⟨Good.none _ _, ⟨g35, ⟨Good.none _ _, ⟨g131, trivial, trivial⟩, ⟨g195, trivial, trivial⟩⟩, ⟨g99, ⟨g163, trivial, trivial⟩, ⟨Good.none _ _, trivial, trivial⟩⟩⟩, ⟨g51, ⟨g83, ⟨g147, trivial, trivial⟩, ⟨Good.none _ _, trivial, trivial⟩⟩, ⟨g115, ⟨Good.none _ _, trivial, trivial⟩, ⟨Good.none _ _, trivial, trivial⟩⟩⟩⟩, ⟨g27, ⟨Good.none _ _, ⟨g75, ⟨g139, trivial, trivial⟩, ⟨g203, trivial, trivial⟩⟩, ⟨g107, ⟨g171, trivial, trivial⟩, ⟨Good.none _ _, trivial, trivial⟩⟩⟩, ⟨g59, ⟨g91, ⟨g155, trivial, trivial⟩, ⟨Good.none _ _, trivial, trivial⟩⟩, ⟨Good.none _ _, ⟨g187, trivial, trivial⟩, ⟨Good.none _ _, trivial, trivial⟩⟩⟩⟩⟩⟩, ⟨g5, ⟨Good.none _ _, ⟨Good.none _ _, ⟨Good.none _ _, ⟨g65, ⟨g129, trivial, trivial⟩, ⟨g193, trivial, trivial⟩⟩, ⟨Good.none _ _, ⟨g161, trivial, trivial⟩, ⟨Good.none _ _, trivial, trivial⟩⟩⟩, ⟨Good.none _ _, ⟨g81, ⟨g145, trivial, trivial⟩, ⟨Good.none _ _, trivial, trivial⟩⟩, ⟨g113, ⟨Good.none _ _, trivial, trivial⟩, ⟨Good.none _ _, trivial, trivial⟩⟩⟩⟩, ⟨g25, ⟨g41, ⟨g73, ⟨g137, trivial, trivial⟩, ⟨Good.none _ _, trivial, trivial⟩⟩, ⟨g105, ⟨g169, trivial, trivial⟩, ⟨Good.none _ _, trivial, trivial⟩⟩⟩, ⟨g57, ⟨g89, ⟨g153, trivial, trivial⟩, ⟨Good.none _ _, trivial, trivial⟩⟩, ⟨Good.none _ _, ⟨g185, trivial, trivial⟩, ⟨Good.none _ _, trivial, trivial⟩⟩⟩⟩⟩, ⟨g13, ⟨Good.none _ _, ⟨g37, ⟨g69, ⟨g133, trivial, trivial⟩, ⟨g197, trivial, trivial⟩⟩, ⟨g101, ⟨g165, trivial, trivial⟩, ⟨Good.none _ _, trivial, trivial⟩⟩⟩, ⟨g53, ⟨g85, ⟨g149, trivial, trivial⟩, ⟨Good.none _ _, trivial, trivial⟩⟩, ⟨g117, ⟨Good.none _ _, trivial, trivial⟩, ⟨Good.none _ _, trivial, trivial⟩⟩⟩⟩, ⟨Good.none _ _, ⟨Good.none _ _, ⟨g77, ⟨g141, trivial, trivial⟩, ⟨g205, trivial, trivial⟩⟩, ⟨g109, ⟨g173, trivial, trivial⟩, ⟨Good.none _ _, trivial, trivial⟩⟩⟩, ⟨g61, ⟨g93, ⟨g157, trivial, trivial⟩, ⟨Good.none _ _, trivial, trivial⟩⟩, ⟨g125, ⟨g189, trivial, trivial⟩, ⟨Good.none _ _, trivial, trivial⟩⟩⟩⟩⟩⟩⟩, ⟨Good.none _ _, ⟨Good.none _ _, ⟨Good.none _ _, ⟨Good.none _ _, ⟨g32, ⟨Good.none _ _, ⟨g128, trivial, trivial⟩, ⟨g192, trivial, trivial⟩⟩, ⟨g96, ⟨g160, trivial, trivial⟩, ⟨Good.none _ _, trivial, trivial⟩⟩⟩, ⟨Good.none _ _, ⟨g80, ⟨g144, trivial, trivial⟩, ⟨Good.none _ _, trivial, trivial⟩⟩, ⟨g112, ⟨Good.none _ _, trivial, trivial⟩, ⟨Good.none _ _, trivial, trivial⟩⟩⟩⟩, ⟨g24, ⟨g40, ⟨g72, ⟨g136, trivial, trivial⟩, ⟨Good.none _ _, trivial, trivial⟩⟩, ⟨g104, ⟨g168, trivial, trivial⟩, ⟨Good.none _ _, trivial, trivial⟩⟩⟩, ⟨g56, ⟨g88, ⟨g152, trivial, trivial⟩, ⟨Good.none _ _, trivial, trivial⟩⟩, ⟨g120, ⟨g184, trivial, trivial⟩, ⟨Good.none _ _, trivial, trivial⟩⟩⟩⟩⟩, ⟨g12, ⟨Good.none _ _, ⟨g36, ⟨g68, ⟨g132, trivial, trivial⟩, ⟨g196, trivial, trivial⟩⟩, ⟨g100, ⟨g164, trivial, trivial⟩, ⟨Good.none _ _, trivial, trivial⟩⟩⟩, ⟨g52, ⟨g84, ⟨g148, trivial, trivial⟩, ⟨Good.none _ _, trivial, trivial⟩⟩, ⟨g116, ⟨Good.none _ _, trivial, trivial⟩, ⟨Good.none _ _, trivial, trivial⟩⟩⟩⟩, ⟨Good.none _ _, ⟨Good.none _ _, ⟨g76, ⟨g140, trivial, trivial⟩, ⟨g204, trivial, trivial⟩⟩, ⟨g108, ⟨g172, trivial, trivial⟩, ⟨Good.none _ _, trivial, trivial⟩⟩⟩, ⟨g60, ⟨g92, ⟨g156, trivial, trivial⟩, ⟨Good.none _ _, trivial, trivial⟩⟩, ⟨g124, ⟨g188, trivial, trivial⟩, ⟨Good.none _ _, trivial, trivial⟩⟩⟩⟩⟩⟩, ⟨Good.none _ _, ⟨Good.none _ _, ⟨Good.none _ _, ⟨Good.none _ _, ⟨g66, ⟨g130, trivial, trivial⟩, ⟨g194, trivial, trivial⟩⟩, ⟨g98, ⟨g162, trivial, trivial⟩, ⟨Good.none _ _, trivial, trivial⟩⟩⟩, ⟨g50, ⟨g82, ⟨g146, trivial, trivial⟩, ⟨Good.none _ _, trivial, trivial⟩⟩, ⟨g114, ⟨Good.none _ _, trivial, trivial⟩, ⟨Good.none _ _, trivial, trivial⟩⟩⟩⟩, ⟨g26, ⟨g42, ⟨g74, ⟨g138, trivial, trivial⟩, ⟨Good.none _ _, trivial, trivial⟩⟩, ⟨g106, ⟨g170, trivial, trivial⟩, ⟨Good.none _ _, trivial, trivial⟩⟩⟩, ⟨g58, ⟨g90, ⟨g154, trivial, trivial⟩, ⟨Good.none _ _, trivial, trivial⟩⟩, ⟨g122, ⟨g186, trivial, trivial⟩, ⟨Good.none _ _, trivial, trivial⟩⟩⟩⟩⟩, ⟨Good.none _ _, ⟨Good.none _ _, ⟨Good.none _ _, ⟨Good.none _ _, ⟨g134, trivial, trivial⟩, ⟨Good.none _ _, trivial, trivial⟩⟩, ⟨g102, ⟨g166, trivial, trivial⟩, ⟨Good.none _ _, trivial, trivial⟩⟩⟩, ⟨g54, ⟨g86, ⟨g150, trivial, trivial⟩, ⟨Good.none _ _, trivial, trivial⟩⟩, ⟨g118, ⟨Good.none _ _, trivial, trivial⟩, ⟨Good.none _ _, trivial, trivial⟩⟩⟩⟩, ⟨Good.none _ _, ⟨g46, ⟨g78, ⟨g142, trivial, trivial⟩, ⟨g206, trivial, trivial⟩⟩, ⟨g110, ⟨Good.none _ _, trivial, trivial⟩, ⟨Good.none _ _, trivial, trivial⟩⟩⟩, ⟨g62, ⟨g94, ⟨g158, trivial, trivial⟩, ⟨Good.none _ _, trivial, trivial⟩⟩, ⟨g126, ⟨g190, trivial, trivial⟩, ⟨Good.none _ _, trivial, trivial⟩⟩⟩⟩⟩⟩⟩⟩)
end Go.AI.Tryz
