/- Tl2None: for every deed, every values and number the law returns true, and each argument reads as it did; by an evaluator of the compiled code that is proved sound for the model. Part 10 of 11. -/
import Derived.Test.YtfncjdkfedlnaaaGreatNone9
import Derived.Test.YtfncjdkfedlnaaaGreatProg
import Derived.KernelRfl
set_option linter.unusedSimpArgs false
set_option linter.unusedVariables false

/- The table is what the program compiles to. -/
namespace Ev
open Go

theorem c2 : cFn Go.Proofs.Tryz.prog Go.Proofs.Tryz.f2 = some m2 := by kernel_rfl
theorem c8 : cFn Go.Proofs.Tryz.prog Go.Proofs.Tryz.f8 = some m8 := by kernel_rfl
theorem c14 : cFn Go.Proofs.Tryz.prog Go.Proofs.Tryz.f14 = some m14 := by kernel_rfl
theorem c20 : cFn Go.Proofs.Tryz.prog Go.Proofs.Tryz.f20 = some m20 := by kernel_rfl
theorem c26 : cFn Go.Proofs.Tryz.prog Go.Proofs.Tryz.f26 = some m26 := by kernel_rfl
theorem c32 : cFn Go.Proofs.Tryz.prog Go.Proofs.Tryz.f32 = some m32 := by kernel_rfl
theorem c38 : cFn Go.Proofs.Tryz.prog Go.Proofs.Tryz.f38 = some m38 := by kernel_rfl
theorem c44 : cFn Go.Proofs.Tryz.prog Go.Proofs.Tryz.f44 = some m44 := by kernel_rfl
theorem c50 : cFn Go.Proofs.Tryz.prog Go.Proofs.Tryz.f50 = some m50 := by kernel_rfl
theorem c56 : cFn Go.Proofs.Tryz.prog Go.Proofs.Tryz.f56 = some m56 := by kernel_rfl
theorem c62 : cFn Go.Proofs.Tryz.prog Go.Proofs.Tryz.f62 = some m62 := by kernel_rfl
theorem c68 : cFn Go.Proofs.Tryz.prog Go.Proofs.Tryz.f68 = some m68 := by kernel_rfl
theorem c74 : cFn Go.Proofs.Tryz.prog Go.Proofs.Tryz.f74 = some m74 := by kernel_rfl
theorem c80 : cFn Go.Proofs.Tryz.prog Go.Proofs.Tryz.f80 = some m80 := by kernel_rfl
theorem c86 : cFn Go.Proofs.Tryz.prog Go.Proofs.Tryz.f86 = some m86 := by kernel_rfl
theorem c92 : cFn Go.Proofs.Tryz.prog Go.Proofs.Tryz.f92 = some m92 := by kernel_rfl
theorem c98 : cFn Go.Proofs.Tryz.prog Go.Proofs.Tryz.f98 = some m98 := by kernel_rfl
theorem c104 : cFn Go.Proofs.Tryz.prog Go.Proofs.Tryz.f104 = some m104 := by kernel_rfl
theorem c110 : cFn Go.Proofs.Tryz.prog Go.Proofs.Tryz.f110 = some m110 := by kernel_rfl
theorem c116 : cFn Go.Proofs.Tryz.prog Go.Proofs.Tryz.f116 = some m116 := by kernel_rfl
theorem c122 : cFn Go.Proofs.Tryz.prog Go.Proofs.Tryz.f122 = some m122 := by kernel_rfl
theorem c128 : cFn Go.Proofs.Tryz.prog Go.Proofs.Tryz.f128 = some m128 := by kernel_rfl
theorem c134 : cFn Go.Proofs.Tryz.prog Go.Proofs.Tryz.f134 = some m134 := by kernel_rfl
theorem c141 : cFn Go.Proofs.Tryz.prog Go.Proofs.Tryz.f141 = some m141 := by kernel_rfl
theorem c147 : cFn Go.Proofs.Tryz.prog Go.Proofs.Tryz.f147 = some m147 := by kernel_rfl
theorem c153 : cFn Go.Proofs.Tryz.prog Go.Proofs.Tryz.f153 = some m153 := by kernel_rfl
theorem c159 : cFn Go.Proofs.Tryz.prog Go.Proofs.Tryz.f159 = some m159 := by kernel_rfl
theorem c165 : cFn Go.Proofs.Tryz.prog Go.Proofs.Tryz.f165 = some m165 := by kernel_rfl
theorem c171 : cFn Go.Proofs.Tryz.prog Go.Proofs.Tryz.f171 = some m171 := by kernel_rfl
theorem c177 : cFn Go.Proofs.Tryz.prog Go.Proofs.Tryz.f177 = some m177 := by kernel_rfl
theorem c183 : cFn Go.Proofs.Tryz.prog Go.Proofs.Tryz.f183 = some m183 := by kernel_rfl
theorem c189 : cFn Go.Proofs.Tryz.prog Go.Proofs.Tryz.f189 = some m189 := by kernel_rfl
theorem c195 : cFn Go.Proofs.Tryz.prog Go.Proofs.Tryz.f195 = some m195 := by kernel_rfl
theorem c201 : cFn Go.Proofs.Tryz.prog Go.Proofs.Tryz.f201 = some m201 := by kernel_rfl
theorem c207 : cFn Go.Proofs.Tryz.prog Go.Proofs.Tryz.f207 = some m207 := by kernel_rfl
theorem c213 : cFn Go.Proofs.Tryz.prog Go.Proofs.Tryz.f213 = some m213 := by kernel_rfl
theorem c219 : cFn Go.Proofs.Tryz.prog Go.Proofs.Tryz.f219 = some m219 := by kernel_rfl
theorem c225 : cFn Go.Proofs.Tryz.prog Go.Proofs.Tryz.f225 = some m225 := by kernel_rfl
theorem c231 : cFn Go.Proofs.Tryz.prog Go.Proofs.Tryz.f231 = some m231 := by kernel_rfl
theorem c237 : cFn Go.Proofs.Tryz.prog Go.Proofs.Tryz.f237 = some m237 := by kernel_rfl
theorem c243 : cFn Go.Proofs.Tryz.prog Go.Proofs.Tryz.f243 = some m243 := by kernel_rfl
theorem c249 : cFn Go.Proofs.Tryz.prog Go.Proofs.Tryz.f249 = some m249 := by kernel_rfl
theorem c256 : cFn Go.Proofs.Tryz.prog Go.Proofs.Tryz.f256 = some m256 := by kernel_rfl
end Ev

/- The table is what the program compiles to. -/
namespace Ev
open Go

theorem c3 : cFn Go.Proofs.Tryz.prog Go.Proofs.Tryz.f3 = some m3 := by kernel_rfl
theorem c9 : cFn Go.Proofs.Tryz.prog Go.Proofs.Tryz.f9 = some m9 := by kernel_rfl
theorem c15 : cFn Go.Proofs.Tryz.prog Go.Proofs.Tryz.f15 = some m15 := by kernel_rfl
theorem c21 : cFn Go.Proofs.Tryz.prog Go.Proofs.Tryz.f21 = some m21 := by kernel_rfl
theorem c27 : cFn Go.Proofs.Tryz.prog Go.Proofs.Tryz.f27 = some m27 := by kernel_rfl
theorem c33 : cFn Go.Proofs.Tryz.prog Go.Proofs.Tryz.f33 = some m33 := by kernel_rfl
theorem c39 : cFn Go.Proofs.Tryz.prog Go.Proofs.Tryz.f39 = some m39 := by kernel_rfl
theorem c45 : cFn Go.Proofs.Tryz.prog Go.Proofs.Tryz.f45 = some m45 := by kernel_rfl
theorem c51 : cFn Go.Proofs.Tryz.prog Go.Proofs.Tryz.f51 = some m51 := by kernel_rfl
theorem c57 : cFn Go.Proofs.Tryz.prog Go.Proofs.Tryz.f57 = some m57 := by kernel_rfl
theorem c63 : cFn Go.Proofs.Tryz.prog Go.Proofs.Tryz.f63 = some m63 := by kernel_rfl
theorem c69 : cFn Go.Proofs.Tryz.prog Go.Proofs.Tryz.f69 = some m69 := by kernel_rfl
theorem c75 : cFn Go.Proofs.Tryz.prog Go.Proofs.Tryz.f75 = some m75 := by kernel_rfl
theorem c81 : cFn Go.Proofs.Tryz.prog Go.Proofs.Tryz.f81 = some m81 := by kernel_rfl
theorem c87 : cFn Go.Proofs.Tryz.prog Go.Proofs.Tryz.f87 = some m87 := by kernel_rfl
theorem c93 : cFn Go.Proofs.Tryz.prog Go.Proofs.Tryz.f93 = some m93 := by kernel_rfl
theorem c99 : cFn Go.Proofs.Tryz.prog Go.Proofs.Tryz.f99 = some m99 := by kernel_rfl
theorem c105 : cFn Go.Proofs.Tryz.prog Go.Proofs.Tryz.f105 = some m105 := by kernel_rfl
theorem c111 : cFn Go.Proofs.Tryz.prog Go.Proofs.Tryz.f111 = some m111 := by kernel_rfl
theorem c117 : cFn Go.Proofs.Tryz.prog Go.Proofs.Tryz.f117 = some m117 := by kernel_rfl
theorem c123 : cFn Go.Proofs.Tryz.prog Go.Proofs.Tryz.f123 = some m123 := by kernel_rfl
theorem c129 : cFn Go.Proofs.Tryz.prog Go.Proofs.Tryz.f129 = some m129 := by kernel_rfl
theorem c135 : cFn Go.Proofs.Tryz.prog Go.Proofs.Tryz.f135 = some m135 := by kernel_rfl
theorem c142 : cFn Go.Proofs.Tryz.prog Go.Proofs.Tryz.f142 = some m142 := by kernel_rfl
theorem c148 : cFn Go.Proofs.Tryz.prog Go.Proofs.Tryz.f148 = some m148 := by kernel_rfl
theorem c154 : cFn Go.Proofs.Tryz.prog Go.Proofs.Tryz.f154 = some m154 := by kernel_rfl
theorem c160 : cFn Go.Proofs.Tryz.prog Go.Proofs.Tryz.f160 = some m160 := by kernel_rfl
theorem c166 : cFn Go.Proofs.Tryz.prog Go.Proofs.Tryz.f166 = some m166 := by kernel_rfl
theorem c172 : cFn Go.Proofs.Tryz.prog Go.Proofs.Tryz.f172 = some m172 := by kernel_rfl
theorem c178 : cFn Go.Proofs.Tryz.prog Go.Proofs.Tryz.f178 = some m178 := by kernel_rfl
theorem c184 : cFn Go.Proofs.Tryz.prog Go.Proofs.Tryz.f184 = some m184 := by kernel_rfl
theorem c190 : cFn Go.Proofs.Tryz.prog Go.Proofs.Tryz.f190 = some m190 := by kernel_rfl
theorem c196 : cFn Go.Proofs.Tryz.prog Go.Proofs.Tryz.f196 = some m196 := by kernel_rfl
theorem c202 : cFn Go.Proofs.Tryz.prog Go.Proofs.Tryz.f202 = some m202 := by kernel_rfl
theorem c208 : cFn Go.Proofs.Tryz.prog Go.Proofs.Tryz.f208 = some m208 := by kernel_rfl
theorem c214 : cFn Go.Proofs.Tryz.prog Go.Proofs.Tryz.f214 = some m214 := by kernel_rfl
theorem c220 : cFn Go.Proofs.Tryz.prog Go.Proofs.Tryz.f220 = some m220 := by kernel_rfl
theorem c226 : cFn Go.Proofs.Tryz.prog Go.Proofs.Tryz.f226 = some m226 := by kernel_rfl
theorem c232 : cFn Go.Proofs.Tryz.prog Go.Proofs.Tryz.f232 = some m232 := by kernel_rfl
theorem c238 : cFn Go.Proofs.Tryz.prog Go.Proofs.Tryz.f238 = some m238 := by kernel_rfl
theorem c244 : cFn Go.Proofs.Tryz.prog Go.Proofs.Tryz.f244 = some m244 := by kernel_rfl
theorem c250 : cFn Go.Proofs.Tryz.prog Go.Proofs.Tryz.f250 = some m250 := by kernel_rfl
end Ev

/- The table is what the program compiles to. -/
namespace Ev
open Go

theorem c4 : cFn Go.Proofs.Tryz.prog Go.Proofs.Tryz.f4 = some m4 := by kernel_rfl
theorem c10 : cFn Go.Proofs.Tryz.prog Go.Proofs.Tryz.f10 = some m10 := by kernel_rfl
theorem c16 : cFn Go.Proofs.Tryz.prog Go.Proofs.Tryz.f16 = some m16 := by kernel_rfl
theorem c22 : cFn Go.Proofs.Tryz.prog Go.Proofs.Tryz.f22 = some m22 := by kernel_rfl
theorem c28 : cFn Go.Proofs.Tryz.prog Go.Proofs.Tryz.f28 = some m28 := by kernel_rfl
theorem c34 : cFn Go.Proofs.Tryz.prog Go.Proofs.Tryz.f34 = some m34 := by kernel_rfl
theorem c40 : cFn Go.Proofs.Tryz.prog Go.Proofs.Tryz.f40 = some m40 := by kernel_rfl
theorem c46 : cFn Go.Proofs.Tryz.prog Go.Proofs.Tryz.f46 = some m46 := by kernel_rfl
theorem c52 : cFn Go.Proofs.Tryz.prog Go.Proofs.Tryz.f52 = some m52 := by kernel_rfl
theorem c58 : cFn Go.Proofs.Tryz.prog Go.Proofs.Tryz.f58 = some m58 := by kernel_rfl
theorem c64 : cFn Go.Proofs.Tryz.prog Go.Proofs.Tryz.f64 = some m64 := by kernel_rfl
theorem c70 : cFn Go.Proofs.Tryz.prog Go.Proofs.Tryz.f70 = some m70 := by kernel_rfl
theorem c76 : cFn Go.Proofs.Tryz.prog Go.Proofs.Tryz.f76 = some m76 := by kernel_rfl
theorem c82 : cFn Go.Proofs.Tryz.prog Go.Proofs.Tryz.f82 = some m82 := by kernel_rfl
theorem c88 : cFn Go.Proofs.Tryz.prog Go.Proofs.Tryz.f88 = some m88 := by kernel_rfl
theorem c94 : cFn Go.Proofs.Tryz.prog Go.Proofs.Tryz.f94 = some m94 := by kernel_rfl
theorem c100 : cFn Go.Proofs.Tryz.prog Go.Proofs.Tryz.f100 = some m100 := by kernel_rfl
theorem c106 : cFn Go.Proofs.Tryz.prog Go.Proofs.Tryz.f106 = some m106 := by kernel_rfl
theorem c112 : cFn Go.Proofs.Tryz.prog Go.Proofs.Tryz.f112 = some m112 := by kernel_rfl
theorem c118 : cFn Go.Proofs.Tryz.prog Go.Proofs.Tryz.f118 = some m118 := by kernel_rfl
theorem c124 : cFn Go.Proofs.Tryz.prog Go.Proofs.Tryz.f124 = some m124 := by kernel_rfl
theorem c130 : cFn Go.Proofs.Tryz.prog Go.Proofs.Tryz.f130 = some m130 := by kernel_rfl
theorem c136 : cFn Go.Proofs.Tryz.prog Go.Proofs.Tryz.f136 = some m136 := by kernel_rfl
theorem c143 : cFn Go.Proofs.Tryz.prog Go.Proofs.Tryz.f143 = some m143 := by kernel_rfl
theorem c149 : cFn Go.Proofs.Tryz.prog Go.Proofs.Tryz.f149 = some m149 := by kernel_rfl
theorem c155 : cFn Go.Proofs.Tryz.prog Go.Proofs.Tryz.f155 = some m155 := by kernel_rfl
theorem c161 : cFn Go.Proofs.Tryz.prog Go.Proofs.Tryz.f161 = some m161 := by kernel_rfl
theorem c167 : cFn Go.Proofs.Tryz.prog Go.Proofs.Tryz.f167 = some m167 := by kernel_rfl
theorem c173 : cFn Go.Proofs.Tryz.prog Go.Proofs.Tryz.f173 = some m173 := by kernel_rfl
theorem c179 : cFn Go.Proofs.Tryz.prog Go.Proofs.Tryz.f179 = some m179 := by kernel_rfl
theorem c185 : cFn Go.Proofs.Tryz.prog Go.Proofs.Tryz.f185 = some m185 := by kernel_rfl
theorem c191 : cFn Go.Proofs.Tryz.prog Go.Proofs.Tryz.f191 = some m191 := by kernel_rfl
theorem c197 : cFn Go.Proofs.Tryz.prog Go.Proofs.Tryz.f197 = some m197 := by kernel_rfl
theorem c203 : cFn Go.Proofs.Tryz.prog Go.Proofs.Tryz.f203 = some m203 := by kernel_rfl
theorem c209 : cFn Go.Proofs.Tryz.prog Go.Proofs.Tryz.f209 = some m209 := by kernel_rfl
theorem c215 : cFn Go.Proofs.Tryz.prog Go.Proofs.Tryz.f215 = some m215 := by kernel_rfl
theorem c221 : cFn Go.Proofs.Tryz.prog Go.Proofs.Tryz.f221 = some m221 := by kernel_rfl
theorem c227 : cFn Go.Proofs.Tryz.prog Go.Proofs.Tryz.f227 = some m227 := by kernel_rfl
theorem c233 : cFn Go.Proofs.Tryz.prog Go.Proofs.Tryz.f233 = some m233 := by kernel_rfl
theorem c239 : cFn Go.Proofs.Tryz.prog Go.Proofs.Tryz.f239 = some m239 := by kernel_rfl
theorem c245 : cFn Go.Proofs.Tryz.prog Go.Proofs.Tryz.f245 = some m245 := by kernel_rfl
theorem c251 : cFn Go.Proofs.Tryz.prog Go.Proofs.Tryz.f251 = some m251 := by kernel_rfl
end Ev

/- The table is what the program compiles to. -/
namespace Ev
open Go

theorem c5 : cFn Go.Proofs.Tryz.prog Go.Proofs.Tryz.f5 = some m5 := by kernel_rfl
theorem c11 : cFn Go.Proofs.Tryz.prog Go.Proofs.Tryz.f11 = some m11 := by kernel_rfl
theorem c17 : cFn Go.Proofs.Tryz.prog Go.Proofs.Tryz.f17 = some m17 := by kernel_rfl
theorem c23 : cFn Go.Proofs.Tryz.prog Go.Proofs.Tryz.f23 = some m23 := by kernel_rfl
theorem c29 : cFn Go.Proofs.Tryz.prog Go.Proofs.Tryz.f29 = some m29 := by kernel_rfl
theorem c35 : cFn Go.Proofs.Tryz.prog Go.Proofs.Tryz.f35 = some m35 := by kernel_rfl
theorem c41 : cFn Go.Proofs.Tryz.prog Go.Proofs.Tryz.f41 = some m41 := by kernel_rfl
theorem c47 : cFn Go.Proofs.Tryz.prog Go.Proofs.Tryz.f47 = some m47 := by kernel_rfl
theorem c53 : cFn Go.Proofs.Tryz.prog Go.Proofs.Tryz.f53 = some m53 := by kernel_rfl
theorem c59 : cFn Go.Proofs.Tryz.prog Go.Proofs.Tryz.f59 = some m59 := by kernel_rfl
theorem c65 : cFn Go.Proofs.Tryz.prog Go.Proofs.Tryz.f65 = some m65 := by kernel_rfl
theorem c71 : cFn Go.Proofs.Tryz.prog Go.Proofs.Tryz.f71 = some m71 := by kernel_rfl
theorem c77 : cFn Go.Proofs.Tryz.prog Go.Proofs.Tryz.f77 = some m77 := by kernel_rfl
theorem c83 : cFn Go.Proofs.Tryz.prog Go.Proofs.Tryz.f83 = some m83 := by kernel_rfl
theorem c89 : cFn Go.Proofs.Tryz.prog Go.Proofs.Tryz.f89 = some m89 := by kernel_rfl
theorem c95 : cFn Go.Proofs.Tryz.prog Go.Proofs.Tryz.f95 = some m95 := by kernel_rfl
theorem c101 : cFn Go.Proofs.Tryz.prog Go.Proofs.Tryz.f101 = some m101 := by kernel_rfl
theorem c107 : cFn Go.Proofs.Tryz.prog Go.Proofs.Tryz.f107 = some m107 := by kernel_rfl
theorem c113 : cFn Go.Proofs.Tryz.prog Go.Proofs.Tryz.f113 = some m113 := by kernel_rfl
theorem c119 : cFn Go.Proofs.Tryz.prog Go.Proofs.Tryz.f119 = some m119 := by kernel_rfl
theorem c125 : cFn Go.Proofs.Tryz.prog Go.Proofs.Tryz.f125 = some m125 := by kernel_rfl
theorem c131 : cFn Go.Proofs.Tryz.prog Go.Proofs.Tryz.f131 = some m131 := by kernel_rfl
theorem c137 : cFn Go.Proofs.Tryz.prog Go.Proofs.Tryz.f137 = some m137 := by kernel_rfl
theorem c144 : cFn Go.Proofs.Tryz.prog Go.Proofs.Tryz.f144 = some m144 := by kernel_rfl
theorem c150 : cFn Go.Proofs.Tryz.prog Go.Proofs.Tryz.f150 = some m150 := by kernel_rfl
theorem c156 : cFn Go.Proofs.Tryz.prog Go.Proofs.Tryz.f156 = some m156 := by kernel_rfl
theorem c162 : cFn Go.Proofs.Tryz.prog Go.Proofs.Tryz.f162 = some m162 := by kernel_rfl
theorem c168 : cFn Go.Proofs.Tryz.prog Go.Proofs.Tryz.f168 = some m168 := by kernel_rfl
theorem c174 : cFn Go.Proofs.Tryz.prog Go.Proofs.Tryz.f174 = some m174 := by kernel_rfl
theorem c180 : cFn Go.Proofs.Tryz.prog Go.Proofs.Tryz.f180 = some m180 := by kernel_rfl
theorem c186 : cFn Go.Proofs.Tryz.prog Go.Proofs.Tryz.f186 = some m186 := by kernel_rfl
theorem c192 : cFn Go.Proofs.Tryz.prog Go.Proofs.Tryz.f192 = some m192 := by kernel_rfl
theorem c198 : cFn Go.Proofs.Tryz.prog Go.Proofs.Tryz.f198 = some m198 := by kernel_rfl
theorem c204 : cFn Go.Proofs.Tryz.prog Go.Proofs.Tryz.f204 = some m204 := by kernel_rfl
theorem c210 : cFn Go.Proofs.Tryz.prog Go.Proofs.Tryz.f210 = some m210 := by kernel_rfl
theorem c216 : cFn Go.Proofs.Tryz.prog Go.Proofs.Tryz.f216 = some m216 := by kernel_rfl
theorem c222 : cFn Go.Proofs.Tryz.prog Go.Proofs.Tryz.f222 = some m222 := by kernel_rfl
theorem c228 : cFn Go.Proofs.Tryz.prog Go.Proofs.Tryz.f228 = some m228 := by kernel_rfl
theorem c234 : cFn Go.Proofs.Tryz.prog Go.Proofs.Tryz.f234 = some m234 := by kernel_rfl
theorem c240 : cFn Go.Proofs.Tryz.prog Go.Proofs.Tryz.f240 = some m240 := by kernel_rfl
theorem c246 : cFn Go.Proofs.Tryz.prog Go.Proofs.Tryz.f246 = some m246 := by kernel_rfl
theorem c252 : cFn Go.Proofs.Tryz.prog Go.Proofs.Tryz.f252 = some m252 := by kernel_rfl
end Ev

/- The table is what the program compiles to. -/
namespace Ev
open Go

theorem c6 : cFn Go.Proofs.Tryz.prog Go.Proofs.Tryz.f6 = some m6 := by kernel_rfl
theorem c12 : cFn Go.Proofs.Tryz.prog Go.Proofs.Tryz.f12 = some m12 := by kernel_rfl
theorem c18 : cFn Go.Proofs.Tryz.prog Go.Proofs.Tryz.f18 = some m18 := by kernel_rfl
theorem c24 : cFn Go.Proofs.Tryz.prog Go.Proofs.Tryz.f24 = some m24 := by kernel_rfl
theorem c30 : cFn Go.Proofs.Tryz.prog Go.Proofs.Tryz.f30 = some m30 := by kernel_rfl
theorem c36 : cFn Go.Proofs.Tryz.prog Go.Proofs.Tryz.f36 = some m36 := by kernel_rfl
theorem c42 : cFn Go.Proofs.Tryz.prog Go.Proofs.Tryz.f42 = some m42 := by kernel_rfl
theorem c48 : cFn Go.Proofs.Tryz.prog Go.Proofs.Tryz.f48 = some m48 := by kernel_rfl
theorem c54 : cFn Go.Proofs.Tryz.prog Go.Proofs.Tryz.f54 = some m54 := by kernel_rfl
theorem c60 : cFn Go.Proofs.Tryz.prog Go.Proofs.Tryz.f60 = some m60 := by kernel_rfl
theorem c66 : cFn Go.Proofs.Tryz.prog Go.Proofs.Tryz.f66 = some m66 := by kernel_rfl
theorem c72 : cFn Go.Proofs.Tryz.prog Go.Proofs.Tryz.f72 = some m72 := by kernel_rfl
theorem c78 : cFn Go.Proofs.Tryz.prog Go.Proofs.Tryz.f78 = some m78 := by kernel_rfl
theorem c84 : cFn Go.Proofs.Tryz.prog Go.Proofs.Tryz.f84 = some m84 := by kernel_rfl
theorem c90 : cFn Go.Proofs.Tryz.prog Go.Proofs.Tryz.f90 = some m90 := by kernel_rfl
theorem c96 : cFn Go.Proofs.Tryz.prog Go.Proofs.Tryz.f96 = some m96 := by kernel_rfl
theorem c102 : cFn Go.Proofs.Tryz.prog Go.Proofs.Tryz.f102 = some m102 := by kernel_rfl
theorem c108 : cFn Go.Proofs.Tryz.prog Go.Proofs.Tryz.f108 = some m108 := by kernel_rfl
theorem c114 : cFn Go.Proofs.Tryz.prog Go.Proofs.Tryz.f114 = some m114 := by kernel_rfl
theorem c120 : cFn Go.Proofs.Tryz.prog Go.Proofs.Tryz.f120 = some m120 := by kernel_rfl
theorem c126 : cFn Go.Proofs.Tryz.prog Go.Proofs.Tryz.f126 = some m126 := by kernel_rfl
theorem c132 : cFn Go.Proofs.Tryz.prog Go.Proofs.Tryz.f132 = some m132 := by kernel_rfl
theorem c139 : cFn Go.Proofs.Tryz.prog Go.Proofs.Tryz.f139 = some m139 := by kernel_rfl
theorem c145 : cFn Go.Proofs.Tryz.prog Go.Proofs.Tryz.f145 = some m145 := by kernel_rfl
theorem c151 : cFn Go.Proofs.Tryz.prog Go.Proofs.Tryz.f151 = some m151 := by kernel_rfl
theorem c157 : cFn Go.Proofs.Tryz.prog Go.Proofs.Tryz.f157 = some m157 := by kernel_rfl
theorem c163 : cFn Go.Proofs.Tryz.prog Go.Proofs.Tryz.f163 = some m163 := by kernel_rfl
theorem c169 : cFn Go.Proofs.Tryz.prog Go.Proofs.Tryz.f169 = some m169 := by kernel_rfl
theorem c175 : cFn Go.Proofs.Tryz.prog Go.Proofs.Tryz.f175 = some m175 := by kernel_rfl
theorem c181 : cFn Go.Proofs.Tryz.prog Go.Proofs.Tryz.f181 = some m181 := by kernel_rfl
theorem c187 : cFn Go.Proofs.Tryz.prog Go.Proofs.Tryz.f187 = some m187 := by kernel_rfl
theorem c193 : cFn Go.Proofs.Tryz.prog Go.Proofs.Tryz.f193 = some m193 := by kernel_rfl
theorem c199 : cFn Go.Proofs.Tryz.prog Go.Proofs.Tryz.f199 = some m199 := by kernel_rfl
theorem c205 : cFn Go.Proofs.Tryz.prog Go.Proofs.Tryz.f205 = some m205 := by kernel_rfl
theorem c211 : cFn Go.Proofs.Tryz.prog Go.Proofs.Tryz.f211 = some m211 := by kernel_rfl
theorem c217 : cFn Go.Proofs.Tryz.prog Go.Proofs.Tryz.f217 = some m217 := by kernel_rfl
theorem c223 : cFn Go.Proofs.Tryz.prog Go.Proofs.Tryz.f223 = some m223 := by kernel_rfl
theorem c229 : cFn Go.Proofs.Tryz.prog Go.Proofs.Tryz.f229 = some m229 := by kernel_rfl
theorem c235 : cFn Go.Proofs.Tryz.prog Go.Proofs.Tryz.f235 = some m235 := by kernel_rfl
theorem c241 : cFn Go.Proofs.Tryz.prog Go.Proofs.Tryz.f241 = some m241 := by kernel_rfl
theorem c247 : cFn Go.Proofs.Tryz.prog Go.Proofs.Tryz.f247 = some m247 := by kernel_rfl
theorem c253 : cFn Go.Proofs.Tryz.prog Go.Proofs.Tryz.f253 = some m253 := by kernel_rfl
end Ev

/- The table is what the program compiles to. -/
namespace Ev
open Go

theorem c7 : cFn Go.Proofs.Tryz.prog Go.Proofs.Tryz.f7 = some m7 := by kernel_rfl
theorem c13 : cFn Go.Proofs.Tryz.prog Go.Proofs.Tryz.f13 = some m13 := by kernel_rfl
theorem c19 : cFn Go.Proofs.Tryz.prog Go.Proofs.Tryz.f19 = some m19 := by kernel_rfl
theorem c25 : cFn Go.Proofs.Tryz.prog Go.Proofs.Tryz.f25 = some m25 := by kernel_rfl
theorem c31 : cFn Go.Proofs.Tryz.prog Go.Proofs.Tryz.f31 = some m31 := by kernel_rfl
theorem c37 : cFn Go.Proofs.Tryz.prog Go.Proofs.Tryz.f37 = some m37 := by kernel_rfl
theorem c43 : cFn Go.Proofs.Tryz.prog Go.Proofs.Tryz.f43 = some m43 := by kernel_rfl
theorem c49 : cFn Go.Proofs.Tryz.prog Go.Proofs.Tryz.f49 = some m49 := by kernel_rfl
theorem c55 : cFn Go.Proofs.Tryz.prog Go.Proofs.Tryz.f55 = some m55 := by kernel_rfl
theorem c61 : cFn Go.Proofs.Tryz.prog Go.Proofs.Tryz.f61 = some m61 := by kernel_rfl
theorem c67 : cFn Go.Proofs.Tryz.prog Go.Proofs.Tryz.f67 = some m67 := by kernel_rfl
theorem c73 : cFn Go.Proofs.Tryz.prog Go.Proofs.Tryz.f73 = some m73 := by kernel_rfl
theorem c79 : cFn Go.Proofs.Tryz.prog Go.Proofs.Tryz.f79 = some m79 := by kernel_rfl
theorem c85 : cFn Go.Proofs.Tryz.prog Go.Proofs.Tryz.f85 = some m85 := by kernel_rfl
theorem c91 : cFn Go.Proofs.Tryz.prog Go.Proofs.Tryz.f91 = some m91 := by kernel_rfl
theorem c97 : cFn Go.Proofs.Tryz.prog Go.Proofs.Tryz.f97 = some m97 := by kernel_rfl
theorem c103 : cFn Go.Proofs.Tryz.prog Go.Proofs.Tryz.f103 = some m103 := by kernel_rfl
theorem c109 : cFn Go.Proofs.Tryz.prog Go.Proofs.Tryz.f109 = some m109 := by kernel_rfl
theorem c115 : cFn Go.Proofs.Tryz.prog Go.Proofs.Tryz.f115 = some m115 := by kernel_rfl
theorem c121 : cFn Go.Proofs.Tryz.prog Go.Proofs.Tryz.f121 = some m121 := by kernel_rfl
theorem c127 : cFn Go.Proofs.Tryz.prog Go.Proofs.Tryz.f127 = some m127 := by kernel_rfl
theorem c133 : cFn Go.Proofs.Tryz.prog Go.Proofs.Tryz.f133 = some m133 := by kernel_rfl
theorem c140 : cFn Go.Proofs.Tryz.prog Go.Proofs.Tryz.f140 = some m140 := by kernel_rfl
theorem c146 : cFn Go.Proofs.Tryz.prog Go.Proofs.Tryz.f146 = some m146 := by kernel_rfl
theorem c152 : cFn Go.Proofs.Tryz.prog Go.Proofs.Tryz.f152 = some m152 := by kernel_rfl
theorem c158 : cFn Go.Proofs.Tryz.prog Go.Proofs.Tryz.f158 = some m158 := by kernel_rfl
theorem c164 : cFn Go.Proofs.Tryz.prog Go.Proofs.Tryz.f164 = some m164 := by kernel_rfl
theorem c170 : cFn Go.Proofs.Tryz.prog Go.Proofs.Tryz.f170 = some m170 := by kernel_rfl
theorem c176 : cFn Go.Proofs.Tryz.prog Go.Proofs.Tryz.f176 = some m176 := by kernel_rfl
theorem c182 : cFn Go.Proofs.Tryz.prog Go.Proofs.Tryz.f182 = some m182 := by kernel_rfl
theorem c188 : cFn Go.Proofs.Tryz.prog Go.Proofs.Tryz.f188 = some m188 := by kernel_rfl
theorem c194 : cFn Go.Proofs.Tryz.prog Go.Proofs.Tryz.f194 = some m194 := by kernel_rfl
theorem c200 : cFn Go.Proofs.Tryz.prog Go.Proofs.Tryz.f200 = some m200 := by kernel_rfl
theorem c206 : cFn Go.Proofs.Tryz.prog Go.Proofs.Tryz.f206 = some m206 := by kernel_rfl
theorem c212 : cFn Go.Proofs.Tryz.prog Go.Proofs.Tryz.f212 = some m212 := by kernel_rfl
theorem c218 : cFn Go.Proofs.Tryz.prog Go.Proofs.Tryz.f218 = some m218 := by kernel_rfl
theorem c224 : cFn Go.Proofs.Tryz.prog Go.Proofs.Tryz.f224 = some m224 := by kernel_rfl
theorem c230 : cFn Go.Proofs.Tryz.prog Go.Proofs.Tryz.f230 = some m230 := by kernel_rfl
theorem c236 : cFn Go.Proofs.Tryz.prog Go.Proofs.Tryz.f236 = some m236 := by kernel_rfl
theorem c242 : cFn Go.Proofs.Tryz.prog Go.Proofs.Tryz.f242 = some m242 := by kernel_rfl
theorem c248 : cFn Go.Proofs.Tryz.prog Go.Proofs.Tryz.f248 = some m248 := by kernel_rfl
theorem c255 : cFn Go.Proofs.Tryz.prog Go.Proofs.Tryz.f255 = some m255 := by kernel_rfl
end Ev

/- The table of compiled functions. -/
namespace Ev
open Go

def tb17 : List (Option MFn) := none :: none :: none :: none :: none :: none :: none :: none :: none :: none :: []
def tb16 : List (Option MFn) := some m256 :: none :: none :: none :: none :: none :: none :: none :: none :: none :: none :: none :: none :: none :: none :: none :: tb17
def tb15 : List (Option MFn) := some m240 :: some m241 :: some m242 :: some m243 :: some m244 :: some m245 :: some m246 :: some m247 :: some m248 :: some m249 :: some m250 :: some m251 :: some m252 :: some m253 :: none :: some m255 :: tb16
def tb14 : List (Option MFn) := some m224 :: some m225 :: some m226 :: some m227 :: some m228 :: some m229 :: some m230 :: some m231 :: some m232 :: some m233 :: some m234 :: some m235 :: some m236 :: some m237 :: some m238 :: some m239 :: tb15
def tb13 : List (Option MFn) := some m208 :: some m209 :: some m210 :: some m211 :: some m212 :: some m213 :: some m214 :: some m215 :: some m216 :: some m217 :: some m218 :: some m219 :: some m220 :: some m221 :: some m222 :: some m223 :: tb14
def tb12 : List (Option MFn) := some m192 :: some m193 :: some m194 :: some m195 :: some m196 :: some m197 :: some m198 :: some m199 :: some m200 :: some m201 :: some m202 :: some m203 :: some m204 :: some m205 :: some m206 :: some m207 :: tb13
def tb11 : List (Option MFn) := some m176 :: some m177 :: some m178 :: some m179 :: some m180 :: some m181 :: some m182 :: some m183 :: some m184 :: some m185 :: some m186 :: some m187 :: some m188 :: some m189 :: some m190 :: some m191 :: tb12
def tb10 : List (Option MFn) := some m160 :: some m161 :: some m162 :: some m163 :: some m164 :: some m165 :: some m166 :: some m167 :: some m168 :: some m169 :: some m170 :: some m171 :: some m172 :: some m173 :: some m174 :: some m175 :: tb11
def tb9 : List (Option MFn) := some m144 :: some m145 :: some m146 :: some m147 :: some m148 :: some m149 :: some m150 :: some m151 :: some m152 :: some m153 :: some m154 :: some m155 :: some m156 :: some m157 :: some m158 :: some m159 :: tb10
def tb8 : List (Option MFn) := some m128 :: some m129 :: some m130 :: some m131 :: some m132 :: some m133 :: some m134 :: some m135 :: some m136 :: some m137 :: none :: some m139 :: some m140 :: some m141 :: some m142 :: some m143 :: tb9
def tb7 : List (Option MFn) := some m112 :: some m113 :: some m114 :: some m115 :: some m116 :: some m117 :: some m118 :: some m119 :: some m120 :: some m121 :: some m122 :: some m123 :: some m124 :: some m125 :: some m126 :: some m127 :: tb8
def tb6 : List (Option MFn) := some m96 :: some m97 :: some m98 :: some m99 :: some m100 :: some m101 :: some m102 :: some m103 :: some m104 :: some m105 :: some m106 :: some m107 :: some m108 :: some m109 :: some m110 :: some m111 :: tb7
def tb5 : List (Option MFn) := some m80 :: some m81 :: some m82 :: some m83 :: some m84 :: some m85 :: some m86 :: some m87 :: some m88 :: some m89 :: some m90 :: some m91 :: some m92 :: some m93 :: some m94 :: some m95 :: tb6
def tb4 : List (Option MFn) := some m64 :: some m65 :: some m66 :: some m67 :: some m68 :: some m69 :: some m70 :: some m71 :: some m72 :: some m73 :: some m74 :: some m75 :: some m76 :: some m77 :: some m78 :: some m79 :: tb5
def tb3 : List (Option MFn) := some m48 :: some m49 :: some m50 :: some m51 :: some m52 :: some m53 :: some m54 :: some m55 :: some m56 :: some m57 :: some m58 :: some m59 :: some m60 :: some m61 :: some m62 :: some m63 :: tb4
def tb2 : List (Option MFn) := some m32 :: some m33 :: some m34 :: some m35 :: some m36 :: some m37 :: some m38 :: some m39 :: some m40 :: some m41 :: some m42 :: some m43 :: some m44 :: some m45 :: some m46 :: some m47 :: tb3
def tb1 : List (Option MFn) := some m16 :: some m17 :: some m18 :: some m19 :: some m20 :: some m21 :: some m22 :: some m23 :: some m24 :: some m25 :: some m26 :: some m27 :: some m28 :: some m29 :: some m30 :: some m31 :: tb2
def tb0 : List (Option MFn) := none :: none :: some m2 :: some m3 :: some m4 :: some m5 :: some m6 :: some m7 :: some m8 :: some m9 :: some m10 :: some m11 :: some m12 :: some m13 :: some m14 :: some m15 :: tb1
theorem ag17 : AllG Go.Proofs.Tryz.prog 272 tb17 := (.no (.no (.no (.no (.no (.no (.no (.no (.no (.no (AllG.nil 282)))))))))))
theorem ag16 : AllG Go.Proofs.Tryz.prog 256 tb16 := (.yes Go.Proofs.Tryz.func256 c256 (.no (.no (.no (.no (.no (.no (.no (.no (.no (.no (.no (.no (.no (.no (.no ag17))))))))))))))))
theorem ag15 : AllG Go.Proofs.Tryz.prog 240 tb15 := (.yes Go.Proofs.Tryz.func240 c240 (.yes Go.Proofs.Tryz.func241 c241 (.yes Go.Proofs.Tryz.func242 c242 (.yes Go.Proofs.Tryz.func243 c243 (.yes Go.Proofs.Tryz.func244 c244 (.yes Go.Proofs.Tryz.func245 c245 (.yes Go.Proofs.Tryz.func246 c246 (.yes Go.Proofs.Tryz.func247 c247 (.yes Go.Proofs.Tryz.func248 c248 (.yes Go.Proofs.Tryz.func249 c249 (.yes Go.Proofs.Tryz.func250 c250 (.yes Go.Proofs.Tryz.func251 c251 (.yes Go.Proofs.Tryz.func252 c252 (.yes Go.Proofs.Tryz.func253 c253 (.no (.yes Go.Proofs.Tryz.func255 c255 ag16))))))))))))))))
theorem ag14 : AllG Go.Proofs.Tryz.prog 224 tb14 := (.yes Go.Proofs.Tryz.func224 c224 (.yes Go.Proofs.Tryz.func225 c225 (.yes Go.Proofs.Tryz.func226 c226 (.yes Go.Proofs.Tryz.func227 c227 (.yes Go.Proofs.Tryz.func228 c228 (.yes Go.Proofs.Tryz.func229 c229 (.yes Go.Proofs.Tryz.func230 c230 (.yes Go.Proofs.Tryz.func231 c231 (.yes Go.Proofs.Tryz.func232 c232 (.yes Go.Proofs.Tryz.func233 c233 (.yes Go.Proofs.Tryz.func234 c234 (.yes Go.Proofs.Tryz.func235 c235 (.yes Go.Proofs.Tryz.func236 c236 (.yes Go.Proofs.Tryz.func237 c237 (.yes Go.Proofs.Tryz.func238 c238 (.yes Go.Proofs.Tryz.func239 c239 ag15))))))))))))))))
theorem ag13 : AllG Go.Proofs.Tryz.prog 208 tb13 := (.yes Go.Proofs.Tryz.func208 c208 (.yes Go.Proofs.Tryz.func209 c209 (.yes Go.Proofs.Tryz.func210 c210 (.yes Go.Proofs.Tryz.func211 c211 (.yes Go.Proofs.Tryz.func212 c212 (.yes Go.Proofs.Tryz.func213 c213 (.yes Go.Proofs.Tryz.func214 c214 (.yes Go.Proofs.Tryz.func215 c215 (.yes Go.Proofs.Tryz.func216 c216 (.yes Go.Proofs.Tryz.func217 c217 (.yes Go.Proofs.Tryz.func218 c218 (.yes Go.Proofs.Tryz.func219 c219 (.yes Go.Proofs.Tryz.func220 c220 (.yes Go.Proofs.Tryz.func221 c221 (.yes Go.Proofs.Tryz.func222 c222 (.yes Go.Proofs.Tryz.func223 c223 ag14))))))))))))))))
theorem ag12 : AllG Go.Proofs.Tryz.prog 192 tb12 := (.yes Go.Proofs.Tryz.func192 c192 (.yes Go.Proofs.Tryz.func193 c193 (.yes Go.Proofs.Tryz.func194 c194 (.yes Go.Proofs.Tryz.func195 c195 (.yes Go.Proofs.Tryz.func196 c196 (.yes Go.Proofs.Tryz.func197 c197 (.yes Go.Proofs.Tryz.func198 c198 (.yes Go.Proofs.Tryz.func199 c199 (.yes Go.Proofs.Tryz.func200 c200 (.yes Go.Proofs.Tryz.func201 c201 (.yes Go.Proofs.Tryz.func202 c202 (.yes Go.Proofs.Tryz.func203 c203 (.yes Go.Proofs.Tryz.func204 c204 (.yes Go.Proofs.Tryz.func205 c205 (.yes Go.Proofs.Tryz.func206 c206 (.yes Go.Proofs.Tryz.func207 c207 ag13))))))))))))))))
theorem ag11 : AllG Go.Proofs.Tryz.prog 176 tb11 := (.yes Go.Proofs.Tryz.func176 c176 (.yes Go.Proofs.Tryz.func177 c177 (.yes Go.Proofs.Tryz.func178 c178 (.yes Go.Proofs.Tryz.func179 c179 (.yes Go.Proofs.Tryz.func180 c180 (.yes Go.Proofs.Tryz.func181 c181 (.yes Go.Proofs.Tryz.func182 c182 (.yes Go.Proofs.Tryz.func183 c183 (.yes Go.Proofs.Tryz.func184 c184 (.yes Go.Proofs.Tryz.func185 c185 (.yes Go.Proofs.Tryz.func186 c186 (.yes Go.Proofs.Tryz.func187 c187 (.yes Go.Proofs.Tryz.func188 c188 (.yes Go.Proofs.Tryz.func189 c189 (.yes Go.Proofs.Tryz.func190 c190 (.yes Go.Proofs.Tryz.func191 c191 ag12))))))))))))))))
theorem ag10 : AllG Go.Proofs.Tryz.prog 160 tb10 := (.yes Go.Proofs.Tryz.func160 c160 (.yes Go.Proofs.Tryz.func161 c161 (.yes Go.Proofs.Tryz.func162 c162 (.yes Go.Proofs.Tryz.func163 c163 (.yes Go.Proofs.Tryz.func164 c164 (.yes Go.Proofs.Tryz.func165 c165 (.yes Go.Proofs.Tryz.func166 c166 (.yes Go.Proofs.Tryz.func167 c167 (.yes Go.Proofs.Tryz.func168 c168 (.yes Go.Proofs.Tryz.func169 c169 (.yes Go.Proofs.Tryz.func170 c170 (.yes Go.Proofs.Tryz.func171 c171 (.yes Go.Proofs.Tryz.func172 c172 (.yes Go.Proofs.Tryz.func173 c173 (.yes Go.Proofs.Tryz.func174 c174 (.yes Go.Proofs.Tryz.func175 c175 ag11))))))))))))))))
theorem ag9 : AllG Go.Proofs.Tryz.prog 144 tb9 := (.yes Go.Proofs.Tryz.func144 c144 (.yes Go.Proofs.Tryz.func145 c145 (.yes Go.Proofs.Tryz.func146 c146 (.yes Go.Proofs.Tryz.func147 c147 (.yes Go.Proofs.Tryz.func148 c148 (.yes Go.Proofs.Tryz.func149 c149 (.yes Go.Proofs.Tryz.func150 c150 (.yes Go.Proofs.Tryz.func151 c151 (.yes Go.Proofs.Tryz.func152 c152 (.yes Go.Proofs.Tryz.func153 c153 (.yes Go.Proofs.Tryz.func154 c154 (.yes Go.Proofs.Tryz.func155 c155 (.yes Go.Proofs.Tryz.func156 c156 (.yes Go.Proofs.Tryz.func157 c157 (.yes Go.Proofs.Tryz.func158 c158 (.yes Go.Proofs.Tryz.func159 c159 ag10))))))))))))))))
theorem ag8 : AllG Go.Proofs.Tryz.prog 128 tb8 := (.yes Go.Proofs.Tryz.func128 c128 (.yes Go.Proofs.Tryz.func129 c129 (.yes Go.Proofs.Tryz.func130 c130 (.yes Go.Proofs.Tryz.func131 c131 (.yes Go.Proofs.Tryz.func132 c132 (.yes Go.Proofs.Tryz.func133 c133 (.yes Go.Proofs.Tryz.func134 c134 (.yes Go.Proofs.Tryz.func135 c135 (.yes Go.Proofs.Tryz.func136 c136 (.yes Go.Proofs.Tryz.func137 c137 (.no (.yes Go.Proofs.Tryz.func139 c139 (.yes Go.Proofs.Tryz.func140 c140 (.yes Go.Proofs.Tryz.func141 c141 (.yes Go.Proofs.Tryz.func142 c142 (.yes Go.Proofs.Tryz.func143 c143 ag9))))))))))))))))
theorem ag7 : AllG Go.Proofs.Tryz.prog 112 tb7 := (.yes Go.Proofs.Tryz.func112 c112 (.yes Go.Proofs.Tryz.func113 c113 (.yes Go.Proofs.Tryz.func114 c114 (.yes Go.Proofs.Tryz.func115 c115 (.yes Go.Proofs.Tryz.func116 c116 (.yes Go.Proofs.Tryz.func117 c117 (.yes Go.Proofs.Tryz.func118 c118 (.yes Go.Proofs.Tryz.func119 c119 (.yes Go.Proofs.Tryz.func120 c120 (.yes Go.Proofs.Tryz.func121 c121 (.yes Go.Proofs.Tryz.func122 c122 (.yes Go.Proofs.Tryz.func123 c123 (.yes Go.Proofs.Tryz.func124 c124 (.yes Go.Proofs.Tryz.func125 c125 (.yes Go.Proofs.Tryz.func126 c126 (.yes Go.Proofs.Tryz.func127 c127 ag8))))))))))))))))
theorem ag6 : AllG Go.Proofs.Tryz.prog 96 tb6 := (.yes Go.Proofs.Tryz.func96 c96 (.yes Go.Proofs.Tryz.func97 c97 (.yes Go.Proofs.Tryz.func98 c98 (.yes Go.Proofs.Tryz.func99 c99 (.yes Go.Proofs.Tryz.func100 c100 (.yes Go.Proofs.Tryz.func101 c101 (.yes Go.Proofs.Tryz.func102 c102 (.yes Go.Proofs.Tryz.func103 c103 (.yes Go.Proofs.Tryz.func104 c104 (.yes Go.Proofs.Tryz.func105 c105 (.yes Go.Proofs.Tryz.func106 c106 (.yes Go.Proofs.Tryz.func107 c107 (.yes Go.Proofs.Tryz.func108 c108 (.yes Go.Proofs.Tryz.func109 c109 (.yes Go.Proofs.Tryz.func110 c110 (.yes Go.Proofs.Tryz.func111 c111 ag7))))))))))))))))
theorem ag5 : AllG Go.Proofs.Tryz.prog 80 tb5 := (.yes Go.Proofs.Tryz.func80 c80 (.yes Go.Proofs.Tryz.func81 c81 (.yes Go.Proofs.Tryz.func82 c82 (.yes Go.Proofs.Tryz.func83 c83 (.yes Go.Proofs.Tryz.func84 c84 (.yes Go.Proofs.Tryz.func85 c85 (.yes Go.Proofs.Tryz.func86 c86 (.yes Go.Proofs.Tryz.func87 c87 (.yes Go.Proofs.Tryz.func88 c88 (.yes Go.Proofs.Tryz.func89 c89 (.yes Go.Proofs.Tryz.func90 c90 (.yes Go.Proofs.Tryz.func91 c91 (.yes Go.Proofs.Tryz.func92 c92 (.yes Go.Proofs.Tryz.func93 c93 (.yes Go.Proofs.Tryz.func94 c94 (.yes Go.Proofs.Tryz.func95 c95 ag6))))))))))))))))
theorem ag4 : AllG Go.Proofs.Tryz.prog 64 tb4 := (.yes Go.Proofs.Tryz.func64 c64 (.yes Go.Proofs.Tryz.func65 c65 (.yes Go.Proofs.Tryz.func66 c66 (.yes Go.Proofs.Tryz.func67 c67 (.yes Go.Proofs.Tryz.func68 c68 (.yes Go.Proofs.Tryz.func69 c69 (.yes Go.Proofs.Tryz.func70 c70 (.yes Go.Proofs.Tryz.func71 c71 (.yes Go.Proofs.Tryz.func72 c72 (.yes Go.Proofs.Tryz.func73 c73 (.yes Go.Proofs.Tryz.func74 c74 (.yes Go.Proofs.Tryz.func75 c75 (.yes Go.Proofs.Tryz.func76 c76 (.yes Go.Proofs.Tryz.func77 c77 (.yes Go.Proofs.Tryz.func78 c78 (.yes Go.Proofs.Tryz.func79 c79 ag5))))))))))))))))
theorem ag3 : AllG Go.Proofs.Tryz.prog 48 tb3 := (.yes Go.Proofs.Tryz.func48 c48 (.yes Go.Proofs.Tryz.func49 c49 (.yes Go.Proofs.Tryz.func50 c50 (.yes Go.Proofs.Tryz.func51 c51 (.yes Go.Proofs.Tryz.func52 c52 (.yes Go.Proofs.Tryz.func53 c53 (.yes Go.Proofs.Tryz.func54 c54 (.yes Go.Proofs.Tryz.func55 c55 (.yes Go.Proofs.Tryz.func56 c56 (.yes Go.Proofs.Tryz.func57 c57 (.yes Go.Proofs.Tryz.func58 c58 (.yes Go.Proofs.Tryz.func59 c59 (.yes Go.Proofs.Tryz.func60 c60 (.yes Go.Proofs.Tryz.func61 c61 (.yes Go.Proofs.Tryz.func62 c62 (.yes Go.Proofs.Tryz.func63 c63 ag4))))))))))))))))
theorem ag2 : AllG Go.Proofs.Tryz.prog 32 tb2 := (.yes Go.Proofs.Tryz.func32 c32 (.yes Go.Proofs.Tryz.func33 c33 (.yes Go.Proofs.Tryz.func34 c34 (.yes Go.Proofs.Tryz.func35 c35 (.yes Go.Proofs.Tryz.func36 c36 (.yes Go.Proofs.Tryz.func37 c37 (.yes Go.Proofs.Tryz.func38 c38 (.yes Go.Proofs.Tryz.func39 c39 (.yes Go.Proofs.Tryz.func40 c40 (.yes Go.Proofs.Tryz.func41 c41 (.yes Go.Proofs.Tryz.func42 c42 (.yes Go.Proofs.Tryz.func43 c43 (.yes Go.Proofs.Tryz.func44 c44 (.yes Go.Proofs.Tryz.func45 c45 (.yes Go.Proofs.Tryz.func46 c46 (.yes Go.Proofs.Tryz.func47 c47 ag3))))))))))))))))
theorem ag1 : AllG Go.Proofs.Tryz.prog 16 tb1 := (.yes Go.Proofs.Tryz.func16 c16 (.yes Go.Proofs.Tryz.func17 c17 (.yes Go.Proofs.Tryz.func18 c18 (.yes Go.Proofs.Tryz.func19 c19 (.yes Go.Proofs.Tryz.func20 c20 (.yes Go.Proofs.Tryz.func21 c21 (.yes Go.Proofs.Tryz.func22 c22 (.yes Go.Proofs.Tryz.func23 c23 (.yes Go.Proofs.Tryz.func24 c24 (.yes Go.Proofs.Tryz.func25 c25 (.yes Go.Proofs.Tryz.func26 c26 (.yes Go.Proofs.Tryz.func27 c27 (.yes Go.Proofs.Tryz.func28 c28 (.yes Go.Proofs.Tryz.func29 c29 (.yes Go.Proofs.Tryz.func30 c30 (.yes Go.Proofs.Tryz.func31 c31 ag2))))))))))))))))
theorem ag0 : AllG Go.Proofs.Tryz.prog 0 tb0 := (.no (.no (.yes Go.Proofs.Tryz.func2 c2 (.yes Go.Proofs.Tryz.func3 c3 (.yes Go.Proofs.Tryz.func4 c4 (.yes Go.Proofs.Tryz.func5 c5 (.yes Go.Proofs.Tryz.func6 c6 (.yes Go.Proofs.Tryz.func7 c7 (.yes Go.Proofs.Tryz.func8 c8 (.yes Go.Proofs.Tryz.func9 c9 (.yes Go.Proofs.Tryz.func10 c10 (.yes Go.Proofs.Tryz.func11 c11 (.yes Go.Proofs.Tryz.func12 c12 (.yes Go.Proofs.Tryz.func13 c13 (.yes Go.Proofs.Tryz.func14 c14 (.yes Go.Proofs.Tryz.func15 c15 ag1))))))))))))))))

theorem mixedT : Go.Proofs.Tryz.prog.follows .mixedOrders = true := by kernel_rfl
def theG : Pg := pgOf tb0
theorem theGood : Good Go.Proofs.Tryz.prog theG := good_of ag0 mixedT
end Ev

/- Tl2: values, and what may be a heap. -/
namespace Ev
open Go
set_option maxRecDepth 100000

theorem e134 : Extern.findNext Go.Proofs.Tryz.f138 = none := by kernel_rfl
theorem e134' : Extern.find Go.Proofs.Tryz.f138 = some Extern.MathFloatBits.float64frombits := by kernel_rfl
def theG1 : Pg := pgExt tb0 138
theorem theGood1 : Good Go.Proofs.Tryz.prog theG1 := good_ext ag0 mixedT Go.Proofs.Tryz.func138 (by kernel_rfl) (by kernel_rfl) e134 e134'
def theG2 : Pg := theG1.all Go.Proofs.Tryz.prog
theorem theGood2 : Good Go.Proofs.Tryz.prog theG2 := good_all theGood1

theorem x2 (f : Nat) (h : Nat.beq f 138 = false) : extOf theG2 (.fn f) = none := by
  show (bif Nat.beq f 138 then some fromBits else none) = none
  rw [h]; rfl
theorem x3 (f : Nat) (h : (f == 138) = false) : extOf theG2 (.fn f) = none := x2 f (by
  cases hb : Nat.beq f 138 with
  | false => rfl
  | true => rw [Nat.eq_of_beq_eq_true hb] at h; simp at h)
theorem xfb : extOf theG2 (.fn 138) = some fromBits := rfl

theorem float_self (b : Nat) : binV .eql (.float .f64 b) (.float .f64 b) = some (.bool (decide (b % 9223372036854775808 ≤ 9218868437227405312))) := by
  have : binV .eql (.float .f64 b) (.float .f64 b) = some (.bool ((FloatKind.format .f64).order b b == some .eq)) := rfl
  rw [this, order_self]
  split <;> simp [*]

section
variable {N : Nat} {n : Int} {s : S}

theorem right_eq (h0 : 0 ≤ n) (h1 : n < 18446744073709551616) : Ew theG2 N (.fn 101) [.int .u64 n] none s = some (.ret (.bool (rightB n)), none, ⟨s.h, s.c + 9⟩) := by
  unfold rightB
  cases hb : decide (n % 9223372036854775808 ≤ 9218868437227405312) <;>
    simp only [Ew_f (show theG2.fn 101 = some m101 from rfl), m101, x2 101 rfl, x3, Nat.reduceBEq, runC.eq_1, runC.eq_2, runC.eq_3, runC.eq_4, runC.eq_5, rc_loop, runC.eq_7, runC.eq_8, runOps, runM, runCtl, tgtOf, ofRes, cls, evP, evR, evA, evS, loadV, storeV, adv, partV, cut, lookupV, find, keyEq, len_sl, len_st, eval, evals, evalO, nth, upd, updL, wantedM, F.put, List.replicate, List.cons_append, List.nil_append, List.append_nil, Array.toList_empty, List.length_cons, List.length_nil, Nat.reduceAdd, Nat.reduceSub, Nat.zero_add, againB, vopt_ptr, vopt_int, vopt_bool, vopt_slice, vopt_map, vopt_str, eqv_int, eqv_bool, eqv_str, eqv_ptrN, eqv_ptrS, eqv_ifN, eqv_ifNS, eqv_ifSN, eqv_mapN, eqv_mapS, eqv_fnN, eqv_fnSN, eqv_slS0, eqv_slN0, eqv_st, eqFs_nil, Option.isNone_some, Option.isNone_none, binV, ib_add, ib_sub, ib_eql, ib_neq, ib_lss, ib_leq, ib_gtr, ib_geq, un_not, bodyR, unwindR, resultsV, retV, bne_self_eq_false, beq_self_eq_true, Bool.bne_false, Bool.bne_true, Bool.true_bne, Bool.false_bne, beq_true, beq_false, Bool.true_beq, Bool.false_beq, Bool.not_not, if_true, if_false, cond_true, cond_false, cellsOf, fillV, partsV, single, Bool.false_eq_true, decide_true, decide_false, Bool.not_true, Bool.not_false, and_self, Nat.reduceMul, Nat.reduceEqDiff, Nat.reduceLT, Nat.reduceLeDiff, not_true_eq_false, not_false_eq_true, and_true, true_and, ite_true, ite_false, reduceIte, endR, free00, List.all_cons, List.all_nil, Bool.and_true, Bool.true_and, Bool.and_self, Bool.or_true, Bool.true_or, Bool.or_false, Bool.false_or, settleA, raisedA, Int.reduceLT, Int.reduceLE, Int.reduceBEq, Int.reduceBNe, Int.reduceEq, Int.reduceNe, evalO, bq_self, bq01, bq10, bq02, bq20, bq12, bq21, Tr.get_set, Nat.add_assoc, Nat.add_zero, Nat.add_left_cancel_iff, Nat.left_eq_add, Nat.add_eq_left, andNot_sign h0 h1, hb]

theorem refRight_all (h0 : 0 ≤ n) (h1 : n < 18446744073709551616) : ∃ k, ∀ s, Ew theG2 N (.fn 89) [.int .u64 n] none s = some (.ret (.bool (rightB n)), none, ⟨s.h, s.c + k⟩) := by
  have hm : decide (n.toNat % 9223372036854775808 ≤ 9218868437227405312) = decide (n % 9223372036854775808 ≤ 9218868437227405312) := by
    congr 1; apply propext; constructor <;> intro h <;> omega
  refine ⟨12, fun s => ?_⟩
  unfold rightB
  rw [Ew_f (show theG2.fn 89 = some m89 from rfl)]
  simp only [m89, xfb, fromBits, float_self, hm, x3, Nat.reduceBEq, runC.eq_1, runC.eq_2, runC.eq_3, runC.eq_4, runC.eq_5, rc_loop, runC.eq_7, runC.eq_8, runOps, runM, runCtl, tgtOf, ofRes, cls, evP, evR, evA, evS, loadV, storeV, adv, partV, cut, lookupV, find, keyEq, len_sl, len_st, eval, evals, evalO, nth, upd, updL, wantedM, F.put, List.replicate, List.cons_append, List.nil_append, List.append_nil, Array.toList_empty, List.length_cons, List.length_nil, Nat.reduceAdd, Nat.reduceSub, Nat.zero_add, againB, vopt_ptr, vopt_int, vopt_bool, vopt_slice, vopt_map, vopt_str, eqv_int, eqv_bool, eqv_str, eqv_ptrN, eqv_ptrS, eqv_ifN, eqv_ifNS, eqv_ifSN, eqv_mapN, eqv_mapS, eqv_fnN, eqv_fnSN, eqv_slS0, eqv_slN0, eqv_st, eqFs_nil, Option.isNone_some, Option.isNone_none, ib_add, ib_sub, ib_eql, ib_neq, ib_lss, ib_leq, ib_gtr, ib_geq, un_not, bodyR, unwindR, resultsV, retV, bne_self_eq_false, beq_self_eq_true, Bool.bne_false, Bool.bne_true, Bool.true_bne, Bool.false_bne, beq_true, beq_false, Bool.true_beq, Bool.false_beq, Bool.not_not, if_true, if_false, cond_true, cond_false, cellsOf, fillV, partsV, single, Bool.false_eq_true, decide_true, decide_false, Bool.not_true, Bool.not_false, and_self, Nat.reduceMul, Nat.reduceEqDiff, Nat.reduceLT, Nat.reduceLeDiff, not_true_eq_false, not_false_eq_true, and_true, true_and, ite_true, ite_false, reduceIte, endR, free00, List.all_cons, List.all_nil, Bool.and_true, Bool.true_and, Bool.and_self, Bool.or_true, Bool.true_or, Bool.or_false, Bool.false_or, settleA, raisedA, Int.reduceLT, Int.reduceLE, Int.reduceBEq, Int.reduceBNe, Int.reduceEq, Int.reduceNe, evalO, bq_self, bq01, bq10, bq02, bq20, bq12, bq21, Tr.get_set, Nat.add_assoc, Nat.add_zero, Nat.add_left_cancel_iff, Nat.left_eq_add, Nat.add_eq_left]
  cases hb : decide (n % 9223372036854775808 ≤ 9218868437227405312) <;>
    simp only [binV, hm, hb, x3, Nat.reduceBEq, runC.eq_1, runC.eq_2, runC.eq_3, runC.eq_4, runC.eq_5, rc_loop, runC.eq_7, runC.eq_8, runOps, runM, runCtl, tgtOf, ofRes, cls, evP, evR, evA, evS, loadV, storeV, adv, partV, cut, lookupV, find, keyEq, len_sl, len_st, eval, evals, evalO, nth, upd, updL, wantedM, F.put, List.replicate, List.cons_append, List.nil_append, List.append_nil, Array.toList_empty, List.length_cons, List.length_nil, Nat.reduceAdd, Nat.reduceSub, Nat.zero_add, againB, vopt_ptr, vopt_int, vopt_bool, vopt_slice, vopt_map, vopt_str, eqv_int, eqv_bool, eqv_str, eqv_ptrN, eqv_ptrS, eqv_ifN, eqv_ifNS, eqv_ifSN, eqv_mapN, eqv_mapS, eqv_fnN, eqv_fnSN, eqv_slS0, eqv_slN0, eqv_st, eqFs_nil, Option.isNone_some, Option.isNone_none, binV, ib_add, ib_sub, ib_eql, ib_neq, ib_lss, ib_leq, ib_gtr, ib_geq, un_not, bodyR, unwindR, resultsV, retV, bne_self_eq_false, beq_self_eq_true, Bool.bne_false, Bool.bne_true, Bool.true_bne, Bool.false_bne, beq_true, beq_false, Bool.true_beq, Bool.false_beq, Bool.not_not, if_true, if_false, cond_true, cond_false, cellsOf, fillV, partsV, single, Bool.false_eq_true, decide_true, decide_false, Bool.not_true, Bool.not_false, and_self, Nat.reduceMul, Nat.reduceEqDiff, Nat.reduceLT, Nat.reduceLeDiff, not_true_eq_false, not_false_eq_true, and_true, true_and, ite_true, ite_false, reduceIte, endR, free00, List.all_cons, List.all_nil, Bool.and_true, Bool.true_and, Bool.and_self, Bool.or_true, Bool.true_or, Bool.or_false, Bool.false_or, settleA, raisedA, Int.reduceLT, Int.reduceLE, Int.reduceBEq, Int.reduceBNe, Int.reduceEq, Int.reduceNe, evalO, bq_self, bq01, bq10, bq02, bq20, bq12, bq21, Tr.get_set, Nat.add_assoc, Nat.add_zero, Nat.add_left_cancel_iff, Nat.left_eq_add, Nat.add_eq_left]
end
end Ev

/- Tl2: what a nil engine answers; that it lives. -/
namespace Ev
open Go

section
variable {t a b c : Int} {s : S} {Q : Res → Option AMode → S → Prop}
theorem nil29 (hq : Q (.ret (.tuple #[.int .i64 0, .int .i64 1])) none s) : Cl theG2 ⟨.fn 29, [.pointer none, .int .i64 t], none, s, Q⟩ :=
  cl_pure theGood1 1000 60 (by kernel_rfl) rfl rfl rfl hq
theorem nil10 (hq : Q (.ret (.tuple #[.int .i64 0, .bool false])) none s) : Cl theG2 ⟨.fn 10, [.pointer none, .int .i64 t], none, s, Q⟩ :=
  cl_pure theGood1 1000 60 (by kernel_rfl) rfl rfl rfl hq
theorem nil30 (hq : Q (.ret (.tuple #[.agg #[.int .u8 0, .int .i64 0, .int .u64 0], .bool false])) none s) : Cl theG2 ⟨.fn 30, [.pointer none, .int .i64 t], none, s, Q⟩ :=
  cl_pure theGood1 1000 60 (by kernel_rfl) rfl rfl rfl hq
theorem nil18 (hq : Q (.ret (.int .i64 1)) none s) : Cl theG2 ⟨.fn 18, [.pointer none, .int .i64 t, .agg #[.int .u8 a, .int .i64 b, .int .u64 c]], none, s, Q⟩ :=
  cl_pure theGood1 1000 60 (by kernel_rfl) rfl rfl rfl hq
theorem nil33 (hq : Q (.ret (.agg #[.bool false, .int .u64 0, .bool false, .int .i64 0, .bool false, .int .u8 0, .int .i64 1])) none s) : Cl theG2 ⟨.fn 33, [.pointer none, .int .i64 t], none, s, Q⟩ :=
  cl_pure theGood1 1000 60 (by kernel_rfl) rfl rfl rfl hq
theorem nil12 (hq : Q (.ret (.int .i64 1)) none s) : Cl theG2 ⟨.fn 12, [.pointer none, .int .i64 t], none, s, Q⟩ :=
  cl_pure theGood1 1000 60 (by kernel_rfl) rfl rfl rfl hq
theorem nil11 (hq : Q (.ret (.slice none 0 0)) none s) : Cl theG2 ⟨.fn 11, [.pointer none], none, s, Q⟩ :=
  cl_pure theGood1 1000 60 (by kernel_rfl) rfl rfl rfl hq
theorem nil20 (hq : Q (.ret (.slice none 0 0)) none s) : Cl theG2 ⟨.fn 20, [.pointer none], none, s, Q⟩ :=
  cl_pure theGood1 1000 60 (by kernel_rfl) rfl rfl rfl hq
theorem nil22 (hq : Q (.ret (.slice none 0 0)) none s) : Cl theG2 ⟨.fn 22, [.pointer none], none, s, Q⟩ :=
  cl_pure theGood1 1000 60 (by kernel_rfl) rfl rfl rfl hq
theorem nil14 (hq : Q (.ret (.slice none 0 0)) none s) : Cl theG2 ⟨.fn 14, [.pointer none], none, s, Q⟩ :=
  cl_pure theGood1 1000 60 (by kernel_rfl) rfl rfl rfl hq
theorem nil17 (hq : Q (.ret (.int .u8 0)) none s) : Cl theG2 ⟨.fn 17, [.pointer none, .int .i64 t], none, s, Q⟩ :=
  cl_pure theGood1 1000 60 (by kernel_rfl) rfl rfl rfl hq
theorem nil34 (hq : Q (.ret (.slice none 0 0)) none s) : Cl theG2 ⟨.fn 34, [.pointer none, .int .i64 t], none, s, Q⟩ :=
  cl_pure theGood1 1000 60 (by kernel_rfl) rfl rfl rfl hq
theorem nil35 (hq : Q (.ret (.slice none 0 0)) none s) : Cl theG2 ⟨.fn 35, [.pointer none, .int .i64 t], none, s, Q⟩ :=
  cl_pure theGood1 1000 60 (by kernel_rfl) rfl rfl rfl hq
theorem nil15 (hq : Q (.ret (.bool false)) none s) : Cl theG2 ⟨.fn 15, [.pointer none, .int .i64 t], none, s, Q⟩ :=
  cl_pure theGood1 1000 60 (by kernel_rfl) rfl rfl rfl hq
theorem nil36 (hq : Q (.ret (.bool false)) none s) : Cl theG2 ⟨.fn 36, [.pointer none, .int .i64 t], none, s, Q⟩ :=
  cl_pure theGood1 1000 60 (by kernel_rfl) rfl rfl rfl hq
theorem nil37 (hq : Q (.ret (.int .u64 0)) none s) : Cl theG2 ⟨.fn 37, [.pointer none], none, s, Q⟩ :=
  cl_pure theGood1 1000 60 (by kernel_rfl) rfl rfl rfl hq
theorem nil25 (hq : Q (.ret (.pointer none)) none s) : Cl theG2 ⟨.fn 25, [.pointer none], none, s, Q⟩ :=
  cl_pure theGood1 1000 60 (by kernel_rfl) rfl rfl rfl hq
theorem nil9 (hq : Q (.ret (.bool true)) none s) : Cl theG2 ⟨.fn 9, [], none, s, Q⟩ :=
  cl_pure theGood1 1000 60 (by kernel_rfl) rfl rfl rfl hq
end

/-- What is known. -/
def known (f : FuncId) (as_ : List Value) : Option Value := match f, as_ with
  | 29, [.pointer none, .int .i64 _] => some (.tuple #[.int .i64 0, .int .i64 1])
  | 10, [.pointer none, .int .i64 _] => some (.tuple #[.int .i64 0, .bool false])
  | 30, [.pointer none, .int .i64 _] => some (.tuple #[.agg #[.int .u8 0, .int .i64 0, .int .u64 0], .bool false])
  | 18, [.pointer none, .int .i64 _, .agg ⟨[.int .u8 _, .int .i64 _, .int .u64 _]⟩] => some (.int .i64 1)
  | 33, [.pointer none, .int .i64 _] => some (.agg #[.bool false, .int .u64 0, .bool false, .int .i64 0, .bool false, .int .u8 0, .int .i64 1])
  | 12, [.pointer none, .int .i64 _] => some (.int .i64 1)
  | 11, [.pointer none] => some (.slice none 0 0)
  | 20, [.pointer none] => some (.slice none 0 0)
  | 22, [.pointer none] => some (.slice none 0 0)
  | 14, [.pointer none] => some (.slice none 0 0)
  | 17, [.pointer none, .int .i64 _] => some (.int .u8 0)
  | 34, [.pointer none, .int .i64 _] => some (.slice none 0 0)
  | 35, [.pointer none, .int .i64 _] => some (.slice none 0 0)
  | 15, [.pointer none, .int .i64 _] => some (.bool false)
  | 36, [.pointer none, .int .i64 _] => some (.bool false)
  | 37, [.pointer none] => some (.int .u64 0)
  | 25, [.pointer none] => some (.pointer none)
  | 9, [] => some (.bool true)
  | _, _ => none

theorem known_ok (f : FuncId) (as_ : List Value) (v : Value) (h : known f as_ = some v) (s : S) (Q : Res → Option AMode → S → Prop) (hq : Q (.ret v) none s) : Cl theG2 ⟨.fn f, as_, none, s, Q⟩ := by
  unfold known at h
  split at h <;> first | (cases h; done) | skip
  · simp only [Option.some.injEq] at h; subst h; exact nil29 hq
  · simp only [Option.some.injEq] at h; subst h; exact nil10 hq
  · simp only [Option.some.injEq] at h; subst h; exact nil30 hq
  · simp only [Option.some.injEq] at h; subst h; exact nil18 hq
  · simp only [Option.some.injEq] at h; subst h; exact nil33 hq
  · simp only [Option.some.injEq] at h; subst h; exact nil12 hq
  · simp only [Option.some.injEq] at h; subst h; exact nil11 hq
  · simp only [Option.some.injEq] at h; subst h; exact nil20 hq
  · simp only [Option.some.injEq] at h; subst h; exact nil22 hq
  · simp only [Option.some.injEq] at h; subst h; exact nil14 hq
  · simp only [Option.some.injEq] at h; subst h; exact nil17 hq
  · simp only [Option.some.injEq] at h; subst h; exact nil34 hq
  · simp only [Option.some.injEq] at h; subst h; exact nil35 hq
  · simp only [Option.some.injEq] at h; subst h; exact nil15 hq
  · simp only [Option.some.injEq] at h; subst h; exact nil36 hq
  · simp only [Option.some.injEq] at h; subst h; exact nil37 hq
  · simp only [Option.some.injEq] at h; subst h; exact nil25 hq
  · simp only [Option.some.injEq] at h; subst h; exact nil9 hq

section
variable {N : Nat} {t a b c : Int} {s : S}
theorem kn29 : Ek theG2 N known (.fn 29) [.pointer none, .int .i64 t] none s = some (.ret (.tuple #[.int .i64 0, .int .i64 1]), none, s) := Ek_known rfl s
theorem kn10 : Ek theG2 N known (.fn 10) [.pointer none, .int .i64 t] none s = some (.ret (.tuple #[.int .i64 0, .bool false]), none, s) := Ek_known rfl s
theorem kn30 : Ek theG2 N known (.fn 30) [.pointer none, .int .i64 t] none s = some (.ret (.tuple #[.agg #[.int .u8 0, .int .i64 0, .int .u64 0], .bool false]), none, s) := Ek_known rfl s
theorem kn18 : Ek theG2 N known (.fn 18) [.pointer none, .int .i64 t, .agg #[.int .u8 a, .int .i64 b, .int .u64 c]] none s = some (.ret (.int .i64 1), none, s) := Ek_known rfl s
theorem kn33 : Ek theG2 N known (.fn 33) [.pointer none, .int .i64 t] none s = some (.ret (.agg #[.bool false, .int .u64 0, .bool false, .int .i64 0, .bool false, .int .u8 0, .int .i64 1]), none, s) := Ek_known rfl s
theorem kn12 : Ek theG2 N known (.fn 12) [.pointer none, .int .i64 t] none s = some (.ret (.int .i64 1), none, s) := Ek_known rfl s
theorem kn11 : Ek theG2 N known (.fn 11) [.pointer none] none s = some (.ret (.slice none 0 0), none, s) := Ek_known rfl s
theorem kn20 : Ek theG2 N known (.fn 20) [.pointer none] none s = some (.ret (.slice none 0 0), none, s) := Ek_known rfl s
theorem kn22 : Ek theG2 N known (.fn 22) [.pointer none] none s = some (.ret (.slice none 0 0), none, s) := Ek_known rfl s
theorem kn14 : Ek theG2 N known (.fn 14) [.pointer none] none s = some (.ret (.slice none 0 0), none, s) := Ek_known rfl s
theorem kn17 : Ek theG2 N known (.fn 17) [.pointer none, .int .i64 t] none s = some (.ret (.int .u8 0), none, s) := Ek_known rfl s
theorem kn34 : Ek theG2 N known (.fn 34) [.pointer none, .int .i64 t] none s = some (.ret (.slice none 0 0), none, s) := Ek_known rfl s
theorem kn35 : Ek theG2 N known (.fn 35) [.pointer none, .int .i64 t] none s = some (.ret (.slice none 0 0), none, s) := Ek_known rfl s
theorem kn15 : Ek theG2 N known (.fn 15) [.pointer none, .int .i64 t] none s = some (.ret (.bool false), none, s) := Ek_known rfl s
theorem kn36 : Ek theG2 N known (.fn 36) [.pointer none, .int .i64 t] none s = some (.ret (.bool false), none, s) := Ek_known rfl s
theorem kn37 : Ek theG2 N known (.fn 37) [.pointer none] none s = some (.ret (.int .u64 0), none, s) := Ek_known rfl s
theorem kn25 : Ek theG2 N known (.fn 25) [.pointer none] none s = some (.ret (.pointer none), none, s) := Ek_known rfl s
theorem kn9 : Ek theG2 N known (.fn 9) [] none s = some (.ret (.bool true), none, s) := Ek_known rfl s
theorem ko31 {as_ : List Value} : Ek theG2 N known (.fn 31) as_ none s = Ew theG2 N (.fn 31) as_ none s := Ek_other (by cases as_ <;> rfl) s
theorem ko32 {as_ : List Value} : Ek theG2 N known (.fn 32) as_ none s = Ew theG2 N (.fn 32) as_ none s := Ek_other (by cases as_ <;> rfl) s
theorem ko38 {as_ : List Value} : Ek theG2 N known (.fn 38) as_ none s = Ew theG2 N (.fn 38) as_ none s := Ek_other (by cases as_ <;> rfl) s
end
end Ev

/- Tl2: what may be a heap, tables of stripes, New. -/
namespace Ev
open Go
set_option maxRecDepth 100000

section
variable {b o n cap : Nat} {f : Nat → Int} {s : S} {sp : Option Nat}

theorem heaped_no {a : Option Addr} (h : n = 0 ∨ 12 < n) : ∃ c', s.c ≤ c' ∧ Ew theG2 10000 (.fn 31) [.slice a n cap] none s = some (.ret (.bool false), none, ⟨s.h, c'⟩) := by
  rcases h with rfl | h
  · refine ⟨s.c + 10, by omega, ?_⟩
    simp only [Ew_f (show theG2.fn 31 = some m31 from rfl), m31, x2 31 rfl, x3, Nat.reduceBEq, runC.eq_1, runC.eq_2, runC.eq_3, runC.eq_4, runC.eq_5, rc_loop, runC.eq_7, runC.eq_8, runOps, runM, runCtl, tgtOf, ofRes, cls, evP, evR, evA, evS, loadV, storeV, adv, partV, cut, lookupV, find, keyEq, len_sl, len_st, eval, evals, evalO, nth, upd, updL, wantedM, F.put, List.replicate, List.cons_append, List.nil_append, List.append_nil, Array.toList_empty, List.length_cons, List.length_nil, Nat.reduceAdd, Nat.reduceSub, Nat.zero_add, againB, vopt_ptr, vopt_int, vopt_bool, vopt_slice, vopt_map, vopt_str, eqv_int, eqv_bool, eqv_str, eqv_ptrN, eqv_ptrS, eqv_ifN, eqv_ifNS, eqv_ifSN, eqv_mapN, eqv_mapS, eqv_fnN, eqv_fnSN, eqv_slS0, eqv_slN0, eqv_st, eqFs_nil, Option.isNone_some, Option.isNone_none, binV, ib_add, ib_sub, ib_eql, ib_neq, ib_lss, ib_leq, ib_gtr, ib_geq, un_not, bodyR, unwindR, resultsV, retV, bne_self_eq_false, beq_self_eq_true, Bool.bne_false, Bool.bne_true, Bool.true_bne, Bool.false_bne, beq_true, beq_false, Bool.true_beq, Bool.false_beq, Bool.not_not, if_true, if_false, cond_true, cond_false, cellsOf, fillV, partsV, single, Bool.false_eq_true, decide_true, decide_false, Bool.not_true, Bool.not_false, and_self, Nat.reduceMul, Nat.reduceEqDiff, Nat.reduceLT, Nat.reduceLeDiff, not_true_eq_false, not_false_eq_true, and_true, true_and, ite_true, ite_false, reduceIte, endR, free00, List.all_cons, List.all_nil, Bool.and_true, Bool.true_and, Bool.and_self, Bool.or_true, Bool.true_or, Bool.or_false, Bool.false_or, settleA, raisedA, Int.reduceLT, Int.reduceLE, Int.reduceBEq, Int.reduceBNe, Int.reduceEq, Int.reduceNe, evalO, bq_self, bq01, bq10, bq02, bq20, bq12, bq21, Tr.get_set, Nat.add_assoc, Nat.add_zero, Nat.add_left_cancel_iff, Nat.left_eq_add, Nat.add_eq_left, lenOfV, firstV, appendV, nc0, nc1, nc2, nc3, nc4, nc5, blt_zero, blt_unk, ble_zero, blt_ro, Nat.mul_one, Nat.zero_mul, List.length_map]
  · refine ⟨s.c + 10, by omega, ?_⟩
    have e1 : decide ((n : Int) < 1) = false := by simp; omega
    have e2 : decide (12 < (n : Int)) = true := by simp; omega
    simp only [Ew_f (show theG2.fn 31 = some m31 from rfl), m31, x2 31 rfl, x3, Nat.reduceBEq, runC.eq_1, runC.eq_2, runC.eq_3, runC.eq_4, runC.eq_5, rc_loop, runC.eq_7, runC.eq_8, runOps, runM, runCtl, tgtOf, ofRes, cls, evP, evR, evA, evS, loadV, storeV, adv, partV, cut, lookupV, find, keyEq, len_sl, len_st, eval, evals, evalO, nth, upd, updL, wantedM, F.put, List.replicate, List.cons_append, List.nil_append, List.append_nil, Array.toList_empty, List.length_cons, List.length_nil, Nat.reduceAdd, Nat.reduceSub, Nat.zero_add, againB, vopt_ptr, vopt_int, vopt_bool, vopt_slice, vopt_map, vopt_str, eqv_int, eqv_bool, eqv_str, eqv_ptrN, eqv_ptrS, eqv_ifN, eqv_ifNS, eqv_ifSN, eqv_mapN, eqv_mapS, eqv_fnN, eqv_fnSN, eqv_slS0, eqv_slN0, eqv_st, eqFs_nil, Option.isNone_some, Option.isNone_none, binV, ib_add, ib_sub, ib_eql, ib_neq, ib_lss, ib_leq, ib_gtr, ib_geq, un_not, bodyR, unwindR, resultsV, retV, bne_self_eq_false, beq_self_eq_true, Bool.bne_false, Bool.bne_true, Bool.true_bne, Bool.false_bne, beq_true, beq_false, Bool.true_beq, Bool.false_beq, Bool.not_not, if_true, if_false, cond_true, cond_false, cellsOf, fillV, partsV, single, Bool.false_eq_true, decide_true, decide_false, Bool.not_true, Bool.not_false, and_self, Nat.reduceMul, Nat.reduceEqDiff, Nat.reduceLT, Nat.reduceLeDiff, not_true_eq_false, not_false_eq_true, and_true, true_and, ite_true, ite_false, reduceIte, endR, free00, List.all_cons, List.all_nil, Bool.and_true, Bool.true_and, Bool.and_self, Bool.or_true, Bool.true_or, Bool.or_false, Bool.false_or, settleA, raisedA, Int.reduceLT, Int.reduceLE, Int.reduceBEq, Int.reduceBNe, Int.reduceEq, Int.reduceNe, evalO, bq_self, bq01, bq10, bq02, bq20, bq12, bq21, Tr.get_set, Nat.add_assoc, Nat.add_zero, Nat.add_left_cancel_iff, Nat.left_eq_add, Nat.add_eq_left, e1, e2]

theorem heaped_ok (hv : Vals s.h b o n f) (hn : n ≤ 12) (h1 : 1 ≤ n) :
    ∃ c', s.c ≤ c' ∧ Ew theG2 10000 (.fn 31) [.slice (some ⟨b, o, sp⟩) n cap] none s = some (.ret (.bool (allRight f n)), none, ⟨s.h, c'⟩) := by
  have e1 : decide ((n : Int) < 1) = false := by simp; omega
  have e2 : decide (12 < (n : Int)) = false := by simp; omega
  simp only [Ew_f (show theG2.fn 31 = some m31 from rfl), m31, x2 31 rfl, x3, Nat.reduceBEq, runC.eq_1, runC.eq_2, runC.eq_3, runC.eq_4, runC.eq_5, rc_loop, runC.eq_7, runC.eq_8, runOps, runM, runCtl, tgtOf, ofRes, cls, evP, evR, evA, evS, loadV, storeV, adv, partV, cut, lookupV, find, keyEq, len_sl, len_st, eval, evals, evalO, nth, upd, updL, wantedM, F.put, List.replicate, List.cons_append, List.nil_append, List.append_nil, Array.toList_empty, List.length_cons, List.length_nil, Nat.reduceAdd, Nat.reduceSub, Nat.zero_add, againB, vopt_ptr, vopt_int, vopt_bool, vopt_slice, vopt_map, vopt_str, eqv_int, eqv_bool, eqv_str, eqv_ptrN, eqv_ptrS, eqv_ifN, eqv_ifNS, eqv_ifSN, eqv_mapN, eqv_mapS, eqv_fnN, eqv_fnSN, eqv_slS0, eqv_slN0, eqv_st, eqFs_nil, Option.isNone_some, Option.isNone_none, binV, ib_add, ib_sub, ib_eql, ib_neq, ib_lss, ib_leq, ib_gtr, ib_geq, un_not, bodyR, unwindR, resultsV, retV, bne_self_eq_false, beq_self_eq_true, Bool.bne_false, Bool.bne_true, Bool.true_bne, Bool.false_bne, beq_true, beq_false, Bool.true_beq, Bool.false_beq, Bool.not_not, if_true, if_false, cond_true, cond_false, cellsOf, fillV, partsV, single, Bool.false_eq_true, decide_true, decide_false, Bool.not_true, Bool.not_false, and_self, Nat.reduceMul, Nat.reduceEqDiff, Nat.reduceLT, Nat.reduceLeDiff, not_true_eq_false, not_false_eq_true, and_true, true_and, ite_true, ite_false, reduceIte, endR, free00, List.all_cons, List.all_nil, Bool.and_true, Bool.true_and, Bool.and_self, Bool.or_true, Bool.true_or, Bool.or_false, Bool.false_or, settleA, raisedA, Int.reduceLT, Int.reduceLE, Int.reduceBEq, Int.reduceBNe, Int.reduceEq, Int.reduceNe, evalO, bq_self, bq01, bq10, bq02, bq20, bq12, bq21, Tr.get_set, Nat.add_assoc, Nat.add_zero, Nat.add_left_cancel_iff, Nat.left_eq_add, Nat.add_eq_left, e1, e2]
  generalize hz : Loop _ _ _ _ _ _ = z
  obtain ⟨x, ⟨t, d, m, r⟩, ⟨h', c'⟩, rfl, hx, hD⟩ := loop_of hz
    (fun k fr s' => ∃ j : Nat, j + k = n ∧ fr.t.length = 24 ∧ nth fr.t 0 = some (.slice (some ⟨b, o, sp⟩) n cap) ∧ nth fr.t 3 = some (.int .i64 (j : Nat)) ∧ fr.d = [] ∧ fr.m = none ∧ fr.r = none ∧ s'.h = s.h ∧ s.c ≤ s'.c ∧ allRight f j = true)
    (fun x fr s' => fr.t.length = 24 ∧ fr.d = [] ∧ fr.m = none ∧ fr.r = none ∧ s'.h = s.h ∧ s.c ≤ s'.c ∧ ((x = .exit 0 ∧ allRight f n = true) ∨ (x = .ret ∧ nth fr.t 2 = some (.bool false) ∧ allRight f n = false)))
    n (by omega) ⟨0, by omega, rfl, rfl, rfl, rfl, rfl, rfl, rfl, by simp only []; omega, rfl⟩ (by
      clear hz
      rintro k ⟨t, d, m, r⟩ ⟨h, c⟩ ⟨j, hj, hl, n0, n3, hd, hm, hr, hh, hc, ha⟩
      simp only at hl n0 n3 hd hm hr hh hc
      subst hd; subst hm; subst hr; subst hh
      by_cases hlt : j < n
      · have e3 : decide ((j : Int) < (n : Nat)) = true := by simp; omega
        have e4 : (0 : Int) ≤ (j : Nat) ∧ ((j : Nat) : Int) < (n : Nat) := by omega
        obtain ⟨cc, ty, lo, hi, q1, q2⟩ := hv.at_
        have q3 := q2 j hlt
        have ew := wrap_nat (j := j) (by omega)
        obtain ⟨kk, hk⟩ : ∃ kk, ∀ s, Ew theG2 10000 (.fn 89) [.int .u64 (f j)] none s = some (.ret (.bool (rightB (f j))), none, ⟨s.h, s.c + kk⟩) := refRight_all (hv.lo j hlt) (hv.hi j hlt)
        cases hb : rightB (f j)
        · simp only [x3, Nat.reduceBEq, runC.eq_1, runC.eq_2, runC.eq_3, runC.eq_4, runC.eq_5, rc_loop, runC.eq_7, runC.eq_8, runOps, runM, runCtl, tgtOf, ofRes, cls, evP, evR, evA, evS, loadV, storeV, adv, partV, cut, lookupV, find, keyEq, len_sl, len_st, eval, evals, evalO, nth, upd, updL, wantedM, F.put, List.replicate, List.cons_append, List.nil_append, List.append_nil, Array.toList_empty, List.length_cons, List.length_nil, Nat.reduceAdd, Nat.reduceSub, Nat.zero_add, againB, vopt_ptr, vopt_int, vopt_bool, vopt_slice, vopt_map, vopt_str, eqv_int, eqv_bool, eqv_str, eqv_ptrN, eqv_ptrS, eqv_ifN, eqv_ifNS, eqv_ifSN, eqv_mapN, eqv_mapS, eqv_fnN, eqv_fnSN, eqv_slS0, eqv_slN0, eqv_st, eqFs_nil, Option.isNone_some, Option.isNone_none, binV, ib_add, ib_sub, ib_eql, ib_neq, ib_lss, ib_leq, ib_gtr, ib_geq, un_not, bodyR, unwindR, resultsV, retV, bne_self_eq_false, beq_self_eq_true, Bool.bne_false, Bool.bne_true, Bool.true_bne, Bool.false_bne, beq_true, beq_false, Bool.true_beq, Bool.false_beq, Bool.not_not, if_true, if_false, cond_true, cond_false, cellsOf, fillV, partsV, single, Bool.false_eq_true, decide_true, decide_false, Bool.not_true, Bool.not_false, and_self, Nat.reduceMul, Nat.reduceEqDiff, Nat.reduceLT, Nat.reduceLeDiff, not_true_eq_false, not_false_eq_true, and_true, true_and, ite_true, ite_false, reduceIte, endR, free00, List.all_cons, List.all_nil, Bool.and_true, Bool.true_and, Bool.and_self, Bool.or_true, Bool.true_or, Bool.or_false, Bool.false_or, settleA, raisedA, Int.reduceLT, Int.reduceLE, Int.reduceBEq, Int.reduceBNe, Int.reduceEq, Int.reduceNe, evalO, bq_self, bq01, bq10, bq02, bq20, bq12, bq21, Tr.get_set, Nat.add_assoc, Nat.add_zero, Nat.add_left_cancel_iff, Nat.left_eq_add, Nat.add_eq_left, nth_upd, length_upd, and_self, and_true, true_and, false_and, and_false, hl, n0, n3, e3, e4, q1, q3, Int.toNat_natCast, Nat.mul_one, x2 89 rfl, hk, hb]
          exact ⟨_, _, _, rfl, .inr ⟨by simp, by simp only [length_upd, hl], rfl, rfl, rfl, rfl, Nat.le_trans hc (Nat.le_add_right _ _), .inr ⟨rfl, by simp only [nth_upd, length_upd, and_self, and_true, true_and, false_and, and_false, if_true, if_false, Nat.reduceEqDiff, hl, Nat.reduceLT], allRight_false hb hlt⟩⟩⟩
        · simp only [x3, Nat.reduceBEq, runC.eq_1, runC.eq_2, runC.eq_3, runC.eq_4, runC.eq_5, rc_loop, runC.eq_7, runC.eq_8, runOps, runM, runCtl, tgtOf, ofRes, cls, evP, evR, evA, evS, loadV, storeV, adv, partV, cut, lookupV, find, keyEq, len_sl, len_st, eval, evals, evalO, nth, upd, updL, wantedM, F.put, List.replicate, List.cons_append, List.nil_append, List.append_nil, Array.toList_empty, List.length_cons, List.length_nil, Nat.reduceAdd, Nat.reduceSub, Nat.zero_add, againB, vopt_ptr, vopt_int, vopt_bool, vopt_slice, vopt_map, vopt_str, eqv_int, eqv_bool, eqv_str, eqv_ptrN, eqv_ptrS, eqv_ifN, eqv_ifNS, eqv_ifSN, eqv_mapN, eqv_mapS, eqv_fnN, eqv_fnSN, eqv_slS0, eqv_slN0, eqv_st, eqFs_nil, Option.isNone_some, Option.isNone_none, binV, ib_add, ib_sub, ib_eql, ib_neq, ib_lss, ib_leq, ib_gtr, ib_geq, un_not, bodyR, unwindR, resultsV, retV, bne_self_eq_false, beq_self_eq_true, Bool.bne_false, Bool.bne_true, Bool.true_bne, Bool.false_bne, beq_true, beq_false, Bool.true_beq, Bool.false_beq, Bool.not_not, if_true, if_false, cond_true, cond_false, cellsOf, fillV, partsV, single, Bool.false_eq_true, decide_true, decide_false, Bool.not_true, Bool.not_false, and_self, Nat.reduceMul, Nat.reduceEqDiff, Nat.reduceLT, Nat.reduceLeDiff, not_true_eq_false, not_false_eq_true, and_true, true_and, ite_true, ite_false, reduceIte, endR, free00, List.all_cons, List.all_nil, Bool.and_true, Bool.true_and, Bool.and_self, Bool.or_true, Bool.true_or, Bool.or_false, Bool.false_or, settleA, raisedA, Int.reduceLT, Int.reduceLE, Int.reduceBEq, Int.reduceBNe, Int.reduceEq, Int.reduceNe, evalO, bq_self, bq01, bq10, bq02, bq20, bq12, bq21, Tr.get_set, Nat.add_assoc, Nat.add_zero, Nat.add_left_cancel_iff, Nat.left_eq_add, Nat.add_eq_left, nth_upd, length_upd, and_self, and_true, true_and, false_and, and_false, hl, n0, n3, e3, e4, q1, q3, Int.toNat_natCast, Nat.mul_one, x2 89 rfl, hk, hb, ew]
          exact ⟨_, _, _, rfl, .inl ⟨rfl, n - (j + 1), by omega, j + 1, by omega, by simp only [length_upd, hl], by simp only [nth_upd, length_upd, and_self, and_true, true_and, false_and, and_false, if_true, if_false, Nat.reduceEqDiff, hl, n0, Nat.reduceLT], by simp only [nth_upd, length_upd, and_self, and_true, true_and, false_and, and_false, if_true, if_false, Nat.reduceEqDiff, hl, Nat.reduceLT], rfl, rfl, rfl, rfl, Nat.le_trans hc (Nat.le_add_right _ _), by simp [allRight, ha, hb]⟩⟩
      · have e3 : decide ((j : Int) < (n : Nat)) = false := by simp; omega
        have ej : j = n := by omega
        subst ej
        simp only [x3, Nat.reduceBEq, runC.eq_1, runC.eq_2, runC.eq_3, runC.eq_4, runC.eq_5, rc_loop, runC.eq_7, runC.eq_8, runOps, runM, runCtl, tgtOf, ofRes, cls, evP, evR, evA, evS, loadV, storeV, adv, partV, cut, lookupV, find, keyEq, len_sl, len_st, eval, evals, evalO, nth, upd, updL, wantedM, F.put, List.replicate, List.cons_append, List.nil_append, List.append_nil, Array.toList_empty, List.length_cons, List.length_nil, Nat.reduceAdd, Nat.reduceSub, Nat.zero_add, againB, vopt_ptr, vopt_int, vopt_bool, vopt_slice, vopt_map, vopt_str, eqv_int, eqv_bool, eqv_str, eqv_ptrN, eqv_ptrS, eqv_ifN, eqv_ifNS, eqv_ifSN, eqv_mapN, eqv_mapS, eqv_fnN, eqv_fnSN, eqv_slS0, eqv_slN0, eqv_st, eqFs_nil, Option.isNone_some, Option.isNone_none, binV, ib_add, ib_sub, ib_eql, ib_neq, ib_lss, ib_leq, ib_gtr, ib_geq, un_not, bodyR, unwindR, resultsV, retV, bne_self_eq_false, beq_self_eq_true, Bool.bne_false, Bool.bne_true, Bool.true_bne, Bool.false_bne, beq_true, beq_false, Bool.true_beq, Bool.false_beq, Bool.not_not, if_true, if_false, cond_true, cond_false, cellsOf, fillV, partsV, single, Bool.false_eq_true, decide_true, decide_false, Bool.not_true, Bool.not_false, and_self, Nat.reduceMul, Nat.reduceEqDiff, Nat.reduceLT, Nat.reduceLeDiff, not_true_eq_false, not_false_eq_true, and_true, true_and, ite_true, ite_false, reduceIte, endR, free00, List.all_cons, List.all_nil, Bool.and_true, Bool.true_and, Bool.and_self, Bool.or_true, Bool.true_or, Bool.or_false, Bool.false_or, settleA, raisedA, Int.reduceLT, Int.reduceLE, Int.reduceBEq, Int.reduceBNe, Int.reduceEq, Int.reduceNe, evalO, bq_self, bq01, bq10, bq02, bq20, bq12, bq21, Tr.get_set, Nat.add_assoc, Nat.add_zero, Nat.add_left_cancel_iff, Nat.left_eq_add, Nat.add_eq_left, nth_upd, length_upd, and_self, and_true, true_and, false_and, and_false, hl, n0, n3, e3]
        exact ⟨_, _, _, rfl, .inr ⟨by simp, by simp only [length_upd, hl], rfl, rfl, rfl, rfl, Nat.le_trans hc (Nat.le_add_right _ _), .inl ⟨rfl, ha⟩⟩⟩)
  obtain ⟨hl, rfl, rfl, rfl, hh, hc, hD⟩ := hD
  simp only at hl hh hc
  subst hh
  rcases hD with ⟨rfl, ha⟩ | ⟨rfl, n2, ha⟩
  · rw [ha]
    refine ⟨_, ?_, by simp only [x3, Nat.reduceBEq, runC.eq_1, runC.eq_2, runC.eq_3, runC.eq_4, runC.eq_5, rc_loop, runC.eq_7, runC.eq_8, runOps, runM, runCtl, tgtOf, ofRes, cls, evP, evR, evA, evS, loadV, storeV, adv, partV, cut, lookupV, find, keyEq, len_sl, len_st, eval, evals, evalO, nth, upd, updL, wantedM, F.put, List.replicate, List.cons_append, List.nil_append, List.append_nil, Array.toList_empty, List.length_cons, List.length_nil, Nat.reduceAdd, Nat.reduceSub, Nat.zero_add, againB, vopt_ptr, vopt_int, vopt_bool, vopt_slice, vopt_map, vopt_str, eqv_int, eqv_bool, eqv_str, eqv_ptrN, eqv_ptrS, eqv_ifN, eqv_ifNS, eqv_ifSN, eqv_mapN, eqv_mapS, eqv_fnN, eqv_fnSN, eqv_slS0, eqv_slN0, eqv_st, eqFs_nil, Option.isNone_some, Option.isNone_none, binV, ib_add, ib_sub, ib_eql, ib_neq, ib_lss, ib_leq, ib_gtr, ib_geq, un_not, bodyR, unwindR, resultsV, retV, bne_self_eq_false, beq_self_eq_true, Bool.bne_false, Bool.bne_true, Bool.true_bne, Bool.false_bne, beq_true, beq_false, Bool.true_beq, Bool.false_beq, Bool.not_not, if_true, if_false, cond_true, cond_false, cellsOf, fillV, partsV, single, Bool.false_eq_true, decide_true, decide_false, Bool.not_true, Bool.not_false, and_self, Nat.reduceMul, Nat.reduceEqDiff, Nat.reduceLT, Nat.reduceLeDiff, not_true_eq_false, not_false_eq_true, and_true, true_and, ite_true, ite_false, reduceIte, endR, free00, List.all_cons, List.all_nil, Bool.and_true, Bool.true_and, Bool.and_self, Bool.or_true, Bool.true_or, Bool.or_false, Bool.false_or, settleA, raisedA, Int.reduceLT, Int.reduceLE, Int.reduceBEq, Int.reduceBNe, Int.reduceEq, Int.reduceNe, evalO, bq_self, bq01, bq10, bq02, bq20, bq12, bq21, Tr.get_set, Nat.add_assoc, Nat.add_zero, Nat.add_left_cancel_iff, Nat.left_eq_add, Nat.add_eq_left, nth_upd, length_upd, and_self, and_true, true_and, false_and, and_false, hl]; rfl⟩
    first | exact hc | exact Nat.le_trans hc (Nat.le_add_right _ _)
  · rw [ha]
    simp only at n2
    refine ⟨_, ?_, by simp only [x3, Nat.reduceBEq, runC.eq_1, runC.eq_2, runC.eq_3, runC.eq_4, runC.eq_5, rc_loop, runC.eq_7, runC.eq_8, runOps, runM, runCtl, tgtOf, ofRes, cls, evP, evR, evA, evS, loadV, storeV, adv, partV, cut, lookupV, find, keyEq, len_sl, len_st, eval, evals, evalO, nth, upd, updL, wantedM, F.put, List.replicate, List.cons_append, List.nil_append, List.append_nil, Array.toList_empty, List.length_cons, List.length_nil, Nat.reduceAdd, Nat.reduceSub, Nat.zero_add, againB, vopt_ptr, vopt_int, vopt_bool, vopt_slice, vopt_map, vopt_str, eqv_int, eqv_bool, eqv_str, eqv_ptrN, eqv_ptrS, eqv_ifN, eqv_ifNS, eqv_ifSN, eqv_mapN, eqv_mapS, eqv_fnN, eqv_fnSN, eqv_slS0, eqv_slN0, eqv_st, eqFs_nil, Option.isNone_some, Option.isNone_none, binV, ib_add, ib_sub, ib_eql, ib_neq, ib_lss, ib_leq, ib_gtr, ib_geq, un_not, bodyR, unwindR, resultsV, retV, bne_self_eq_false, beq_self_eq_true, Bool.bne_false, Bool.bne_true, Bool.true_bne, Bool.false_bne, beq_true, beq_false, Bool.true_beq, Bool.false_beq, Bool.not_not, if_true, if_false, cond_true, cond_false, cellsOf, fillV, partsV, single, Bool.false_eq_true, decide_true, decide_false, Bool.not_true, Bool.not_false, and_self, Nat.reduceMul, Nat.reduceEqDiff, Nat.reduceLT, Nat.reduceLeDiff, not_true_eq_false, not_false_eq_true, and_true, true_and, ite_true, ite_false, reduceIte, endR, free00, List.all_cons, List.all_nil, Bool.and_true, Bool.true_and, Bool.and_self, Bool.or_true, Bool.true_or, Bool.or_false, Bool.false_or, settleA, raisedA, Int.reduceLT, Int.reduceLE, Int.reduceBEq, Int.reduceBNe, Int.reduceEq, Int.reduceNe, evalO, bq_self, bq01, bq10, bq02, bq20, bq12, bq21, Tr.get_set, Nat.add_assoc, Nat.add_zero, Nat.add_left_cancel_iff, Nat.left_eq_add, Nat.add_eq_left, nth_upd, length_upd, and_self, and_true, true_and, false_and, and_false, hl, n2]; rfl⟩
    first | exact hc | exact Nat.le_trans hc (Nat.le_add_right _ _)

theorem index_ok (hv : Vals s.h b o n f) (hn : n ≤ 12) :
    ∃ c', s.c ≤ c' ∧ Ew theG2 10000 (.fn 102) [.slice (some ⟨b, o, sp⟩) n cap, .func (.func 100) #[] #[]] none s = some (.ret (.bool !(allRight f n)), none, ⟨s.h, c'⟩) := by
  simp only [Ew_f (show theG2.fn 102 = some m102 from rfl), m102, x2 102 rfl, Ew_f (show theG2.fn 147 = some m147 from rfl), m147, x2 147 rfl, x3, Nat.reduceBEq, runC.eq_1, runC.eq_2, runC.eq_3, runC.eq_4, runC.eq_5, rc_loop, runC.eq_7, runC.eq_8, runOps, runM, runCtl, tgtOf, ofRes, cls, evP, evR, evA, evS, loadV, storeV, adv, partV, cut, lookupV, find, keyEq, len_sl, len_st, eval, evals, evalO, nth, upd, updL, wantedM, F.put, List.replicate, List.cons_append, List.nil_append, List.append_nil, Array.toList_empty, List.length_cons, List.length_nil, Nat.reduceAdd, Nat.reduceSub, Nat.zero_add, againB, vopt_ptr, vopt_int, vopt_bool, vopt_slice, vopt_map, vopt_str, eqv_int, eqv_bool, eqv_str, eqv_ptrN, eqv_ptrS, eqv_ifN, eqv_ifNS, eqv_ifSN, eqv_mapN, eqv_mapS, eqv_fnN, eqv_fnSN, eqv_slS0, eqv_slN0, eqv_st, eqFs_nil, Option.isNone_some, Option.isNone_none, binV, ib_add, ib_sub, ib_eql, ib_neq, ib_lss, ib_leq, ib_gtr, ib_geq, un_not, bodyR, unwindR, resultsV, retV, bne_self_eq_false, beq_self_eq_true, Bool.bne_false, Bool.bne_true, Bool.true_bne, Bool.false_bne, beq_true, beq_false, Bool.true_beq, Bool.false_beq, Bool.not_not, if_true, if_false, cond_true, cond_false, cellsOf, fillV, partsV, single, Bool.false_eq_true, decide_true, decide_false, Bool.not_true, Bool.not_false, and_self, Nat.reduceMul, Nat.reduceEqDiff, Nat.reduceLT, Nat.reduceLeDiff, not_true_eq_false, not_false_eq_true, and_true, true_and, ite_true, ite_false, reduceIte, endR, free00, List.all_cons, List.all_nil, Bool.and_true, Bool.true_and, Bool.and_self, Bool.or_true, Bool.true_or, Bool.or_false, Bool.false_or, settleA, raisedA, Int.reduceLT, Int.reduceLE, Int.reduceBEq, Int.reduceBNe, Int.reduceEq, Int.reduceNe, evalO, bq_self, bq01, bq10, bq02, bq20, bq12, bq21, Tr.get_set, Nat.add_assoc, Nat.add_zero, Nat.add_left_cancel_iff, Nat.left_eq_add, Nat.add_eq_left]
  generalize hz : Loop _ _ _ _ _ _ = z
  obtain ⟨x, ⟨t, d, m, r⟩, ⟨h', c'⟩, rfl, hx, hD⟩ := loop_of hz
    (fun k fr s' => ∃ j : Nat, j + k = n ∧ fr.t.length = 19 ∧ nth fr.t 0 = some (.slice (some ⟨b, o, sp⟩) n cap) ∧ nth fr.t 1 = some (.func (.func 100) #[] #[]) ∧ nth fr.t 7 = some (.int .i64 (n : Nat)) ∧ nth fr.t 8 = some (.int .i64 (j : Nat)) ∧ fr.d = [] ∧ fr.m = none ∧ fr.r = none ∧ s'.h = s.h ∧ s.c ≤ s'.c ∧ allRight f j = true)
    (fun x fr s' => fr.t.length = 19 ∧ fr.d = [] ∧ fr.m = none ∧ fr.r = none ∧ s'.h = s.h ∧ s.c ≤ s'.c ∧ ((x = .exit 0 ∧ allRight f n = true) ∨ (x = .ret ∧ (∃ j : Nat, nth fr.t 4 = some (.int .i64 (j : Nat))) ∧ allRight f n = false)))
    n (by omega) ⟨0, by omega, rfl, rfl, rfl, rfl, rfl, rfl, rfl, rfl, rfl, by simp only []; omega, rfl⟩ (by
      clear hz
      rintro k ⟨t, d, m, r⟩ ⟨h, c⟩ ⟨j, hj, hl, n0, n1, n7, n8, hd, hm, hr, hh, hc, ha⟩
      simp only at hl n0 n1 n7 n8 hd hm hr hh hc
      subst hd; subst hm; subst hr; subst hh
      by_cases hlt : j < n
      · have e3 : decide ((j : Int) < (n : Nat)) = true := by simp; omega
        have e4 : (0 : Int) ≤ (j : Nat) ∧ ((j : Nat) : Int) < (n : Nat) := by omega
        obtain ⟨cc, ty, lo, hi, q1, q2⟩ := hv.at_
        have q3 := q2 j hlt
        have ew := wrap_nat (j := j) (by omega)
        cases hb : rightB (f j)
        · simp only [Ew_f (show theG2.fn 100 = some m100 from rfl), m100, x2 100 rfl, x2 101 rfl, right_eq (hv.lo j hlt) (hv.hi j hlt), x3, Nat.reduceBEq, runC.eq_1, runC.eq_2, runC.eq_3, runC.eq_4, runC.eq_5, rc_loop, runC.eq_7, runC.eq_8, runOps, runM, runCtl, tgtOf, ofRes, cls, evP, evR, evA, evS, loadV, storeV, adv, partV, cut, lookupV, find, keyEq, len_sl, len_st, eval, evals, evalO, nth, upd, updL, wantedM, F.put, List.replicate, List.cons_append, List.nil_append, List.append_nil, Array.toList_empty, List.length_cons, List.length_nil, Nat.reduceAdd, Nat.reduceSub, Nat.zero_add, againB, vopt_ptr, vopt_int, vopt_bool, vopt_slice, vopt_map, vopt_str, eqv_int, eqv_bool, eqv_str, eqv_ptrN, eqv_ptrS, eqv_ifN, eqv_ifNS, eqv_ifSN, eqv_mapN, eqv_mapS, eqv_fnN, eqv_fnSN, eqv_slS0, eqv_slN0, eqv_st, eqFs_nil, Option.isNone_some, Option.isNone_none, binV, ib_add, ib_sub, ib_eql, ib_neq, ib_lss, ib_leq, ib_gtr, ib_geq, un_not, bodyR, unwindR, resultsV, retV, bne_self_eq_false, beq_self_eq_true, Bool.bne_false, Bool.bne_true, Bool.true_bne, Bool.false_bne, beq_true, beq_false, Bool.true_beq, Bool.false_beq, Bool.not_not, if_true, if_false, cond_true, cond_false, cellsOf, fillV, partsV, single, Bool.false_eq_true, decide_true, decide_false, Bool.not_true, Bool.not_false, and_self, Nat.reduceMul, Nat.reduceEqDiff, Nat.reduceLT, Nat.reduceLeDiff, not_true_eq_false, not_false_eq_true, and_true, true_and, ite_true, ite_false, reduceIte, endR, free00, List.all_cons, List.all_nil, Bool.and_true, Bool.true_and, Bool.and_self, Bool.or_true, Bool.true_or, Bool.or_false, Bool.false_or, settleA, raisedA, Int.reduceLT, Int.reduceLE, Int.reduceBEq, Int.reduceBNe, Int.reduceEq, Int.reduceNe, evalO, bq_self, bq01, bq10, bq02, bq20, bq12, bq21, Tr.get_set, Nat.add_assoc, Nat.add_zero, Nat.add_left_cancel_iff, Nat.left_eq_add, Nat.add_eq_left, nth_upd, length_upd, and_self, and_true, true_and, false_and, and_false, hl, n0, n1, n7, n8, e3, e4, q1, q3, Int.toNat_natCast, Nat.mul_one, hb]
          exact ⟨_, _, _, rfl, .inr ⟨by simp, by simp only [length_upd, hl], rfl, rfl, rfl, rfl, Nat.le_trans hc (Nat.le_add_right _ _), .inr ⟨rfl, ⟨j, by simp only [nth_upd, length_upd, and_self, and_true, true_and, false_and, and_false, if_true, if_false, Nat.reduceEqDiff, hl, n8, Nat.reduceLT]⟩, allRight_false hb hlt⟩⟩⟩
        · simp only [Ew_f (show theG2.fn 100 = some m100 from rfl), m100, x2 100 rfl, x2 101 rfl, right_eq (hv.lo j hlt) (hv.hi j hlt), x3, Nat.reduceBEq, runC.eq_1, runC.eq_2, runC.eq_3, runC.eq_4, runC.eq_5, rc_loop, runC.eq_7, runC.eq_8, runOps, runM, runCtl, tgtOf, ofRes, cls, evP, evR, evA, evS, loadV, storeV, adv, partV, cut, lookupV, find, keyEq, len_sl, len_st, eval, evals, evalO, nth, upd, updL, wantedM, F.put, List.replicate, List.cons_append, List.nil_append, List.append_nil, Array.toList_empty, List.length_cons, List.length_nil, Nat.reduceAdd, Nat.reduceSub, Nat.zero_add, againB, vopt_ptr, vopt_int, vopt_bool, vopt_slice, vopt_map, vopt_str, eqv_int, eqv_bool, eqv_str, eqv_ptrN, eqv_ptrS, eqv_ifN, eqv_ifNS, eqv_ifSN, eqv_mapN, eqv_mapS, eqv_fnN, eqv_fnSN, eqv_slS0, eqv_slN0, eqv_st, eqFs_nil, Option.isNone_some, Option.isNone_none, binV, ib_add, ib_sub, ib_eql, ib_neq, ib_lss, ib_leq, ib_gtr, ib_geq, un_not, bodyR, unwindR, resultsV, retV, bne_self_eq_false, beq_self_eq_true, Bool.bne_false, Bool.bne_true, Bool.true_bne, Bool.false_bne, beq_true, beq_false, Bool.true_beq, Bool.false_beq, Bool.not_not, if_true, if_false, cond_true, cond_false, cellsOf, fillV, partsV, single, Bool.false_eq_true, decide_true, decide_false, Bool.not_true, Bool.not_false, and_self, Nat.reduceMul, Nat.reduceEqDiff, Nat.reduceLT, Nat.reduceLeDiff, not_true_eq_false, not_false_eq_true, and_true, true_and, ite_true, ite_false, reduceIte, endR, free00, List.all_cons, List.all_nil, Bool.and_true, Bool.true_and, Bool.and_self, Bool.or_true, Bool.true_or, Bool.or_false, Bool.false_or, settleA, raisedA, Int.reduceLT, Int.reduceLE, Int.reduceBEq, Int.reduceBNe, Int.reduceEq, Int.reduceNe, evalO, bq_self, bq01, bq10, bq02, bq20, bq12, bq21, Tr.get_set, Nat.add_assoc, Nat.add_zero, Nat.add_left_cancel_iff, Nat.left_eq_add, Nat.add_eq_left, nth_upd, length_upd, and_self, and_true, true_and, false_and, and_false, hl, n0, n1, n7, n8, e3, e4, q1, q3, Int.toNat_natCast, Nat.mul_one, hb, ew]
          exact ⟨_, _, _, rfl, .inl ⟨rfl, n - (j + 1), by omega, j + 1, by omega, by simp only [length_upd, hl], by simp only [nth_upd, length_upd, and_self, and_true, true_and, false_and, and_false, if_true, if_false, Nat.reduceEqDiff, hl, n0, Nat.reduceLT], by simp only [nth_upd, length_upd, and_self, and_true, true_and, false_and, and_false, if_true, if_false, Nat.reduceEqDiff, hl, n1, Nat.reduceLT], by simp only [nth_upd, length_upd, and_self, and_true, true_and, false_and, and_false, if_true, if_false, Nat.reduceEqDiff, hl, n7, Nat.reduceLT], by simp only [nth_upd, length_upd, and_self, and_true, true_and, false_and, and_false, if_true, if_false, Nat.reduceEqDiff, hl, Nat.reduceLT], rfl, rfl, rfl, rfl, Nat.le_trans hc (Nat.le_add_right _ _), by simp [allRight, ha, hb]⟩⟩
      · have e3 : decide ((j : Int) < (n : Nat)) = false := by simp; omega
        have ej : j = n := by omega
        subst ej
        simp only [x3, Nat.reduceBEq, runC.eq_1, runC.eq_2, runC.eq_3, runC.eq_4, runC.eq_5, rc_loop, runC.eq_7, runC.eq_8, runOps, runM, runCtl, tgtOf, ofRes, cls, evP, evR, evA, evS, loadV, storeV, adv, partV, cut, lookupV, find, keyEq, len_sl, len_st, eval, evals, evalO, nth, upd, updL, wantedM, F.put, List.replicate, List.cons_append, List.nil_append, List.append_nil, Array.toList_empty, List.length_cons, List.length_nil, Nat.reduceAdd, Nat.reduceSub, Nat.zero_add, againB, vopt_ptr, vopt_int, vopt_bool, vopt_slice, vopt_map, vopt_str, eqv_int, eqv_bool, eqv_str, eqv_ptrN, eqv_ptrS, eqv_ifN, eqv_ifNS, eqv_ifSN, eqv_mapN, eqv_mapS, eqv_fnN, eqv_fnSN, eqv_slS0, eqv_slN0, eqv_st, eqFs_nil, Option.isNone_some, Option.isNone_none, binV, ib_add, ib_sub, ib_eql, ib_neq, ib_lss, ib_leq, ib_gtr, ib_geq, un_not, bodyR, unwindR, resultsV, retV, bne_self_eq_false, beq_self_eq_true, Bool.bne_false, Bool.bne_true, Bool.true_bne, Bool.false_bne, beq_true, beq_false, Bool.true_beq, Bool.false_beq, Bool.not_not, if_true, if_false, cond_true, cond_false, cellsOf, fillV, partsV, single, Bool.false_eq_true, decide_true, decide_false, Bool.not_true, Bool.not_false, and_self, Nat.reduceMul, Nat.reduceEqDiff, Nat.reduceLT, Nat.reduceLeDiff, not_true_eq_false, not_false_eq_true, and_true, true_and, ite_true, ite_false, reduceIte, endR, free00, List.all_cons, List.all_nil, Bool.and_true, Bool.true_and, Bool.and_self, Bool.or_true, Bool.true_or, Bool.or_false, Bool.false_or, settleA, raisedA, Int.reduceLT, Int.reduceLE, Int.reduceBEq, Int.reduceBNe, Int.reduceEq, Int.reduceNe, evalO, bq_self, bq01, bq10, bq02, bq20, bq12, bq21, Tr.get_set, Nat.add_assoc, Nat.add_zero, Nat.add_left_cancel_iff, Nat.left_eq_add, Nat.add_eq_left, nth_upd, length_upd, and_self, and_true, true_and, false_and, and_false, hl, n0, n1, n7, n8, e3]
        exact ⟨_, _, _, rfl, .inr ⟨by simp, by simp only [length_upd, hl], rfl, rfl, rfl, rfl, Nat.le_trans hc (Nat.le_add_right _ _), .inl ⟨rfl, ha⟩⟩⟩)
  obtain ⟨hl, rfl, rfl, rfl, hh, hc, hD⟩ := hD
  simp only at hl hh hc
  subst hh
  rcases hD with ⟨rfl, ha⟩ | ⟨rfl, ⟨j, n4⟩, ha⟩
  · rw [ha]
    refine ⟨_, ?_, by simp only [x3, Nat.reduceBEq, runC.eq_1, runC.eq_2, runC.eq_3, runC.eq_4, runC.eq_5, rc_loop, runC.eq_7, runC.eq_8, runOps, runM, runCtl, tgtOf, ofRes, cls, evP, evR, evA, evS, loadV, storeV, adv, partV, cut, lookupV, find, keyEq, len_sl, len_st, eval, evals, evalO, nth, upd, updL, wantedM, F.put, List.replicate, List.cons_append, List.nil_append, List.append_nil, Array.toList_empty, List.length_cons, List.length_nil, Nat.reduceAdd, Nat.reduceSub, Nat.zero_add, againB, vopt_ptr, vopt_int, vopt_bool, vopt_slice, vopt_map, vopt_str, eqv_int, eqv_bool, eqv_str, eqv_ptrN, eqv_ptrS, eqv_ifN, eqv_ifNS, eqv_ifSN, eqv_mapN, eqv_mapS, eqv_fnN, eqv_fnSN, eqv_slS0, eqv_slN0, eqv_st, eqFs_nil, Option.isNone_some, Option.isNone_none, binV, ib_add, ib_sub, ib_eql, ib_neq, ib_lss, ib_leq, ib_gtr, ib_geq, un_not, bodyR, unwindR, resultsV, retV, bne_self_eq_false, beq_self_eq_true, Bool.bne_false, Bool.bne_true, Bool.true_bne, Bool.false_bne, beq_true, beq_false, Bool.true_beq, Bool.false_beq, Bool.not_not, if_true, if_false, cond_true, cond_false, cellsOf, fillV, partsV, single, Bool.false_eq_true, decide_true, decide_false, Bool.not_true, Bool.not_false, and_self, Nat.reduceMul, Nat.reduceEqDiff, Nat.reduceLT, Nat.reduceLeDiff, not_true_eq_false, not_false_eq_true, and_true, true_and, ite_true, ite_false, reduceIte, endR, free00, List.all_cons, List.all_nil, Bool.and_true, Bool.true_and, Bool.and_self, Bool.or_true, Bool.true_or, Bool.or_false, Bool.false_or, settleA, raisedA, Int.reduceLT, Int.reduceLE, Int.reduceBEq, Int.reduceBNe, Int.reduceEq, Int.reduceNe, evalO, bq_self, bq01, bq10, bq02, bq20, bq12, bq21, Tr.get_set, Nat.add_assoc, Nat.add_zero, Nat.add_left_cancel_iff, Nat.left_eq_add, Nat.add_eq_left, nth_upd, length_upd, and_self, and_true, true_and, false_and, and_false, hl]; rfl⟩
    first | exact hc | exact Nat.le_trans hc (Nat.le_add_right _ _)
  · rw [ha]
    simp only at n4
    have e5 : decide ((0 : Int) ≤ (j : Nat)) = true := by simp
    refine ⟨_, ?_, by simp only [x3, Nat.reduceBEq, runC.eq_1, runC.eq_2, runC.eq_3, runC.eq_4, runC.eq_5, rc_loop, runC.eq_7, runC.eq_8, runOps, runM, runCtl, tgtOf, ofRes, cls, evP, evR, evA, evS, loadV, storeV, adv, partV, cut, lookupV, find, keyEq, len_sl, len_st, eval, evals, evalO, nth, upd, updL, wantedM, F.put, List.replicate, List.cons_append, List.nil_append, List.append_nil, Array.toList_empty, List.length_cons, List.length_nil, Nat.reduceAdd, Nat.reduceSub, Nat.zero_add, againB, vopt_ptr, vopt_int, vopt_bool, vopt_slice, vopt_map, vopt_str, eqv_int, eqv_bool, eqv_str, eqv_ptrN, eqv_ptrS, eqv_ifN, eqv_ifNS, eqv_ifSN, eqv_mapN, eqv_mapS, eqv_fnN, eqv_fnSN, eqv_slS0, eqv_slN0, eqv_st, eqFs_nil, Option.isNone_some, Option.isNone_none, binV, ib_add, ib_sub, ib_eql, ib_neq, ib_lss, ib_leq, ib_gtr, ib_geq, un_not, bodyR, unwindR, resultsV, retV, bne_self_eq_false, beq_self_eq_true, Bool.bne_false, Bool.bne_true, Bool.true_bne, Bool.false_bne, beq_true, beq_false, Bool.true_beq, Bool.false_beq, Bool.not_not, if_true, if_false, cond_true, cond_false, cellsOf, fillV, partsV, single, Bool.false_eq_true, decide_true, decide_false, Bool.not_true, Bool.not_false, and_self, Nat.reduceMul, Nat.reduceEqDiff, Nat.reduceLT, Nat.reduceLeDiff, not_true_eq_false, not_false_eq_true, and_true, true_and, ite_true, ite_false, reduceIte, endR, free00, List.all_cons, List.all_nil, Bool.and_true, Bool.true_and, Bool.and_self, Bool.or_true, Bool.true_or, Bool.or_false, Bool.false_or, settleA, raisedA, Int.reduceLT, Int.reduceLE, Int.reduceBEq, Int.reduceBNe, Int.reduceEq, Int.reduceNe, evalO, bq_self, bq01, bq10, bq02, bq20, bq12, bq21, Tr.get_set, Nat.add_assoc, Nat.add_zero, Nat.add_left_cancel_iff, Nat.left_eq_add, Nat.add_eq_left, nth_upd, length_upd, and_self, and_true, true_and, false_and, and_false, hl, n4, e5]; rfl⟩
    first | exact hc | exact Nat.le_trans hc (Nat.le_add_right _ _)
end

section
variable {i : Int} {s : S} {z : Option (Res × Option AMode × S)}
theorem ref_no (hz : Ew theG2 10000 (.fn 32) [.int .i64 i] none s = z) (h : i < 1 ∨ 8 < i) : ∃ c', s.c ≤ c' ∧ z = some (.ret (.pointer none), none, ⟨s.h, c'⟩) := by
  subst hz
  refine ⟨s.c + 8, by omega, ?_⟩
  rcases h with h | h
  · have e1 : decide (i < 1) = true := by simp; omega
    simp only [Ew_f (show theG2.fn 32 = some m32 from rfl), m32, x2 32 rfl, x3, Nat.reduceBEq, runC.eq_1, runC.eq_2, runC.eq_3, runC.eq_4, runC.eq_5, rc_loop, runC.eq_7, runC.eq_8, runOps, runM, runCtl, tgtOf, ofRes, cls, evP, evR, evA, evS, loadV, storeV, adv, partV, cut, lookupV, find, keyEq, len_sl, len_st, eval, evals, evalO, nth, upd, updL, wantedM, F.put, List.replicate, List.cons_append, List.nil_append, List.append_nil, Array.toList_empty, List.length_cons, List.length_nil, Nat.reduceAdd, Nat.reduceSub, Nat.zero_add, againB, vopt_ptr, vopt_int, vopt_bool, vopt_slice, vopt_map, vopt_str, eqv_int, eqv_bool, eqv_str, eqv_ptrN, eqv_ptrS, eqv_ifN, eqv_ifNS, eqv_ifSN, eqv_mapN, eqv_mapS, eqv_fnN, eqv_fnSN, eqv_slS0, eqv_slN0, eqv_st, eqFs_nil, Option.isNone_some, Option.isNone_none, binV, ib_add, ib_sub, ib_eql, ib_neq, ib_lss, ib_leq, ib_gtr, ib_geq, un_not, bodyR, unwindR, resultsV, retV, bne_self_eq_false, beq_self_eq_true, Bool.bne_false, Bool.bne_true, Bool.true_bne, Bool.false_bne, beq_true, beq_false, Bool.true_beq, Bool.false_beq, Bool.not_not, if_true, if_false, cond_true, cond_false, cellsOf, fillV, partsV, single, Bool.false_eq_true, decide_true, decide_false, Bool.not_true, Bool.not_false, and_self, Nat.reduceMul, Nat.reduceEqDiff, Nat.reduceLT, Nat.reduceLeDiff, not_true_eq_false, not_false_eq_true, and_true, true_and, ite_true, ite_false, reduceIte, endR, free00, List.all_cons, List.all_nil, Bool.and_true, Bool.true_and, Bool.and_self, Bool.or_true, Bool.true_or, Bool.or_false, Bool.false_or, settleA, raisedA, Int.reduceLT, Int.reduceLE, Int.reduceBEq, Int.reduceBNe, Int.reduceEq, Int.reduceNe, evalO, bq_self, bq01, bq10, bq02, bq20, bq12, bq21, Tr.get_set, Nat.add_assoc, Nat.add_zero, Nat.add_left_cancel_iff, Nat.left_eq_add, Nat.add_eq_left, e1]
  · have e1 : decide (i < 1) = false := by simp; omega
    have e2 : decide (8 < i) = true := by simp; omega
    simp only [Ew_f (show theG2.fn 32 = some m32 from rfl), m32, x2 32 rfl, x3, Nat.reduceBEq, runC.eq_1, runC.eq_2, runC.eq_3, runC.eq_4, runC.eq_5, rc_loop, runC.eq_7, runC.eq_8, runOps, runM, runCtl, tgtOf, ofRes, cls, evP, evR, evA, evS, loadV, storeV, adv, partV, cut, lookupV, find, keyEq, len_sl, len_st, eval, evals, evalO, nth, upd, updL, wantedM, F.put, List.replicate, List.cons_append, List.nil_append, List.append_nil, Array.toList_empty, List.length_cons, List.length_nil, Nat.reduceAdd, Nat.reduceSub, Nat.zero_add, againB, vopt_ptr, vopt_int, vopt_bool, vopt_slice, vopt_map, vopt_str, eqv_int, eqv_bool, eqv_str, eqv_ptrN, eqv_ptrS, eqv_ifN, eqv_ifNS, eqv_ifSN, eqv_mapN, eqv_mapS, eqv_fnN, eqv_fnSN, eqv_slS0, eqv_slN0, eqv_st, eqFs_nil, Option.isNone_some, Option.isNone_none, binV, ib_add, ib_sub, ib_eql, ib_neq, ib_lss, ib_leq, ib_gtr, ib_geq, un_not, bodyR, unwindR, resultsV, retV, bne_self_eq_false, beq_self_eq_true, Bool.bne_false, Bool.bne_true, Bool.true_bne, Bool.false_bne, beq_true, beq_false, Bool.true_beq, Bool.false_beq, Bool.not_not, if_true, if_false, cond_true, cond_false, cellsOf, fillV, partsV, single, Bool.false_eq_true, decide_true, decide_false, Bool.not_true, Bool.not_false, and_self, Nat.reduceMul, Nat.reduceEqDiff, Nat.reduceLT, Nat.reduceLeDiff, not_true_eq_false, not_false_eq_true, and_true, true_and, ite_true, ite_false, reduceIte, endR, free00, List.all_cons, List.all_nil, Bool.and_true, Bool.true_and, Bool.and_self, Bool.or_true, Bool.true_or, Bool.or_false, Bool.false_or, settleA, raisedA, Int.reduceLT, Int.reduceLE, Int.reduceBEq, Int.reduceBNe, Int.reduceEq, Int.reduceNe, evalO, bq_self, bq01, bq10, bq02, bq20, bq12, bq21, Tr.get_set, Nat.add_assoc, Nat.add_zero, Nat.add_left_cancel_iff, Nat.left_eq_add, Nat.add_eq_left, e1, e2]

theorem ref_ok (hz : Ew theG2 10000 (.fn 32) [.int .i64 i] none s = z) (h : 1 ≤ i) (h' : i ≤ 8) : ∃ a s', Grow s s' ∧ z = some (.ret (.pointer (some a)), none, s') := by
  subst hz
  have e1 : decide (i < 1) = false := by simp; omega
  have e2 : decide (8 < i) = false := by simp; omega
  have e3 : 0 ≤ i := by omega
  have e4 : i ≤ 16777216 := by omega
  simp only [Ew_f (show theG2.fn 32 = some m32 from rfl), m32, x2 32 rfl, x3, Nat.reduceBEq, runC.eq_1, runC.eq_2, runC.eq_3, runC.eq_4, runC.eq_5, rc_loop, runC.eq_7, runC.eq_8, runOps, runM, runCtl, tgtOf, ofRes, cls, evP, evR, evA, evS, loadV, storeV, adv, partV, cut, lookupV, find, keyEq, len_sl, len_st, eval, evals, evalO, nth, upd, updL, wantedM, F.put, List.replicate, List.cons_append, List.nil_append, List.append_nil, Array.toList_empty, List.length_cons, List.length_nil, Nat.reduceAdd, Nat.reduceSub, Nat.zero_add, againB, vopt_ptr, vopt_int, vopt_bool, vopt_slice, vopt_map, vopt_str, eqv_int, eqv_bool, eqv_str, eqv_ptrN, eqv_ptrS, eqv_ifN, eqv_ifNS, eqv_ifSN, eqv_mapN, eqv_mapS, eqv_fnN, eqv_fnSN, eqv_slS0, eqv_slN0, eqv_st, eqFs_nil, Option.isNone_some, Option.isNone_none, binV, ib_add, ib_sub, ib_eql, ib_neq, ib_lss, ib_leq, ib_gtr, ib_geq, un_not, bodyR, unwindR, resultsV, retV, bne_self_eq_false, beq_self_eq_true, Bool.bne_false, Bool.bne_true, Bool.true_bne, Bool.false_bne, beq_true, beq_false, Bool.true_beq, Bool.false_beq, Bool.not_not, if_true, if_false, cond_true, cond_false, cellsOf, fillV, partsV, single, Bool.false_eq_true, decide_true, decide_false, Bool.not_true, Bool.not_false, and_self, Nat.reduceMul, Nat.reduceEqDiff, Nat.reduceLT, Nat.reduceLeDiff, not_true_eq_false, not_false_eq_true, and_true, true_and, ite_true, ite_false, reduceIte, endR, free00, List.all_cons, List.all_nil, Bool.and_true, Bool.true_and, Bool.and_self, Bool.or_true, Bool.true_or, Bool.or_false, Bool.false_or, settleA, raisedA, Int.reduceLT, Int.reduceLE, Int.reduceBEq, Int.reduceBNe, Int.reduceEq, Int.reduceNe, evalO, bq_self, bq01, bq10, bq02, bq20, bq12, bq21, Tr.get_set, Nat.add_assoc, Nat.add_zero, Nat.add_left_cancel_iff, Nat.left_eq_add, Nat.add_eq_left, e1, e2, e3, e4, Int.le_refl]
  exact ⟨_, _, Grow.mk2 (Nat.le_add_right _ _) fun i hi => by simp only [Tr.get_set, ne1 hi, ne2 hi, if_false], rfl⟩

theorem tab_no (hz : Ew theG2 10000 (.fn 99) [.int .i64 i] none s = z) (h : i < 1 ∨ 8 < i) : ∃ c', s.c ≤ c' ∧ z = some (.ret (.pointer none), none, ⟨s.h, c'⟩) := by
  subst hz
  refine ⟨s.c + 8, by omega, ?_⟩
  rcases h with h | h
  · have e1 : decide (i < 1) = true := by simp; omega
    simp only [Ew_f (show theG2.fn 99 = some m99 from rfl), m99, x2 99 rfl, x3, Nat.reduceBEq, runC.eq_1, runC.eq_2, runC.eq_3, runC.eq_4, runC.eq_5, rc_loop, runC.eq_7, runC.eq_8, runOps, runM, runCtl, tgtOf, ofRes, cls, evP, evR, evA, evS, loadV, storeV, adv, partV, cut, lookupV, find, keyEq, len_sl, len_st, eval, evals, evalO, nth, upd, updL, wantedM, F.put, List.replicate, List.cons_append, List.nil_append, List.append_nil, Array.toList_empty, List.length_cons, List.length_nil, Nat.reduceAdd, Nat.reduceSub, Nat.zero_add, againB, vopt_ptr, vopt_int, vopt_bool, vopt_slice, vopt_map, vopt_str, eqv_int, eqv_bool, eqv_str, eqv_ptrN, eqv_ptrS, eqv_ifN, eqv_ifNS, eqv_ifSN, eqv_mapN, eqv_mapS, eqv_fnN, eqv_fnSN, eqv_slS0, eqv_slN0, eqv_st, eqFs_nil, Option.isNone_some, Option.isNone_none, binV, ib_add, ib_sub, ib_eql, ib_neq, ib_lss, ib_leq, ib_gtr, ib_geq, un_not, bodyR, unwindR, resultsV, retV, bne_self_eq_false, beq_self_eq_true, Bool.bne_false, Bool.bne_true, Bool.true_bne, Bool.false_bne, beq_true, beq_false, Bool.true_beq, Bool.false_beq, Bool.not_not, if_true, if_false, cond_true, cond_false, cellsOf, fillV, partsV, single, Bool.false_eq_true, decide_true, decide_false, Bool.not_true, Bool.not_false, and_self, Nat.reduceMul, Nat.reduceEqDiff, Nat.reduceLT, Nat.reduceLeDiff, not_true_eq_false, not_false_eq_true, and_true, true_and, ite_true, ite_false, reduceIte, endR, free00, List.all_cons, List.all_nil, Bool.and_true, Bool.true_and, Bool.and_self, Bool.or_true, Bool.true_or, Bool.or_false, Bool.false_or, settleA, raisedA, Int.reduceLT, Int.reduceLE, Int.reduceBEq, Int.reduceBNe, Int.reduceEq, Int.reduceNe, evalO, bq_self, bq01, bq10, bq02, bq20, bq12, bq21, Tr.get_set, Nat.add_assoc, Nat.add_zero, Nat.add_left_cancel_iff, Nat.left_eq_add, Nat.add_eq_left, e1]
  · have e1 : decide (i < 1) = false := by simp; omega
    have e2 : decide (8 < i) = true := by simp; omega
    simp only [Ew_f (show theG2.fn 99 = some m99 from rfl), m99, x2 99 rfl, x3, Nat.reduceBEq, runC.eq_1, runC.eq_2, runC.eq_3, runC.eq_4, runC.eq_5, rc_loop, runC.eq_7, runC.eq_8, runOps, runM, runCtl, tgtOf, ofRes, cls, evP, evR, evA, evS, loadV, storeV, adv, partV, cut, lookupV, find, keyEq, len_sl, len_st, eval, evals, evalO, nth, upd, updL, wantedM, F.put, List.replicate, List.cons_append, List.nil_append, List.append_nil, Array.toList_empty, List.length_cons, List.length_nil, Nat.reduceAdd, Nat.reduceSub, Nat.zero_add, againB, vopt_ptr, vopt_int, vopt_bool, vopt_slice, vopt_map, vopt_str, eqv_int, eqv_bool, eqv_str, eqv_ptrN, eqv_ptrS, eqv_ifN, eqv_ifNS, eqv_ifSN, eqv_mapN, eqv_mapS, eqv_fnN, eqv_fnSN, eqv_slS0, eqv_slN0, eqv_st, eqFs_nil, Option.isNone_some, Option.isNone_none, binV, ib_add, ib_sub, ib_eql, ib_neq, ib_lss, ib_leq, ib_gtr, ib_geq, un_not, bodyR, unwindR, resultsV, retV, bne_self_eq_false, beq_self_eq_true, Bool.bne_false, Bool.bne_true, Bool.true_bne, Bool.false_bne, beq_true, beq_false, Bool.true_beq, Bool.false_beq, Bool.not_not, if_true, if_false, cond_true, cond_false, cellsOf, fillV, partsV, single, Bool.false_eq_true, decide_true, decide_false, Bool.not_true, Bool.not_false, and_self, Nat.reduceMul, Nat.reduceEqDiff, Nat.reduceLT, Nat.reduceLeDiff, not_true_eq_false, not_false_eq_true, and_true, true_and, ite_true, ite_false, reduceIte, endR, free00, List.all_cons, List.all_nil, Bool.and_true, Bool.true_and, Bool.and_self, Bool.or_true, Bool.true_or, Bool.or_false, Bool.false_or, settleA, raisedA, Int.reduceLT, Int.reduceLE, Int.reduceBEq, Int.reduceBNe, Int.reduceEq, Int.reduceNe, evalO, bq_self, bq01, bq10, bq02, bq20, bq12, bq21, Tr.get_set, Nat.add_assoc, Nat.add_zero, Nat.add_left_cancel_iff, Nat.left_eq_add, Nat.add_eq_left, e1, e2]

theorem tab_ok (hz : Ew theG2 10000 (.fn 99) [.int .i64 i] none s = z) (h : 1 ≤ i) (h' : i ≤ 8) : ∃ a s', Grow s s' ∧ z = some (.ret (.pointer (some a)), none, s') := by
  subst hz
  have e1 : decide (i < 1) = false := by simp; omega
  have e2 : decide (8 < i) = false := by simp; omega
  have e3 : 0 ≤ i := by omega
  have e4 : i ≤ 16777216 := by omega
  simp only [Ew_f (show theG2.fn 99 = some m99 from rfl), m99, x2 99 rfl, x3, Nat.reduceBEq, runC.eq_1, runC.eq_2, runC.eq_3, runC.eq_4, runC.eq_5, rc_loop, runC.eq_7, runC.eq_8, runOps, runM, runCtl, tgtOf, ofRes, cls, evP, evR, evA, evS, loadV, storeV, adv, partV, cut, lookupV, find, keyEq, len_sl, len_st, eval, evals, evalO, nth, upd, updL, wantedM, F.put, List.replicate, List.cons_append, List.nil_append, List.append_nil, Array.toList_empty, List.length_cons, List.length_nil, Nat.reduceAdd, Nat.reduceSub, Nat.zero_add, againB, vopt_ptr, vopt_int, vopt_bool, vopt_slice, vopt_map, vopt_str, eqv_int, eqv_bool, eqv_str, eqv_ptrN, eqv_ptrS, eqv_ifN, eqv_ifNS, eqv_ifSN, eqv_mapN, eqv_mapS, eqv_fnN, eqv_fnSN, eqv_slS0, eqv_slN0, eqv_st, eqFs_nil, Option.isNone_some, Option.isNone_none, binV, ib_add, ib_sub, ib_eql, ib_neq, ib_lss, ib_leq, ib_gtr, ib_geq, un_not, bodyR, unwindR, resultsV, retV, bne_self_eq_false, beq_self_eq_true, Bool.bne_false, Bool.bne_true, Bool.true_bne, Bool.false_bne, beq_true, beq_false, Bool.true_beq, Bool.false_beq, Bool.not_not, if_true, if_false, cond_true, cond_false, cellsOf, fillV, partsV, single, Bool.false_eq_true, decide_true, decide_false, Bool.not_true, Bool.not_false, and_self, Nat.reduceMul, Nat.reduceEqDiff, Nat.reduceLT, Nat.reduceLeDiff, not_true_eq_false, not_false_eq_true, and_true, true_and, ite_true, ite_false, reduceIte, endR, free00, List.all_cons, List.all_nil, Bool.and_true, Bool.true_and, Bool.and_self, Bool.or_true, Bool.true_or, Bool.or_false, Bool.false_or, settleA, raisedA, Int.reduceLT, Int.reduceLE, Int.reduceBEq, Int.reduceBNe, Int.reduceEq, Int.reduceNe, evalO, bq_self, bq01, bq10, bq02, bq20, bq12, bq21, Tr.get_set, Nat.add_assoc, Nat.add_zero, Nat.add_left_cancel_iff, Nat.left_eq_add, Nat.add_eq_left, e1, e2, e3, e4, Int.le_refl]
  exact ⟨_, _, Grow.mk2 (Nat.le_add_right _ _) fun i hi => by simp only [Tr.get_set, ne1 hi, ne2 hi, if_false], rfl⟩
end
end Ev

/- Tl2: New. -/
namespace Ev
open Go
set_option maxRecDepth 100000

theorem index_z {b o n cap : Nat} {f : Nat → Int} {s : S} {sp : Option Nat} {z : Option (Res × Option AMode × S)} (hz : Ew theG2 10000 (.fn 102) [.slice (some ⟨b, o, sp⟩) n cap, .func (.func 100) #[] #[]] none s = z)
    (hv : Vals s.h b o n f) (hn : n ≤ 12) : ∃ c', s.c ≤ c' ∧ z = some (.ret (.bool !(allRight f n)), none, ⟨s.h, c'⟩) := by
  obtain ⟨c', h1, h2⟩ := index_ok (sp := sp) (cap := cap) hv hn
  exact ⟨c', h1, by rw [← hz]; exact h2⟩

theorem Vals.grow {s s' : S} {b o n : Nat} {f : Nat → Int} (hv : Vals s.h b o n f) (hb : b < s.c) (hg : Grow s s') : Vals s'.h b o n f := by
  obtain ⟨⟨c, t, lo, hi, h1, h2⟩, h3, h4⟩ := hv
  exact ⟨⟨c, t, lo, hi, by rw [hg.2 b hb]; exact h1, h2⟩, h3, h4⟩

section
variable {b o n cap : Nat} {f : Nat → Int} {s : S} {sp : Option Nat} {i : Int} {z : Option (Res × Option AMode × S)}

theorem new_short {a : Option Addr} (hz : Ew theG2 10000 (.fn 38) [.slice a n cap, .int .i64 i] none s = z) (h : n = 0 ∨ 12 < n) : ∃ s', Grow s s' ∧ z = some (.ret (.pointer none), none, s') := by
  simp only [Ew_f (show theG2.fn 38 = some m38 from rfl), m38, x2 38 rfl, x2 99 rfl, x2 102 rfl, x2 40 rfl, x3, Nat.reduceBEq, runC.eq_1, runC.eq_2, runC.eq_3, runC.eq_4, runC.eq_5, rc_loop, runC.eq_7, runC.eq_8, runOps, runM, runCtl, tgtOf, ofRes, cls, evP, evR, evA, evS, loadV, storeV, adv, partV, cut, lookupV, find, keyEq, len_sl, len_st, eval, evals, evalO, nth, upd, updL, wantedM, F.put, List.replicate, List.cons_append, List.nil_append, List.append_nil, Array.toList_empty, List.length_cons, List.length_nil, Nat.reduceAdd, Nat.reduceSub, Nat.zero_add, againB, vopt_ptr, vopt_int, vopt_bool, vopt_slice, vopt_map, vopt_str, eqv_int, eqv_bool, eqv_str, eqv_ptrN, eqv_ptrS, eqv_ifN, eqv_ifNS, eqv_ifSN, eqv_mapN, eqv_mapS, eqv_fnN, eqv_fnSN, eqv_slS0, eqv_slN0, eqv_st, eqFs_nil, Option.isNone_some, Option.isNone_none, binV, ib_add, ib_sub, ib_eql, ib_neq, ib_lss, ib_leq, ib_gtr, ib_geq, un_not, bodyR, unwindR, resultsV, retV, bne_self_eq_false, beq_self_eq_true, Bool.bne_false, Bool.bne_true, Bool.true_bne, Bool.false_bne, beq_true, beq_false, Bool.true_beq, Bool.false_beq, Bool.not_not, if_true, if_false, cond_true, cond_false, cellsOf, fillV, partsV, single, Bool.false_eq_true, decide_true, decide_false, Bool.not_true, Bool.not_false, and_self, Nat.reduceMul, Nat.reduceEqDiff, Nat.reduceLT, Nat.reduceLeDiff, not_true_eq_false, not_false_eq_true, and_true, true_and, ite_true, ite_false, reduceIte, endR, free00, List.all_cons, List.all_nil, Bool.and_true, Bool.true_and, Bool.and_self, Bool.or_true, Bool.true_or, Bool.or_false, Bool.false_or, settleA, raisedA, Int.reduceLT, Int.reduceLE, Int.reduceBEq, Int.reduceBNe, Int.reduceEq, Int.reduceNe, evalO, bq_self, bq01, bq10, bq02, bq20, bq12, bq21, Tr.get_set, Nat.add_assoc, Nat.add_zero, Nat.add_left_cancel_iff, Nat.left_eq_add, Nat.add_eq_left] at hz
  generalize hy : Ew theG2 10000 (.fn 99) _ _ _ = y at hz
  have hcase : ∃ p s1, Grow s s1 ∧ y = some (.ret (.pointer p), none, s1) := by
    by_cases hi : i < 1 ∨ 8 < i
    · obtain ⟨c', hc, rfl⟩ := tab_no hy hi
      exact ⟨none, ⟨s.h, c'⟩, ⟨Nat.le_trans (Nat.le_add_right _ _) hc, fun _ _ => rfl⟩, rfl⟩
    · obtain ⟨a, s', hg, rfl⟩ := tab_ok hy (by omega) (by omega)
      exact ⟨some a, s', ⟨Nat.le_trans (Nat.le_add_right _ _) hg.1, fun i hi => hg.2 i (Nat.lt_add_right _ hi)⟩, rfl⟩
  obtain ⟨p, s1, hg, rfl⟩ := hcase
  clear hy
  rcases h with rfl | h
  · simp only [x3, Nat.reduceBEq, runC.eq_1, runC.eq_2, runC.eq_3, runC.eq_4, runC.eq_5, rc_loop, runC.eq_7, runC.eq_8, runOps, runM, runCtl, tgtOf, ofRes, cls, evP, evR, evA, evS, loadV, storeV, adv, partV, cut, lookupV, find, keyEq, len_sl, len_st, eval, evals, evalO, nth, upd, updL, wantedM, F.put, List.replicate, List.cons_append, List.nil_append, List.append_nil, Array.toList_empty, List.length_cons, List.length_nil, Nat.reduceAdd, Nat.reduceSub, Nat.zero_add, againB, vopt_ptr, vopt_int, vopt_bool, vopt_slice, vopt_map, vopt_str, eqv_int, eqv_bool, eqv_str, eqv_ptrN, eqv_ptrS, eqv_ifN, eqv_ifNS, eqv_ifSN, eqv_mapN, eqv_mapS, eqv_fnN, eqv_fnSN, eqv_slS0, eqv_slN0, eqv_st, eqFs_nil, Option.isNone_some, Option.isNone_none, binV, ib_add, ib_sub, ib_eql, ib_neq, ib_lss, ib_leq, ib_gtr, ib_geq, un_not, bodyR, unwindR, resultsV, retV, bne_self_eq_false, beq_self_eq_true, Bool.bne_false, Bool.bne_true, Bool.true_bne, Bool.false_bne, beq_true, beq_false, Bool.true_beq, Bool.false_beq, Bool.not_not, if_true, if_false, cond_true, cond_false, cellsOf, fillV, partsV, single, Bool.false_eq_true, decide_true, decide_false, Bool.not_true, Bool.not_false, and_self, Nat.reduceMul, Nat.reduceEqDiff, Nat.reduceLT, Nat.reduceLeDiff, not_true_eq_false, not_false_eq_true, and_true, true_and, ite_true, ite_false, reduceIte, endR, free00, List.all_cons, List.all_nil, Bool.and_true, Bool.true_and, Bool.and_self, Bool.or_true, Bool.true_or, Bool.or_false, Bool.false_or, settleA, raisedA, Int.reduceLT, Int.reduceLE, Int.reduceBEq, Int.reduceBNe, Int.reduceEq, Int.reduceNe, evalO, bq_self, bq01, bq10, bq02, bq20, bq12, bq21, Tr.get_set, Nat.add_assoc, Nat.add_zero, Nat.add_left_cancel_iff, Nat.left_eq_add, Nat.add_eq_left, lenOfV, firstV, appendV, nc0, nc1, nc2, nc3, nc4, nc5, blt_zero, blt_unk, ble_zero, blt_ro, Nat.mul_one, Nat.zero_mul, List.length_map] at hz
    subst hz
    exact ⟨⟨s1.h, s1.c + 19⟩, ⟨Nat.le_trans hg.1 (Nat.le_add_right _ _), hg.2⟩, rfl⟩
  · have e1 : decide ((n : Int) < 1) = false := by simp; omega
    have e2 : decide (12 < (n : Int)) = true := by simp; omega
    simp only [x3, Nat.reduceBEq, runC.eq_1, runC.eq_2, runC.eq_3, runC.eq_4, runC.eq_5, rc_loop, runC.eq_7, runC.eq_8, runOps, runM, runCtl, tgtOf, ofRes, cls, evP, evR, evA, evS, loadV, storeV, adv, partV, cut, lookupV, find, keyEq, len_sl, len_st, eval, evals, evalO, nth, upd, updL, wantedM, F.put, List.replicate, List.cons_append, List.nil_append, List.append_nil, Array.toList_empty, List.length_cons, List.length_nil, Nat.reduceAdd, Nat.reduceSub, Nat.zero_add, againB, vopt_ptr, vopt_int, vopt_bool, vopt_slice, vopt_map, vopt_str, eqv_int, eqv_bool, eqv_str, eqv_ptrN, eqv_ptrS, eqv_ifN, eqv_ifNS, eqv_ifSN, eqv_mapN, eqv_mapS, eqv_fnN, eqv_fnSN, eqv_slS0, eqv_slN0, eqv_st, eqFs_nil, Option.isNone_some, Option.isNone_none, binV, ib_add, ib_sub, ib_eql, ib_neq, ib_lss, ib_leq, ib_gtr, ib_geq, un_not, bodyR, unwindR, resultsV, retV, bne_self_eq_false, beq_self_eq_true, Bool.bne_false, Bool.bne_true, Bool.true_bne, Bool.false_bne, beq_true, beq_false, Bool.true_beq, Bool.false_beq, Bool.not_not, if_true, if_false, cond_true, cond_false, cellsOf, fillV, partsV, single, Bool.false_eq_true, decide_true, decide_false, Bool.not_true, Bool.not_false, and_self, Nat.reduceMul, Nat.reduceEqDiff, Nat.reduceLT, Nat.reduceLeDiff, not_true_eq_false, not_false_eq_true, and_true, true_and, ite_true, ite_false, reduceIte, endR, free00, List.all_cons, List.all_nil, Bool.and_true, Bool.true_and, Bool.and_self, Bool.or_true, Bool.true_or, Bool.or_false, Bool.false_or, settleA, raisedA, Int.reduceLT, Int.reduceLE, Int.reduceBEq, Int.reduceBNe, Int.reduceEq, Int.reduceNe, evalO, bq_self, bq01, bq10, bq02, bq20, bq12, bq21, Tr.get_set, Nat.add_assoc, Nat.add_zero, Nat.add_left_cancel_iff, Nat.left_eq_add, Nat.add_eq_left, lenOfV, firstV, appendV, nc0, nc1, nc2, nc3, nc4, nc5, blt_zero, blt_unk, ble_zero, blt_ro, Nat.mul_one, Nat.zero_mul, List.length_map, e1, e2] at hz
    subst hz
    exact ⟨⟨s1.h, s1.c + 19⟩, ⟨Nat.le_trans hg.1 (Nat.le_add_right _ _), hg.2⟩, rfl⟩

theorem new_any {vs : List Value} (hz : Ew theG2 10000 (.fn 38) [.slice (some ⟨b, o, sp⟩) n cap, .int .i64 i] none s = z) (hv : Vals s.h b o n f) (hb : b < s.c) (h1 : 1 ≤ n) (h2 : n ≤ 12) (hcut : firstV s.h 1 n (.slice (some ⟨b, o, sp⟩) n cap) = some vs) (hcap : cap < emp) :
    ∃ s' p, Grow s s' ∧ z = some (.ret (.pointer p), none, s') ∧ (p.isSome = (allRight f n && decide (1 ≤ i ∧ i ≤ 8))) := by
  have e1 : decide ((n : Int) < 1) = false := by simp; omega
  have e2 : decide (12 < (n : Int)) = false := by simp; omega
  simp only [Ew_f (show theG2.fn 38 = some m38 from rfl), m38, x2 38 rfl, x2 99 rfl, x2 102 rfl, x2 40 rfl, x3, Nat.reduceBEq, runC.eq_1, runC.eq_2, runC.eq_3, runC.eq_4, runC.eq_5, rc_loop, runC.eq_7, runC.eq_8, runOps, runM, runCtl, tgtOf, ofRes, cls, evP, evR, evA, evS, loadV, storeV, adv, partV, cut, lookupV, find, keyEq, len_sl, len_st, eval, evals, evalO, nth, upd, updL, wantedM, F.put, List.replicate, List.cons_append, List.nil_append, List.append_nil, Array.toList_empty, List.length_cons, List.length_nil, Nat.reduceAdd, Nat.reduceSub, Nat.zero_add, againB, vopt_ptr, vopt_int, vopt_bool, vopt_slice, vopt_map, vopt_str, eqv_int, eqv_bool, eqv_str, eqv_ptrN, eqv_ptrS, eqv_ifN, eqv_ifNS, eqv_ifSN, eqv_mapN, eqv_mapS, eqv_fnN, eqv_fnSN, eqv_slS0, eqv_slN0, eqv_st, eqFs_nil, Option.isNone_some, Option.isNone_none, binV, ib_add, ib_sub, ib_eql, ib_neq, ib_lss, ib_leq, ib_gtr, ib_geq, un_not, bodyR, unwindR, resultsV, retV, bne_self_eq_false, beq_self_eq_true, Bool.bne_false, Bool.bne_true, Bool.true_bne, Bool.false_bne, beq_true, beq_false, Bool.true_beq, Bool.false_beq, Bool.not_not, if_true, if_false, cond_true, cond_false, cellsOf, fillV, partsV, single, Bool.false_eq_true, decide_true, decide_false, Bool.not_true, Bool.not_false, and_self, Nat.reduceMul, Nat.reduceEqDiff, Nat.reduceLT, Nat.reduceLeDiff, not_true_eq_false, not_false_eq_true, and_true, true_and, ite_true, ite_false, reduceIte, endR, free00, List.all_cons, List.all_nil, Bool.and_true, Bool.true_and, Bool.and_self, Bool.or_true, Bool.true_or, Bool.or_false, Bool.false_or, settleA, raisedA, Int.reduceLT, Int.reduceLE, Int.reduceBEq, Int.reduceBNe, Int.reduceEq, Int.reduceNe, evalO, bq_self, bq01, bq10, bq02, bq20, bq12, bq21, Tr.get_set, Nat.add_assoc, Nat.add_zero, Nat.add_left_cancel_iff, Nat.left_eq_add, Nat.add_eq_left] at hz
  generalize hy : Ew theG2 10000 (.fn 99) _ _ _ = y at hz
  have hcase : ∃ p s1, Grow s s1 ∧ y = some (.ret (.pointer p), none, s1) ∧ p.isSome = decide (1 ≤ i ∧ i ≤ 8) := by
    by_cases hi : i < 1 ∨ 8 < i
    · obtain ⟨c', hc, rfl⟩ := tab_no hy hi
      exact ⟨none, ⟨s.h, c'⟩, ⟨Nat.le_trans (Nat.le_add_right _ _) hc, fun _ _ => rfl⟩, rfl, by simp; omega⟩
    · obtain ⟨a, s', hg, rfl⟩ := tab_ok hy (by omega) (by omega)
      exact ⟨some a, s', ⟨Nat.le_trans (Nat.le_add_right _ _) hg.1, fun i hi => hg.2 i (Nat.lt_add_right _ hi)⟩, rfl, by simp; omega⟩
  obtain ⟨p, s1, hg, rfl, hp⟩ := hcase
  clear hy
  have hv1 := hv.grow hb hg
  simp only [x3, Nat.reduceBEq, runC.eq_1, runC.eq_2, runC.eq_3, runC.eq_4, runC.eq_5, rc_loop, runC.eq_7, runC.eq_8, runOps, runM, runCtl, tgtOf, ofRes, cls, evP, evR, evA, evS, loadV, storeV, adv, partV, cut, lookupV, find, keyEq, len_sl, len_st, eval, evals, evalO, nth, upd, updL, wantedM, F.put, List.replicate, List.cons_append, List.nil_append, List.append_nil, Array.toList_empty, List.length_cons, List.length_nil, Nat.reduceAdd, Nat.reduceSub, Nat.zero_add, againB, vopt_ptr, vopt_int, vopt_bool, vopt_slice, vopt_map, vopt_str, eqv_int, eqv_bool, eqv_str, eqv_ptrN, eqv_ptrS, eqv_ifN, eqv_ifNS, eqv_ifSN, eqv_mapN, eqv_mapS, eqv_fnN, eqv_fnSN, eqv_slS0, eqv_slN0, eqv_st, eqFs_nil, Option.isNone_some, Option.isNone_none, binV, ib_add, ib_sub, ib_eql, ib_neq, ib_lss, ib_leq, ib_gtr, ib_geq, un_not, bodyR, unwindR, resultsV, retV, bne_self_eq_false, beq_self_eq_true, Bool.bne_false, Bool.bne_true, Bool.true_bne, Bool.false_bne, beq_true, beq_false, Bool.true_beq, Bool.false_beq, Bool.not_not, if_true, if_false, cond_true, cond_false, cellsOf, fillV, partsV, single, Bool.false_eq_true, decide_true, decide_false, Bool.not_true, Bool.not_false, and_self, Nat.reduceMul, Nat.reduceEqDiff, Nat.reduceLT, Nat.reduceLeDiff, not_true_eq_false, not_false_eq_true, and_true, true_and, ite_true, ite_false, reduceIte, endR, free00, List.all_cons, List.all_nil, Bool.and_true, Bool.true_and, Bool.and_self, Bool.or_true, Bool.true_or, Bool.or_false, Bool.false_or, settleA, raisedA, Int.reduceLT, Int.reduceLE, Int.reduceBEq, Int.reduceBNe, Int.reduceEq, Int.reduceNe, evalO, bq_self, bq01, bq10, bq02, bq20, bq12, bq21, Tr.get_set, Nat.add_assoc, Nat.add_zero, Nat.add_left_cancel_iff, Nat.left_eq_add, Nat.add_eq_left, lenOfV, firstV, appendV, nc0, nc1, nc2, nc3, nc4, nc5, blt_zero, blt_unk, ble_zero, blt_ro, Nat.mul_one, Nat.zero_mul, List.length_map, e1, e2] at hz
  generalize hy : Ew theG2 10000 (.fn 102) _ _ _ = y at hz
  obtain ⟨c2, hc2, rfl⟩ := index_z hy (f := f) (by exact hv1) h2
  clear hy
  have hg2 : Grow s ⟨s1.h, c2⟩ := ⟨Nat.le_trans hg.1 (by first | exact hc2 | exact Nat.le_trans (Nat.le_add_right _ _) hc2), hg.2⟩
  cases ha : allRight f n
  · simp only [x3, Nat.reduceBEq, runC.eq_1, runC.eq_2, runC.eq_3, runC.eq_4, runC.eq_5, rc_loop, runC.eq_7, runC.eq_8, runOps, runM, runCtl, tgtOf, ofRes, cls, evP, evR, evA, evS, loadV, storeV, adv, partV, cut, lookupV, find, keyEq, len_sl, len_st, eval, evals, evalO, nth, upd, updL, wantedM, F.put, List.replicate, List.cons_append, List.nil_append, List.append_nil, Array.toList_empty, List.length_cons, List.length_nil, Nat.reduceAdd, Nat.reduceSub, Nat.zero_add, againB, vopt_ptr, vopt_int, vopt_bool, vopt_slice, vopt_map, vopt_str, eqv_int, eqv_bool, eqv_str, eqv_ptrN, eqv_ptrS, eqv_ifN, eqv_ifNS, eqv_ifSN, eqv_mapN, eqv_mapS, eqv_fnN, eqv_fnSN, eqv_slS0, eqv_slN0, eqv_st, eqFs_nil, Option.isNone_some, Option.isNone_none, binV, ib_add, ib_sub, ib_eql, ib_neq, ib_lss, ib_leq, ib_gtr, ib_geq, un_not, bodyR, unwindR, resultsV, retV, bne_self_eq_false, beq_self_eq_true, Bool.bne_false, Bool.bne_true, Bool.true_bne, Bool.false_bne, beq_true, beq_false, Bool.true_beq, Bool.false_beq, Bool.not_not, if_true, if_false, cond_true, cond_false, cellsOf, fillV, partsV, single, Bool.false_eq_true, decide_true, decide_false, Bool.not_true, Bool.not_false, and_self, Nat.reduceMul, Nat.reduceEqDiff, Nat.reduceLT, Nat.reduceLeDiff, not_true_eq_false, not_false_eq_true, and_true, true_and, ite_true, ite_false, reduceIte, endR, free00, List.all_cons, List.all_nil, Bool.and_true, Bool.true_and, Bool.and_self, Bool.or_true, Bool.true_or, Bool.or_false, Bool.false_or, settleA, raisedA, Int.reduceLT, Int.reduceLE, Int.reduceBEq, Int.reduceBNe, Int.reduceEq, Int.reduceNe, evalO, bq_self, bq01, bq10, bq02, bq20, bq12, bq21, Tr.get_set, Nat.add_assoc, Nat.add_zero, Nat.add_left_cancel_iff, Nat.left_eq_add, Nat.add_eq_left, lenOfV, firstV, appendV, nc0, nc1, nc2, nc3, nc4, nc5, blt_zero, blt_unk, ble_zero, blt_ro, Nat.mul_one, Nat.zero_mul, List.length_map, ha] at hz
    subst hz
    exact ⟨_, none, hg2.more (Nat.le_add_right _ _), rfl, by simp⟩
  · cases p with
    | none =>
      simp only [x3, Nat.reduceBEq, runC.eq_1, runC.eq_2, runC.eq_3, runC.eq_4, runC.eq_5, rc_loop, runC.eq_7, runC.eq_8, runOps, runM, runCtl, tgtOf, ofRes, cls, evP, evR, evA, evS, loadV, storeV, adv, partV, cut, lookupV, find, keyEq, len_sl, len_st, eval, evals, evalO, nth, upd, updL, wantedM, F.put, List.replicate, List.cons_append, List.nil_append, List.append_nil, Array.toList_empty, List.length_cons, List.length_nil, Nat.reduceAdd, Nat.reduceSub, Nat.zero_add, againB, vopt_ptr, vopt_int, vopt_bool, vopt_slice, vopt_map, vopt_str, eqv_int, eqv_bool, eqv_str, eqv_ptrN, eqv_ptrS, eqv_ifN, eqv_ifNS, eqv_ifSN, eqv_mapN, eqv_mapS, eqv_fnN, eqv_fnSN, eqv_slS0, eqv_slN0, eqv_st, eqFs_nil, Option.isNone_some, Option.isNone_none, binV, ib_add, ib_sub, ib_eql, ib_neq, ib_lss, ib_leq, ib_gtr, ib_geq, un_not, bodyR, unwindR, resultsV, retV, bne_self_eq_false, beq_self_eq_true, Bool.bne_false, Bool.bne_true, Bool.true_bne, Bool.false_bne, beq_true, beq_false, Bool.true_beq, Bool.false_beq, Bool.not_not, if_true, if_false, cond_true, cond_false, cellsOf, fillV, partsV, single, Bool.false_eq_true, decide_true, decide_false, Bool.not_true, Bool.not_false, and_self, Nat.reduceMul, Nat.reduceEqDiff, Nat.reduceLT, Nat.reduceLeDiff, not_true_eq_false, not_false_eq_true, and_true, true_and, ite_true, ite_false, reduceIte, endR, free00, List.all_cons, List.all_nil, Bool.and_true, Bool.true_and, Bool.and_self, Bool.or_true, Bool.true_or, Bool.or_false, Bool.false_or, settleA, raisedA, Int.reduceLT, Int.reduceLE, Int.reduceBEq, Int.reduceBNe, Int.reduceEq, Int.reduceNe, evalO, bq_self, bq01, bq10, bq02, bq20, bq12, bq21, Tr.get_set, Nat.add_assoc, Nat.add_zero, Nat.add_left_cancel_iff, Nat.left_eq_add, Nat.add_eq_left, lenOfV, firstV, appendV, nc0, nc1, nc2, nc3, nc4, nc5, blt_zero, blt_unk, ble_zero, blt_ro, Nat.mul_one, Nat.zero_mul, List.length_map, ha] at hz
      subst hz
      exact ⟨_, none, hg2.more (Nat.le_add_right _ _), rfl, by rw [← hp]; simp⟩
    | some a =>
      obtain ⟨cc, ty, lo, hi, q1, q2⟩ := hv1.at_
      have q4 : cut cc o n = some vs := by
        have : firstV s1.h 1 n (.slice (some ⟨b, o, sp⟩) n cap) = some vs := by
          rw [← hcut]; simp only [firstV, hg.2 b hb]
        simpa only [firstV, q1, Nat.mul_one] using this
      have hn0 : (n ≤ 0) = False := by simp; omega
      have e3 : n * 9 ≤ 1099511627776 := by omega
      have bc : b < c2 := Nat.lt_of_lt_of_le hb hg2.1
      simp only [Ew_f (show theG2.fn 40 = some m40 from rfl), m40, x2 40 rfl, x3, Nat.reduceBEq, runC.eq_1, runC.eq_2, runC.eq_3, runC.eq_4, runC.eq_5, rc_loop, runC.eq_7, runC.eq_8, runOps, runM, runCtl, tgtOf, ofRes, cls, evP, evR, evA, evS, loadV, storeV, adv, partV, cut, lookupV, find, keyEq, len_sl, len_st, eval, evals, evalO, nth, upd, updL, wantedM, F.put, List.replicate, List.cons_append, List.nil_append, List.append_nil, Array.toList_empty, List.length_cons, List.length_nil, Nat.reduceAdd, Nat.reduceSub, Nat.zero_add, againB, vopt_ptr, vopt_int, vopt_bool, vopt_slice, vopt_map, vopt_str, eqv_int, eqv_bool, eqv_str, eqv_ptrN, eqv_ptrS, eqv_ifN, eqv_ifNS, eqv_ifSN, eqv_mapN, eqv_mapS, eqv_fnN, eqv_fnSN, eqv_slS0, eqv_slN0, eqv_st, eqFs_nil, Option.isNone_some, Option.isNone_none, binV, ib_add, ib_sub, ib_eql, ib_neq, ib_lss, ib_leq, ib_gtr, ib_geq, un_not, bodyR, unwindR, resultsV, retV, bne_self_eq_false, beq_self_eq_true, Bool.bne_false, Bool.bne_true, Bool.true_bne, Bool.false_bne, beq_true, beq_false, Bool.true_beq, Bool.false_beq, Bool.not_not, if_true, if_false, cond_true, cond_false, cellsOf, fillV, partsV, single, Bool.false_eq_true, decide_true, decide_false, Bool.not_true, Bool.not_false, and_self, Nat.reduceMul, Nat.reduceEqDiff, Nat.reduceLT, Nat.reduceLeDiff, not_true_eq_false, not_false_eq_true, and_true, true_and, ite_true, ite_false, reduceIte, endR, free00, List.all_cons, List.all_nil, Bool.and_true, Bool.true_and, Bool.and_self, Bool.or_true, Bool.true_or, Bool.or_false, Bool.false_or, settleA, raisedA, Int.reduceLT, Int.reduceLE, Int.reduceBEq, Int.reduceBNe, Int.reduceEq, Int.reduceNe, evalO, bq_self, bq01, bq10, bq02, bq20, bq12, bq21, Tr.get_set, Nat.add_assoc, Nat.add_zero, Nat.add_left_cancel_iff, Nat.left_eq_add, Nat.add_eq_left, lenOfV, firstV, appendV, nc0, nc1, nc2, nc3, nc4, nc5, blt_zero, blt_unk, ble_zero, blt_ro, Nat.mul_one, Nat.zero_mul, List.length_map, ha, q1, q4, hn0, e3, ne1 bc, ne2 bc, ne3 bc, ne4 bc] at hz
      subst hz
      refine ⟨_, some _, Grow.mk2 (Nat.le_trans hg2.1 (Nat.le_add_right _ _)) fun j hj => ?_, rfl, by rw [← hp]; rfl⟩
      have hj' : j < c2 := Nat.lt_of_lt_of_le hj hg2.1
      simp only [Tr.get_set, ne2 hj', if_false]
      exact hg2.2 j hj
end
end Ev
