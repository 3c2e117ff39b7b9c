/- NorecNone: for every deed, every values and number the law returns true, and each argument reads as it did; by an evaluator of the compiled code that is proved sound for the model. Part 8 of 8. -/
import Derived.Test.YtmdkdjoifafifaaGreatNone7
import Derived.Test.YtmdkdjoifafifaaGreatProg
import Derived.KernelRfl
import Derived.Test.YtmdkdjoifafifaaGreatRows
import Derived.ProofKit
set_option linter.unusedSimpArgs false
set_option linter.unusedVariables false

/- The table is what the program compiles to. -/
namespace Ev
open Go

theorem c2 : cFn Go.Proofs.Tryz.prog Go.Proofs.Tryz.f2 = some m2 := by kernel_rfl
theorem c6 : cFn Go.Proofs.Tryz.prog Go.Proofs.Tryz.f6 = some m6 := by kernel_rfl
theorem c10 : cFn Go.Proofs.Tryz.prog Go.Proofs.Tryz.f10 = some m10 := by kernel_rfl
theorem c14 : cFn Go.Proofs.Tryz.prog Go.Proofs.Tryz.f14 = some m14 := by kernel_rfl
theorem c18 : cFn Go.Proofs.Tryz.prog Go.Proofs.Tryz.f18 = some m18 := by kernel_rfl
theorem c22 : cFn Go.Proofs.Tryz.prog Go.Proofs.Tryz.f22 = some m22 := by kernel_rfl
theorem c26 : cFn Go.Proofs.Tryz.prog Go.Proofs.Tryz.f26 = some m26 := by kernel_rfl
theorem c30 : cFn Go.Proofs.Tryz.prog Go.Proofs.Tryz.f30 = some m30 := by kernel_rfl
theorem c34 : cFn Go.Proofs.Tryz.prog Go.Proofs.Tryz.f34 = some m34 := by kernel_rfl
theorem c38 : cFn Go.Proofs.Tryz.prog Go.Proofs.Tryz.f38 = some m38 := by kernel_rfl
theorem c42 : cFn Go.Proofs.Tryz.prog Go.Proofs.Tryz.f42 = some m42 := by kernel_rfl
theorem c46 : cFn Go.Proofs.Tryz.prog Go.Proofs.Tryz.f46 = some m46 := by kernel_rfl
theorem c50 : cFn Go.Proofs.Tryz.prog Go.Proofs.Tryz.f50 = some m50 := by kernel_rfl
theorem c54 : cFn Go.Proofs.Tryz.prog Go.Proofs.Tryz.f54 = some m54 := by kernel_rfl
theorem c58 : cFn Go.Proofs.Tryz.prog Go.Proofs.Tryz.f58 = some m58 := by kernel_rfl
theorem c62 : cFn Go.Proofs.Tryz.prog Go.Proofs.Tryz.f62 = some m62 := by kernel_rfl
theorem c66 : cFn Go.Proofs.Tryz.prog Go.Proofs.Tryz.f66 = some m66 := by kernel_rfl
theorem c70 : cFn Go.Proofs.Tryz.prog Go.Proofs.Tryz.f70 = some m70 := by kernel_rfl
theorem c74 : cFn Go.Proofs.Tryz.prog Go.Proofs.Tryz.f74 = some m74 := by kernel_rfl
theorem c78 : cFn Go.Proofs.Tryz.prog Go.Proofs.Tryz.f78 = some m78 := by kernel_rfl
theorem c82 : cFn Go.Proofs.Tryz.prog Go.Proofs.Tryz.f82 = some m82 := by kernel_rfl
theorem c86 : cFn Go.Proofs.Tryz.prog Go.Proofs.Tryz.f86 = some m86 := by kernel_rfl
theorem c90 : cFn Go.Proofs.Tryz.prog Go.Proofs.Tryz.f90 = some m90 := by kernel_rfl
theorem c94 : cFn Go.Proofs.Tryz.prog Go.Proofs.Tryz.f94 = some m94 := by kernel_rfl
theorem c98 : cFn Go.Proofs.Tryz.prog Go.Proofs.Tryz.f98 = some m98 := by kernel_rfl
theorem c102 : cFn Go.Proofs.Tryz.prog Go.Proofs.Tryz.f102 = some m102 := by kernel_rfl
theorem c106 : cFn Go.Proofs.Tryz.prog Go.Proofs.Tryz.f106 = some m106 := by kernel_rfl
theorem c110 : cFn Go.Proofs.Tryz.prog Go.Proofs.Tryz.f110 = some m110 := by kernel_rfl
theorem c114 : cFn Go.Proofs.Tryz.prog Go.Proofs.Tryz.f114 = some m114 := by kernel_rfl
theorem c118 : cFn Go.Proofs.Tryz.prog Go.Proofs.Tryz.f118 = some m118 := by kernel_rfl
theorem c122 : cFn Go.Proofs.Tryz.prog Go.Proofs.Tryz.f122 = some m122 := by kernel_rfl
theorem c126 : cFn Go.Proofs.Tryz.prog Go.Proofs.Tryz.f126 = some m126 := by kernel_rfl
theorem c130 : cFn Go.Proofs.Tryz.prog Go.Proofs.Tryz.f130 = some m130 := by kernel_rfl
theorem c135 : cFn Go.Proofs.Tryz.prog Go.Proofs.Tryz.f135 = some m135 := by kernel_rfl
theorem c139 : cFn Go.Proofs.Tryz.prog Go.Proofs.Tryz.f139 = some m139 := by kernel_rfl
theorem c143 : cFn Go.Proofs.Tryz.prog Go.Proofs.Tryz.f143 = some m143 := by kernel_rfl
theorem c147 : cFn Go.Proofs.Tryz.prog Go.Proofs.Tryz.f147 = some m147 := by kernel_rfl
theorem c151 : cFn Go.Proofs.Tryz.prog Go.Proofs.Tryz.f151 = some m151 := by kernel_rfl
theorem c155 : cFn Go.Proofs.Tryz.prog Go.Proofs.Tryz.f155 = some m155 := by kernel_rfl
theorem c159 : cFn Go.Proofs.Tryz.prog Go.Proofs.Tryz.f159 = some m159 := by kernel_rfl
theorem c163 : cFn Go.Proofs.Tryz.prog Go.Proofs.Tryz.f163 = some m163 := by kernel_rfl
theorem c167 : cFn Go.Proofs.Tryz.prog Go.Proofs.Tryz.f167 = some m167 := by kernel_rfl
theorem c171 : cFn Go.Proofs.Tryz.prog Go.Proofs.Tryz.f171 = some m171 := by kernel_rfl
theorem c175 : cFn Go.Proofs.Tryz.prog Go.Proofs.Tryz.f175 = some m175 := by kernel_rfl
theorem c179 : cFn Go.Proofs.Tryz.prog Go.Proofs.Tryz.f179 = some m179 := by kernel_rfl
theorem c183 : cFn Go.Proofs.Tryz.prog Go.Proofs.Tryz.f183 = some m183 := by kernel_rfl
theorem c187 : cFn Go.Proofs.Tryz.prog Go.Proofs.Tryz.f187 = some m187 := by kernel_rfl
end Ev

/- The table is what the program compiles to. -/
namespace Ev
open Go

theorem c3 : cFn Go.Proofs.Tryz.prog Go.Proofs.Tryz.f3 = some m3 := by kernel_rfl
theorem c7 : cFn Go.Proofs.Tryz.prog Go.Proofs.Tryz.f7 = some m7 := by kernel_rfl
theorem c11 : cFn Go.Proofs.Tryz.prog Go.Proofs.Tryz.f11 = some m11 := by kernel_rfl
theorem c15 : cFn Go.Proofs.Tryz.prog Go.Proofs.Tryz.f15 = some m15 := by kernel_rfl
theorem c19 : cFn Go.Proofs.Tryz.prog Go.Proofs.Tryz.f19 = some m19 := by kernel_rfl
theorem c23 : cFn Go.Proofs.Tryz.prog Go.Proofs.Tryz.f23 = some m23 := by kernel_rfl
theorem c27 : cFn Go.Proofs.Tryz.prog Go.Proofs.Tryz.f27 = some m27 := by kernel_rfl
theorem c31 : cFn Go.Proofs.Tryz.prog Go.Proofs.Tryz.f31 = some m31 := by kernel_rfl
theorem c35 : cFn Go.Proofs.Tryz.prog Go.Proofs.Tryz.f35 = some m35 := by kernel_rfl
theorem c39 : cFn Go.Proofs.Tryz.prog Go.Proofs.Tryz.f39 = some m39 := by kernel_rfl
theorem c43 : cFn Go.Proofs.Tryz.prog Go.Proofs.Tryz.f43 = some m43 := by kernel_rfl
theorem c47 : cFn Go.Proofs.Tryz.prog Go.Proofs.Tryz.f47 = some m47 := by kernel_rfl
theorem c51 : cFn Go.Proofs.Tryz.prog Go.Proofs.Tryz.f51 = some m51 := by kernel_rfl
theorem c55 : cFn Go.Proofs.Tryz.prog Go.Proofs.Tryz.f55 = some m55 := by kernel_rfl
theorem c59 : cFn Go.Proofs.Tryz.prog Go.Proofs.Tryz.f59 = some m59 := by kernel_rfl
theorem c63 : cFn Go.Proofs.Tryz.prog Go.Proofs.Tryz.f63 = some m63 := by kernel_rfl
theorem c67 : cFn Go.Proofs.Tryz.prog Go.Proofs.Tryz.f67 = some m67 := by kernel_rfl
theorem c71 : cFn Go.Proofs.Tryz.prog Go.Proofs.Tryz.f71 = some m71 := by kernel_rfl
theorem c75 : cFn Go.Proofs.Tryz.prog Go.Proofs.Tryz.f75 = some m75 := by kernel_rfl
theorem c79 : cFn Go.Proofs.Tryz.prog Go.Proofs.Tryz.f79 = some m79 := by kernel_rfl
theorem c83 : cFn Go.Proofs.Tryz.prog Go.Proofs.Tryz.f83 = some m83 := by kernel_rfl
theorem c87 : cFn Go.Proofs.Tryz.prog Go.Proofs.Tryz.f87 = some m87 := by kernel_rfl
theorem c91 : cFn Go.Proofs.Tryz.prog Go.Proofs.Tryz.f91 = some m91 := by kernel_rfl
theorem c95 : cFn Go.Proofs.Tryz.prog Go.Proofs.Tryz.f95 = some m95 := by kernel_rfl
theorem c99 : cFn Go.Proofs.Tryz.prog Go.Proofs.Tryz.f99 = some m99 := by kernel_rfl
theorem c103 : cFn Go.Proofs.Tryz.prog Go.Proofs.Tryz.f103 = some m103 := by kernel_rfl
theorem c107 : cFn Go.Proofs.Tryz.prog Go.Proofs.Tryz.f107 = some m107 := by kernel_rfl
theorem c111 : cFn Go.Proofs.Tryz.prog Go.Proofs.Tryz.f111 = some m111 := by kernel_rfl
theorem c115 : cFn Go.Proofs.Tryz.prog Go.Proofs.Tryz.f115 = some m115 := by kernel_rfl
theorem c119 : cFn Go.Proofs.Tryz.prog Go.Proofs.Tryz.f119 = some m119 := by kernel_rfl
theorem c123 : cFn Go.Proofs.Tryz.prog Go.Proofs.Tryz.f123 = some m123 := by kernel_rfl
theorem c127 : cFn Go.Proofs.Tryz.prog Go.Proofs.Tryz.f127 = some m127 := by kernel_rfl
theorem c131 : cFn Go.Proofs.Tryz.prog Go.Proofs.Tryz.f131 = some m131 := by kernel_rfl
theorem c136 : cFn Go.Proofs.Tryz.prog Go.Proofs.Tryz.f136 = some m136 := by kernel_rfl
theorem c140 : cFn Go.Proofs.Tryz.prog Go.Proofs.Tryz.f140 = some m140 := by kernel_rfl
theorem c144 : cFn Go.Proofs.Tryz.prog Go.Proofs.Tryz.f144 = some m144 := by kernel_rfl
theorem c148 : cFn Go.Proofs.Tryz.prog Go.Proofs.Tryz.f148 = some m148 := by kernel_rfl
theorem c152 : cFn Go.Proofs.Tryz.prog Go.Proofs.Tryz.f152 = some m152 := by kernel_rfl
theorem c156 : cFn Go.Proofs.Tryz.prog Go.Proofs.Tryz.f156 = some m156 := by kernel_rfl
theorem c160 : cFn Go.Proofs.Tryz.prog Go.Proofs.Tryz.f160 = some m160 := by kernel_rfl
theorem c164 : cFn Go.Proofs.Tryz.prog Go.Proofs.Tryz.f164 = some m164 := by kernel_rfl
theorem c168 : cFn Go.Proofs.Tryz.prog Go.Proofs.Tryz.f168 = some m168 := by kernel_rfl
theorem c172 : cFn Go.Proofs.Tryz.prog Go.Proofs.Tryz.f172 = some m172 := by kernel_rfl
theorem c176 : cFn Go.Proofs.Tryz.prog Go.Proofs.Tryz.f176 = some m176 := by kernel_rfl
theorem c180 : cFn Go.Proofs.Tryz.prog Go.Proofs.Tryz.f180 = some m180 := by kernel_rfl
theorem c184 : cFn Go.Proofs.Tryz.prog Go.Proofs.Tryz.f184 = some m184 := by kernel_rfl
theorem c188 : cFn Go.Proofs.Tryz.prog Go.Proofs.Tryz.f188 = some m188 := by kernel_rfl
end Ev

/- The table is what the program compiles to. -/
namespace Ev
open Go

theorem c4 : cFn Go.Proofs.Tryz.prog Go.Proofs.Tryz.f4 = some m4 := by kernel_rfl
theorem c8 : cFn Go.Proofs.Tryz.prog Go.Proofs.Tryz.f8 = some m8 := by kernel_rfl
theorem c12 : cFn Go.Proofs.Tryz.prog Go.Proofs.Tryz.f12 = some m12 := by kernel_rfl
theorem c16 : cFn Go.Proofs.Tryz.prog Go.Proofs.Tryz.f16 = some m16 := by kernel_rfl
theorem c20 : cFn Go.Proofs.Tryz.prog Go.Proofs.Tryz.f20 = some m20 := by kernel_rfl
theorem c24 : cFn Go.Proofs.Tryz.prog Go.Proofs.Tryz.f24 = some m24 := by kernel_rfl
theorem c28 : cFn Go.Proofs.Tryz.prog Go.Proofs.Tryz.f28 = some m28 := by kernel_rfl
theorem c32 : cFn Go.Proofs.Tryz.prog Go.Proofs.Tryz.f32 = some m32 := by kernel_rfl
theorem c36 : cFn Go.Proofs.Tryz.prog Go.Proofs.Tryz.f36 = some m36 := by kernel_rfl
theorem c40 : cFn Go.Proofs.Tryz.prog Go.Proofs.Tryz.f40 = some m40 := by kernel_rfl
theorem c44 : cFn Go.Proofs.Tryz.prog Go.Proofs.Tryz.f44 = some m44 := by kernel_rfl
theorem c48 : cFn Go.Proofs.Tryz.prog Go.Proofs.Tryz.f48 = some m48 := by kernel_rfl
theorem c52 : cFn Go.Proofs.Tryz.prog Go.Proofs.Tryz.f52 = some m52 := by kernel_rfl
theorem c56 : cFn Go.Proofs.Tryz.prog Go.Proofs.Tryz.f56 = some m56 := by kernel_rfl
theorem c60 : cFn Go.Proofs.Tryz.prog Go.Proofs.Tryz.f60 = some m60 := by kernel_rfl
theorem c64 : cFn Go.Proofs.Tryz.prog Go.Proofs.Tryz.f64 = some m64 := by kernel_rfl
theorem c68 : cFn Go.Proofs.Tryz.prog Go.Proofs.Tryz.f68 = some m68 := by kernel_rfl
theorem c72 : cFn Go.Proofs.Tryz.prog Go.Proofs.Tryz.f72 = some m72 := by kernel_rfl
theorem c76 : cFn Go.Proofs.Tryz.prog Go.Proofs.Tryz.f76 = some m76 := by kernel_rfl
theorem c80 : cFn Go.Proofs.Tryz.prog Go.Proofs.Tryz.f80 = some m80 := by kernel_rfl
theorem c84 : cFn Go.Proofs.Tryz.prog Go.Proofs.Tryz.f84 = some m84 := by kernel_rfl
theorem c88 : cFn Go.Proofs.Tryz.prog Go.Proofs.Tryz.f88 = some m88 := by kernel_rfl
theorem c92 : cFn Go.Proofs.Tryz.prog Go.Proofs.Tryz.f92 = some m92 := by kernel_rfl
theorem c96 : cFn Go.Proofs.Tryz.prog Go.Proofs.Tryz.f96 = some m96 := by kernel_rfl
theorem c100 : cFn Go.Proofs.Tryz.prog Go.Proofs.Tryz.f100 = some m100 := by kernel_rfl
theorem c104 : cFn Go.Proofs.Tryz.prog Go.Proofs.Tryz.f104 = some m104 := by kernel_rfl
theorem c108 : cFn Go.Proofs.Tryz.prog Go.Proofs.Tryz.f108 = some m108 := by kernel_rfl
theorem c112 : cFn Go.Proofs.Tryz.prog Go.Proofs.Tryz.f112 = some m112 := by kernel_rfl
theorem c116 : cFn Go.Proofs.Tryz.prog Go.Proofs.Tryz.f116 = some m116 := by kernel_rfl
theorem c120 : cFn Go.Proofs.Tryz.prog Go.Proofs.Tryz.f120 = some m120 := by kernel_rfl
theorem c124 : cFn Go.Proofs.Tryz.prog Go.Proofs.Tryz.f124 = some m124 := by kernel_rfl
theorem c128 : cFn Go.Proofs.Tryz.prog Go.Proofs.Tryz.f128 = some m128 := by kernel_rfl
theorem c132 : cFn Go.Proofs.Tryz.prog Go.Proofs.Tryz.f132 = some m132 := by kernel_rfl
theorem c137 : cFn Go.Proofs.Tryz.prog Go.Proofs.Tryz.f137 = some m137 := by kernel_rfl
theorem c141 : cFn Go.Proofs.Tryz.prog Go.Proofs.Tryz.f141 = some m141 := by kernel_rfl
theorem c145 : cFn Go.Proofs.Tryz.prog Go.Proofs.Tryz.f145 = some m145 := by kernel_rfl
theorem c149 : cFn Go.Proofs.Tryz.prog Go.Proofs.Tryz.f149 = some m149 := by kernel_rfl
theorem c153 : cFn Go.Proofs.Tryz.prog Go.Proofs.Tryz.f153 = some m153 := by kernel_rfl
theorem c157 : cFn Go.Proofs.Tryz.prog Go.Proofs.Tryz.f157 = some m157 := by kernel_rfl
theorem c161 : cFn Go.Proofs.Tryz.prog Go.Proofs.Tryz.f161 = some m161 := by kernel_rfl
theorem c165 : cFn Go.Proofs.Tryz.prog Go.Proofs.Tryz.f165 = some m165 := by kernel_rfl
theorem c169 : cFn Go.Proofs.Tryz.prog Go.Proofs.Tryz.f169 = some m169 := by kernel_rfl
theorem c173 : cFn Go.Proofs.Tryz.prog Go.Proofs.Tryz.f173 = some m173 := by kernel_rfl
theorem c177 : cFn Go.Proofs.Tryz.prog Go.Proofs.Tryz.f177 = some m177 := by kernel_rfl
theorem c181 : cFn Go.Proofs.Tryz.prog Go.Proofs.Tryz.f181 = some m181 := by kernel_rfl
theorem c185 : cFn Go.Proofs.Tryz.prog Go.Proofs.Tryz.f185 = some m185 := by kernel_rfl
theorem c189 : cFn Go.Proofs.Tryz.prog Go.Proofs.Tryz.f189 = some m189 := by kernel_rfl
end Ev

/- The table is what the program compiles to. -/
namespace Ev
open Go

theorem c5 : cFn Go.Proofs.Tryz.prog Go.Proofs.Tryz.f5 = some m5 := by kernel_rfl
theorem c9 : cFn Go.Proofs.Tryz.prog Go.Proofs.Tryz.f9 = some m9 := by kernel_rfl
theorem c13 : cFn Go.Proofs.Tryz.prog Go.Proofs.Tryz.f13 = some m13 := by kernel_rfl
theorem c17 : cFn Go.Proofs.Tryz.prog Go.Proofs.Tryz.f17 = some m17 := by kernel_rfl
theorem c21 : cFn Go.Proofs.Tryz.prog Go.Proofs.Tryz.f21 = some m21 := by kernel_rfl
theorem c25 : cFn Go.Proofs.Tryz.prog Go.Proofs.Tryz.f25 = some m25 := by kernel_rfl
theorem c29 : cFn Go.Proofs.Tryz.prog Go.Proofs.Tryz.f29 = some m29 := by kernel_rfl
theorem c33 : cFn Go.Proofs.Tryz.prog Go.Proofs.Tryz.f33 = some m33 := by kernel_rfl
theorem c37 : cFn Go.Proofs.Tryz.prog Go.Proofs.Tryz.f37 = some m37 := by kernel_rfl
theorem c41 : cFn Go.Proofs.Tryz.prog Go.Proofs.Tryz.f41 = some m41 := by kernel_rfl
theorem c45 : cFn Go.Proofs.Tryz.prog Go.Proofs.Tryz.f45 = some m45 := by kernel_rfl
theorem c49 : cFn Go.Proofs.Tryz.prog Go.Proofs.Tryz.f49 = some m49 := by kernel_rfl
theorem c53 : cFn Go.Proofs.Tryz.prog Go.Proofs.Tryz.f53 = some m53 := by kernel_rfl
theorem c57 : cFn Go.Proofs.Tryz.prog Go.Proofs.Tryz.f57 = some m57 := by kernel_rfl
theorem c61 : cFn Go.Proofs.Tryz.prog Go.Proofs.Tryz.f61 = some m61 := by kernel_rfl
theorem c65 : cFn Go.Proofs.Tryz.prog Go.Proofs.Tryz.f65 = some m65 := by kernel_rfl
theorem c69 : cFn Go.Proofs.Tryz.prog Go.Proofs.Tryz.f69 = some m69 := by kernel_rfl
theorem c73 : cFn Go.Proofs.Tryz.prog Go.Proofs.Tryz.f73 = some m73 := by kernel_rfl
theorem c77 : cFn Go.Proofs.Tryz.prog Go.Proofs.Tryz.f77 = some m77 := by kernel_rfl
theorem c81 : cFn Go.Proofs.Tryz.prog Go.Proofs.Tryz.f81 = some m81 := by kernel_rfl
theorem c85 : cFn Go.Proofs.Tryz.prog Go.Proofs.Tryz.f85 = some m85 := by kernel_rfl
theorem c89 : cFn Go.Proofs.Tryz.prog Go.Proofs.Tryz.f89 = some m89 := by kernel_rfl
theorem c93 : cFn Go.Proofs.Tryz.prog Go.Proofs.Tryz.f93 = some m93 := by kernel_rfl
theorem c97 : cFn Go.Proofs.Tryz.prog Go.Proofs.Tryz.f97 = some m97 := by kernel_rfl
theorem c101 : cFn Go.Proofs.Tryz.prog Go.Proofs.Tryz.f101 = some m101 := by kernel_rfl
theorem c105 : cFn Go.Proofs.Tryz.prog Go.Proofs.Tryz.f105 = some m105 := by kernel_rfl
theorem c109 : cFn Go.Proofs.Tryz.prog Go.Proofs.Tryz.f109 = some m109 := by kernel_rfl
theorem c113 : cFn Go.Proofs.Tryz.prog Go.Proofs.Tryz.f113 = some m113 := by kernel_rfl
theorem c117 : cFn Go.Proofs.Tryz.prog Go.Proofs.Tryz.f117 = some m117 := by kernel_rfl
theorem c121 : cFn Go.Proofs.Tryz.prog Go.Proofs.Tryz.f121 = some m121 := by kernel_rfl
theorem c125 : cFn Go.Proofs.Tryz.prog Go.Proofs.Tryz.f125 = some m125 := by kernel_rfl
theorem c129 : cFn Go.Proofs.Tryz.prog Go.Proofs.Tryz.f129 = some m129 := by kernel_rfl
theorem c133 : cFn Go.Proofs.Tryz.prog Go.Proofs.Tryz.f133 = some m133 := by kernel_rfl
theorem c138 : cFn Go.Proofs.Tryz.prog Go.Proofs.Tryz.f138 = some m138 := by kernel_rfl
theorem c142 : cFn Go.Proofs.Tryz.prog Go.Proofs.Tryz.f142 = some m142 := by kernel_rfl
theorem c146 : cFn Go.Proofs.Tryz.prog Go.Proofs.Tryz.f146 = some m146 := by kernel_rfl
theorem c150 : cFn Go.Proofs.Tryz.prog Go.Proofs.Tryz.f150 = some m150 := by kernel_rfl
theorem c154 : cFn Go.Proofs.Tryz.prog Go.Proofs.Tryz.f154 = some m154 := by kernel_rfl
theorem c158 : cFn Go.Proofs.Tryz.prog Go.Proofs.Tryz.f158 = some m158 := by kernel_rfl
theorem c162 : cFn Go.Proofs.Tryz.prog Go.Proofs.Tryz.f162 = some m162 := by kernel_rfl
theorem c166 : cFn Go.Proofs.Tryz.prog Go.Proofs.Tryz.f166 = some m166 := by kernel_rfl
theorem c170 : cFn Go.Proofs.Tryz.prog Go.Proofs.Tryz.f170 = some m170 := by kernel_rfl
theorem c174 : cFn Go.Proofs.Tryz.prog Go.Proofs.Tryz.f174 = some m174 := by kernel_rfl
theorem c178 : cFn Go.Proofs.Tryz.prog Go.Proofs.Tryz.f178 = some m178 := by kernel_rfl
theorem c182 : cFn Go.Proofs.Tryz.prog Go.Proofs.Tryz.f182 = some m182 := by kernel_rfl
theorem c186 : cFn Go.Proofs.Tryz.prog Go.Proofs.Tryz.f186 = some m186 := by kernel_rfl
end Ev

/- The table of compiled functions. -/
namespace Ev
open Go

def tb12 : List (Option MFn) := none :: none :: none :: none :: none :: none :: none :: none :: none :: none :: none :: none :: none :: none :: none :: none :: []
def tb11 : List (Option MFn) := some m176 :: some m177 :: some m178 :: some m179 :: some m180 :: some m181 :: some m182 :: some m183 :: some m184 :: some m185 :: some m186 :: some m187 :: some m188 :: some m189 :: none :: none :: tb12
def tb10 : List (Option MFn) := some m160 :: some m161 :: some m162 :: some m163 :: some m164 :: some m165 :: some m166 :: some m167 :: some m168 :: some m169 :: some m170 :: some m171 :: some m172 :: some m173 :: some m174 :: some m175 :: tb11
def tb9 : List (Option MFn) := some m144 :: some m145 :: some m146 :: some m147 :: some m148 :: some m149 :: some m150 :: some m151 :: some m152 :: some m153 :: some m154 :: some m155 :: some m156 :: some m157 :: some m158 :: some m159 :: tb10
def tb8 : List (Option MFn) := some m128 :: some m129 :: some m130 :: some m131 :: some m132 :: some m133 :: none :: some m135 :: some m136 :: some m137 :: some m138 :: some m139 :: some m140 :: some m141 :: some m142 :: some m143 :: tb9
def tb7 : List (Option MFn) := some m112 :: some m113 :: some m114 :: some m115 :: some m116 :: some m117 :: some m118 :: some m119 :: some m120 :: some m121 :: some m122 :: some m123 :: some m124 :: some m125 :: some m126 :: some m127 :: tb8
def tb6 : List (Option MFn) := some m96 :: some m97 :: some m98 :: some m99 :: some m100 :: some m101 :: some m102 :: some m103 :: some m104 :: some m105 :: some m106 :: some m107 :: some m108 :: some m109 :: some m110 :: some m111 :: tb7
def tb5 : List (Option MFn) := some m80 :: some m81 :: some m82 :: some m83 :: some m84 :: some m85 :: some m86 :: some m87 :: some m88 :: some m89 :: some m90 :: some m91 :: some m92 :: some m93 :: some m94 :: some m95 :: tb6
def tb4 : List (Option MFn) := some m64 :: some m65 :: some m66 :: some m67 :: some m68 :: some m69 :: some m70 :: some m71 :: some m72 :: some m73 :: some m74 :: some m75 :: some m76 :: some m77 :: some m78 :: some m79 :: tb5
def tb3 : List (Option MFn) := some m48 :: some m49 :: some m50 :: some m51 :: some m52 :: some m53 :: some m54 :: some m55 :: some m56 :: some m57 :: some m58 :: some m59 :: some m60 :: some m61 :: some m62 :: some m63 :: tb4
def tb2 : List (Option MFn) := some m32 :: some m33 :: some m34 :: some m35 :: some m36 :: some m37 :: some m38 :: some m39 :: some m40 :: some m41 :: some m42 :: some m43 :: some m44 :: some m45 :: some m46 :: some m47 :: tb3
def tb1 : List (Option MFn) := some m16 :: some m17 :: some m18 :: some m19 :: some m20 :: some m21 :: some m22 :: some m23 :: some m24 :: some m25 :: some m26 :: some m27 :: some m28 :: some m29 :: some m30 :: some m31 :: tb2
def tb0 : List (Option MFn) := none :: none :: some m2 :: some m3 :: some m4 :: some m5 :: some m6 :: some m7 :: some m8 :: some m9 :: some m10 :: some m11 :: some m12 :: some m13 :: some m14 :: some m15 :: tb1
theorem ag12 : AllG Go.Proofs.Tryz.prog 192 tb12 := (.no (.no (.no (.no (.no (.no (.no (.no (.no (.no (.no (.no (.no (.no (.no (.no (AllG.nil 208)))))))))))))))))
theorem ag11 : AllG Go.Proofs.Tryz.prog 176 tb11 := (.yes Go.Proofs.Tryz.func176 c176 (.yes Go.Proofs.Tryz.func177 c177 (.yes Go.Proofs.Tryz.func178 c178 (.yes Go.Proofs.Tryz.func179 c179 (.yes Go.Proofs.Tryz.func180 c180 (.yes Go.Proofs.Tryz.func181 c181 (.yes Go.Proofs.Tryz.func182 c182 (.yes Go.Proofs.Tryz.func183 c183 (.yes Go.Proofs.Tryz.func184 c184 (.yes Go.Proofs.Tryz.func185 c185 (.yes Go.Proofs.Tryz.func186 c186 (.yes Go.Proofs.Tryz.func187 c187 (.yes Go.Proofs.Tryz.func188 c188 (.yes Go.Proofs.Tryz.func189 c189 (.no (.no ag12))))))))))))))))
theorem ag10 : AllG Go.Proofs.Tryz.prog 160 tb10 := (.yes Go.Proofs.Tryz.func160 c160 (.yes Go.Proofs.Tryz.func161 c161 (.yes Go.Proofs.Tryz.func162 c162 (.yes Go.Proofs.Tryz.func163 c163 (.yes Go.Proofs.Tryz.func164 c164 (.yes Go.Proofs.Tryz.func165 c165 (.yes Go.Proofs.Tryz.func166 c166 (.yes Go.Proofs.Tryz.func167 c167 (.yes Go.Proofs.Tryz.func168 c168 (.yes Go.Proofs.Tryz.func169 c169 (.yes Go.Proofs.Tryz.func170 c170 (.yes Go.Proofs.Tryz.func171 c171 (.yes Go.Proofs.Tryz.func172 c172 (.yes Go.Proofs.Tryz.func173 c173 (.yes Go.Proofs.Tryz.func174 c174 (.yes Go.Proofs.Tryz.func175 c175 ag11))))))))))))))))
theorem ag9 : AllG Go.Proofs.Tryz.prog 144 tb9 := (.yes Go.Proofs.Tryz.func144 c144 (.yes Go.Proofs.Tryz.func145 c145 (.yes Go.Proofs.Tryz.func146 c146 (.yes Go.Proofs.Tryz.func147 c147 (.yes Go.Proofs.Tryz.func148 c148 (.yes Go.Proofs.Tryz.func149 c149 (.yes Go.Proofs.Tryz.func150 c150 (.yes Go.Proofs.Tryz.func151 c151 (.yes Go.Proofs.Tryz.func152 c152 (.yes Go.Proofs.Tryz.func153 c153 (.yes Go.Proofs.Tryz.func154 c154 (.yes Go.Proofs.Tryz.func155 c155 (.yes Go.Proofs.Tryz.func156 c156 (.yes Go.Proofs.Tryz.func157 c157 (.yes Go.Proofs.Tryz.func158 c158 (.yes Go.Proofs.Tryz.func159 c159 ag10))))))))))))))))
theorem ag8 : AllG Go.Proofs.Tryz.prog 128 tb8 := (.yes Go.Proofs.Tryz.func128 c128 (.yes Go.Proofs.Tryz.func129 c129 (.yes Go.Proofs.Tryz.func130 c130 (.yes Go.Proofs.Tryz.func131 c131 (.yes Go.Proofs.Tryz.func132 c132 (.yes Go.Proofs.Tryz.func133 c133 (.no (.yes Go.Proofs.Tryz.func135 c135 (.yes Go.Proofs.Tryz.func136 c136 (.yes Go.Proofs.Tryz.func137 c137 (.yes Go.Proofs.Tryz.func138 c138 (.yes Go.Proofs.Tryz.func139 c139 (.yes Go.Proofs.Tryz.func140 c140 (.yes Go.Proofs.Tryz.func141 c141 (.yes Go.Proofs.Tryz.func142 c142 (.yes Go.Proofs.Tryz.func143 c143 ag9))))))))))))))))
theorem ag7 : AllG Go.Proofs.Tryz.prog 112 tb7 := (.yes Go.Proofs.Tryz.func112 c112 (.yes Go.Proofs.Tryz.func113 c113 (.yes Go.Proofs.Tryz.func114 c114 (.yes Go.Proofs.Tryz.func115 c115 (.yes Go.Proofs.Tryz.func116 c116 (.yes Go.Proofs.Tryz.func117 c117 (.yes Go.Proofs.Tryz.func118 c118 (.yes Go.Proofs.Tryz.func119 c119 (.yes Go.Proofs.Tryz.func120 c120 (.yes Go.Proofs.Tryz.func121 c121 (.yes Go.Proofs.Tryz.func122 c122 (.yes Go.Proofs.Tryz.func123 c123 (.yes Go.Proofs.Tryz.func124 c124 (.yes Go.Proofs.Tryz.func125 c125 (.yes Go.Proofs.Tryz.func126 c126 (.yes Go.Proofs.Tryz.func127 c127 ag8))))))))))))))))
theorem ag6 : AllG Go.Proofs.Tryz.prog 96 tb6 := (.yes Go.Proofs.Tryz.func96 c96 (.yes Go.Proofs.Tryz.func97 c97 (.yes Go.Proofs.Tryz.func98 c98 (.yes Go.Proofs.Tryz.func99 c99 (.yes Go.Proofs.Tryz.func100 c100 (.yes Go.Proofs.Tryz.func101 c101 (.yes Go.Proofs.Tryz.func102 c102 (.yes Go.Proofs.Tryz.func103 c103 (.yes Go.Proofs.Tryz.func104 c104 (.yes Go.Proofs.Tryz.func105 c105 (.yes Go.Proofs.Tryz.func106 c106 (.yes Go.Proofs.Tryz.func107 c107 (.yes Go.Proofs.Tryz.func108 c108 (.yes Go.Proofs.Tryz.func109 c109 (.yes Go.Proofs.Tryz.func110 c110 (.yes Go.Proofs.Tryz.func111 c111 ag7))))))))))))))))
theorem ag5 : AllG Go.Proofs.Tryz.prog 80 tb5 := (.yes Go.Proofs.Tryz.func80 c80 (.yes Go.Proofs.Tryz.func81 c81 (.yes Go.Proofs.Tryz.func82 c82 (.yes Go.Proofs.Tryz.func83 c83 (.yes Go.Proofs.Tryz.func84 c84 (.yes Go.Proofs.Tryz.func85 c85 (.yes Go.Proofs.Tryz.func86 c86 (.yes Go.Proofs.Tryz.func87 c87 (.yes Go.Proofs.Tryz.func88 c88 (.yes Go.Proofs.Tryz.func89 c89 (.yes Go.Proofs.Tryz.func90 c90 (.yes Go.Proofs.Tryz.func91 c91 (.yes Go.Proofs.Tryz.func92 c92 (.yes Go.Proofs.Tryz.func93 c93 (.yes Go.Proofs.Tryz.func94 c94 (.yes Go.Proofs.Tryz.func95 c95 ag6))))))))))))))))
theorem ag4 : AllG Go.Proofs.Tryz.prog 64 tb4 := (.yes Go.Proofs.Tryz.func64 c64 (.yes Go.Proofs.Tryz.func65 c65 (.yes Go.Proofs.Tryz.func66 c66 (.yes Go.Proofs.Tryz.func67 c67 (.yes Go.Proofs.Tryz.func68 c68 (.yes Go.Proofs.Tryz.func69 c69 (.yes Go.Proofs.Tryz.func70 c70 (.yes Go.Proofs.Tryz.func71 c71 (.yes Go.Proofs.Tryz.func72 c72 (.yes Go.Proofs.Tryz.func73 c73 (.yes Go.Proofs.Tryz.func74 c74 (.yes Go.Proofs.Tryz.func75 c75 (.yes Go.Proofs.Tryz.func76 c76 (.yes Go.Proofs.Tryz.func77 c77 (.yes Go.Proofs.Tryz.func78 c78 (.yes Go.Proofs.Tryz.func79 c79 ag5))))))))))))))))
theorem ag3 : AllG Go.Proofs.Tryz.prog 48 tb3 := (.yes Go.Proofs.Tryz.func48 c48 (.yes Go.Proofs.Tryz.func49 c49 (.yes Go.Proofs.Tryz.func50 c50 (.yes Go.Proofs.Tryz.func51 c51 (.yes Go.Proofs.Tryz.func52 c52 (.yes Go.Proofs.Tryz.func53 c53 (.yes Go.Proofs.Tryz.func54 c54 (.yes Go.Proofs.Tryz.func55 c55 (.yes Go.Proofs.Tryz.func56 c56 (.yes Go.Proofs.Tryz.func57 c57 (.yes Go.Proofs.Tryz.func58 c58 (.yes Go.Proofs.Tryz.func59 c59 (.yes Go.Proofs.Tryz.func60 c60 (.yes Go.Proofs.Tryz.func61 c61 (.yes Go.Proofs.Tryz.func62 c62 (.yes Go.Proofs.Tryz.func63 c63 ag4))))))))))))))))
theorem ag2 : AllG Go.Proofs.Tryz.prog 32 tb2 := (.yes Go.Proofs.Tryz.func32 c32 (.yes Go.Proofs.Tryz.func33 c33 (.yes Go.Proofs.Tryz.func34 c34 (.yes Go.Proofs.Tryz.func35 c35 (.yes Go.Proofs.Tryz.func36 c36 (.yes Go.Proofs.Tryz.func37 c37 (.yes Go.Proofs.Tryz.func38 c38 (.yes Go.Proofs.Tryz.func39 c39 (.yes Go.Proofs.Tryz.func40 c40 (.yes Go.Proofs.Tryz.func41 c41 (.yes Go.Proofs.Tryz.func42 c42 (.yes Go.Proofs.Tryz.func43 c43 (.yes Go.Proofs.Tryz.func44 c44 (.yes Go.Proofs.Tryz.func45 c45 (.yes Go.Proofs.Tryz.func46 c46 (.yes Go.Proofs.Tryz.func47 c47 ag3))))))))))))))))
theorem ag1 : AllG Go.Proofs.Tryz.prog 16 tb1 := (.yes Go.Proofs.Tryz.func16 c16 (.yes Go.Proofs.Tryz.func17 c17 (.yes Go.Proofs.Tryz.func18 c18 (.yes Go.Proofs.Tryz.func19 c19 (.yes Go.Proofs.Tryz.func20 c20 (.yes Go.Proofs.Tryz.func21 c21 (.yes Go.Proofs.Tryz.func22 c22 (.yes Go.Proofs.Tryz.func23 c23 (.yes Go.Proofs.Tryz.func24 c24 (.yes Go.Proofs.Tryz.func25 c25 (.yes Go.Proofs.Tryz.func26 c26 (.yes Go.Proofs.Tryz.func27 c27 (.yes Go.Proofs.Tryz.func28 c28 (.yes Go.Proofs.Tryz.func29 c29 (.yes Go.Proofs.Tryz.func30 c30 (.yes Go.Proofs.Tryz.func31 c31 ag2))))))))))))))))
theorem ag0 : AllG Go.Proofs.Tryz.prog 0 tb0 := (.no (.no (.yes Go.Proofs.Tryz.func2 c2 (.yes Go.Proofs.Tryz.func3 c3 (.yes Go.Proofs.Tryz.func4 c4 (.yes Go.Proofs.Tryz.func5 c5 (.yes Go.Proofs.Tryz.func6 c6 (.yes Go.Proofs.Tryz.func7 c7 (.yes Go.Proofs.Tryz.func8 c8 (.yes Go.Proofs.Tryz.func9 c9 (.yes Go.Proofs.Tryz.func10 c10 (.yes Go.Proofs.Tryz.func11 c11 (.yes Go.Proofs.Tryz.func12 c12 (.yes Go.Proofs.Tryz.func13 c13 (.yes Go.Proofs.Tryz.func14 c14 (.yes Go.Proofs.Tryz.func15 c15 ag1))))))))))))))))

theorem mixedT : Go.Proofs.Tryz.prog.follows .mixedOrders = true := by kernel_rfl
def theG : Pg := pgOf tb0
theorem theGood : Good Go.Proofs.Tryz.prog theG := good_of ag0 mixedT
end Ev

/- Norec: contracts of the values. -/
namespace Ev
open Go

theorem e134 : Extern.findNext Go.Proofs.Tryz.f134 = none := by kernel_rfl
theorem e134' : Extern.find Go.Proofs.Tryz.f134 = some Extern.MathFloatBits.float64frombits := by kernel_rfl
def theG1 : Pg := pgExt tb0 134
theorem theGood1 : Good Go.Proofs.Tryz.prog theG1 := good_ext ag0 mixedT Go.Proofs.Tryz.func134 (by kernel_rfl) (by kernel_rfl) e134 e134'
def theG2 : Pg := theG1.all Go.Proofs.Tryz.prog
theorem theGood2 : Good Go.Proofs.Tryz.prog theG2 := good_all theGood1

theorem le_num (a b : Int) : intBin .leq .u64 a .u64 b = some (.bool (decide (a ≤ b))) := by simp [intBin]
theorem eql_num (a b : Int) : intBin .eql .u64 a .u64 b = some (.bool (a == b)) := by simp [intBin]

theorem right86 {n : Int} (h0 : 0 ≤ n) (h1 : n < 18446744073709551616) {s : S} {Q : Res → Option AMode → S → Prop} (hq : Q (.ret (.bool (rightB n))) none { h := s.h, c := s.c + 1 + 8 }) :
    Cl theG2 ⟨.fn 86, [.int .u64 n], none, s, Q⟩ := by
  refine Cl.closed _ ?_
  show wpC theG2 (Cl theG2) m86.code (bodyQ (Cl theG2) m86 Q) { t := [Value.int .u64 n] ++ List.replicate 9 undef, d := [], m := none, r := none } s
  simp only [m86, wpC, wpOps, wpM, cls, evP, eval, nth, wantedM, F.put, upd, again, List.replicate, List.cons_append, List.nil_append, thenQ, true_and, bodyQ, unwindQ, resultsV, retV, binV, andNot_sign h0 h1, le_num, eql_num]
  unfold rightB at hq
  cases hb : decide (n % 9223372036854775808 ≤ 9218868437227405312) <;> simp only [hb, Bool.true_or, Bool.false_or] at hq
  · simpa [hb] using hq
  · simpa [hb] using hq

theorem float_self (b : Nat) : binV .eql (.float .f64 b) (.float .f64 b) = some (.bool (decide (b % 9223372036854775808 ≤ 9218868437227405312))) := by
  have : binV .eql (.float .f64 b) (.float .f64 b) = some (.bool ((FloatKind.format .f64).order b b == some .eq)) := rfl
  rw [this, order_self]
  split <;> simp [*]

theorem right88 {n : Int} (h0 : 0 ≤ n) (h1 : n < 18446744073709551616) {s : S} {Q : Res → Option AMode → S → Prop} (hq : Q (.ret (.bool (rightB n))) none { h := s.h, c := s.c + 1 + 3 + 8 }) :
    Cl theG2 ⟨.fn 88, [.int .u64 n], none, s, Q⟩ := by
  refine Cl.closed _ ?_
  show wpC theG2 (Cl theG2) m88.code (bodyQ (Cl theG2) m88 Q) { t := [Value.int .u64 n] ++ List.replicate 12 undef, d := [], m := none, r := none } s
  have hx : extOf theG2 (.fn 134) = some fromBits := rfl
  have hm : decide (n.toNat % 9223372036854775808 ≤ 9218868437227405312) = decide (n % 9223372036854775808 ≤ 9218868437227405312) := by
    congr 1; apply propext; constructor <;> intro h <;> omega
  simp only [m88, wpC, wpOps, wpM, wpCtl, cls, evP, eval, evals, tgtOf, hx, fromBits, nth, wantedM, F.put, upd, again, List.replicate, List.cons_append, List.nil_append, thenQ, true_and, bodyQ, unwindQ, resultsV, retV, float_self]
  simp only [binV, eql_num, hm]
  unfold rightB at hq
  cases hb : decide (n % 9223372036854775808 ≤ 9218868437227405312) <;> simp only [hb, Bool.true_or, Bool.false_or] at hq
  · simpa [hb] using hq
  · simpa [hb] using hq
end Ev

/- Norec: Heaped and New over a slice. -/
namespace Ev
open Go

/-- The slice's values, and that they lie there. -/
structure Vals (h : Heap) (b o n : Nat) (f : Nat → Int) : Prop where
  at_ : ∃ c t lo hi, h.get b = some (.cells c t lo hi) ∧ ∀ i, i < n → nth c (o + i) = some (.int .u64 (f i))
  lo : ∀ i, i < n → 0 ≤ f i
  hi : ∀ i, i < n → f i < 18446744073709551616

theorem Vals.load {h : Heap} {b o n : Nat} {f : Nat → Int} (hv : Vals h b o n f) {i : Nat} (hi : i < n) : loadV h 1 false (.pointer (some ⟨b, o + i * 1, none⟩)) = some (.int .u64 (f i)) := by
  obtain ⟨c, t, lo, hi', h1, h2⟩ := hv.at_
  simp only [loadV, h1, partV, Nat.mul_one]
  exact h2 i hi

theorem lss64 (a b : Int) : intBin .lss .i64 a .i64 b = some (.bool (decide (a < b))) := by simp [intBin]
theorem gtr64 (a b : Int) : intBin .gtr .i64 a .i64 b = some (.bool (decide (a > b))) := by simp [intBin]
theorem add64 {a b : Int} (h0 : 0 ≤ a + b) (h1 : a + b < 1000000) : intBin .add .i64 a .i64 b = some (.int .i64 (a + b)) := by
  have : IntKind.i64.wrap (a + b) = a + b := by
    simp [IntKind.wrap, IntKind.bits, IntKind.signed]
    omega
  simp [intBin, this]

/-- All of them may be. -/
def allRight (f : Nat → Int) : Nat → Bool
  | 0 => true
  | n + 1 => allRight f n && rightB (f n)

theorem allRight_false {f : Nat → Int} {i : Nat} (h : rightB (f i) = false) : ∀ {n : Nat}, i < n → allRight f n = false := by
  intro n
  induction n with
  | zero => intro hi; omega
  | succ n ih =>
    intro hi
    simp only [allRight]
    by_cases e : i = n
    · subst e; rw [h]; simp
    · rw [ih (by omega)]; simp
end Ev

namespace Ev
open Go
theorem heaped29 {b o n cap : Nat} {f : Nat → Int} {s : S} {sp : Option Nat} (hv : Vals s.h b o n f) (hn : n ≤ 12) (h1 : 1 ≤ n) {Q : Res → Option AMode → S → Prop}
    (hq : ∀ c', s.c ≤ c' → Q (.ret (.bool (allRight f n))) none { h := s.h, c := c' }) : Cl theG2 ⟨.fn 29, [.slice (some ⟨b, o, sp⟩) n cap], none, s, Q⟩ := by
  refine Cl.closed _ ?_
  show wpC theG2 (Cl theG2) m29.code (bodyQ (Cl theG2) m29 Q) { t := [Value.slice (some ⟨b, o, sp⟩) n cap] ++ List.replicate 23 undef, d := [], m := none, r := none } s
  have e1 : decide ((n : Int) < 1) = false := by simp; omega
  have e2 : decide ((n : Int) > 12) = false := by simp; omega
  unfold m29
  simp only [wp_skip, wp_region, wp_seq, wp_cond, condQ_true, condQ_false, wp_block, wp_exit, wp_ret, wpOps, wpM, cls, evP, eval, lenV, nth, wantedM, F.put, upd, again, List.replicate, List.cons_append, List.nil_append, thenQ, true_and, binV, lss64, gtr64, e1, e2, beq_self_eq_true]
  refine wpC_loop (fun k fr s' => ∃ i : Nat, i ≤ n ∧ k = n - i ∧ s'.h = s.h ∧ s.c ≤ s'.c ∧ fr.t.length = 24 ∧ nth fr.t 0 = some (.slice (some ⟨b, o, sp⟩) n cap) ∧
    nth fr.t 3 = some (.int .i64 i) ∧ fr.d = [] ∧ fr.m = none ∧ fr.r = none ∧ allRight f i = true) ?_ (k := n) ?_
  · rintro k ⟨t, d, m, r⟩ ⟨h, c⟩ ⟨i, hi, hk, hh, hc, hl, h0, h3, hd, hm, hr, hall⟩
    simp only at hh hc hl h0 h3 hd hm hr
    subst hh; subst hd; subst hm; subst hr
    simp only [wp_skip, wp_region, wp_seq, wp_cond, condQ_true, condQ_false, wp_block, wp_exit, wp_ret, wpOps, wpM, cls, evP, eval, lenV, nth_upd, length_upd, hl, h0, h3, wantedM, F.put, again, thenQ, true_and, and_true, binV, lss64, gtr64,
      if_true, if_false, Nat.reduceEqDiff, Nat.reduceLT, and_self, false_and]
    by_cases hlt : i < n
    · have e3 : decide ((i : Int) < n) = true := by simp; omega
      have e4 : (0 : Int) ≤ i ∧ (i : Int) < n := by omega
      have e5 := hv.load hlt
      simp only [e3, e4, condQ_true, if_true, evR, eval, nth_upd, length_upd, hl, Nat.reduceLT, and_self, adv, Int.toNat_natCast, e5, and_true, wpCtl, evals, tgtOf, Array.toList_empty, List.nil_append, List.append_nil]
      have hx : extOf theG2 (.fn 88) = none := rfl
      simp only [hx]
      refine right88 (hv.lo i hlt) (hv.hi i hlt) ?_
      simp only [resK, nth_upd, length_upd, hl, Nat.reduceLT, and_self, if_true, again, true_and]
      have e6 : ∀ q : Bool, pv (Op.unary .not (.bool q)) = some (.bool !q) := fun q => by cases q <;> rfl
      simp only [e6]
      cases hb : rightB (f i) with
      | true =>
        simp only [Bool.not_true, condQ_false, thenQ, blockQ, nth_upd, length_upd, hl, h0, h3, Nat.reduceLT, Nat.reduceEqDiff, and_self, false_and, if_true, if_false, eval, binV]
        simp only [wp_skip, wp_region, wp_seq, wp_cond, condQ_true, condQ_false, wp_block, wp_exit, wp_ret, wpOps, wpM, cls, evP, eval, nth_upd, length_upd, hl, h0, h3, wantedM, F.put, again, true_and, and_true, binV, thenQ, blockQ, bodyQ, unwindQ, resultsV, retV, if_true, if_false, Nat.reduceEqDiff, Nat.reduceLT, and_self, false_and, show Nat.beq 0 0 = true from rfl, cond_true, add64 (a := (i : Int)) (b := 1) (by omega) (by omega)]
        refine ⟨n - (i + 1), by omega, i + 1, by omega, rfl, ?_⟩
        simp [allRight, hall, hb]
        try omega
      | false =>
        simp only [Bool.not_false, condQ_true, thenQ, blockQ, nth_upd, length_upd, hl, h0, h3, Nat.reduceLT, Nat.reduceEqDiff, and_self, false_and, if_true, if_false, eval]
        simp only [wp_skip, wp_region, wp_seq, wp_cond, condQ_true, condQ_false, wp_block, wp_exit, wp_ret, wpOps, wpM, cls, evP, eval, nth_upd, length_upd, hl, h0, h3, wantedM, F.put, again, true_and, and_true, binV, thenQ, blockQ, bodyQ, unwindQ, resultsV, retV, if_true, if_false, Nat.reduceEqDiff, Nat.reduceLT, and_self, false_and, show Nat.beq 0 0 = true from rfl, cond_true]
        have := hq
        rw [allRight_false hb hlt] at this
        exact this _ (by omega)
    · have e3 : decide ((i : Int) < n) = false := by simp; omega
      simp only [e3, condQ_false, thenQ, blockQ]
      simp only [wp_skip, wp_region, wp_seq, wp_cond, condQ_true, condQ_false, wp_block, wp_exit, wp_ret, wpOps, wpM, cls, evP, eval, nth_upd, length_upd, hl, h0, h3, wantedM, F.put, again, true_and, and_true, binV, thenQ, blockQ, bodyQ, unwindQ, resultsV, retV, if_true, if_false, Nat.reduceEqDiff, Nat.reduceLT, and_self, false_and, show Nat.beq 0 0 = true from rfl, cond_true]
      have hin : i = n := by omega
      subst hin
      rw [hall] at hq
      exact hq _ (by omega)
  · exact ⟨0, by omega, by omega, rfl, by simp; omega, rfl, rfl, rfl, rfl, rfl, rfl, rfl⟩
end Ev

/- Norec: a new lock. -/
namespace Ev
open Go
theorem new87 {s : S} {Q : Res → Option AMode → S → Prop}
    (hq : Q (.ret (.pointer (some ⟨s.c + 1 + 1, 0, none⟩))) none { h := s.h.set (s.c + 1 + 1) (some (.cells [.pointer none, .int .u64 0] 138 0 0)), c := s.c + 1 + 3 }) :
    Cl theG2 ⟨.fn 87, [], none, s, Q⟩ := by
  refine Cl.closed _ ?_
  show wpC theG2 (Cl theG2) m87.code (bodyQ (Cl theG2) m87 Q) { t := [] ++ List.replicate 3 undef, d := [], m := none, r := none } s
  unfold m87
  simp only [wp_skip, wp_region, wp_seq, wp_ret, wpOps, wpM, cls, evP, evA, eval, nth, upd, wantedM, F.put, again, List.replicate, List.cons_append, List.nil_append, thenQ, true_and, bodyQ, unwindQ, resultsV, retV, partsV, fillV, cellsOf]
  exact hq
end Ev

/- Norec: a slice's copy. -/
namespace Ev
open Go
theorem clone50 {s : S} {b o n cap : Nat} {sp : Option Nat} {vs : List Value} (h1 : 1 ≤ n) (hn : n ≤ 12) (hcut : firstV s.h 1 n (.slice (some ⟨b, o, sp⟩) n cap) = some vs) (hb : b < s.c)
    (hcap : Nat.blt cap emp = true) {Q : Res → Option AMode → S → Prop}
    (hq : ∀ j s', s.c ≤ j → s.c ≤ s'.c → (∀ i, i < s.c → s'.h.get i = s.h.get i) → Q (.ret (.slice (some ⟨j, 0, none⟩) n (unk + 1))) none s') :
    Cl theG2 ⟨.fn 50, [.slice (some ⟨b, o, sp⟩) n cap], none, s, Q⟩ := by
  refine Cl.closed _ ?_
  show wpC theG2 (Cl theG2) m50.code (bodyQ (Cl theG2) m50 Q) { t := [Value.slice (some ⟨b, o, sp⟩) n cap] ++ List.replicate 7 undef, d := [], m := none, r := none } s
  unfold m50
  have e0 : (0 : Nat) < emp := by decide
  simp only [wp_skip, wp_region, wp_seq, wp_ret, wp_cond, condQ_false, condQ_true, wpOps, wpM, cls, evP, evA, evS, eval, nth, upd, wantedM, F.put, again, List.replicate, List.cons_append, List.nil_append, thenQ, true_and, bodyQ, unwindQ, resultsV, retV, partsV, fillV, cellsOf, eqv, e0, if_true, lenOfV]
  have e1 : (Value.bool (false != false)) = .bool false := rfl
  have e2 : firstV (s.h.set (s.c + 1 + 2 + 0) (some (.cells [] 35 0 0))) 1 n (.slice (some ⟨b, o, sp⟩) n cap) = some vs := by
    rw [← hcut]
    simp only [firstV]
    rw [Tr.get_set_ne _ _ (by omega)]
  have e3 : n * (8 + 1) ≤ 1099511627776 := by omega
  have e4 : ¬ (n ≤ 0) := by omega
  simp only [e1, condQ_false]
  rw [e2]
  simp only [appendV, Nat.zero_add, e3, e4, if_false, show Nat.blt 0 unk = true from rfl, cond_true, firstV, Tr.get_set_same, Nat.zero_mul, cut, List.nil_append, Nat.lt_add_one, and_self, not_true, if_true, Nat.zero_lt_one]
  refine hq (s.c + 1 + 2 + 4) _ (by omega) ?_ fun i hi => ?_
  · show s.c ≤ s.c + 1 + 2 + 4 + 1
    omega
  rw [Tr.get_set_ne _ _ (by omega), Tr.get_set_ne _ _ (by omega)]
end Ev

/- Norec: New over a slice. -/
namespace Ev
open Go
theorem new28 {vs : List Value} {b o n cap : Nat} {f : Nat → Int} {s : S} {sp : Option Nat} (hv : Vals s.h b o n f) (hn : n ≤ 12) (h1 : 1 ≤ n) (hcut : firstV s.h 1 n (.slice (some ⟨b, o, sp⟩) n cap) = some vs) (hb : b < s.c) (hcap : Nat.blt cap emp = true) {Q : Res → Option AMode → S → Prop}
    (hq : ∀ c', s.c ≤ c' → allRight f n = false → Q (.ret (.pointer none)) none { h := s.h, c := c' })
    (hq2 : ∀ s' j, allRight f n = true → s.c ≤ s'.c → (∀ i, i < s.c → s'.h.get i = s.h.get i) → Q (.ret (.pointer (some ⟨j, 0, none⟩))) none s') : Cl theG2 ⟨.fn 28, [.slice (some ⟨b, o, sp⟩) n cap], none, s, Q⟩ := by
  refine Cl.closed _ ?_
  show wpC theG2 (Cl theG2) m28.code (bodyQ (Cl theG2) m28 Q) { t := [Value.slice (some ⟨b, o, sp⟩) n cap] ++ List.replicate 28 undef, d := [], m := none, r := none } s
  have e1 : decide ((n : Int) < 1) = false := by simp; omega
  have e2 : decide ((n : Int) > 12) = false := by simp; omega
  unfold m28
  simp only [wp_skip, wp_region, wp_seq, wp_cond, condQ_true, condQ_false, wp_block, wp_exit, wp_ret, wpOps, wpM, cls, evP, eval, lenV, nth, wantedM, F.put, upd, again, List.replicate, List.cons_append, List.nil_append, thenQ, true_and, binV, lss64, gtr64, e1, e2, beq_self_eq_true]
  refine wpC_loop (fun k fr s' => ∃ i : Nat, i ≤ n ∧ k = n - i ∧ s'.h = s.h ∧ s.c ≤ s'.c ∧ fr.t.length = 29 ∧ nth fr.t 0 = some (.slice (some ⟨b, o, sp⟩) n cap) ∧ nth fr.t 13 = some (.slice (some ⟨b, o, sp⟩) n cap) ∧ nth fr.t 14 = some (.int .i64 n) ∧
    nth fr.t 15 = some (.int .i64 i) ∧ fr.d = [] ∧ fr.m = none ∧ fr.r = none ∧ allRight f i = true) ?_ (k := n) ?_
  · rintro k ⟨t, d, m, r⟩ ⟨h, c⟩ ⟨i, hi, hk, hh, hc, hl, h0, h13, h14, h3, hd, hm, hr, hall⟩
    simp only at hh hc hl h0 h13 h14 h3 hd hm hr
    subst hh; subst hd; subst hm; subst hr
    simp only [wp_skip, wp_region, wp_seq, wp_cond, condQ_true, condQ_false, wp_block, wp_exit, wp_ret, wpOps, wpM, cls, evP, eval, lenV, nth_upd, length_upd, hl, h0, h13, h14, h3, wantedM, F.put, again, thenQ, true_and, and_true, binV, lss64, gtr64,
      if_true, if_false, Nat.reduceEqDiff, Nat.reduceLT, and_self, false_and]
    by_cases hlt : i < n
    · have e3 : decide ((i : Int) < n) = true := by simp; omega
      have e4 : (0 : Int) ≤ i ∧ (i : Int) < n := by omega
      have e5 := hv.load hlt
      simp only [e3, e4, condQ_true, if_true, evR, eval, nth_upd, length_upd, hl, Nat.reduceLT, and_self, adv, Int.toNat_natCast, e5, and_true, wpCtl, evals, tgtOf, Array.toList_empty, List.nil_append, List.append_nil]
      have hx : extOf theG2 (.fn 86) = none := rfl
      simp only [hx]
      refine right86 (hv.lo i hlt) (hv.hi i hlt) ?_
      simp only [resK, nth_upd, length_upd, hl, Nat.reduceLT, and_self, if_true, again, true_and]
      have e6 : ∀ q : Bool, pv (Op.unary .not (.bool q)) = some (.bool !q) := fun q => by cases q <;> rfl
      simp only [e6]
      cases hb : rightB (f i) with
      | true =>
        simp only [Bool.not_true, condQ_false, thenQ, blockQ, nth_upd, length_upd, hl, h0, h13, h14, h3, Nat.reduceLT, Nat.reduceEqDiff, and_self, false_and, if_true, if_false, eval, binV]
        simp only [wp_skip, wp_region, wp_seq, wp_cond, condQ_true, condQ_false, wp_block, wp_exit, wp_ret, wpOps, wpM, cls, evP, eval, nth_upd, length_upd, hl, h0, h13, h14, h3, wantedM, F.put, again, true_and, and_true, binV, thenQ, blockQ, bodyQ, unwindQ, resultsV, retV, if_true, if_false, Nat.reduceEqDiff, Nat.reduceLT, and_self, false_and, show Nat.beq 0 0 = true from rfl, cond_true, add64 (a := (i : Int)) (b := 1) (by omega) (by omega)]
        refine ⟨n - (i + 1), by omega, i + 1, by omega, rfl, ?_⟩
        simp [allRight, hall, hb]
        try omega
      | false =>
        simp only [Bool.not_false, condQ_true, thenQ, blockQ, nth_upd, length_upd, hl, h0, h13, h14, h3, Nat.reduceLT, Nat.reduceEqDiff, and_self, false_and, if_true, if_false, eval]
        simp only [wp_skip, wp_region, wp_seq, wp_cond, condQ_true, condQ_false, wp_block, wp_exit, wp_ret, wpOps, wpM, cls, evP, eval, nth_upd, length_upd, hl, h0, h13, h14, h3, wantedM, F.put, again, true_and, and_true, binV, thenQ, blockQ, bodyQ, unwindQ, resultsV, retV, if_true, if_false, Nat.reduceEqDiff, Nat.reduceLT, and_self, false_and, show Nat.beq 0 0 = true from rfl, cond_true]
        have := hq
        rw [allRight_false hb hlt] at this
        exact this _ (by omega) rfl
    · have e3 : decide ((i : Int) < n) = false := by simp; omega
      simp only [e3, condQ_false, thenQ, blockQ]
      simp only [wp_skip, wp_region, wp_seq, wp_cond, condQ_true, condQ_false, wp_block, wp_exit, wp_ret, wpOps, wpM, cls, evP, eval, nth_upd, length_upd, hl, h0, h13, h14, h3, wantedM, F.put, again, true_and, and_true, binV, thenQ, blockQ, bodyQ, unwindQ, resultsV, retV, if_true, if_false, Nat.reduceEqDiff, Nat.reduceLT, and_self, false_and, show Nat.beq 0 0 = true from rfl, cond_true]
      have hin : i = n := by omega
      subst hin
      simp only [wpCtl, eval, evals, tgtOf, Array.toList_empty, List.nil_append, List.append_nil, show extOf theG2 (.fn 87) = none from rfl]
      refine new87 ?_
      simp only [resK, nth_upd, length_upd, hl, h0, Nat.reduceLT, Nat.reduceEqDiff, and_self, false_and, if_true, if_false, eval, evals, tgtOf, Array.toList_empty, List.nil_append, List.append_nil, show extOf theG2 (.fn 50) = none from rfl, List.cons_append]
      refine clone50 (vs := vs) h1 hn ?_ (by simp only; omega) hcap fun j s2 hj hc2 hsame => ?_
      · rw [← hcut]
        simp only [firstV]
        rw [Tr.get_set_ne _ _ (by omega)]
      · simp only [resK, evA, partsV, eval, nth_upd, length_upd, hl, Nat.reduceLT, Nat.reduceEqDiff, and_self, false_and, and_true, true_and, if_true, if_false, fillV, cellsOf, List.length_cons, List.length_nil, updL, upd, unwindQ, resultsV, retV]
        have k1 : 0 + 1 ≤ 0 + 1 + 1 + 1 + 1 + 1 + 1 := by omega
        have k2 : 1 + 1 ≤ 0 + 1 + 1 + 1 + 1 + 1 + 1 := by omega
        have k3 : 2 + 1 ≤ 0 + 1 + 1 + 1 + 1 + 1 + 1 := by omega
        simp only [k1, k2, k3, if_true]
        refine hq2 _ _ hall ?_ fun x hx => ?_
        · simp only at hc2 ⊢; omega
        · simp only
          rw [Tr.get_set_ne _ _ (by omega), Tr.get_set_ne _ _ (by omega), hsame x (by simp only; omega)]
          simp only
          rw [Tr.get_set_ne _ _ (by omega)]
  · exact ⟨0, by omega, by omega, rfl, by simp; omega, rfl, rfl, rfl, rfl, rfl, rfl, rfl, rfl, rfl⟩
end Ev

/- Norec: heaps that are too short or too long. -/
namespace Ev
open Go
theorem heaped29_not {a : Option Addr} {n cap : Nat} {s : S} (h : n = 0 ∨ 12 < n) {Q : Res → Option AMode → S → Prop}
    (hq : ∀ c', s.c ≤ c' → Q (.ret (.bool false)) none { h := s.h, c := c' }) : Cl theG2 ⟨.fn 29, [.slice a n cap], none, s, Q⟩ := by
  refine Cl.closed _ ?_
  show wpC theG2 (Cl theG2) m29.code (bodyQ (Cl theG2) m29 Q) { t := [Value.slice a n cap] ++ List.replicate 23 undef, d := [], m := none, r := none } s
  unfold m29
  rcases h with h | h
  · have e1 : decide ((n : Int) < 1) = true := by simp; omega
    simp only [wp_skip, wp_region, wp_seq, wp_cond, condQ_true, condQ_false, wp_block, wp_exit, wp_ret, wpOps, wpM, cls, evP, eval, lenV, nth, wantedM, F.put, upd, again, List.replicate, List.cons_append, List.nil_append, thenQ, true_and, binV, lss64, gtr64, e1, beq_self_eq_true,
      show (true == false) = false from rfl, bodyQ, unwindQ, resultsV, retV]
    exact hq _ (by omega)
  · have e1 : decide ((n : Int) < 1) = false := by simp; omega
    have e2 : decide ((n : Int) > 12) = true := by simp; omega
    simp only [wp_skip, wp_region, wp_seq, wp_cond, condQ_true, condQ_false, wp_block, wp_exit, wp_ret, wpOps, wpM, cls, evP, eval, lenV, nth, wantedM, F.put, upd, again, List.replicate, List.cons_append, List.nil_append, thenQ, true_and, binV, lss64, gtr64, e1, e2, beq_self_eq_true, bodyQ, unwindQ, resultsV, retV]
    exact hq _ (by omega)

theorem new28_not {a : Option Addr} {n cap : Nat} {s : S} (h : n = 0 ∨ 12 < n) {Q : Res → Option AMode → S → Prop}
    (hq : ∀ c', s.c ≤ c' → Q (.ret (.pointer none)) none { h := s.h, c := c' }) : Cl theG2 ⟨.fn 28, [.slice a n cap], none, s, Q⟩ := by
  refine Cl.closed _ ?_
  show wpC theG2 (Cl theG2) m28.code (bodyQ (Cl theG2) m28 Q) { t := [Value.slice a n cap] ++ List.replicate 28 undef, d := [], m := none, r := none } s
  unfold m28
  rcases h with h | h
  · have e1 : decide ((n : Int) < 1) = true := by simp; omega
    simp only [wp_skip, wp_region, wp_seq, wp_cond, condQ_true, condQ_false, wp_block, wp_exit, wp_ret, wpOps, wpM, cls, evP, eval, lenV, nth, wantedM, F.put, upd, again, List.replicate, List.cons_append, List.nil_append, thenQ, true_and, binV, lss64, gtr64, e1, beq_self_eq_true,
      show (true == false) = false from rfl, bodyQ, unwindQ, resultsV, retV]
    exact hq _ (by omega)
  · have e1 : decide ((n : Int) < 1) = false := by simp; omega
    have e2 : decide ((n : Int) > 12) = true := by simp; omega
    simp only [wp_skip, wp_region, wp_seq, wp_cond, condQ_true, condQ_false, wp_block, wp_exit, wp_ret, wpOps, wpM, cls, evP, eval, lenV, nth, wantedM, F.put, upd, again, List.replicate, List.cons_append, List.nil_append, thenQ, true_and, binV, lss64, gtr64, e1, e2, beq_self_eq_true, bodyQ, unwindQ, resultsV, retV]
    exact hq _ (by omega)
end Ev

/- Norec: what a nil engine answers; that it lives. -/
namespace Ev
open Go

section
variable {t a b c : Int} {s : S} {Q : Res → Option AMode → S → Prop}
theorem nil12 (hq : Q (.ret (.tuple #[.int .i64 0, .int .i64 1])) none s) : Cl theG2 ⟨.fn 12, [.pointer none, .int .i64 t], none, s, Q⟩ :=
  cl_pure theGood1 1000 60 (by kernel_rfl) rfl rfl rfl hq
theorem nil13 (hq : Q (.ret (.tuple #[.int .i64 0, .bool false])) none s) : Cl theG2 ⟨.fn 13, [.pointer none, .int .i64 t], none, s, Q⟩ :=
  cl_pure theGood1 1000 60 (by kernel_rfl) rfl rfl rfl hq
theorem nil14 (hq : Q (.ret (.tuple #[.agg #[.int .u8 0, .int .i64 0, .int .u64 0], .bool false])) none s) : Cl theG2 ⟨.fn 14, [.pointer none, .int .i64 t], none, s, Q⟩ :=
  cl_pure theGood1 1000 60 (by kernel_rfl) rfl rfl rfl hq
theorem nil15 (hq : Q (.ret (.int .i64 1)) none s) : Cl theG2 ⟨.fn 15, [.pointer none, .int .i64 t, .agg #[.int .u8 a, .int .i64 b, .int .u64 c]], none, s, Q⟩ :=
  cl_pure theGood1 1000 60 (by kernel_rfl) rfl rfl rfl hq
theorem nil16 (hq : Q (.ret (.agg #[.bool false, .int .u64 0, .bool false, .int .i64 0, .bool false, .int .u8 0, .int .i64 1])) none s) : Cl theG2 ⟨.fn 16, [.pointer none, .int .i64 t], none, s, Q⟩ :=
  cl_pure theGood1 1000 60 (by kernel_rfl) rfl rfl rfl hq
theorem nil17 (hq : Q (.ret (.int .i64 1)) none s) : Cl theG2 ⟨.fn 17, [.pointer none, .int .i64 t], none, s, Q⟩ :=
  cl_pure theGood1 1000 60 (by kernel_rfl) rfl rfl rfl hq
theorem nil18 (hq : Q (.ret (.slice none 0 0)) none s) : Cl theG2 ⟨.fn 18, [.pointer none], none, s, Q⟩ :=
  cl_pure theGood1 1000 60 (by kernel_rfl) rfl rfl rfl hq
theorem nil19 (hq : Q (.ret (.slice none 0 0)) none s) : Cl theG2 ⟨.fn 19, [.pointer none], none, s, Q⟩ :=
  cl_pure theGood1 1000 60 (by kernel_rfl) rfl rfl rfl hq
theorem nil20 (hq : Q (.ret (.slice none 0 0)) none s) : Cl theG2 ⟨.fn 20, [.pointer none], none, s, Q⟩ :=
  cl_pure theGood1 1000 60 (by kernel_rfl) rfl rfl rfl hq
theorem nil21 (hq : Q (.ret (.slice none 0 0)) none s) : Cl theG2 ⟨.fn 21, [.pointer none], none, s, Q⟩ :=
  cl_pure theGood1 1000 60 (by kernel_rfl) rfl rfl rfl hq
theorem nil22 (hq : Q (.ret (.int .u8 0)) none s) : Cl theG2 ⟨.fn 22, [.pointer none, .int .i64 t], none, s, Q⟩ :=
  cl_pure theGood1 1000 60 (by kernel_rfl) rfl rfl rfl hq
theorem nil23 (hq : Q (.ret (.slice none 0 0)) none s) : Cl theG2 ⟨.fn 23, [.pointer none, .int .i64 t], none, s, Q⟩ :=
  cl_pure theGood1 1000 60 (by kernel_rfl) rfl rfl rfl hq
theorem nil24 (hq : Q (.ret (.slice none 0 0)) none s) : Cl theG2 ⟨.fn 24, [.pointer none, .int .i64 t], none, s, Q⟩ :=
  cl_pure theGood1 1000 60 (by kernel_rfl) rfl rfl rfl hq
theorem nil25 (hq : Q (.ret (.bool false)) none s) : Cl theG2 ⟨.fn 25, [.pointer none, .int .i64 t], none, s, Q⟩ :=
  cl_pure theGood1 1000 60 (by kernel_rfl) rfl rfl rfl hq
theorem nil26 (hq : Q (.ret (.bool false)) none s) : Cl theG2 ⟨.fn 26, [.pointer none, .int .i64 t], none, s, Q⟩ :=
  cl_pure theGood1 1000 60 (by kernel_rfl) rfl rfl rfl hq
theorem nil27 (hq : Q (.ret (.int .u64 0)) none s) : Cl theG2 ⟨.fn 27, [.pointer none], none, s, Q⟩ :=
  cl_pure theGood1 1000 60 (by kernel_rfl) rfl rfl rfl hq
theorem nil9 (hq : Q (.ret (.pointer none)) none s) : Cl theG2 ⟨.fn 9, [.pointer none], none, s, Q⟩ :=
  cl_pure theGood1 1000 60 (by kernel_rfl) rfl rfl rfl hq
theorem nil7 (hq : Q (.ret (.bool true)) none s) : Cl theG2 ⟨.fn 7, [], none, s, Q⟩ :=
  cl_pure theGood1 1000 60 (by kernel_rfl) rfl rfl rfl hq
end
end Ev

/- Norec: the law of the nil engine. -/
namespace Ev
open Go

def tail5 : List MO := [
  ⟨(some 156), (some (155, true)), .mv (.tmp 1), 121, [], true⟩,
  ⟨(some 157), (some (155, true)), .call (.func 28) [(.tmp 156)], 122, [], true⟩,
  ⟨(some 158), (some (155, true)), .eq true .ptr (.tmp 157) (.const (.pointer none)), 123, [], true⟩,
  ⟨(some 159), (some (155, true)), .mv (.tmp 1), 124, [], true⟩,
  ⟨(some 160), (some (155, true)), .call (.func 29) [(.tmp 159)], 125, [], true⟩,
  ⟨(some 161), (some (155, true)), .eq false .bool (.tmp 158) (.tmp 160), 126, [], true⟩,
  ⟨(some 162), none, .pick (.tmp 155) (.tmp 161) (.const (.bool false)), 127, [], true⟩,
  ⟨(some 6), none, .mv (.tmp 162), 128, [], true⟩]

theorem run5 (k th ak at_ av n : Int) (hv : Value) (o : Option AObj) :
    (runP theG2 (run theG2 1000 60) 1000 121 5 m5.code { t := [.agg #[.int .i64 k, .int .i64 th, .int .u8 ak, .int .i64 at_, .int .u64 av], hv, .int .i64 n] ++ List.replicate 160 undef, d := [], m := none, r := none } ⟨heap1 o, 1⟩).map
      (fun x => (x.1, x.2.2.1, nth x.2.2.2.1.t 1, nth x.2.2.2.1.t 155, x.2.2.2.1.t.length, x.2.2.2.1.d, x.2.2.2.1.m, x.2.2.2.1.r, x.2.2.2.2.h.get 0, Nat.blt 0 x.2.2.2.2.c)) =
      some (MC.ret, tail5, some hv, some (.bool true), 163, [], none, none, o, true) := by kernel_rfl

end Ev

/- Norec: the law of the nil engine, over every heap. -/
namespace Ev
open Go

theorem law5 {k th ak at_ av n : Int} {hv : Value} {o : Option AObj} {b : Bool} {Q : Res → Option AMode → S → Prop} (hq : ∀ s' : S, Q (.ret (.bool true)) none s')
    (hA : ∀ (s' : S) (Q' : Res → Option AMode → S → Prop), s'.h.get 0 = o → 0 < s'.c →
      (∀ (s2 : S) (v : Value), eqv .ptr v (.pointer none) = some (!b) → s2.h.get 0 = o → 0 < s2.c → Q' (.ret v) none s2) → Cl theG2 ⟨.fn 28, [hv], none, s', Q'⟩)
    (hB : ∀ (s' : S) (Q' : Res → Option AMode → S → Prop), s'.h.get 0 = o → 0 < s'.c → (∀ (s2 : S), Q' (.ret (.bool b)) none s2) → Cl theG2 ⟨.fn 29, [hv], none, s', Q'⟩) :
    Cl theG2 ⟨.fn 5, [.agg #[.int .i64 k, .int .i64 th, .int .u8 ak, .int .i64 at_, .int .u64 av], hv, .int .i64 n], none, ⟨heap1 o, 1⟩, Q⟩ := by
  refine Cl.call (m := m5) rfl ?_
  have h := run5 k th ak at_ av n hv o
  cases hx : runP theG2 (run theG2 1000 60) 1000 121 5 m5.code { t := [.agg #[.int .i64 k, .int .i64 th, .int .u8 ak, .int .i64 at_, .int .u64 av], hv, .int .i64 n] ++ List.replicate 160 undef, d := [], m := none, r := none } ⟨heap1 o, 1⟩ with
  | none => rw [hx] at h; simp at h
  | some x =>
    obtain ⟨rest, c1, os, ⟨t, d, m, r⟩, s1⟩ := x
    rw [hx] at h
    simp only [Option.map_some, Option.some.injEq, Prod.mk.injEq] at h
    obtain ⟨rfl, rfl, h1, h155, hl, rfl, rfl, rfl, h0, hc⟩ := h
    refine runP_ok (run_ok 60) ?_ 5 m5.code _ _ hx
    have hc' : 0 < s1.c := by simpa [Nat.blt_eq] using hc
    unfold tail5
    simp only [wpOps, wpM, cls, evP, eval, evals, wantedM, nth_upd, length_upd, hl, h1, h155, F.put, again, true_and, and_true, wpCtl, tgtOf, Array.toList_empty, List.nil_append, List.append_nil, if_true, if_false, Nat.reduceEqDiff, Nat.reduceLT, and_self, false_and, beq_self_eq_true,
      show extOf theG2 (.fn 28) = none from rfl]
    refine hA _ _ h0 hc' fun s2 v hv2 hg2 hc2 => ?_
    simp only [resK, wpOps, wpM, cls, evP, eval, evals, wantedM, nth_upd, length_upd, hl, h1, h155, F.put, again, true_and, and_true, wpCtl, tgtOf, Array.toList_empty, List.nil_append, List.append_nil, if_true, if_false, Nat.reduceEqDiff, Nat.reduceLT, and_self, false_and, beq_self_eq_true,
      show extOf theG2 (.fn 29) = none from rfl, hv2]
    refine hB _ _ hg2 hc2 fun s3 => ?_
    simp only [resK, wpOps, wpM, cls, evP, eval, evals, wantedM, nth_upd, length_upd, hl, h1, h155, F.put, again, true_and, and_true, if_true, if_false, Nat.reduceEqDiff, Nat.reduceLT, and_self, false_and, beq_self_eq_true, eqv, thenQ, wp_ret, bodyQ, unwindQ, resultsV, retV, show m5.results = [(6, none)] from rfl]
    have : (!b != false) = true ∨ True := .inr trivial
    cases b <;> exact hq _
end Ev

/- Norec: New and Heaped over whatever slice; the law of the nil engine at a state to start from. -/
namespace Ev
open Go

theorem none_any {k th ak at_ av n : Int} {s : S} {hv : Value} (hs : s = ⟨heap1 none, 1⟩) (h : hv = .slice none 0 0 ∨ hv = .slice none 0 emp) {Q : Res → Option AMode → S → Prop} (hq : ∀ s' : S, Q (.ret (.bool true)) none s') :
    Cl theG2 ⟨.fn 5, [.agg #[.int .i64 k, .int .i64 th, .int .u8 ak, .int .i64 at_, .int .u64 av], hv, .int .i64 n], none, s, Q⟩ := by
  subst hs
  refine law5 (b := false) hq (fun s' Q' h0 hc hk => ?_) (fun s' Q' h0 hc hk => ?_)
  · rcases h with rfl | rfl
    · exact new28_not (.inl rfl) fun c' hc' => hk _ _ rfl h0 (by simp only; omega)
    · exact new28_not (.inl rfl) fun c' hc' => hk _ _ rfl h0 (by simp only; omega)
  · rcases h with rfl | rfl
    · exact heaped29_not (.inl rfl) fun c' _ => hk _
    · exact heaped29_not (.inl rfl) fun c' _ => hk _

theorem some_any {k th ak at_ av n : Int} {c : List Value} {t : TypeId} {hi o len cap : Nat} (hlen : 1 ≤ len) (hcap : cap < emp) {f : Nat → Int} (hf : ∀ i, i < len → nth c (o + i) = some (.int .u64 (f i))) (h0 : ∀ i, i < len → 0 ≤ f i)
    (h1 : ∀ i, i < len → f i < 18446744073709551616) {Q : Res → Option AMode → S → Prop} (hq : ∀ s' : S, Q (.ret (.bool true)) none s') :
    Cl theG2 ⟨.fn 5, [.agg #[.int .i64 k, .int .i64 th, .int .u8 ak, .int .i64 at_, .int .u64 av], .slice (some ⟨0, o, none⟩) len cap, .int .i64 n], none, ⟨heap1 (some (.cells c t 0 hi)), 1⟩, Q⟩ := by
  by_cases hl : 12 < len
  · refine law5 (b := false) hq (fun s' Q' h0 hc hk => ?_) (fun s' Q' h0 hc hk => ?_)
    · exact new28_not (.inr hl) fun c' hc' => hk _ _ rfl h0 (by simp only; omega)
    · exact heaped29_not (.inr hl) fun c' _ => hk _
  · have vals : ∀ h : Heap, h.get 0 = some (.cells c t 0 hi) → Vals h 0 o len f := fun h hg => ⟨⟨c, t, 0, hi, hg, hf⟩, h0, h1⟩
    have hcut : ∀ m i, i + m = len → cut c (o + i) m = some ((List.range' i m).map fun j => .int .u64 (f j)) := by
      intro m
      induction m with
      | zero => intro i _; rfl
      | succ m ih =>
        intro i hi
        simp only [cut, hf i (by omega)]
        rw [show o + i + 1 = o + (i + 1) by omega, ih (i + 1) (by omega)]
        rfl
    have hblt : Nat.blt cap emp = true := by simpa [Nat.blt_eq] using hcap
    refine law5 (b := allRight f len) hq (fun s' Q' hg hc hk => ?_) (fun s' Q' hg hc hk => ?_)
    · refine new28 (f := f) (vs := (List.range' 0 len).map fun j => .int .u64 (f j)) (vals _ hg) (by omega) hlen ?_ hc hblt (fun c' hc' ha => ?_) (fun s2 j ha hcc hsame => ?_)
      · simp only [firstV, hg, Nat.mul_one]
        have := hcut len 0 (by omega)
        simpa using this
      · rw [ha] at hk
        exact hk _ _ rfl hg (by simp only; omega)
      · rw [ha] at hk
        exact hk _ _ rfl ((hsame 0 hc).trans hg) (by omega)
    · exact heaped29 (f := f) (vals _ hg) (by omega) hlen fun c' _ => hk _
end Ev

/- NorecNone: for every deed, every values and number, the law returns true, and leaves all as it was. -/
namespace Go.Proofs.YtmdkdjoifafifaaGreat
open Go.ChangeShapes Go.WideShapes Go.ChangeAt Go.RowKit Ev

theorem Tryz.own : ownKnob Tryz.prog.godebug = none := by kernel_rfl
theorem Tryz.laidOut : laidOutB Tryz.prog = true := by kernel_rfl
theorem flat39 : (flatK Tryz.prog 20 39).map (fun l => l.length) = some 5 := by kernel_rfl

set_option maxRecDepth 100000 in
theorem norecNone_lifted (os : Os) (started : os.Started) (H : Type) (enc : TypeId × Value → H) :
    ReturnsInHanded {} Tryz.checked os 5 .any (Rows.norecNoneSpec.pre6 enc Tryz.prog Tryz.f5 Rows.norecNoneRow.domain false) (Rows.norecNoneSpec.post enc Tryz.prog Tryz.f5 false true false false) := by
  refine returnsInHanded_of_change (C := Tryz.checked) Tryz.own started (by kernel_rfl) Tryz.func5
    (ChangeSpec.witness6 (enc := enc) (C := Tryz.checked) false ⟨#[], #[.agg #[.int .i64 0, .int .i64 0, .int .u8 0, .int .i64 0, .int .u64 0], .slice none 0 0, .int .i64 0], []⟩ 8 (by kernel_rfl) (by kernel_rfl) (by kernel_rfl) (by kernel_rfl)) ?_
  intro W base args ds gs before hval0 hW hcnd _
  have hval : ∀ (j : Nat) t v, Tryz.f5.params[j]? = some t → args[j]? = some v → Value.okWide Tryz.prog W .any base t v := hval0
  have hW' := hW
  obtain ⟨p, q, hA0, hV, rfl, hfz, hnd⟩ := hW
  have hA : DataW.TrodAll enc Tryz.prog W 0 (fun _ => true) true Tryz.f5.params.toList args.toList ds p := hA0
  rw [Tryz.params5] at hA hval
  obtain ⟨v0, v1, v2, d0, d1, d2, p0, p1, p2, rfl, rfl, rfl, h0, h1, h2⟩ := trodAll_three hA
  obtain ⟨rfl, rfl⟩ := trodVars_none hV
  obtain ⟨cs, rfl, hcs⟩ := open_flat Tryz.underlying39 (show flatK Tryz.prog 20 39 = some [.int .i64, .int .i64, .int .u8, .int .i64, .int .u64] by kernel_rfl) (hval 0 39 v0 rfl rfl) h0
  obtain ⟨n, rfl, _, _, _⟩ := open_int Tryz.underlying3 (hval 2 3 v2 rfl rfl) h2
  obtain ⟨l⟩ := cs
  simp only at hcs
  obtain ⟨_, _, rfl, c0, hcs⟩ := hcs.inv
  obtain ⟨_, _, rfl, c1, hcs⟩ := hcs.inv
  obtain ⟨_, _, rfl, c2, hcs⟩ := hcs.inv
  obtain ⟨_, _, rfl, c3, hcs⟩ := hcs.inv
  obtain ⟨_, _, rfl, c4, hcs⟩ := hcs.inv
  obtain rfl := hcs.inv0
  obtain ⟨k, rfl, _⟩ := c0
  obtain ⟨th, rfl, _⟩ := c1
  obtain ⟨ak, rfl, _⟩ := c2
  obtain ⟨at_, rfl, _⟩ := c3
  obtain ⟨av, rfl, _⟩ := c4
  have hslice := open_flats Tryz.underlying41 (show flatK Tryz.prog 20 35 = some [.int .u64] by kernel_rfl) (show Tryz.prog.cellsOf 35 = 1 by kernel_rfl) (hval 1 41 v1 rfl rfl) h1
  clear hA0 hval0 hV hA
  simp only [List.append_nil] at hW'
  have fin : ∀ {ρ ρ' : Rho} {s s' : S} {W' : World} {r : Res} {m : Option AMode} {e : Ending}, (∀ i o b r, s.h.get i = some o → ρ i = some (b, r) → o.ro = true) → r = .ret (.bool true) → Ext No ρ s W ρ' s' W' → EndR ρ' r e →
      ∃ v, e = .returned v ∧ Rows.norecNoneSpec.post enc Tryz.prog Tryz.f5 false true false false W #[.agg #[.int .i64 k, .int .i64 th, .int .u8 ak, .int .i64 at_, .int .u64 av], v1, .int .i64 n] v W' := by
    intro ρ ρ' s s' W' r m e hro hr hE hend
    subst hr
    cases e with
    | returned v =>
      cases hend
      refine ⟨_, rfl, law_post (P := Tryz.prog) (tb := 4) Tryz.laidOut hW' rfl (below_of hE hro) ?_ (by kernel_rfl) (by kernel_rfl) rfl⟩
      rw [Tryz.params5]
      intro t ht
      simp only [List.mem_cons, List.not_mem_nil, or_false] at ht
      rcases ht with rfl | rfl | rfl
      · exact ⟨by kernel_rfl, of_decide_eq_true (by kernel_rfl)⟩
      · exact ⟨by kernel_rfl, of_decide_eq_true (by kernel_rfl)⟩
      · exact ⟨by kernel_rfl, of_decide_eq_true (by kernel_rfl)⟩
    | _ => exact hend.elim
  let QT : Res → Option AMode → S → Prop := fun r _ _ => r = .ret (.bool true)
  have hQ : ∀ s' : S, QT (.ret (.bool true)) none s' := fun _ => rfl
  have plain : ∀ {ρ : Rho}, VR ρ (.agg #[.int .i64 k, .int .i64 th, .int .u8 ak, .int .i64 at_, .int .u64 av]) (.agg #[.int .i64 k, .int .i64 th, .int .u8 ak, .int .i64 at_, .int .u64 av]) := pf_VR rfl
  rcases hslice with rfl | ⟨b, o, len, cap, rfl, hle, hmax, h3⟩
  · exact (calls_of_Cl theGood2 (none_any (Q := QT) rfl (.inl rfl) hQ) (start_none _ W) (.cons plain (.cons (pf_VR rfl) (.cons (.int _ _) .nil)))).mono fun e W' ⟨r, s', ρ', h1, _, h2, h3⟩ =>
      fin (ρ := fun _ => none) (s := ⟨heap1 none, 1⟩) (m := none) (fun i o b r _ h => by simp at h) h1 h2 h3
  · rcases h3 with rfl | ⟨c', t', fz, hg, hcell⟩
    · exact (calls_of_Cl theGood2 (none_any (Q := QT) rfl (.inr rfl) hQ) (start_none _ W) (.cons plain (.cons (.sliceE _ _) (.cons (.int _ _) .nil)))).mono fun e W' ⟨r, s', ρ', h1, _, h2, h3⟩ =>
        fin (ρ := fun _ => none) (s := ⟨heap1 none, 1⟩) (m := none) (fun i o b r _ h => by simp at h) h1 h2 h3
    · by_cases hl0 : len = 0
      · subst hl0
        exact (calls_of_Cl theGood2 (none_any (Q := QT) rfl (.inr rfl) hQ) (start_none _ W) (.cons plain (.cons (.sliceE _ _) (.cons (.int _ _) .nil)))).mono fun e W' ⟨r, s', ρ', h1, _, h2, h3⟩ =>
          fin (ρ := fun _ => none) (s := ⟨heap1 none, 1⟩) (m := none) (fun i o b r _ h => by simp at h) h1 h2 h3
      obtain ⟨c, hR, hclen, hc⟩ := start_one Tryz.prog W hg
      have cells : ∀ i, i < len → ∃ z : Int, nth c (o + i) = some (.int .u64 z) ∧ 0 ≤ z ∧ z < 18446744073709551616 := by
        intro i hi
        obtain ⟨cs, h4, h5⟩ := hcell i hi
        cases h4 with
        | cons h6 h7 =>
          cases h7
          obtain ⟨z, rfl, hw⟩ := h6
          have := hc _ _ (h5 0 _ rfl) rfl
          refine ⟨z, by simpa using this, ?_⟩
          simp [Lit.wf, IntKind.min, IntKind.max, IntKind.bits, IntKind.signed] at hw
          omega
      have hrho : rho1 b c'.size 0 = some (b, c'.size) := rfl
      have hcap : cap < unk := by
        have : maxLen < unk := by decide
        omega
      have hcap' : cap < emp := by
        have : unk < emp := by decide
        omega
      let f : Nat → Int := fun i => match nth c (o + i) with
        | some (.int _ z) => z
        | _ => 0
      have hf : ∀ i, i < len → nth c (o + i) = some (.int .u64 (f i)) ∧ 0 ≤ f i ∧ f i < 18446744073709551616 := by
        intro i hi
        obtain ⟨z, h4, h5, h6⟩ := cells i hi
        have : f i = z := by simp only [f, h4]
        rw [this]
        exact ⟨h4, h5, h6⟩
      exact (calls_of_Cl theGood2 (some_any (Q := QT) (f := f) (by omega) hcap' (fun i hi => (hf i hi).1) (fun i hi => (hf i hi).2.1) (fun i hi => (hf i hi).2.2) hQ) hR (.cons plain (.cons (.slice hrho hcap) (.cons (.int _ _) .nil)))).mono fun e W' ⟨r, s', ρ', h1, _, h2, h3⟩ =>
        fin (ρ := rho1 b c'.size) (m := none) ro1 h1 h2 h3

theorem norecNone_holds : Rows.NorecNoneSaid :=
  OpenClaim.holds_of_wide 5 Tryz.f5 rfl rfl rfl rfl rfl rfl rfl ⟨rfl, rfl, rfl, rfl, rfl⟩ rfl rfl rfl rfl rfl (by kernel_rfl) Tryz.func5 (by kernel_rfl)
    (of_decide_eq_true (by kernel_rfl)) (by unfold Func.isWrapper; first | (rw [if_pos (by decide +kernel)]; kernel_rfl) | (rw [if_neg (by decide +kernel)]; exact ⟨rfl, rfl⟩))
    (fun os started H enc _ => norecNone_lifted os started H enc)
#print axioms norecNone_holds
end Go.Proofs.YtmdkdjoifafifaaGreat
