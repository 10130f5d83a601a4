/- The fast code stands for the code. Nothing is asked. -/
import Derived.Test.YtjalgcdbokciaaaGreatDoorCode0
import Derived.Test.YtjalgcdbokciaaaGreatDoorFast0
import Derived.Test.YtjalgcdbokciaaaGreatDoorB
import Derived.KernelRfl
set_option linter.all false
namespace Go.Am.Seat
set_option linter.unusedVariables false
set_option maxRecDepth 20000
noncomputable section
theorem e3_2 : k3_2 = denTop c3_2 3 [3,4,5,7,8,9,10] [] [] [3,4,5,7,8,10,11,12,13] := by kernel_rfl
theorem e3_1 : k3_1 = denTop c3_1 5 [1,3,4,5] [] [0] [3,4,5,7,8,9,10] := by kernel_rfl
theorem e3_0 : k3_0 = denTop c3_0 5 [] [] [0] [1,3,4,5] := by kernel_rfl
theorem i3 : Impl b3 x3 := (.shal 5 _ _ _ _ rfl e3_0 (.shal 5 _ _ _ _ rfl e3_1 (.shal 3 _ _ _ _ rfl e3_2 (.seq (.refl _) (.refl _)))))
theorem e4_0 : k4_0 = denTop c4_0 3 [] [0] [0] [] := by kernel_rfl
theorem i4 : Impl b4 x4 := (.shal 3 _ _ _ _ rfl e4_0 (.refl _))
theorem e5_1 : k5_1 = denTop c5_1 3 [0,2,6] [] [6,7] [6,7] := by kernel_rfl
theorem e5_0 : k5_0 = denTop c5_0 3 [0,1,2] [] [6,7] [0,2,6] := by kernel_rfl
theorem i5 : Impl b5 x5 := (.shal 3 _ _ _ _ rfl e5_0 (.shal 3 _ _ _ _ rfl e5_1 (.refl _)))
theorem e6_1 : k6_1 = denTop c6_1 1 [0,1,2,26] [0,1,2] [6] [] := by kernel_rfl
theorem e6_3 : k6_3 = denTop c6_3 2 [] [6] [6] [] := by kernel_rfl
theorem e6_2 : k6_2 = denTop c6_2 3 [0,1,2] [] [6] [] := by kernel_rfl
theorem e6_0 : k6_0 = denTop c6_0 2 [0,1,2] [] [6] [0,1,2] := by kernel_rfl
theorem i6 : Impl b6 x6 := (.shal 2 _ _ _ _ rfl e6_0 (.seq (.seq (.refl _) (.shal 1 _ _ _ _ rfl e6_1 (.refl _))) (.shal 3 _ _ _ _ rfl e6_2 (.shal 2 _ _ _ _ rfl e6_3 (.refl _)))))
theorem e7_0 : k7_0 = denTop c7_0 3 [0] [] [] [0,3] := by kernel_rfl
theorem i7 : Impl b7 x7 := (.shal 3 _ _ _ _ rfl e7_0 (.seq (.refl _) (.refl _)))
theorem e8_0 : k8_0 = denTop c8_0 3 [0] [2] [2] [] := by kernel_rfl
theorem i8 : Impl b8 x8 := (.shal 3 _ _ _ _ rfl e8_0 (.refl _))
theorem e9_1 : k9_1 = denTop c9_1 3 [1,2] [] [] [2,3,4,5,6] := by kernel_rfl
theorem e9_0 : k9_0 = denTop c9_0 4 [] [] [0] [1,2] := by kernel_rfl
theorem i9 : Impl b9 x9 := (.shal 4 _ _ _ _ rfl e9_0 (.shal 3 _ _ _ _ rfl e9_1 (.seq (.refl _) (.refl _))))
theorem e10_0 : k10_0 = denTop c10_0 3 [] [0] [0] [] := by kernel_rfl
theorem i10 : Impl b10 x10 := (.shal 3 _ _ _ _ rfl e10_0 (.refl _))
theorem e11_3 : k11_3 = denTop c11_3 1 [0,2,4,5,6] [0,2,4,5,6] [] [] := by kernel_rfl
theorem e11_2 : k11_2 = denTop c11_2 2 [0,2,4,5,6] [0,2,4,5] [] [0,2,4,5,6] := by kernel_rfl
theorem e11_1 : k11_1 = denTop c11_1 1 [0,2,4,5] [] [] [0,2,4,5,6] := by kernel_rfl
theorem e11_6 : k11_6 = denTop c11_6 1 [0,2,4,5,8] [0,2,4,5,8] [] [] := by kernel_rfl
theorem e11_5 : k11_5 = denTop c11_5 1 [0,2,4,5,8] [0,2,4,5] [] [0,2,4,5,8] := by kernel_rfl
theorem e11_4 : k11_4 = denTop c11_4 1 [0,2,4,5] [] [] [0,2,4,5,8] := by kernel_rfl
theorem e11_8 : k11_8 = denTop c11_8 1 [2,5,75] [2,5] [2,3] [] := by kernel_rfl
theorem e11_7 : k11_7 = denTop c11_7 1 [0,2,4,5] [] [] [0,2,5,9] := by kernel_rfl
theorem e11_9 : k11_9 = denTop c11_9 2 [2,5] [2,3] [2,3] [] := by kernel_rfl
theorem e11_0 : k11_0 = denTop c11_0 5 [0] [] [] [0,2,4,5] := by kernel_rfl
theorem i11 : Impl b11 x11 := (.shal 5 _ _ _ _ rfl e11_0 (.seq (.shal 1 _ _ _ _ rfl e11_1 (.block (.loop (.shal 2 _ _ _ _ rfl e11_2 (.shal 1 _ _ _ _ rfl e11_3 (.refl _)))))) (.seq (.shal 1 _ _ _ _ rfl e11_4 (.block (.loop (.shal 1 _ _ _ _ rfl e11_5 (.seq (.block (.refl _)) (.shal 1 _ _ _ _ rfl e11_6 (.refl _))))))) (.seq (.shal 1 _ _ _ _ rfl e11_7 (.seq (.refl _) (.shal 1 _ _ _ _ rfl e11_8 (.refl _)))) (.shal 2 _ _ _ _ rfl e11_9 (.refl _))))))
theorem e12_2 : k12_2 = denTop c12_2 2 [4,6] [4] [4] [] := by kernel_rfl
theorem e12_1 : k12_1 = denTop c12_1 1 [0,3,4,5,6] [] [] [4,6] := by kernel_rfl
theorem e12_0 : k12_0 = denTop c12_0 2 [0,1] [] [] [0,3,4,5,6] := by kernel_rfl
theorem i12 : Impl b12 x12 := (.shal 2 _ _ _ _ rfl e12_0 (.shal 1 _ _ _ _ rfl e12_1 (.shal 2 _ _ _ _ rfl e12_2 (.refl _))))
theorem e13_0 : k13_0 = denTop c13_0 3 [0] [2] [2] [] := by kernel_rfl
theorem i13 : Impl b13 x13 := (.shal 3 _ _ _ _ rfl e13_0 (.refl _))
theorem e14_0 : k14_0 = denTop c14_0 3 [0] [2] [2] [] := by kernel_rfl
theorem i14 : Impl b14 x14 := (.shal 3 _ _ _ _ rfl e14_0 (.refl _))
theorem e15_2 : k15_2 = denTop c15_2 1 [0,4,5,46] [0,4,5] [2,3] [] := by kernel_rfl
theorem e15_7 : k15_7 = denTop c15_7 1 [0,5,58,59,60] [0,5,58,59,60] [] [] := by kernel_rfl
theorem e15_6 : k15_6 = denTop c15_6 1 [0,5,58,59,60] [] [2,3] [0,5,58,59,60] := by kernel_rfl
theorem e15_5 : k15_5 = denTop c15_5 2 [0,5,58,59,60] [0,5] [] [0,5,58,59,60] := by kernel_rfl
theorem e15_4 : k15_4 = denTop c15_4 1 [0,5] [] [] [0,5,58,59,60] := by kernel_rfl
theorem e15_8 : k15_8 = denTop c15_8 3 [0,5] [2,3] [2,3] [] := by kernel_rfl
theorem e15_3 : k15_3 = denTop c15_3 1 [0,4,5] [] [2,3] [0,5] := by kernel_rfl
theorem e15_1 : k15_1 = denTop c15_1 1 [0,4,5,6] [] [] [0,4,5,6,7] := by kernel_rfl
theorem e15_0 : k15_0 = denTop c15_0 5 [0] [] [] [0,4,5,6] := by kernel_rfl
theorem i15 : Impl b15 x15 := (.shal 5 _ _ _ _ rfl e15_0 (.shal 1 _ _ _ _ rfl e15_1 (.seq (.seq (.refl _) (.shal 1 _ _ _ _ rfl e15_2 (.refl _))) (.shal 1 _ _ _ _ rfl e15_3 (.seq (.shal 1 _ _ _ _ rfl e15_4 (.block (.loop (.shal 2 _ _ _ _ rfl e15_5 (.shal 1 _ _ _ _ rfl e15_6 (.shal 1 _ _ _ _ rfl e15_7 (.refl _))))))) (.shal 3 _ _ _ _ rfl e15_8 (.refl _)))))))
theorem e16_0 : k16_0 = denTop c16_0 3 [] [0] [0] [] := by kernel_rfl
theorem i16 : Impl b16 x16 := (.shal 3 _ _ _ _ rfl e16_0 (.refl _))
theorem e17_0 : k17_0 = denTop c17_0 1 [0,1] [] [] [] := by kernel_rfl
theorem i17 : Impl b17 x17 := (.shal 1 _ _ _ _ rfl e17_0 (.refl _))
theorem e18_0 : k18_0 = denTop c18_0 3 [0] [2] [2] [] := by kernel_rfl
theorem i18 : Impl b18 x18 := (.shal 3 _ _ _ _ rfl e18_0 (.refl _))
theorem e19_2 : k19_2 = denTop c19_2 4 [3,24,25,26] [3,24,25,26] [] [] := by kernel_rfl
theorem e19_1 : k19_1 = denTop c19_1 1 [0,3] [] [] [3,24,25,26] := by kernel_rfl
theorem e19_3 : k19_3 = denTop c19_3 2 [3] [2] [2] [] := by kernel_rfl
theorem e19_0 : k19_0 = denTop c19_0 4 [0] [] [] [0,3] := by kernel_rfl
theorem i19 : Impl b19 x19 := (.shal 4 _ _ _ _ rfl e19_0 (.seq (.shal 1 _ _ _ _ rfl e19_1 (.block (.loop (.shal 4 _ _ _ _ rfl e19_2 (.refl _))))) (.shal 2 _ _ _ _ rfl e19_3 (.refl _))))
theorem e20_3 : k20_3 = denTop c20_3 4 [1,3,41,42,43] [1,3,41,42,43] [] [] := by kernel_rfl
theorem e20_2 : k20_2 = denTop c20_2 1 [1,3] [] [] [1,3,41,42,43] := by kernel_rfl
theorem e20_9 : k20_9 = denTop c20_9 4 [3,7,62,63,64,78,79,80] [3,7,62,63,64,78,79,80] [] [] := by kernel_rfl
theorem e20_8 : k20_8 = denTop c20_8 1 [3,7,62,63,64] [] [] [3,7,62,63,64,78,79,80] := by kernel_rfl
theorem e20_10 : k20_10 = denTop c20_10 3 [3,7,62,63,64] [3,62,63,64] [] [] := by kernel_rfl
theorem e20_7 : k20_7 = denTop c20_7 3 [3,62,63,64] [] [] [3,7,62,63,64] := by kernel_rfl
theorem e20_11 : k20_11 = denTop c20_11 1 [3,62,63,64] [3,62,63,64] [] [] := by kernel_rfl
theorem e20_6 : k20_6 = denTop c20_6 2 [3,62,63,64] [3] [] [3,62,63,64] := by kernel_rfl
theorem e20_5 : k20_5 = denTop c20_5 1 [1,3] [] [] [3,62,63,64] := by kernel_rfl
theorem e20_12 : k20_12 = denTop c20_12 2 [3] [2] [2] [] := by kernel_rfl
theorem e20_4 : k20_4 = denTop c20_4 1 [1,3] [] [] [1,3] := by kernel_rfl
theorem e20_1 : k20_1 = denTop c20_1 3 [1,3] [] [] [1,3] := by kernel_rfl
theorem e20_0 : k20_0 = denTop c20_0 6 [0] [] [2] [1,3] := by kernel_rfl
theorem i20 : Impl b20 x20 := (.shal 6 _ _ _ _ rfl e20_0 (.shal 3 _ _ _ _ rfl e20_1 (.seq (.shal 1 _ _ _ _ rfl e20_2 (.block (.loop (.shal 4 _ _ _ _ rfl e20_3 (.refl _))))) (.shal 1 _ _ _ _ rfl e20_4 (.seq (.shal 1 _ _ _ _ rfl e20_5 (.block (.loop (.shal 2 _ _ _ _ rfl e20_6 (.seq (.block (.shal 3 _ _ _ _ rfl e20_7 (.seq (.shal 1 _ _ _ _ rfl e20_8 (.block (.loop (.shal 4 _ _ _ _ rfl e20_9 (.refl _))))) (.shal 3 _ _ _ _ rfl e20_10 (.refl _))))) (.shal 1 _ _ _ _ rfl e20_11 (.refl _))))))) (.shal 2 _ _ _ _ rfl e20_12 (.refl _)))))))
theorem e21_0 : k21_0 = denTop c21_0 5 [0,1,2] [6] [6] [] := by kernel_rfl
theorem i21 : Impl b21 x21 := (.shal 5 _ _ _ _ rfl e21_0 (.refl _))
theorem e22_0 : k22_0 = denTop c22_0 3 [0,1] [4] [4] [] := by kernel_rfl
theorem i22 : Impl b22 x22 := (.shal 3 _ _ _ _ rfl e22_0 (.refl _))
theorem e23_0 : k23_0 = denTop c23_0 3 [] [0] [0] [] := by kernel_rfl
theorem i23 : Impl b23 x23 := (.shal 3 _ _ _ _ rfl e23_0 (.refl _))
theorem e24_0 : k24_0 = denTop c24_0 4 [0] [2] [2] [] := by kernel_rfl
theorem i24 : Impl b24 x24 := (.shal 4 _ _ _ _ rfl e24_0 (.refl _))
theorem e25_2 : k25_2 = denTop c25_2 3 [0,1,5] [0,1,5] [4] [] := by kernel_rfl
theorem e25_1 : k25_1 = denTop c25_1 1 [0,1] [] [] [0,1,5] := by kernel_rfl
theorem e25_3 : k25_3 = denTop c25_3 2 [] [4] [4] [] := by kernel_rfl
theorem e25_0 : k25_0 = denTop c25_0 2 [0,1] [] [4] [0,1] := by kernel_rfl
theorem i25 : Impl b25 x25 := (.shal 2 _ _ _ _ rfl e25_0 (.seq (.shal 1 _ _ _ _ rfl e25_1 (.block (.loop (.shal 3 _ _ _ _ rfl e25_2 (.refl _))))) (.shal 2 _ _ _ _ rfl e25_3 (.refl _))))
theorem e26_2 : k26_2 = denTop c26_2 4 [3,10,11,12] [3,10,11,12] [] [] := by kernel_rfl
theorem e26_1 : k26_1 = denTop c26_1 1 [0,3] [] [] [3,10,11,12] := by kernel_rfl
theorem e26_3 : k26_3 = denTop c26_3 2 [3] [2] [2] [] := by kernel_rfl
theorem e26_0 : k26_0 = denTop c26_0 2 [0] [] [] [0,3] := by kernel_rfl
theorem i26 : Impl b26 x26 := (.shal 2 _ _ _ _ rfl e26_0 (.seq (.shal 1 _ _ _ _ rfl e26_1 (.block (.loop (.shal 4 _ _ _ _ rfl e26_2 (.refl _))))) (.shal 2 _ _ _ _ rfl e26_3 (.refl _))))
theorem e27_0 : k27_0 = denTop c27_0 3 [] [0] [0] [] := by kernel_rfl
theorem i27 : Impl b27 x27 := (.shal 3 _ _ _ _ rfl e27_0 (.refl _))
theorem e28_0 : k28_0 = denTop c28_0 3 [] [0] [0] [] := by kernel_rfl
theorem i28 : Impl b28 x28 := (.shal 3 _ _ _ _ rfl e28_0 (.refl _))
theorem e29_1 : k29_1 = denTop c29_1 1 [0,5,6,23] [0,6] [] [] := by kernel_rfl
theorem e29_2 : k29_2 = denTop c29_2 2 [0,6] [4] [4] [] := by kernel_rfl
theorem e29_0 : k29_0 = denTop c29_0 3 [0,1] [] [] [0,1,5,6] := by kernel_rfl
theorem i29 : Impl b29 x29 := (.shal 3 _ _ _ _ rfl e29_0 (.seq (.seq (.refl _) (.shal 1 _ _ _ _ rfl e29_1 (.refl _))) (.shal 2 _ _ _ _ rfl e29_2 (.refl _))))
theorem e30_0 : k30_0 = denTop c30_0 3 [0] [2] [2] [] := by kernel_rfl
theorem i30 : Impl b30 x30 := (.shal 3 _ _ _ _ rfl e30_0 (.refl _))
theorem e32_2 : k32_2 = denTop c32_2 2 [] [2,3] [2,3] [] := by kernel_rfl
theorem e32_1 : k32_1 = denTop c32_1 1 [0] [] [2,3] [] := by kernel_rfl
theorem e32_0 : k32_0 = denTop c32_0 1 [0] [] [] [0] := by kernel_rfl
theorem i32 : Impl b32 x32 := (.shal 1 _ _ _ _ rfl e32_0 (.shal 1 _ _ _ _ rfl e32_1 (.shal 2 _ _ _ _ rfl e32_2 (.refl _))))
theorem e33_1 : k33_1 = denTop c33_1 1 [1,36] [1] [2] [] := by kernel_rfl
theorem e33_5 : k33_5 = denTop c33_5 1 [1,38,39,40,55] [1,38,39,40] [2] [] := by kernel_rfl
theorem e33_4 : k33_4 = denTop c33_4 1 [1,38,39,40] [] [] [1,4,38,39,40] := by kernel_rfl
theorem e33_6 : k33_6 = denTop c33_6 1 [1,38,39,40] [1,38,39,40] [] [] := by kernel_rfl
theorem e33_3 : k33_3 = denTop c33_3 2 [1,38,39,40] [1] [] [1,38,39,40] := by kernel_rfl
theorem e33_2 : k33_2 = denTop c33_2 1 [1] [] [] [1,38,39,40] := by kernel_rfl
theorem e33_10 : k33_10 = denTop c33_10 1 [58,59,60,74] [58,59,60] [2] [] := by kernel_rfl
theorem e33_9 : k33_9 = denTop c33_9 1 [58,59,60] [] [] [6,58,59,60] := by kernel_rfl
theorem e33_11 : k33_11 = denTop c33_11 1 [58,59,60] [58,59,60] [] [] := by kernel_rfl
theorem e33_8 : k33_8 = denTop c33_8 2 [58,59,60] [] [] [58,59,60] := by kernel_rfl
theorem e33_7 : k33_7 = denTop c33_7 1 [1] [] [] [58,59,60] := by kernel_rfl
theorem e33_12 : k33_12 = denTop c33_12 2 [] [2] [2] [] := by kernel_rfl
theorem e33_0 : k33_0 = denTop c33_0 1 [0] [] [] [1] := by kernel_rfl
theorem i33 : Impl b33 x33 := (.shal 1 _ _ _ _ rfl e33_0 (.seq (.seq (.refl _) (.shal 1 _ _ _ _ rfl e33_1 (.refl _))) (.seq (.shal 1 _ _ _ _ rfl e33_2 (.block (.loop (.shal 2 _ _ _ _ rfl e33_3 (.seq (.block (.shal 1 _ _ _ _ rfl e33_4 (.seq (.refl _) (.shal 1 _ _ _ _ rfl e33_5 (.refl _))))) (.shal 1 _ _ _ _ rfl e33_6 (.refl _))))))) (.seq (.shal 1 _ _ _ _ rfl e33_7 (.block (.loop (.shal 2 _ _ _ _ rfl e33_8 (.seq (.block (.shal 1 _ _ _ _ rfl e33_9 (.seq (.refl _) (.shal 1 _ _ _ _ rfl e33_10 (.refl _))))) (.shal 1 _ _ _ _ rfl e33_11 (.refl _))))))) (.shal 2 _ _ _ _ rfl e33_12 (.refl _))))))
theorem e34_0 : k34_0 = denTop c34_0 3 [0,1] [4] [4] [] := by kernel_rfl
theorem i34 : Impl b34 x34 := (.shal 3 _ _ _ _ rfl e34_0 (.refl _))
theorem e35_1 : k35_1 = denTop c35_1 1 [0,1,2,7,8] [7] [6,7] [] := by kernel_rfl
theorem e35_2 : k35_2 = denTop c35_2 2 [7] [6,7] [6,7] [] := by kernel_rfl
theorem e35_0 : k35_0 = denTop c35_0 1 [0,1,2] [] [] [0,1,2,7] := by kernel_rfl
theorem i35 : Impl b35 x35 := (.shal 1 _ _ _ _ rfl e35_0 (.seq (.block (.seq (.refl _) (.shal 1 _ _ _ _ rfl e35_1 (.refl _)))) (.shal 2 _ _ _ _ rfl e35_2 (.refl _))))
theorem e36_4 : k36_4 = denTop c36_4 2 [4,5] [4] [4] [] := by kernel_rfl
theorem e36_3 : k36_3 = denTop c36_3 2 [0,3,4] [] [] [4,5] := by kernel_rfl
theorem e36_6 : k36_6 = denTop c36_6 1 [0,3,4,10,32] [4] [4] [] := by kernel_rfl
theorem e36_5 : k36_5 = denTop c36_5 1 [0,3,4,10] [] [] [0,3,4,10,32] := by kernel_rfl
theorem e36_2 : k36_2 = denTop c36_2 1 [0,3,4,10] [] [] [0,3,4,10,11] := by kernel_rfl
theorem e36_1 : k36_1 = denTop c36_1 1 [0,3,4] [] [] [0,3,4,10] := by kernel_rfl
theorem e36_7 : k36_7 = denTop c36_7 2 [4] [4] [4] [] := by kernel_rfl
theorem e36_0 : k36_0 = denTop c36_0 1 [0,1] [] [] [0,3,4] := by kernel_rfl
theorem i36 : Impl b36 x36 := (.shal 1 _ _ _ _ rfl e36_0 (.seq (.shal 1 _ _ _ _ rfl e36_1 (.block (.shal 1 _ _ _ _ rfl e36_2 (.cond (.shal 2 _ _ _ _ rfl e36_3 (.shal 2 _ _ _ _ rfl e36_4 (.refl _))) (.shal 1 _ _ _ _ rfl e36_5 (.shal 1 _ _ _ _ rfl e36_6 (.refl _))))))) (.shal 2 _ _ _ _ rfl e36_7 (.refl _))))
theorem e37_1 : k37_1 = denTop c37_1 3 [0,1,2,7] [8] [8] [] := by kernel_rfl
theorem e37_0 : k37_0 = denTop c37_0 2 [0,1,2,3] [] [8] [0,1,2,7] := by kernel_rfl
theorem i37 : Impl b37 x37 := (.shal 2 _ _ _ _ rfl e37_0 (.shal 3 _ _ _ _ rfl e37_1 (.refl _)))
theorem e38_0 : k38_0 = denTop c38_0 4 [0] [2] [2] [] := by kernel_rfl
theorem i38 : Impl b38 x38 := (.shal 4 _ _ _ _ rfl e38_0 (.refl _))
theorem e39_2 : k39_2 = denTop c39_2 3 [5,6,7] [4,5,6,7] [4] [] := by kernel_rfl
theorem e39_1 : k39_1 = denTop c39_1 3 [0,1] [] [] [5,6,7] := by kernel_rfl
theorem e39_0 : k39_0 = denTop c39_0 1 [0,1] [] [] [0,1] := by kernel_rfl
theorem i39 : Impl b39 x39 := (.shal 1 _ _ _ _ rfl e39_0 (.scope (.shal 3 _ _ _ _ rfl e39_1 (.seq (.refl _) (.shal 3 _ _ _ _ rfl e39_2 (.refl _))))))
theorem e40_5 : k40_5 = denTop c40_5 3 [0,4,5,6,7,8,9] [0,4,5,6,7,8,9] [] [] := by kernel_rfl
theorem e40_4 : k40_4 = denTop c40_4 1 [0,4,5,6,7,8] [] [] [0,4,5,6,7,8,9] := by kernel_rfl
theorem e40_6 : k40_6 = denTop c40_6 2 [0,4,5,6,7,8] [0,4,5,6] [2,3] [] := by kernel_rfl
theorem e40_3 : k40_3 = denTop c40_3 2 [0,4,5,6] [] [] [0,4,5,6,7,8] := by kernel_rfl
theorem e40_7 : k40_7 = denTop c40_7 1 [0,4,5,6] [0,4,5,6] [] [] := by kernel_rfl
theorem e40_2 : k40_2 = denTop c40_2 1 [0,4,5,6] [0,4,5] [] [0,4,5,6] := by kernel_rfl
theorem e40_1 : k40_1 = denTop c40_1 1 [0,4,5] [] [] [0,4,5,6] := by kernel_rfl
theorem e40_11 : k40_11 = denTop c40_11 1 [0,4,5,11] [0,4,5,11] [] [] := by kernel_rfl
theorem e40_10 : k40_10 = denTop c40_10 1 [0,4,5,11] [] [2,3] [0,4,5,11] := by kernel_rfl
theorem e40_9 : k40_9 = denTop c40_9 1 [0,4,5,11] [0,4,5] [] [0,4,5,11] := by kernel_rfl
theorem e40_8 : k40_8 = denTop c40_8 1 [0,4,5] [] [] [0,4,5,11] := by kernel_rfl
theorem e40_13 : k40_13 = denTop c40_13 1 [5,82] [5] [2,3] [] := by kernel_rfl
theorem e40_12 : k40_12 = denTop c40_12 1 [0,4,5] [] [] [0,5,16] := by kernel_rfl
theorem e40_14 : k40_14 = denTop c40_14 2 [5] [2,3] [2,3] [] := by kernel_rfl
theorem e40_0 : k40_0 = denTop c40_0 3 [0] [] [] [0,4,5] := by kernel_rfl
theorem i40 : Impl b40 x40 := (.shal 3 _ _ _ _ rfl e40_0 (.seq (.shal 1 _ _ _ _ rfl e40_1 (.block (.loop (.shal 1 _ _ _ _ rfl e40_2 (.seq (.block (.shal 2 _ _ _ _ rfl e40_3 (.seq (.shal 1 _ _ _ _ rfl e40_4 (.block (.loop (.shal 3 _ _ _ _ rfl e40_5 (.refl _))))) (.shal 2 _ _ _ _ rfl e40_6 (.refl _))))) (.shal 1 _ _ _ _ rfl e40_7 (.refl _))))))) (.seq (.shal 1 _ _ _ _ rfl e40_8 (.block (.loop (.shal 1 _ _ _ _ rfl e40_9 (.shal 1 _ _ _ _ rfl e40_10 (.shal 1 _ _ _ _ rfl e40_11 (.refl _))))))) (.seq (.shal 1 _ _ _ _ rfl e40_12 (.seq (.refl _) (.shal 1 _ _ _ _ rfl e40_13 (.refl _)))) (.shal 2 _ _ _ _ rfl e40_14 (.refl _))))))
theorem e41_2 : k41_2 = denTop c41_2 1 [0,3,4,13] [0,3,4] [] [] := by kernel_rfl
theorem e41_3 : k41_3 = denTop c41_3 2 [0,3,4] [0,3,4] [] [] := by kernel_rfl
theorem e41_1 : k41_1 = denTop c41_1 1 [0,3] [] [] [0,3,4] := by kernel_rfl
theorem e41_4 : k41_4 = denTop c41_4 2 [3] [2] [2] [] := by kernel_rfl
theorem e41_0 : k41_0 = denTop c41_0 2 [0] [] [] [0,3] := by kernel_rfl
theorem i41 : Impl b41 x41 := (.shal 2 _ _ _ _ rfl e41_0 (.seq (.shal 1 _ _ _ _ rfl e41_1 (.block (.loop (.seq (.seq (.refl _) (.shal 1 _ _ _ _ rfl e41_2 (.refl _))) (.shal 2 _ _ _ _ rfl e41_3 (.refl _)))))) (.shal 2 _ _ _ _ rfl e41_4 (.refl _))))
theorem e42_4 : k42_4 = denTop c42_4 1 [0,4,5,6,7,13,47] [0,4,5,6,7,13] [2,3] [] := by kernel_rfl
theorem e42_5 : k42_5 = denTop c42_5 1 [0,4,5,6,7,13] [0,4,5,13] [] [] := by kernel_rfl
theorem e42_3 : k42_3 = denTop c42_3 4 [0,4,5,13] [] [] [0,4,5,6,7,13] := by kernel_rfl
theorem e42_6 : k42_6 = denTop c42_6 1 [0,4,5,13] [0,4,5,13] [] [] := by kernel_rfl
theorem e42_2 : k42_2 = denTop c42_2 2 [0,4,5,13] [0,4,5] [] [0,4,5,13] := by kernel_rfl
theorem e42_1 : k42_1 = denTop c42_1 1 [0,4,5] [] [] [0,4,5,13] := by kernel_rfl
theorem e42_8 : k42_8 = denTop c42_8 1 [5,68] [5] [2,3] [] := by kernel_rfl
theorem e42_7 : k42_7 = denTop c42_7 1 [0,4,5] [] [] [0,5,8] := by kernel_rfl
theorem e42_9 : k42_9 = denTop c42_9 2 [5] [2,3] [2,3] [] := by kernel_rfl
theorem e42_0 : k42_0 = denTop c42_0 3 [0] [] [] [0,4,5] := by kernel_rfl
theorem i42 : Impl b42 x42 := (.shal 3 _ _ _ _ rfl e42_0 (.seq (.shal 1 _ _ _ _ rfl e42_1 (.block (.loop (.shal 2 _ _ _ _ rfl e42_2 (.seq (.block (.shal 4 _ _ _ _ rfl e42_3 (.seq (.seq (.refl _) (.shal 1 _ _ _ _ rfl e42_4 (.refl _))) (.shal 1 _ _ _ _ rfl e42_5 (.refl _))))) (.shal 1 _ _ _ _ rfl e42_6 (.refl _))))))) (.seq (.shal 1 _ _ _ _ rfl e42_7 (.seq (.refl _) (.shal 1 _ _ _ _ rfl e42_8 (.refl _)))) (.shal 2 _ _ _ _ rfl e42_9 (.refl _)))))
theorem e43_5 : k43_5 = denTop c43_5 1 [0,1,7,14,15,16,44] [0,1,7,14,15,16] [4] [] := by kernel_rfl
theorem e43_4 : k43_4 = denTop c43_4 1 [0,1,7,14,15,16] [] [] [0,1,7,8,9,14,15,16] := by kernel_rfl
theorem e43_3 : k43_3 = denTop c43_3 1 [0,1,14,15,16] [] [] [0,1,6,14,15,16] := by kernel_rfl
theorem e43_6 : k43_6 = denTop c43_6 1 [0,1,14,15,16] [0,1,14,15,16] [] [] := by kernel_rfl
theorem e43_2 : k43_2 = denTop c43_2 2 [0,1,14,15,16] [] [] [0,1,14,15,16] := by kernel_rfl
theorem e43_1 : k43_1 = denTop c43_1 1 [0,1] [] [] [0,1,14,15,16] := by kernel_rfl
theorem e43_7 : k43_7 = denTop c43_7 2 [] [4] [4] [] := by kernel_rfl
theorem e43_0 : k43_0 = denTop c43_0 1 [0,1] [] [] [0,1] := by kernel_rfl
theorem i43 : Impl b43 x43 := (.shal 1 _ _ _ _ rfl e43_0 (.seq (.shal 1 _ _ _ _ rfl e43_1 (.block (.loop (.shal 2 _ _ _ _ rfl e43_2 (.seq (.block (.shal 1 _ _ _ _ rfl e43_3 (.seq (.refl _) (.shal 1 _ _ _ _ rfl e43_4 (.seq (.seq (.refl _) (.shal 1 _ _ _ _ rfl e43_5 (.refl _))) (.refl _)))))) (.shal 1 _ _ _ _ rfl e43_6 (.refl _))))))) (.shal 2 _ _ _ _ rfl e43_7 (.refl _))))
theorem e44_4 : k44_4 = denTop c44_4 1 [3,9,10,11] [3,9,10,11] [] [] := by kernel_rfl
theorem e44_3 : k44_3 = denTop c44_3 1 [3,9,10,11] [] [] [3,9,10,11] := by kernel_rfl
theorem e44_2 : k44_2 = denTop c44_2 2 [3,9,10,11] [3] [] [3,9,10,11] := by kernel_rfl
theorem e44_1 : k44_1 = denTop c44_1 1 [0,3] [] [] [3,9,10,11] := by kernel_rfl
theorem e44_5 : k44_5 = denTop c44_5 2 [3] [2] [2] [] := by kernel_rfl
theorem e44_0 : k44_0 = denTop c44_0 2 [0] [] [] [0,3] := by kernel_rfl
theorem i44 : Impl b44 x44 := (.shal 2 _ _ _ _ rfl e44_0 (.seq (.shal 1 _ _ _ _ rfl e44_1 (.block (.loop (.shal 2 _ _ _ _ rfl e44_2 (.shal 1 _ _ _ _ rfl e44_3 (.shal 1 _ _ _ _ rfl e44_4 (.refl _))))))) (.shal 2 _ _ _ _ rfl e44_5 (.refl _))))
theorem e46_1 : k46_1 = denTop c46_1 5 [0,1,6] [0,1,6] [] [] := by kernel_rfl
theorem e46_0 : k46_0 = denTop c46_0 1 [0,1,2] [] [] [0,1,6] := by kernel_rfl
theorem i46 : Impl b46 x46 := (.scope (.shal 1 _ _ _ _ rfl e46_0 (.seq (.refl _) (.shal 5 _ _ _ _ rfl e46_1 (.refl _)))))
theorem e47_1 : k47_1 = denTop c47_1 4 [0,10,11,12] [0,10,11,12] [] [] := by kernel_rfl
theorem e47_0 : k47_0 = denTop c47_0 2 [0,1] [] [] [0,10,11,12] := by kernel_rfl
theorem i47 : Impl b47 x47 := (.shal 2 _ _ _ _ rfl e47_0 (.block (.loop (.shal 4 _ _ _ _ rfl e47_1 (.refl _)))))
theorem e48_4 : k48_4 = denTop c48_4 4 [0,3,21,22,23,37,38,39] [0,3,21,22,23,37,38,39] [] [] := by kernel_rfl
theorem e48_3 : k48_3 = denTop c48_3 4 [0,3,21,22,23] [] [] [0,3,21,22,23,37,38,39] := by kernel_rfl
theorem e48_5 : k48_5 = denTop c48_5 1 [0,3,21,22,23] [0,3,21,22,23] [] [] := by kernel_rfl
theorem e48_2 : k48_2 = denTop c48_2 2 [0,3,21,22,23] [0,3] [] [0,3,21,22,23] := by kernel_rfl
theorem e48_1 : k48_1 = denTop c48_1 1 [0,3] [] [] [0,3,21,22,23] := by kernel_rfl
theorem e48_8 : k48_8 = denTop c48_8 4 [3,63,64,65] [3,63,64,65] [] [] := by kernel_rfl
theorem e48_7 : k48_7 = denTop c48_7 1 [0,3] [] [] [3,63,64,65] := by kernel_rfl
theorem e48_9 : k48_9 = denTop c48_9 2 [3] [2] [2] [] := by kernel_rfl
theorem e48_6 : k48_6 = denTop c48_6 1 [0,3] [] [] [0,3] := by kernel_rfl
theorem e48_0 : k48_0 = denTop c48_0 3 [0] [] [] [0,3] := by kernel_rfl
theorem i48 : Impl b48 x48 := (.shal 3 _ _ _ _ rfl e48_0 (.seq (.shal 1 _ _ _ _ rfl e48_1 (.block (.loop (.shal 2 _ _ _ _ rfl e48_2 (.seq (.block (.shal 4 _ _ _ _ rfl e48_3 (.block (.loop (.shal 4 _ _ _ _ rfl e48_4 (.refl _)))))) (.shal 1 _ _ _ _ rfl e48_5 (.refl _))))))) (.shal 1 _ _ _ _ rfl e48_6 (.seq (.shal 1 _ _ _ _ rfl e48_7 (.block (.loop (.shal 4 _ _ _ _ rfl e48_8 (.refl _))))) (.shal 2 _ _ _ _ rfl e48_9 (.refl _))))))
theorem e49_4 : k49_4 = denTop c49_4 1 [3,10,11] [3,10,11] [] [] := by kernel_rfl
theorem e49_3 : k49_3 = denTop c49_3 1 [3,10,11] [] [] [3,10,11] := by kernel_rfl
theorem e49_2 : k49_2 = denTop c49_2 2 [3,10,11] [3] [] [3,10,11] := by kernel_rfl
theorem e49_1 : k49_1 = denTop c49_1 1 [0,3] [] [] [3,10,11] := by kernel_rfl
theorem e49_5 : k49_5 = denTop c49_5 2 [3] [2] [2] [] := by kernel_rfl
theorem e49_0 : k49_0 = denTop c49_0 2 [0] [] [] [0,3] := by kernel_rfl
theorem i49 : Impl b49 x49 := (.shal 2 _ _ _ _ rfl e49_0 (.seq (.shal 1 _ _ _ _ rfl e49_1 (.block (.loop (.shal 2 _ _ _ _ rfl e49_2 (.shal 1 _ _ _ _ rfl e49_3 (.shal 1 _ _ _ _ rfl e49_4 (.refl _))))))) (.shal 2 _ _ _ _ rfl e49_5 (.refl _))))
theorem e50_1 : k50_1 = denTop c50_1 4 [0,11,12,13] [0,11,12,13] [] [] := by kernel_rfl
theorem e50_0 : k50_0 = denTop c50_0 2 [0,1] [] [] [0,11,12,13] := by kernel_rfl
theorem i50 : Impl b50 x50 := (.shal 2 _ _ _ _ rfl e50_0 (.block (.loop (.shal 4 _ _ _ _ rfl e50_1 (.refl _)))))
theorem e51_0 : k51_0 = denTop c51_0 2 [0,1] [] [] [] := by kernel_rfl
theorem i51 : Impl b51 x51 := (.shal 2 _ _ _ _ rfl e51_0 (.refl _))
theorem e52_0 : k52_0 = denTop c52_0 1 [0,1] [] [] [] := by kernel_rfl
theorem i52 : Impl b52 x52 := (.shal 1 _ _ _ _ rfl e52_0 (.refl _))
theorem e53_3 : k53_3 = denTop c53_3 1 [3,9,10,11] [] [] [3,5,9,10,11] := by kernel_rfl
theorem e53_4 : k53_4 = denTop c53_4 1 [3,9,10,11] [3,9,10,11] [] [] := by kernel_rfl
theorem e53_2 : k53_2 = denTop c53_2 2 [3,9,10,11] [3] [] [3,9,10,11] := by kernel_rfl
theorem e53_1 : k53_1 = denTop c53_1 1 [0,3] [] [] [3,9,10,11] := by kernel_rfl
theorem e53_5 : k53_5 = denTop c53_5 2 [3] [2] [2] [] := by kernel_rfl
theorem e53_0 : k53_0 = denTop c53_0 2 [0] [] [] [0,3] := by kernel_rfl
theorem i53 : Impl b53 x53 := (.shal 2 _ _ _ _ rfl e53_0 (.seq (.shal 1 _ _ _ _ rfl e53_1 (.block (.loop (.shal 2 _ _ _ _ rfl e53_2 (.seq (.block (.shal 1 _ _ _ _ rfl e53_3 (.refl _))) (.shal 1 _ _ _ _ rfl e53_4 (.refl _))))))) (.shal 2 _ _ _ _ rfl e53_5 (.refl _))))
theorem e54_0 : k54_0 = denTop c54_0 3 [0] [2] [2] [] := by kernel_rfl
theorem i54 : Impl b54 x54 := (.shal 3 _ _ _ _ rfl e54_0 (.refl _))
theorem e55_0 : k55_0 = denTop c55_0 2 [0,1,2] [] [] [] := by kernel_rfl
theorem i55 : Impl b55 x55 := (.shal 2 _ _ _ _ rfl e55_0 (.refl _))
theorem e56_3 : k56_3 = denTop c56_3 2 [0,1] [4] [4] [] := by kernel_rfl
theorem e56_2 : k56_2 = denTop c56_2 1 [0,1] [] [] [0,1] := by kernel_rfl
theorem e56_1 : k56_1 = denTop c56_1 1 [0,1] [] [4] [0,1] := by kernel_rfl
theorem e56_0 : k56_0 = denTop c56_0 2 [0,1] [] [4] [0,1] := by kernel_rfl
theorem i56 : Impl b56 x56 := (.shal 2 _ _ _ _ rfl e56_0 (.shal 1 _ _ _ _ rfl e56_1 (.shal 1 _ _ _ _ rfl e56_2 (.shal 2 _ _ _ _ rfl e56_3 (.refl _)))))
theorem e57_3 : k57_3 = denTop c57_3 1 [5,6,7] [5,6,7] [] [] := by kernel_rfl
theorem e57_2 : k57_2 = denTop c57_2 3 [5,6,7] [] [2] [5,6,7] := by kernel_rfl
theorem e57_1 : k57_1 = denTop c57_1 1 [0] [] [] [5,6,7] := by kernel_rfl
theorem e57_4 : k57_4 = denTop c57_4 2 [] [2] [2] [] := by kernel_rfl
theorem e57_0 : k57_0 = denTop c57_0 1 [0] [] [] [0] := by kernel_rfl
theorem i57 : Impl b57 x57 := (.shal 1 _ _ _ _ rfl e57_0 (.seq (.shal 1 _ _ _ _ rfl e57_1 (.block (.loop (.shal 3 _ _ _ _ rfl e57_2 (.shal 1 _ _ _ _ rfl e57_3 (.refl _)))))) (.shal 2 _ _ _ _ rfl e57_4 (.refl _))))
theorem e58_2 : k58_2 = denTop c58_2 4 [5,6,7] [5,6,7] [2] [] := by kernel_rfl
theorem e58_1 : k58_1 = denTop c58_1 1 [0] [] [] [5,6,7] := by kernel_rfl
theorem e58_3 : k58_3 = denTop c58_3 2 [] [2] [2] [] := by kernel_rfl
theorem e58_0 : k58_0 = denTop c58_0 1 [0] [] [] [0] := by kernel_rfl
theorem i58 : Impl b58 x58 := (.shal 1 _ _ _ _ rfl e58_0 (.seq (.shal 1 _ _ _ _ rfl e58_1 (.block (.loop (.shal 4 _ _ _ _ rfl e58_2 (.refl _))))) (.shal 2 _ _ _ _ rfl e58_3 (.refl _))))
theorem e60_1 : k60_1 = denTop c60_1 1 [0,1,2,7,24] [0,1,2,7] [] [] := by kernel_rfl
theorem e60_3 : k60_3 = denTop c60_3 3 [0] [6] [6] [] := by kernel_rfl
theorem e60_2 : k60_2 = denTop c60_2 1 [0,1,2,7] [] [6] [0,1,2] := by kernel_rfl
theorem e60_0 : k60_0 = denTop c60_0 3 [0,1,2] [] [] [0,1,2,7] := by kernel_rfl
theorem i60 : Impl b60 x60 := (.shal 3 _ _ _ _ rfl e60_0 (.seq (.seq (.refl _) (.shal 1 _ _ _ _ rfl e60_1 (.refl _))) (.shal 1 _ _ _ _ rfl e60_2 (.seq (.refl _) (.shal 3 _ _ _ _ rfl e60_3 (.refl _))))))
theorem e61_0 : k61_0 = denTop c61_0 3 [0,1,2] [] [] [0,2,4,6] := by kernel_rfl
theorem i61 : Impl b61 x61 := (.shal 3 _ _ _ _ rfl e61_0 (.refl _))
theorem e69_0 : k69_0 = denTop c69_0 3 [0] [2] [2] [] := by kernel_rfl
theorem i69 : Impl b69 x69 := (.shal 3 _ _ _ _ rfl e69_0 (.refl _))
theorem e70_2 : k70_2 = denTop c70_2 1 [0,3,4,16] [0,3,4] [] [] := by kernel_rfl
theorem e70_3 : k70_3 = denTop c70_3 1 [0,3,4] [0,3,4] [] [] := by kernel_rfl
theorem e70_1 : k70_1 = denTop c70_1 1 [0,3] [] [] [0,3,4] := by kernel_rfl
theorem e70_4 : k70_4 = denTop c70_4 2 [3] [2] [2] [] := by kernel_rfl
theorem e70_0 : k70_0 = denTop c70_0 2 [0] [] [] [0,3] := by kernel_rfl
theorem i70 : Impl b70 x70 := (.shal 2 _ _ _ _ rfl e70_0 (.seq (.shal 1 _ _ _ _ rfl e70_1 (.block (.loop (.seq (.seq (.refl _) (.shal 1 _ _ _ _ rfl e70_2 (.refl _))) (.shal 1 _ _ _ _ rfl e70_3 (.refl _)))))) (.shal 2 _ _ _ _ rfl e70_4 (.refl _))))
theorem e71_2 : k71_2 = denTop c71_2 1 [0,3,4,15] [0,3,4] [] [] := by kernel_rfl
theorem e71_4 : k71_4 = denTop c71_4 1 [0,3,4,5,31] [0,3,4,5] [2] [] := by kernel_rfl
theorem e71_5 : k71_5 = denTop c71_5 1 [0,3,4,5] [0,3,4] [] [] := by kernel_rfl
theorem e71_3 : k71_3 = denTop c71_3 1 [0,3,4] [] [] [0,3,4,5,6] := by kernel_rfl
theorem e71_6 : k71_6 = denTop c71_6 1 [0,3,4] [0,3,4] [] [] := by kernel_rfl
theorem e71_1 : k71_1 = denTop c71_1 1 [0,3] [] [] [0,3,4] := by kernel_rfl
theorem e71_7 : k71_7 = denTop c71_7 2 [3] [2] [2] [] := by kernel_rfl
theorem e71_0 : k71_0 = denTop c71_0 2 [0] [] [] [0,3] := by kernel_rfl
theorem i71 : Impl b71 x71 := (.shal 2 _ _ _ _ rfl e71_0 (.seq (.shal 1 _ _ _ _ rfl e71_1 (.block (.loop (.seq (.seq (.refl _) (.shal 1 _ _ _ _ rfl e71_2 (.refl _))) (.seq (.block (.shal 1 _ _ _ _ rfl e71_3 (.seq (.seq (.refl _) (.shal 1 _ _ _ _ rfl e71_4 (.refl _))) (.shal 1 _ _ _ _ rfl e71_5 (.refl _))))) (.shal 1 _ _ _ _ rfl e71_6 (.refl _))))))) (.shal 2 _ _ _ _ rfl e71_7 (.refl _))))
theorem e72_4 : k72_4 = denTop c72_4 1 [4,10,11,12] [4,10,11,12] [] [] := by kernel_rfl
theorem e72_3 : k72_3 = denTop c72_3 1 [4,10,11,12] [] [2,3] [4,10,11,12] := by kernel_rfl
theorem e72_2 : k72_2 = denTop c72_2 2 [4,10,11,12] [4] [] [4,10,11,12] := by kernel_rfl
theorem e72_1 : k72_1 = denTop c72_1 1 [0,4] [] [] [4,10,11,12] := by kernel_rfl
theorem e72_5 : k72_5 = denTop c72_5 2 [4] [2,3] [2,3] [] := by kernel_rfl
theorem e72_0 : k72_0 = denTop c72_0 3 [0] [] [2,3] [0,4] := by kernel_rfl
theorem i72 : Impl b72 x72 := (.shal 3 _ _ _ _ rfl e72_0 (.seq (.shal 1 _ _ _ _ rfl e72_1 (.block (.loop (.shal 2 _ _ _ _ rfl e72_2 (.shal 1 _ _ _ _ rfl e72_3 (.shal 1 _ _ _ _ rfl e72_4 (.refl _))))))) (.shal 2 _ _ _ _ rfl e72_5 (.refl _))))
theorem e73_4 : k73_4 = denTop c73_4 1 [9,10,11,24] [9,10,11] [2] [] := by kernel_rfl
theorem e73_3 : k73_3 = denTop c73_3 1 [9,10,11] [] [] [4,9,10,11] := by kernel_rfl
theorem e73_5 : k73_5 = denTop c73_5 1 [9,10,11] [9,10,11] [] [] := by kernel_rfl
theorem e73_2 : k73_2 = denTop c73_2 2 [9,10,11] [] [] [9,10,11] := by kernel_rfl
theorem e73_1 : k73_1 = denTop c73_1 1 [0] [] [] [9,10,11] := by kernel_rfl
theorem e73_6 : k73_6 = denTop c73_6 2 [] [2] [2] [] := by kernel_rfl
theorem e73_0 : k73_0 = denTop c73_0 2 [0] [] [2] [0] := by kernel_rfl
theorem i73 : Impl b73 x73 := (.shal 2 _ _ _ _ rfl e73_0 (.seq (.shal 1 _ _ _ _ rfl e73_1 (.block (.loop (.shal 2 _ _ _ _ rfl e73_2 (.seq (.block (.shal 1 _ _ _ _ rfl e73_3 (.seq (.refl _) (.shal 1 _ _ _ _ rfl e73_4 (.refl _))))) (.shal 1 _ _ _ _ rfl e73_5 (.refl _))))))) (.shal 2 _ _ _ _ rfl e73_6 (.refl _))))
theorem e75_0 : k75_0 = denTop c75_0 4 [0] [2] [2] [] := by kernel_rfl
theorem i75 : Impl b75 x75 := (.shal 4 _ _ _ _ rfl e75_0 (.refl _))
theorem e78_1 : k78_1 = denTop c78_1 2 [0,1] [0,1] [] [] := by kernel_rfl
theorem e78_0 : k78_0 = denTop c78_0 1 [0,1] [] [] [0,1] := by kernel_rfl
theorem i78 : Impl b78 x78 := (.shal 1 _ _ _ _ rfl e78_0 (.block (.loop (.shal 2 _ _ _ _ rfl e78_1 (.refl _)))))
theorem e80_0 : k80_0 = denTop c80_0 1 [0,1] [] [] [] := by kernel_rfl
theorem i80 : Impl b80 x80 := (.shal 1 _ _ _ _ rfl e80_0 (.refl _))
theorem e81_2 : k81_2 = denTop c81_2 2 [] [] [4] [] := by kernel_rfl
theorem e81_3 : k81_3 = denTop c81_3 1 [9] [] [4] [] := by kernel_rfl
theorem e81_1 : k81_1 = denTop c81_1 1 [0,1] [] [] [0,1,5] := by kernel_rfl
theorem e81_4 : k81_4 = denTop c81_4 2 [] [4] [4] [] := by kernel_rfl
theorem e81_0 : k81_0 = denTop c81_0 1 [0,1] [] [] [0,1] := by kernel_rfl
theorem i81 : Impl b81 x81 := (.shal 1 _ _ _ _ rfl e81_0 (.seq (.block (.shal 1 _ _ _ _ rfl e81_1 (.cond (.shal 2 _ _ _ _ rfl e81_2 (.refl _)) (.seq (.refl _) (.shal 1 _ _ _ _ rfl e81_3 (.refl _)))))) (.shal 2 _ _ _ _ rfl e81_4 (.refl _))))
theorem e82_1 : k82_1 = denTop c82_1 1 [0,14] [0] [2] [] := by kernel_rfl
theorem e82_5 : k82_5 = denTop c82_5 1 [0,3,4,15,16,17,35] [0,3,4,15,16,17] [2] [] := by kernel_rfl
theorem e82_6 : k82_6 = denTop c82_6 3 [0,3,4,15,16,17] [0,15,16,17] [2] [] := by kernel_rfl
theorem e82_4 : k82_4 = denTop c82_4 1 [0,15,16,17] [] [] [0,3,4,15,16,17] := by kernel_rfl
theorem e82_7 : k82_7 = denTop c82_7 1 [0,15,16,17] [0,15,16,17] [] [] := by kernel_rfl
theorem e82_3 : k82_3 = denTop c82_3 2 [0,15,16,17] [] [] [0,15,16,17] := by kernel_rfl
theorem e82_2 : k82_2 = denTop c82_2 1 [0] [] [] [0,15,16,17] := by kernel_rfl
theorem e82_8 : k82_8 = denTop c82_8 2 [] [2] [2] [] := by kernel_rfl
theorem e82_0 : k82_0 = denTop c82_0 1 [0] [] [] [0] := by kernel_rfl
theorem i82 : Impl b82 x82 := (.shal 1 _ _ _ _ rfl e82_0 (.seq (.seq (.refl _) (.shal 1 _ _ _ _ rfl e82_1 (.refl _))) (.seq (.shal 1 _ _ _ _ rfl e82_2 (.block (.loop (.shal 2 _ _ _ _ rfl e82_3 (.seq (.block (.shal 1 _ _ _ _ rfl e82_4 (.seq (.seq (.refl _) (.shal 1 _ _ _ _ rfl e82_5 (.refl _))) (.shal 3 _ _ _ _ rfl e82_6 (.refl _))))) (.shal 1 _ _ _ _ rfl e82_7 (.refl _))))))) (.shal 2 _ _ _ _ rfl e82_8 (.refl _)))))
theorem e83_0 : k83_0 = denTop c83_0 2 [0,1] [] [] [] := by kernel_rfl
theorem i83 : Impl b83 x83 := (.shal 2 _ _ _ _ rfl e83_0 (.refl _))
theorem e86_2 : k86_2 = denTop c86_2 4 [0,1,7,8] [0,1,7,8] [4] [] := by kernel_rfl
theorem e86_1 : k86_1 = denTop c86_1 1 [0,1] [] [] [0,1,7,8] := by kernel_rfl
theorem e86_3 : k86_3 = denTop c86_3 2 [] [4] [4] [] := by kernel_rfl
theorem e86_0 : k86_0 = denTop c86_0 1 [0,1] [] [] [0,1] := by kernel_rfl
theorem i86 : Impl b86 x86 := (.shal 1 _ _ _ _ rfl e86_0 (.seq (.shal 1 _ _ _ _ rfl e86_1 (.block (.loop (.shal 4 _ _ _ _ rfl e86_2 (.refl _))))) (.shal 2 _ _ _ _ rfl e86_3 (.refl _))))
theorem e88_3 : k88_3 = denTop c88_3 4 [0,1,2,7,9] [0,1,2,7,8] [6] [] := by kernel_rfl
theorem e88_2 : k88_2 = denTop c88_2 1 [0,1,2,7,8,40] [] [] [0,1,2,7,8,31,40] := by kernel_rfl
theorem e88_6 : k88_6 = denTop c88_6 4 [0,1,2,7,8] [6] [6] [] := by kernel_rfl
theorem e88_5 : k88_5 = denTop c88_5 1 [0,1,2,7,8] [] [6] [0,1,2,7,8] := by kernel_rfl
theorem e88_4 : k88_4 = denTop c88_4 1 [0,1,2,7,8] [] [] [0,1,2,7,8] := by kernel_rfl
theorem e88_1 : k88_1 = denTop c88_1 1 [0,1,2,7,8,40] [] [6] [0,1,2,7,8,40] := by kernel_rfl
theorem e88_0 : k88_0 = denTop c88_0 5 [0,1,2,40] [] [6] [0,1,2,7,8,40] := by kernel_rfl
theorem i88 : Impl b88 x88 := (.shal 5 _ _ _ _ rfl e88_0 (.shal 1 _ _ _ _ rfl e88_1 (.seq (.shal 1 _ _ _ _ rfl e88_2 (.cond (.seq (.refl _) (.shal 4 _ _ _ _ rfl e88_3 (.refl _))) (.refl _))) (.shal 1 _ _ _ _ rfl e88_4 (.shal 1 _ _ _ _ rfl e88_5 (.shal 4 _ _ _ _ rfl e88_6 (.refl _)))))))
theorem e89_0 : k89_0 = denTop c89_0 3 [0,1] [4] [4] [] := by kernel_rfl
theorem i89 : Impl b89 x89 := (.shal 3 _ _ _ _ rfl e89_0 (.refl _))
theorem e93_0 : k93_0 = denTop c93_0 3 [0,1] [4] [4] [] := by kernel_rfl
theorem i93 : Impl b93 x93 := (.shal 3 _ _ _ _ rfl e93_0 (.refl _))
theorem e107_4 : k107_4 = denTop c107_4 1 [0,5,6,7,25,33,50] [0,5,6,7,25,33] [2] [] := by kernel_rfl
theorem e107_3 : k107_3 = denTop c107_3 1 [0,5,6,7,25,33] [] [] [0,3,4,5,6,7,25,33] := by kernel_rfl
theorem e107_5 : k107_5 = denTop c107_5 1 [0,5,6,7,25,33] [0,5,6,7,25,33] [] [] := by kernel_rfl
theorem e107_2 : k107_2 = denTop c107_2 2 [0,5,6,7,25,33] [] [] [0,5,6,7,25,33] := by kernel_rfl
theorem e107_1 : k107_1 = denTop c107_1 1 [0,25,33] [] [] [0,5,6,7,25,33] := by kernel_rfl
theorem e107_6 : k107_6 = denTop c107_6 2 [] [2] [2] [] := by kernel_rfl
theorem e107_0 : k107_0 = denTop c107_0 1 [0,25,33] [] [] [0,25,33] := by kernel_rfl
theorem i107 : Impl b107 x107 := (.shal 1 _ _ _ _ rfl e107_0 (.seq (.shal 1 _ _ _ _ rfl e107_1 (.block (.loop (.shal 2 _ _ _ _ rfl e107_2 (.seq (.block (.shal 1 _ _ _ _ rfl e107_3 (.seq (.refl _) (.shal 1 _ _ _ _ rfl e107_4 (.refl _))))) (.shal 1 _ _ _ _ rfl e107_5 (.refl _))))))) (.shal 2 _ _ _ _ rfl e107_6 (.refl _))))
theorem e109_4 : k109_4 = denTop c109_4 1 [0,6,7,8] [0,6,7,8] [] [] := by kernel_rfl
theorem e109_3 : k109_3 = denTop c109_3 1 [0,6,7,8] [] [2] [0,6,7,8] := by kernel_rfl
theorem e109_2 : k109_2 = denTop c109_2 2 [0,6,7,8] [] [] [0,6,7,8] := by kernel_rfl
theorem e109_1 : k109_1 = denTop c109_1 1 [0] [] [] [0,6,7,8] := by kernel_rfl
theorem e109_5 : k109_5 = denTop c109_5 2 [] [2] [2] [] := by kernel_rfl
theorem e109_0 : k109_0 = denTop c109_0 1 [0] [] [] [0] := by kernel_rfl
theorem i109 : Impl b109 x109 := (.shal 1 _ _ _ _ rfl e109_0 (.seq (.shal 1 _ _ _ _ rfl e109_1 (.block (.loop (.shal 2 _ _ _ _ rfl e109_2 (.shal 1 _ _ _ _ rfl e109_3 (.shal 1 _ _ _ _ rfl e109_4 (.refl _))))))) (.shal 2 _ _ _ _ rfl e109_5 (.refl _))))
theorem e110_3 : k110_3 = denTop c110_3 1 [3,6,7,8] [] [] [3,5,6,7,8] := by kernel_rfl
theorem e110_4 : k110_4 = denTop c110_4 1 [3,6,7,8] [3,6,7,8] [] [] := by kernel_rfl
theorem e110_2 : k110_2 = denTop c110_2 2 [3,6,7,8] [3] [] [3,6,7,8] := by kernel_rfl
theorem e110_1 : k110_1 = denTop c110_1 1 [0,3] [] [] [3,6,7,8] := by kernel_rfl
theorem e110_5 : k110_5 = denTop c110_5 2 [3] [2] [2] [] := by kernel_rfl
theorem e110_0 : k110_0 = denTop c110_0 2 [0] [] [] [0,3] := by kernel_rfl
theorem i110 : Impl b110 x110 := (.shal 2 _ _ _ _ rfl e110_0 (.seq (.shal 1 _ _ _ _ rfl e110_1 (.block (.loop (.shal 2 _ _ _ _ rfl e110_2 (.seq (.block (.shal 1 _ _ _ _ rfl e110_3 (.refl _))) (.shal 1 _ _ _ _ rfl e110_4 (.refl _))))))) (.shal 2 _ _ _ _ rfl e110_5 (.refl _))))
theorem e111_0 : k111_0 = denTop c111_0 1 [0] [] [] [0] := by kernel_rfl
theorem i111 : Impl b111 x111 := (.shal 1 _ _ _ _ rfl e111_0 (.seq (.refl _) (.refl _)))
theorem e112_0 : k112_0 = denTop c112_0 3 [0,1] [4] [4] [] := by kernel_rfl
theorem i112 : Impl b112 x112 := (.shal 3 _ _ _ _ rfl e112_0 (.refl _))
theorem e126_1 : k126_1 = denTop c126_1 1 [0,14] [0] [2] [] := by kernel_rfl
theorem e126_5 : k126_5 = denTop c126_5 1 [0,16,17,29] [0,16,17] [2] [] := by kernel_rfl
theorem e126_4 : k126_4 = denTop c126_4 1 [0,16,17] [] [] [0,3,16,17] := by kernel_rfl
theorem e126_6 : k126_6 = denTop c126_6 1 [0,16,17] [0,16,17] [] [] := by kernel_rfl
theorem e126_3 : k126_3 = denTop c126_3 2 [0,16,17] [] [] [0,16,17] := by kernel_rfl
theorem e126_2 : k126_2 = denTop c126_2 1 [0] [] [] [0,16,17] := by kernel_rfl
theorem e126_7 : k126_7 = denTop c126_7 2 [] [2] [2] [] := by kernel_rfl
theorem e126_0 : k126_0 = denTop c126_0 1 [0] [] [] [0] := by kernel_rfl
theorem i126 : Impl b126 x126 := (.shal 1 _ _ _ _ rfl e126_0 (.seq (.seq (.refl _) (.shal 1 _ _ _ _ rfl e126_1 (.refl _))) (.seq (.shal 1 _ _ _ _ rfl e126_2 (.block (.loop (.shal 2 _ _ _ _ rfl e126_3 (.seq (.block (.shal 1 _ _ _ _ rfl e126_4 (.seq (.refl _) (.shal 1 _ _ _ _ rfl e126_5 (.refl _))))) (.shal 1 _ _ _ _ rfl e126_6 (.refl _))))))) (.shal 2 _ _ _ _ rfl e126_7 (.refl _)))))
theorem e127_0 : k127_0 = denTop c127_0 4 [0,1] [4,5] [4,5] [] := by kernel_rfl
theorem i127 : Impl b127 x127 := (.shal 4 _ _ _ _ rfl e127_0 (.refl _))
theorem e128_5 : k128_5 = denTop c128_5 1 [0,1,2,3,4,10,11,12,13,75] [0,1,2,3,4,10,11,12,13] [] [] := by kernel_rfl
theorem e128_6 : k128_6 = denTop c128_6 1 [0,1,2,3,4,10,11,12,13,97] [0,1,2,3,4,10,11,12,13] [] [] := by kernel_rfl
theorem e128_9 : k128_9 = denTop c128_9 1 [0,1,2,3,4,11,16,18,19,20,125] [0,1,2,3,4,10,11] [] [] := by kernel_rfl
theorem e128_8 : k128_8 = denTop c128_8 1 [0,1,2,3,4,11,16,18,19,20] [] [] [0,1,2,3,4,11,16,18,19,20,125] := by kernel_rfl
theorem e128_7 : k128_7 = denTop c128_7 4 [0,1,2,3,4,12,13] [] [] [0,1,2,3,4,11,16,18,19,20] := by kernel_rfl
theorem e128_4 : k128_4 = denTop c128_4 1 [0,1,2,3,4,10,11,12,13,14] [] [] [0,1,2,3,4,10,11,12,13,14] := by kernel_rfl
theorem e128_3 : k128_3 = denTop c128_3 1 [0,1,2,3,4,10,11,12] [] [] [0,1,2,3,4,10,11,12,13,14] := by kernel_rfl
theorem e128_2 : k128_2 = denTop c128_2 1 [0,1,2,3,4,10,11,12] [] [] [0,1,2,3,4,10,11,12] := by kernel_rfl
theorem e128_1 : k128_1 = denTop c128_1 3 [0,1,2,3,4,10,11] [] [] [0,1,2,3,4,10,11,12] := by kernel_rfl
theorem e128_0 : k128_0 = denTop c128_0 2 [0,1,2,3,4] [] [] [0,1,2,3,4,10,11] := by kernel_rfl
theorem i128 : Impl b128 x128 := (.shal 2 _ _ _ _ rfl e128_0 (.block (.loop (.block (.shal 3 _ _ _ _ rfl e128_1 (.shal 1 _ _ _ _ rfl e128_2 (.shal 1 _ _ _ _ rfl e128_3 (.shal 1 _ _ _ _ rfl e128_4 (.seq (.seq (.refl _) (.shal 1 _ _ _ _ rfl e128_5 (.refl _))) (.seq (.seq (.refl _) (.shal 1 _ _ _ _ rfl e128_6 (.refl _))) (.shal 4 _ _ _ _ rfl e128_7 (.shal 1 _ _ _ _ rfl e128_8 (.shal 1 _ _ _ _ rfl e128_9 (.refl _))))))))))))))
theorem e129_0 : k129_0 = denTop c129_0 4 [0] [2] [2] [] := by kernel_rfl
theorem i129 : Impl b129 x129 := (.shal 4 _ _ _ _ rfl e129_0 (.refl _))
theorem e133_2 : k133_2 = denTop c133_2 4 [0,1,7,8] [0,1,7,8] [4] [] := by kernel_rfl
theorem e133_1 : k133_1 = denTop c133_1 1 [0,1] [] [] [0,1,7,8] := by kernel_rfl
theorem e133_3 : k133_3 = denTop c133_3 2 [] [4] [4] [] := by kernel_rfl
theorem e133_0 : k133_0 = denTop c133_0 1 [0,1] [] [] [0,1] := by kernel_rfl
theorem i133 : Impl b133 x133 := (.shal 1 _ _ _ _ rfl e133_0 (.seq (.shal 1 _ _ _ _ rfl e133_1 (.block (.loop (.shal 4 _ _ _ _ rfl e133_2 (.refl _))))) (.shal 2 _ _ _ _ rfl e133_3 (.refl _))))
theorem e137_2 : k137_2 = denTop c137_2 4 [0,1,7,8] [0,1,7,8] [4] [] := by kernel_rfl
theorem e137_1 : k137_1 = denTop c137_1 1 [0,1] [] [] [0,1,7,8] := by kernel_rfl
theorem e137_3 : k137_3 = denTop c137_3 2 [] [4] [4] [] := by kernel_rfl
theorem e137_0 : k137_0 = denTop c137_0 1 [0,1] [] [] [0,1] := by kernel_rfl
theorem i137 : Impl b137 x137 := (.shal 1 _ _ _ _ rfl e137_0 (.seq (.shal 1 _ _ _ _ rfl e137_1 (.block (.loop (.shal 4 _ _ _ _ rfl e137_2 (.refl _))))) (.shal 2 _ _ _ _ rfl e137_3 (.refl _))))
theorem e159_0 : k159_0 = denTop c159_0 3 [0,1] [4] [4] [] := by kernel_rfl
theorem i159 : Impl b159 x159 := (.shal 3 _ _ _ _ rfl e159_0 (.refl _))
theorem e162_2 : k162_2 = denTop c162_2 4 [0,1,7,8] [0,1,7,8] [4] [] := by kernel_rfl
theorem e162_1 : k162_1 = denTop c162_1 1 [0,1] [] [] [0,1,7,8] := by kernel_rfl
theorem e162_3 : k162_3 = denTop c162_3 2 [] [4] [4] [] := by kernel_rfl
theorem e162_0 : k162_0 = denTop c162_0 1 [0,1] [] [] [0,1] := by kernel_rfl
theorem i162 : Impl b162 x162 := (.shal 1 _ _ _ _ rfl e162_0 (.seq (.shal 1 _ _ _ _ rfl e162_1 (.block (.loop (.shal 4 _ _ _ _ rfl e162_2 (.refl _))))) (.shal 2 _ _ _ _ rfl e162_3 (.refl _))))
theorem e198_3 : k198_3 = denTop c198_3 1 [4] [] [2] [] := by kernel_rfl
theorem e198_2 : k198_2 = denTop c198_2 1 [3] [] [] [4] := by kernel_rfl
theorem e198_1 : k198_1 = denTop c198_1 1 [0] [] [] [3] := by kernel_rfl
theorem e198_4 : k198_4 = denTop c198_4 2 [] [2] [2] [] := by kernel_rfl
theorem e198_0 : k198_0 = denTop c198_0 1 [0] [] [] [0] := by kernel_rfl
theorem i198 : Impl b198 x198 := (.shal 1 _ _ _ _ rfl e198_0 (.seq (.shal 1 _ _ _ _ rfl e198_1 (.block (.shal 1 _ _ _ _ rfl e198_2 (.shal 1 _ _ _ _ rfl e198_3 (.refl _))))) (.shal 2 _ _ _ _ rfl e198_4 (.refl _))))
theorem e199_2 : k199_2 = denTop c199_2 4 [0,1,7,8] [0,1,7,8] [4] [] := by kernel_rfl
theorem e199_1 : k199_1 = denTop c199_1 1 [0,1] [] [] [0,1,7,8] := by kernel_rfl
theorem e199_3 : k199_3 = denTop c199_3 2 [] [4] [4] [] := by kernel_rfl
theorem e199_0 : k199_0 = denTop c199_0 1 [0,1] [] [] [0,1] := by kernel_rfl
theorem i199 : Impl b199 x199 := (.shal 1 _ _ _ _ rfl e199_0 (.seq (.shal 1 _ _ _ _ rfl e199_1 (.block (.loop (.shal 4 _ _ _ _ rfl e199_2 (.refl _))))) (.shal 2 _ _ _ _ rfl e199_3 (.refl _))))
theorem e200_0 : k200_0 = denTop c200_0 3 [0,1] [3] [3] [] := by kernel_rfl
theorem i200 : Impl b200 x200 := (.shal 3 _ _ _ _ rfl e200_0 (.refl _))
theorem e201_3 : k201_3 = denTop c201_3 1 [0,1,2,3,8,9,34] [0,1,2,3,8,9] [] [] := by kernel_rfl
theorem e201_4 : k201_4 = denTop c201_4 1 [0,1,2,3,8,9] [0,1,2,3,8,9] [] [] := by kernel_rfl
theorem e201_2 : k201_2 = denTop c201_2 1 [0,1,2,3,8] [] [] [0,1,2,3,8,9] := by kernel_rfl
theorem e201_5 : k201_5 = denTop c201_5 1 [0,1,2,3,8] [0,1,2,3,8] [] [] := by kernel_rfl
theorem e201_1 : k201_1 = denTop c201_1 1 [0,1,2,3,8] [] [] [0,1,2,3,8] := by kernel_rfl
theorem e201_0 : k201_0 = denTop c201_0 1 [0,1,2,3] [] [] [0,1,2,3,8] := by kernel_rfl
theorem i201 : Impl b201 x201 := (.shal 1 _ _ _ _ rfl e201_0 (.block (.loop (.shal 1 _ _ _ _ rfl e201_1 (.seq (.block (.shal 1 _ _ _ _ rfl e201_2 (.block (.loop (.seq (.seq (.refl _) (.shal 1 _ _ _ _ rfl e201_3 (.refl _))) (.seq (.block (.refl _)) (.shal 1 _ _ _ _ rfl e201_4 (.refl _)))))))) (.shal 1 _ _ _ _ rfl e201_5 (.refl _)))))))
theorem e210_2 : k210_2 = denTop c210_2 2 [0,2] [] [] [2] := by kernel_rfl
theorem e210_1 : k210_1 = denTop c210_1 1 [0,2] [] [] [0,2] := by kernel_rfl
theorem e210_0 : k210_0 = denTop c210_0 2 [0] [] [] [0,2] := by kernel_rfl
theorem i210 : Impl b210 x210 := (.shal 2 _ _ _ _ rfl e210_0 (.shal 1 _ _ _ _ rfl e210_1 (.shal 2 _ _ _ _ rfl e210_2 (.refl _))))
end
end Go.Am.Seat
