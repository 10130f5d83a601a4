/- The fast code stands for the code. Nothing is asked. -/
import Derived.Test.YtammkfjhlofmaaaGreatCode1
import Derived.Test.YtammkfjhlofmaaaGreatFast1
import Derived.Test.YtammkfjhlofmaaaGreatB
import Derived.KernelRfl
set_option linter.all false
namespace Go.Am.Seat
set_option linter.unusedVariables false
set_option maxRecDepth 20000
noncomputable section
theorem e6_6 : k6_6 = denTop c6_6 3 [2,4,5,7,9,10,11,12,13,14,15] [] [] [2,4,5,7,9,10,11,12,13,14,15,16] := by kernel_rfl
theorem e6_5 : k6_5 = denTop c6_5 5 [2,4,5,7,8,9,10,11] [] [] [2,4,5,7,9,10,11,12,13,14,15] := by kernel_rfl
theorem e6_4 : k6_4 = denTop c6_4 5 [2,4,5,7] [] [] [2,4,5,7,8,9,10,11] := by kernel_rfl
theorem e6_3 : k6_3 = denTop c6_3 3 [2,4,5,7] [] [] [2,4,5,7] := by kernel_rfl
theorem e6_2 : k6_2 = denTop c6_2 5 [2,4,5] [] [] [2,4,5,7] := by kernel_rfl
theorem e6_1 : k6_1 = denTop c6_1 1 [2,4,5,6] [] [0] [2,4,5] := by kernel_rfl
theorem e6_0 : k6_0 = denTop c6_0 4 [] [] [] [2,4,5,6] := by kernel_rfl
theorem i6 : Impl b6 x6 := (.shal 4 _ _ _ _ rfl e6_0 (.shal 1 _ _ _ _ rfl e6_1 (.shal 5 _ _ _ _ rfl e6_2 (.shal 3 _ _ _ _ rfl e6_3 (.shal 5 _ _ _ _ rfl e6_4 (.shal 5 _ _ _ _ rfl e6_5 (.shal 3 _ _ _ _ rfl e6_6 (.seq (.refl _) (.refl _)))))))))
theorem e14_1 : k14_1 = denTop c14_1 4 [0] [2,3] [2,3] [] := by kernel_rfl
theorem e14_0 : k14_0 = denTop c14_0 2 [0] [] [2,3] [0] := by kernel_rfl
theorem i14 : Impl b14 x14 := (.shal 2 _ _ _ _ rfl e14_0 (.shal 4 _ _ _ _ rfl e14_1 (.refl _)))
theorem e15_3 : k15_3 = denTop c15_3 1 [0,3,17] [0] [] [] := by kernel_rfl
theorem e15_5 : k15_5 = denTop c15_5 1 [0,3,6,27] [0] [] [] := by kernel_rfl
theorem e15_4 : k15_4 = denTop c15_4 1 [0,3,6] [] [] [0,3,6,27] := by kernel_rfl
theorem e15_2 : k15_2 = denTop c15_2 1 [0,3,6] [] [] [0,3,6,7] := by kernel_rfl
theorem e15_1 : k15_1 = denTop c15_1 1 [0,3] [] [] [0,3,6] := by kernel_rfl
theorem e15_6 : k15_6 = denTop c15_6 2 [0] [4] [4] [] := by kernel_rfl
theorem e15_0 : k15_0 = denTop c15_0 1 [0,1] [] [] [0,3] := by kernel_rfl
theorem i15 : Impl b15 x15 := (.shal 1 _ _ _ _ rfl e15_0 (.seq (.shal 1 _ _ _ _ rfl e15_1 (.block (.shal 1 _ _ _ _ rfl e15_2 (.cond (.seq (.refl _) (.shal 1 _ _ _ _ rfl e15_3 (.refl _))) (.shal 1 _ _ _ _ rfl e15_4 (.shal 1 _ _ _ _ rfl e15_5 (.refl _))))))) (.shal 2 _ _ _ _ rfl e15_6 (.refl _))))
theorem e16_2 : k16_2 = denTop c16_2 1 [0,1,6,19] [0,1,6] [] [] := by kernel_rfl
theorem e16_3 : k16_3 = denTop c16_3 1 [0,1,6,31] [0,1,6] [] [] := by kernel_rfl
theorem e16_4 : k16_4 = denTop c16_4 2 [0,6] [4,5] [4,5] [] := by kernel_rfl
theorem e16_1 : k16_1 = denTop c16_1 2 [0,1] [] [] [0,1,6] := by kernel_rfl
theorem e16_0 : k16_0 = denTop c16_0 1 [0,1] [] [] [0,1] := by kernel_rfl
theorem i16 : Impl b16 x16 := (.shal 1 _ _ _ _ rfl e16_0 (.scope (.shal 2 _ _ _ _ rfl e16_1 (.seq (.refl _) (.seq (.seq (.refl _) (.shal 1 _ _ _ _ rfl e16_2 (.refl _))) (.seq (.seq (.refl _) (.shal 1 _ _ _ _ rfl e16_3 (.refl _))) (.shal 2 _ _ _ _ rfl e16_4 (.refl _))))))))
theorem e17_2 : k17_2 = denTop c17_2 3 [1] [] [] [1,3] := by kernel_rfl
theorem e17_1 : k17_1 = denTop c17_1 1 [1,2] [] [0] [1] := by kernel_rfl
theorem e17_0 : k17_0 = denTop c17_0 2 [] [] [] [1,2] := by kernel_rfl
theorem i17 : Impl b17 x17 := (.shal 2 _ _ _ _ rfl e17_0 (.shal 1 _ _ _ _ rfl e17_1 (.shal 3 _ _ _ _ rfl e17_2 (.seq (.refl _) (.refl _)))))
theorem e18_2 : k18_2 = denTop c18_2 3 [0,1,5] [0,1,5] [4] [] := by kernel_rfl
theorem e18_1 : k18_1 = denTop c18_1 1 [0,1] [] [] [0,1,5] := by kernel_rfl
theorem e18_3 : k18_3 = denTop c18_3 2 [] [4] [4] [] := by kernel_rfl
theorem e18_0 : k18_0 = denTop c18_0 2 [0,1] [] [4] [0,1] := by kernel_rfl
theorem i18 : Impl b18 x18 := (.shal 2 _ _ _ _ rfl e18_0 (.seq (.shal 1 _ _ _ _ rfl e18_1 (.block (.loop (.shal 3 _ _ _ _ rfl e18_2 (.refl _))))) (.shal 2 _ _ _ _ rfl e18_3 (.refl _))))
theorem e19_0 : k19_0 = denTop c19_0 4 [0,1] [4] [4] [] := by kernel_rfl
theorem i19 : Impl b19 x19 := (.shal 4 _ _ _ _ rfl e19_0 (.refl _))
theorem e20_0 : k20_0 = denTop c20_0 3 [0,1] [4] [4] [] := by kernel_rfl
theorem i20 : Impl b20 x20 := (.shal 3 _ _ _ _ rfl e20_0 (.refl _))
theorem e21_1 : k21_1 = denTop c21_1 2 [0,1] [4,5] [4,5] [] := by kernel_rfl
theorem e21_0 : k21_0 = denTop c21_0 2 [0,1] [] [4,5] [0,1] := by kernel_rfl
theorem i21 : Impl b21 x21 := (.shal 2 _ _ _ _ rfl e21_0 (.shal 2 _ _ _ _ rfl e21_1 (.refl _)))
theorem e25_0 : k25_0 = denTop c25_0 3 [0] [2] [2] [] := by kernel_rfl
theorem i25 : Impl b25 x25 := (.shal 3 _ _ _ _ rfl e25_0 (.refl _))
theorem e26_3 : k26_3 = denTop c26_3 1 [5,12,13] [] [] [5,6,12,13] := by kernel_rfl
theorem e26_4 : k26_4 = denTop c26_4 1 [5,12,13] [5,12,13] [] [] := by kernel_rfl
theorem e26_2 : k26_2 = denTop c26_2 2 [5,12,13] [5] [] [5,12,13] := by kernel_rfl
theorem e26_1 : k26_1 = denTop c26_1 1 [0,5] [] [] [5,12,13] := by kernel_rfl
theorem e26_6 : k26_6 = denTop c26_6 4 [5,34,35,36] [5,34,35,36] [] [] := by kernel_rfl
theorem e26_5 : k26_5 = denTop c26_5 1 [5] [] [] [5,34,35,36] := by kernel_rfl
theorem e26_7 : k26_7 = denTop c26_7 2 [5] [4] [4] [] := by kernel_rfl
theorem e26_0 : k26_0 = denTop c26_0 2 [0,1] [] [] [0,5] := by kernel_rfl
theorem i26 : Impl b26 x26 := (.shal 2 _ _ _ _ rfl e26_0 (.seq (.shal 1 _ _ _ _ rfl e26_1 (.block (.loop (.shal 2 _ _ _ _ rfl e26_2 (.seq (.block (.shal 1 _ _ _ _ rfl e26_3 (.refl _))) (.shal 1 _ _ _ _ rfl e26_4 (.refl _))))))) (.seq (.shal 1 _ _ _ _ rfl e26_5 (.block (.loop (.shal 4 _ _ _ _ rfl e26_6 (.refl _))))) (.shal 2 _ _ _ _ rfl e26_7 (.refl _)))))
theorem e27_0 : k27_0 = denTop c27_0 2 [0,1,2,3] [] [] [] := by kernel_rfl
theorem i27 : Impl b27 x27 := (.shal 2 _ _ _ _ rfl e27_0 (.refl _))
theorem e28_2 : k28_2 = denTop c28_2 2 [0,6] [] [] [4] := by kernel_rfl
theorem e28_1 : k28_1 = denTop c28_1 1 [0,5,6] [] [] [0,6] := by kernel_rfl
theorem e28_0 : k28_0 = denTop c28_0 4 [0,1] [] [4] [0,5,6] := by kernel_rfl
theorem i28 : Impl b28 x28 := (.shal 4 _ _ _ _ rfl e28_0 (.shal 1 _ _ _ _ rfl e28_1 (.shal 2 _ _ _ _ rfl e28_2 (.refl _))))
theorem e29_0 : k29_0 = denTop c29_0 3 [0,1] [] [] [] := by kernel_rfl
theorem i29 : Impl b29 x29 := (.shal 3 _ _ _ _ rfl e29_0 (.refl _))
theorem e30_0 : k30_0 = denTop c30_0 3 [0,1] [] [] [] := by kernel_rfl
theorem i30 : Impl b30 x30 := (.shal 3 _ _ _ _ rfl e30_0 (.refl _))
theorem e31_0 : k31_0 = denTop c31_0 1 [0,1,2,16] [] [] [] := by kernel_rfl
theorem i31 : Impl b31 x31 := (.seq (.refl _) (.shal 1 _ _ _ _ rfl e31_0 (.refl _)))
theorem e32_1 : k32_1 = denTop c32_1 1 [0,1,2,9] [] [] [] := by kernel_rfl
theorem e32_0 : k32_0 = denTop c32_0 1 [0,1,2] [] [] [0,1,2,9] := by kernel_rfl
theorem i32 : Impl b32 x32 := (.shal 1 _ _ _ _ rfl e32_0 (.shal 1 _ _ _ _ rfl e32_1 (.refl _)))
theorem e33_1 : k33_1 = denTop c33_1 1 [0,1,20] [0,1] [4] [] := by kernel_rfl
theorem e33_2 : k33_2 = denTop c33_2 3 [0,1] [4] [4] [] := by kernel_rfl
theorem e33_0 : k33_0 = denTop c33_0 1 [0,1] [] [] [0,1] := by kernel_rfl
theorem i33 : Impl b33 x33 := (.shal 1 _ _ _ _ rfl e33_0 (.seq (.seq (.refl _) (.shal 1 _ _ _ _ rfl e33_1 (.refl _))) (.shal 3 _ _ _ _ rfl e33_2 (.refl _))))
theorem e34_0 : k34_0 = denTop c34_0 2 [0,1,2,3] [] [] [] := by kernel_rfl
theorem i34 : Impl b34 x34 := (.shal 2 _ _ _ _ rfl e34_0 (.refl _))
theorem e35_0 : k35_0 = denTop c35_0 5 [0] [2] [2] [] := by kernel_rfl
theorem i35 : Impl b35 x35 := (.shal 5 _ _ _ _ rfl e35_0 (.refl _))
theorem e36_2 : k36_2 = denTop c36_2 4 [0,3,12,13,14] [0,3,12,13,14] [] [] := by kernel_rfl
theorem e36_1 : k36_1 = denTop c36_1 1 [0,3] [] [] [0,3,12,13,14] := by kernel_rfl
theorem e36_6 : k36_6 = denTop c36_6 3 [3,6,32,33,34] [3,6,32,33,34] [] [3,6,8,32,33,34] := by kernel_rfl
theorem e36_7 : k36_7 = denTop c36_7 1 [3,6,32,33,34] [3,6,32,33,34] [] [] := by kernel_rfl
theorem e36_5 : k36_5 = denTop c36_5 2 [3,6,32,33,34] [6] [] [3,6,32,33,34] := by kernel_rfl
theorem e36_4 : k36_4 = denTop c36_4 1 [0,3,6] [] [] [3,6,32,33,34] := by kernel_rfl
theorem e36_8 : k36_8 = denTop c36_8 2 [6] [2] [2] [] := by kernel_rfl
theorem e36_3 : k36_3 = denTop c36_3 1 [0,3] [] [] [0,3,6] := by kernel_rfl
theorem e36_0 : k36_0 = denTop c36_0 2 [0] [] [] [0,3] := by kernel_rfl
theorem i36 : Impl b36 x36 := (.shal 2 _ _ _ _ rfl e36_0 (.seq (.shal 1 _ _ _ _ rfl e36_1 (.block (.loop (.shal 4 _ _ _ _ rfl e36_2 (.refl _))))) (.shal 1 _ _ _ _ rfl e36_3 (.seq (.shal 1 _ _ _ _ rfl e36_4 (.block (.loop (.shal 2 _ _ _ _ rfl e36_5 (.seq (.block (.shal 3 _ _ _ _ rfl e36_6 (.refl _))) (.shal 1 _ _ _ _ rfl e36_7 (.refl _))))))) (.shal 2 _ _ _ _ rfl e36_8 (.refl _))))))
theorem e37_1 : k37_1 = denTop c37_1 4 [0,7,8,9] [0,7,8,9] [] [] := by kernel_rfl
theorem e37_0 : k37_0 = denTop c37_0 1 [0] [] [] [0,7,8,9] := by kernel_rfl
theorem i37 : Impl b37 x37 := (.shal 1 _ _ _ _ rfl e37_0 (.block (.loop (.shal 4 _ _ _ _ rfl e37_1 (.refl _)))))
theorem e38_0 : k38_0 = denTop c38_0 1 [0,1] [] [] [0,1] := by kernel_rfl
theorem i38 : Impl b38 x38 := (.shal 1 _ _ _ _ rfl e38_0 (.seq (.refl _) (.refl _)))
theorem e39_0 : k39_0 = denTop c39_0 4 [0] [2] [2] [] := by kernel_rfl
theorem i39 : Impl b39 x39 := (.shal 4 _ _ _ _ rfl e39_0 (.refl _))
theorem e41_0 : k41_0 = denTop c41_0 3 [0] [2] [2] [] := by kernel_rfl
theorem i41 : Impl b41 x41 := (.shal 3 _ _ _ _ rfl e41_0 (.refl _))
theorem e42_0 : k42_0 = denTop c42_0 3 [] [0] [0] [] := by kernel_rfl
theorem i42 : Impl b42 x42 := (.shal 3 _ _ _ _ rfl e42_0 (.refl _))
theorem e43_6 : k43_6 = denTop c43_6 4 [0,81,82,83] [0,81,82,83] [] [] := by kernel_rfl
theorem e43_5 : k43_5 = denTop c43_5 1 [0,4] [] [] [0,81,82,83] := by kernel_rfl
theorem e43_9 : k43_9 = denTop c43_9 1 [0] [] [] [] := by kernel_rfl
theorem e43_8 : k43_8 = denTop c43_8 1 [0] [] [] [0] := by kernel_rfl
theorem e43_7 : k43_7 = denTop c43_7 2 [0] [] [] [0] := by kernel_rfl
theorem e43_4 : k43_4 = denTop c43_4 1 [0] [] [] [0,4] := by kernel_rfl
theorem e43_3 : k43_3 = denTop c43_3 1 [0,1] [] [] [0] := by kernel_rfl
theorem e43_2 : k43_2 = denTop c43_2 1 [0,1] [] [] [0,1] := by kernel_rfl
theorem e43_1 : k43_1 = denTop c43_1 1 [0,1] [] [] [0,1] := by kernel_rfl
theorem e43_0 : k43_0 = denTop c43_0 1 [0,1] [] [] [0,1] := by kernel_rfl
theorem i43 : Impl b43 x43 := (.shal 1 _ _ _ _ rfl e43_0 (.seq (.refl _) (.shal 1 _ _ _ _ rfl e43_1 (.shal 1 _ _ _ _ rfl e43_2 (.shal 1 _ _ _ _ rfl e43_3 (.shal 1 _ _ _ _ rfl e43_4 (.seq (.shal 1 _ _ _ _ rfl e43_5 (.block (.loop (.shal 4 _ _ _ _ rfl e43_6 (.refl _))))) (.shal 2 _ _ _ _ rfl e43_7 (.shal 1 _ _ _ _ rfl e43_8 (.shal 1 _ _ _ _ rfl e43_9 (.refl _)))))))))))
theorem e44_3 : k44_3 = denTop c44_3 1 [0,1,2,6,11,12,13,27] [0,1,2,6,11,12,13] [] [] := by kernel_rfl
theorem e44_4 : k44_4 = denTop c44_4 1 [0,1,2,6] [] [] [0,1,2,6] := by kernel_rfl
theorem e44_2 : k44_2 = denTop c44_2 1 [0,1,2,11,12,13] [] [] [0,1,2,6,7,11,12,13] := by kernel_rfl
theorem e44_5 : k44_5 = denTop c44_5 1 [0,1,2,11,12,13] [0,1,2,11,12,13] [] [] := by kernel_rfl
theorem e44_1 : k44_1 = denTop c44_1 2 [0,1,2,11,12,13] [0,1,2] [] [0,1,2,11,12,13] := by kernel_rfl
theorem e44_0 : k44_0 = denTop c44_0 1 [0,1,2] [] [] [0,1,2,11,12,13] := by kernel_rfl
theorem e44_7 : k44_7 = denTop c44_7 2 [0] [] [] [] := by kernel_rfl
theorem e44_6 : k44_6 = denTop c44_6 1 [0,1,2] [] [] [0,1,2] := by kernel_rfl
theorem i44 : Impl b44 x44 := (.seq (.shal 1 _ _ _ _ rfl e44_0 (.block (.loop (.shal 2 _ _ _ _ rfl e44_1 (.seq (.block (.shal 1 _ _ _ _ rfl e44_2 (.seq (.seq (.refl _) (.shal 1 _ _ _ _ rfl e44_3 (.refl _))) (.shal 1 _ _ _ _ rfl e44_4 (.seq (.refl _) (.refl _)))))) (.shal 1 _ _ _ _ rfl e44_5 (.refl _))))))) (.shal 1 _ _ _ _ rfl e44_6 (.seq (.refl _) (.shal 2 _ _ _ _ rfl e44_7 (.refl _)))))
theorem e45_1 : k45_1 = denTop c45_1 2 [0,1] [4] [4] [] := by kernel_rfl
theorem e45_0 : k45_0 = denTop c45_0 3 [0,1] [] [4] [0,1] := by kernel_rfl
theorem i45 : Impl b45 x45 := (.shal 3 _ _ _ _ rfl e45_0 (.shal 2 _ _ _ _ rfl e45_1 (.refl _)))
theorem e46_1 : k46_1 = denTop c46_1 4 [0,1,2,7] [6] [6] [] := by kernel_rfl
theorem e46_0 : k46_0 = denTop c46_0 4 [0,1,2] [] [6] [0,1,2,7] := by kernel_rfl
theorem i46 : Impl b46 x46 := (.shal 4 _ _ _ _ rfl e46_0 (.shal 4 _ _ _ _ rfl e46_1 (.refl _)))
theorem e47_5 : k47_5 = denTop c47_5 1 [0,3,4,6] [] [] [] := by kernel_rfl
theorem e47_7 : k47_7 = denTop c47_7 1 [0,3,4,6] [] [] [] := by kernel_rfl
theorem e47_9 : k47_9 = denTop c47_9 1 [0,3,4,6] [] [] [] := by kernel_rfl
theorem e47_11 : k47_11 = denTop c47_11 2 [0,6,29] [] [] [] := by kernel_rfl
theorem e47_10 : k47_10 = denTop c47_10 1 [0,3,4,6,29] [] [] [0,3,4,6,29,54] := by kernel_rfl
theorem e47_8 : k47_8 = denTop c47_8 1 [0,3,4,6,29] [] [] [0,3,4,6,29,46] := by kernel_rfl
theorem e47_6 : k47_6 = denTop c47_6 1 [0,3,4,6,29] [] [] [0,3,4,6,29,38] := by kernel_rfl
theorem e47_4 : k47_4 = denTop c47_4 1 [0,3,4,6,29] [] [] [0,3,4,6,29,30] := by kernel_rfl
theorem e47_3 : k47_3 = denTop c47_3 1 [0,3,4,5,6] [] [] [0,3,4,6,29] := by kernel_rfl
theorem e47_13 : k47_13 = denTop c47_13 4 [0,69,70,71] [0,69,70,71] [] [] := by kernel_rfl
theorem e47_12 : k47_12 = denTop c47_12 1 [0,4] [] [] [0,69,70,71] := by kernel_rfl
theorem e47_14 : k47_14 = denTop c47_14 1 [0,4] [] [] [] := by kernel_rfl
theorem e47_2 : k47_2 = denTop c47_2 2 [0,3,4,5,6] [] [] [0,3,4,5,6] := by kernel_rfl
theorem e47_1 : k47_1 = denTop c47_1 4 [0,3] [0,3,4] [] [0,3,4,5,6] := by kernel_rfl
theorem e47_0 : k47_0 = denTop c47_0 1 [0,1] [] [] [0,3] := by kernel_rfl
theorem i47 : Impl b47 x47 := (.shal 1 _ _ _ _ rfl e47_0 (.scope (.shal 4 _ _ _ _ rfl e47_1 (.shal 2 _ _ _ _ rfl e47_2 (.seq (.shal 1 _ _ _ _ rfl e47_3 (.block (.shal 1 _ _ _ _ rfl e47_4 (.cond (.shal 1 _ _ _ _ rfl e47_5 (.refl _)) (.shal 1 _ _ _ _ rfl e47_6 (.cond (.shal 1 _ _ _ _ rfl e47_7 (.refl _)) (.shal 1 _ _ _ _ rfl e47_8 (.cond (.shal 1 _ _ _ _ rfl e47_9 (.refl _)) (.shal 1 _ _ _ _ rfl e47_10 (.cond (.refl _) (.shal 2 _ _ _ _ rfl e47_11 (.refl _)))))))))))) (.seq (.refl _) (.seq (.refl _) (.seq (.shal 1 _ _ _ _ rfl e47_12 (.block (.loop (.shal 4 _ _ _ _ rfl e47_13 (.refl _))))) (.seq (.refl _) (.seq (.refl _) (.seq (.refl _) (.seq (.refl _) (.seq (.refl _) (.shal 1 _ _ _ _ rfl e47_14 (.refl _)))))))))))))))
theorem e48_0 : k48_0 = denTop c48_0 2 [0,1,2,3] [] [] [] := by kernel_rfl
theorem i48 : Impl b48 x48 := (.shal 2 _ _ _ _ rfl e48_0 (.refl _))
theorem e49_0 : k49_0 = denTop c49_0 1 [0,1] [] [] [0,1] := by kernel_rfl
theorem i49 : Impl b49 x49 := (.shal 1 _ _ _ _ rfl e49_0 (.seq (.refl _) (.refl _)))
theorem e50_1 : k50_1 = denTop c50_1 1 [0,4,59] [0,4] [] [] := by kernel_rfl
theorem e50_5 : k50_5 = denTop c50_5 1 [0,94] [] [] [] := by kernel_rfl
theorem e50_4 : k50_4 = denTop c50_4 1 [0,4] [] [] [0,91] := by kernel_rfl
theorem e50_3 : k50_3 = denTop c50_3 1 [0,4] [] [] [0,4] := by kernel_rfl
theorem e50_2 : k50_2 = denTop c50_2 2 [0,4] [] [] [0,4] := by kernel_rfl
theorem e50_0 : k50_0 = denTop c50_0 1 [0,1] [] [] [0] := by kernel_rfl
theorem i50 : Impl b50 x50 := (.shal 1 _ _ _ _ rfl e50_0 (.seq (.refl _) (.seq (.seq (.refl _) (.shal 1 _ _ _ _ rfl e50_1 (.refl _))) (.shal 2 _ _ _ _ rfl e50_2 (.shal 1 _ _ _ _ rfl e50_3 (.block (.shal 1 _ _ _ _ rfl e50_4 (.cond (.refl _) (.seq (.refl _) (.shal 1 _ _ _ _ rfl e50_5 (.refl _)))))))))))
theorem e51_1 : k51_1 = denTop c51_1 1 [0] [] [] [] := by kernel_rfl
theorem e51_0 : k51_0 = denTop c51_0 1 [0,1] [] [] [0] := by kernel_rfl
theorem i51 : Impl b51 x51 := (.shal 1 _ _ _ _ rfl e51_0 (.shal 1 _ _ _ _ rfl e51_1 (.refl _)))
theorem e52_0 : k52_0 = denTop c52_0 1 [0,1,2,25] [0,1,2] [] [] := by kernel_rfl
theorem e52_3 : k52_3 = denTop c52_3 2 [0,1,6,39,41] [0,1,6,39] [] [] := by kernel_rfl
theorem e52_2 : k52_2 = denTop c52_2 1 [0,1,6] [] [] [0,1,6,39] := by kernel_rfl
theorem e52_7 : k52_7 = denTop c52_7 1 [0,1,6,9,10,58,72] [0,1,6,58] [] [] := by kernel_rfl
theorem e52_6 : k52_6 = denTop c52_6 1 [0,1,6,58] [] [] [0,1,6,9,10,58] := by kernel_rfl
theorem e52_5 : k52_5 = denTop c52_5 1 [0,1,6,58,60] [0,6] [] [0,1,6,58] := by kernel_rfl
theorem e52_4 : k52_4 = denTop c52_4 1 [0,1,6] [] [] [0,1,6,58] := by kernel_rfl
theorem e52_8 : k52_8 = denTop c52_8 2 [0,6] [] [] [] := by kernel_rfl
theorem e52_1 : k52_1 = denTop c52_1 1 [0,1,2] [] [] [0,1,6] := by kernel_rfl
theorem i52 : Impl b52 x52 := (.seq (.seq (.refl _) (.shal 1 _ _ _ _ rfl e52_0 (.refl _))) (.shal 1 _ _ _ _ rfl e52_1 (.seq (.shal 1 _ _ _ _ rfl e52_2 (.join (.seq (.refl _) (.shal 2 _ _ _ _ rfl e52_3 (.refl _))))) (.seq (.shal 1 _ _ _ _ rfl e52_4 (.join (.seq (.refl _) (.shal 1 _ _ _ _ rfl e52_5 (.block (.shal 1 _ _ _ _ rfl e52_6 (.seq (.refl _) (.shal 1 _ _ _ _ rfl e52_7 (.refl _))))))))) (.shal 2 _ _ _ _ rfl e52_8 (.refl _))))))
theorem e53_1 : k53_1 = denTop c53_1 1 [0,3] [0,3] [2] [] := by kernel_rfl
theorem e53_0 : k53_0 = denTop c53_0 2 [0] [] [] [0,3] := by kernel_rfl
theorem i53 : Impl b53 x53 := (.shal 2 _ _ _ _ rfl e53_0 (.block (.loop (.shal 1 _ _ _ _ rfl e53_1 (.refl _)))))
theorem e54_2 : k54_2 = denTop c54_2 1 [0,16,17,18] [0,16,17,18] [] [] := by kernel_rfl
theorem e54_1 : k54_1 = denTop c54_1 3 [0,16,17,18] [0] [2] [0,16,17,18] := by kernel_rfl
theorem e54_0 : k54_0 = denTop c54_0 1 [0] [] [] [0] := by kernel_rfl
theorem i54 : Impl b54 x54 := (.shal 1 _ _ _ _ rfl e54_0 (.seq (.seq (.refl _) (.block (.loop (.shal 3 _ _ _ _ rfl e54_1 (.shal 1 _ _ _ _ rfl e54_2 (.refl _)))))) (.seq (.refl _) (.refl _))))
theorem e56_0 : k56_0 = denTop c56_0 3 [] [0] [0] [] := by kernel_rfl
theorem i56 : Impl b56 x56 := (.shal 3 _ _ _ _ rfl e56_0 (.refl _))
theorem e57_0 : k57_0 = denTop c57_0 3 [] [0] [0] [] := by kernel_rfl
theorem i57 : Impl b57 x57 := (.shal 3 _ _ _ _ rfl e57_0 (.refl _))
theorem e58_0 : k58_0 = denTop c58_0 3 [0,1] [4] [4] [] := by kernel_rfl
theorem i58 : Impl b58 x58 := (.shal 3 _ _ _ _ rfl e58_0 (.refl _))
theorem e59_0 : k59_0 = denTop c59_0 3 [0] [2] [2] [] := by kernel_rfl
theorem i59 : Impl b59 x59 := (.shal 3 _ _ _ _ rfl e59_0 (.refl _))
theorem e60_3 : k60_3 = denTop c60_3 1 [0,4,5,6,35] [0,4,5,6] [] [] := by kernel_rfl
theorem e60_5 : k60_5 = denTop c60_5 1 [0,4,5,6] [0,4,5] [] [] := by kernel_rfl
theorem e60_4 : k60_4 = denTop c60_4 3 [0,4,5,6] [4,5] [] [0,4,5,6] := by kernel_rfl
theorem e60_2 : k60_2 = denTop c60_2 1 [0,4,5] [] [] [0,4,5,6] := by kernel_rfl
theorem e60_1 : k60_1 = denTop c60_1 1 [0,4,5] [4,5] [] [0,4,5] := by kernel_rfl
theorem e60_6 : k60_6 = denTop c60_6 2 [4,5] [2,3] [2,3] [] := by kernel_rfl
theorem e60_0 : k60_0 = denTop c60_0 3 [0] [] [] [0,4,5] := by kernel_rfl
theorem i60 : Impl b60 x60 := (.shal 3 _ _ _ _ rfl e60_0 (.seq (.block (.loop (.shal 1 _ _ _ _ rfl e60_1 (.block (.shal 1 _ _ _ _ rfl e60_2 (.seq (.seq (.refl _) (.shal 1 _ _ _ _ rfl e60_3 (.refl _))) (.shal 3 _ _ _ _ rfl e60_4 (.shal 1 _ _ _ _ rfl e60_5 (.refl _))))))))) (.shal 2 _ _ _ _ rfl e60_6 (.refl _))))
theorem e61_0 : k61_0 = denTop c61_0 3 [0] [2] [2] [] := by kernel_rfl
theorem i61 : Impl b61 x61 := (.shal 3 _ _ _ _ rfl e61_0 (.refl _))
theorem e62_2 : k62_2 = denTop c62_2 1 [0,1] [] [] [] := by kernel_rfl
theorem e62_6 : k62_6 = denTop c62_6 1 [0,5,6,7] [] [] [] := by kernel_rfl
theorem e62_5 : k62_5 = denTop c62_5 3 [0,1,4] [] [] [0,5,6,7] := by kernel_rfl
theorem e62_8 : k62_8 = denTop c62_8 1 [0,1,4,12,52] [] [] [] := by kernel_rfl
theorem e62_7 : k62_7 = denTop c62_7 1 [0,1,4,12] [] [] [0,1,4,12,52] := by kernel_rfl
theorem e62_4 : k62_4 = denTop c62_4 1 [0,1,4,12] [] [] [0,1,4,12,29] := by kernel_rfl
theorem e62_3 : k62_3 = denTop c62_3 1 [0,1,4,12] [] [] [0,1,4,12,20] := by kernel_rfl
theorem e62_1 : k62_1 = denTop c62_1 1 [0,1,4,12] [] [] [0,1,4,12,13] := by kernel_rfl
theorem e62_0 : k62_0 = denTop c62_0 2 [0,1] [] [] [0,1,4,12] := by kernel_rfl
theorem i62 : Impl b62 x62 := (.shal 2 _ _ _ _ rfl e62_0 (.block (.shal 1 _ _ _ _ rfl e62_1 (.cond (.shal 1 _ _ _ _ rfl e62_2 (.refl _)) (.shal 1 _ _ _ _ rfl e62_3 (.cond (.refl _) (.shal 1 _ _ _ _ rfl e62_4 (.cond (.shal 3 _ _ _ _ rfl e62_5 (.shal 1 _ _ _ _ rfl e62_6 (.refl _))) (.shal 1 _ _ _ _ rfl e62_7 (.shal 1 _ _ _ _ rfl e62_8 (.refl _)))))))))))
theorem e63_0 : k63_0 = denTop c63_0 3 [0] [2] [2] [] := by kernel_rfl
theorem i63 : Impl b63 x63 := (.shal 3 _ _ _ _ rfl e63_0 (.refl _))
theorem e64_1 : k64_1 = denTop c64_1 4 [1,2,29,30,31] [1,2,29,30,31] [] [] := by kernel_rfl
theorem e64_5 : k64_5 = denTop c64_5 1 [1,2,6,7,50,51,52,68] [1,2,6,7,50,51,52] [] [] := by kernel_rfl
theorem e64_6 : k64_6 = denTop c64_6 1 [1,2,6,7,50,51,52] [1,2,50,51,52] [] [] := by kernel_rfl
theorem e64_4 : k64_4 = denTop c64_4 2 [1,2,50,51,52] [] [] [1,2,6,7,50,51,52] := by kernel_rfl
theorem e64_7 : k64_7 = denTop c64_7 1 [1,2,50,51,52] [1,2,50,51,52] [] [] := by kernel_rfl
theorem e64_3 : k64_3 = denTop c64_3 2 [1,2,50,51,52] [1,2] [] [1,2,50,51,52] := by kernel_rfl
theorem e64_8 : k64_8 = denTop c64_8 2 [1,2] [] [] [] := by kernel_rfl
theorem e64_2 : k64_2 = denTop c64_2 1 [1,2] [] [] [1,2] := by kernel_rfl
theorem e64_0 : k64_0 = denTop c64_0 3 [0] [] [] [1,2] := by kernel_rfl
theorem i64 : Impl b64 x64 := (.shal 3 _ _ _ _ rfl e64_0 (.seq (.seq (.refl _) (.block (.loop (.shal 4 _ _ _ _ rfl e64_1 (.refl _))))) (.shal 1 _ _ _ _ rfl e64_2 (.seq (.seq (.refl _) (.block (.loop (.shal 2 _ _ _ _ rfl e64_3 (.seq (.block (.shal 2 _ _ _ _ rfl e64_4 (.seq (.seq (.refl _) (.shal 1 _ _ _ _ rfl e64_5 (.refl _))) (.shal 1 _ _ _ _ rfl e64_6 (.refl _))))) (.shal 1 _ _ _ _ rfl e64_7 (.refl _))))))) (.shal 2 _ _ _ _ rfl e64_8 (.refl _))))))
theorem e65_2 : k65_2 = denTop c65_2 1 [0,2,14,15,16] [0,2,14,15,16] [] [] := by kernel_rfl
theorem e65_1 : k65_1 = denTop c65_1 3 [0,2,14,15,16] [] [] [0,2,14,15,16] := by kernel_rfl
theorem e65_0 : k65_0 = denTop c65_0 2 [0] [] [] [0,2,14,15,16] := by kernel_rfl
theorem i65 : Impl b65 x65 := (.shal 2 _ _ _ _ rfl e65_0 (.block (.loop (.shal 3 _ _ _ _ rfl e65_1 (.shal 1 _ _ _ _ rfl e65_2 (.refl _))))))
theorem e66_1 : k66_1 = denTop c66_1 1 [0,2,17] [0,2] [] [] := by kernel_rfl
theorem e66_3 : k66_3 = denTop c66_3 1 [0,2,3,36] [0,2,3] [] [] := by kernel_rfl
theorem e66_5 : k66_5 = denTop c66_5 1 [0] [0,2] [] [] := by kernel_rfl
theorem e66_4 : k66_4 = denTop c66_4 2 [0,2,3] [] [] [0,3] := by kernel_rfl
theorem e66_2 : k66_2 = denTop c66_2 1 [0,2] [] [] [0,2,3] := by kernel_rfl
theorem e66_6 : k66_6 = denTop c66_6 1 [0,2] [0,2] [] [] := by kernel_rfl
theorem e66_0 : k66_0 = denTop c66_0 1 [0] [] [] [0,2] := by kernel_rfl
theorem i66 : Impl b66 x66 := (.shal 1 _ _ _ _ rfl e66_0 (.block (.loop (.seq (.seq (.refl _) (.shal 1 _ _ _ _ rfl e66_1 (.refl _))) (.seq (.block (.shal 1 _ _ _ _ rfl e66_2 (.seq (.seq (.refl _) (.shal 1 _ _ _ _ rfl e66_3 (.refl _))) (.shal 2 _ _ _ _ rfl e66_4 (.seq (.refl _) (.shal 1 _ _ _ _ rfl e66_5 (.refl _))))))) (.shal 1 _ _ _ _ rfl e66_6 (.refl _)))))))
theorem e67_1 : k67_1 = denTop c67_1 2 [1,2,3] [] [] [] := by kernel_rfl
theorem e67_0 : k67_0 = denTop c67_0 1 [0] [] [] [1] := by kernel_rfl
theorem i67 : Impl b67 x67 := (.shal 1 _ _ _ _ rfl e67_0 (.seq (.refl _) (.seq (.refl _) (.seq (.refl _) (.shal 2 _ _ _ _ rfl e67_1 (.refl _))))))
theorem e68_0 : k68_0 = denTop c68_0 3 [0] [2] [2] [] := by kernel_rfl
theorem i68 : Impl b68 x68 := (.shal 3 _ _ _ _ rfl e68_0 (.refl _))
theorem e69_0 : k69_0 = denTop c69_0 4 [0] [2] [2] [] := by kernel_rfl
theorem i69 : Impl b69 x69 := (.shal 4 _ _ _ _ rfl e69_0 (.refl _))
theorem e70_0 : k70_0 = denTop c70_0 2 [0,1] [] [] [] := by kernel_rfl
theorem i70 : Impl b70 x70 := (.shal 2 _ _ _ _ rfl e70_0 (.refl _))
theorem e71_1 : k71_1 = denTop c71_1 4 [1,4,6,8,9] [] [] [] := by kernel_rfl
theorem e71_0 : k71_0 = denTop c71_0 3 [0,1,2,3] [] [] [1,4,6,8,9] := by kernel_rfl
theorem i71 : Impl b71 x71 := (.shal 3 _ _ _ _ rfl e71_0 (.shal 4 _ _ _ _ rfl e71_1 (.refl _)))
theorem e72_2 : k72_2 = denTop c72_2 1 [0,1,3,6,8,9,10,24] [0,1,3,6,8,9,10] [] [] := by kernel_rfl
theorem e72_3 : k72_3 = denTop c72_3 2 [0,1,3,6,8,9,10] [0,1,3,6,8,9,10] [] [] := by kernel_rfl
theorem e72_1 : k72_1 = denTop c72_1 1 [0,1,3,6,8,9] [] [] [0,1,3,6,8,9,10] := by kernel_rfl
theorem e72_5 : k72_5 = denTop c72_5 4 [0,1,6,8,9,41,42,43] [0,1,6,8,9,41,42,43] [] [] := by kernel_rfl
theorem e72_4 : k72_4 = denTop c72_4 1 [0,1,3,6,8,9] [] [] [0,1,6,8,9,41,42,43] := by kernel_rfl
theorem e72_6 : k72_6 = denTop c72_6 1 [0,1,6,9,75] [0,1,6,9] [] [] := by kernel_rfl
theorem e72_7 : k72_7 = denTop c72_7 3 [0,1,6,9] [] [] [] := by kernel_rfl
theorem e72_0 : k72_0 = denTop c72_0 3 [0,1,2,3] [] [] [0,1,3,6,8,9] := by kernel_rfl
theorem i72 : Impl b72 x72 := (.shal 3 _ _ _ _ rfl e72_0 (.seq (.shal 1 _ _ _ _ rfl e72_1 (.block (.loop (.seq (.seq (.refl _) (.shal 1 _ _ _ _ rfl e72_2 (.refl _))) (.shal 2 _ _ _ _ rfl e72_3 (.refl _)))))) (.seq (.shal 1 _ _ _ _ rfl e72_4 (.block (.loop (.shal 4 _ _ _ _ rfl e72_5 (.refl _))))) (.seq (.seq (.refl _) (.shal 1 _ _ _ _ rfl e72_6 (.refl _))) (.shal 3 _ _ _ _ rfl e72_7 (.refl _))))))
theorem e73_1 : k73_1 = denTop c73_1 3 [0,1,6,8,9] [] [] [] := by kernel_rfl
theorem e73_0 : k73_0 = denTop c73_0 4 [0,1,2,3] [] [] [0,1,6,8,9] := by kernel_rfl
theorem i73 : Impl b73 x73 := (.shal 4 _ _ _ _ rfl e73_0 (.shal 3 _ _ _ _ rfl e73_1 (.refl _)))
theorem e74_1 : k74_1 = denTop c74_1 1 [0,3,25] [0,3] [] [] := by kernel_rfl
theorem e74_2 : k74_2 = denTop c74_2 3 [0,3] [] [] [] := by kernel_rfl
theorem e74_0 : k74_0 = denTop c74_0 1 [0,1,2,3] [] [] [0,1,3,6] := by kernel_rfl
theorem i74 : Impl b74 x74 := (.shal 1 _ _ _ _ rfl e74_0 (.seq (.seq (.refl _) (.shal 1 _ _ _ _ rfl e74_1 (.refl _))) (.shal 3 _ _ _ _ rfl e74_2 (.refl _))))
theorem e75_0 : k75_0 = denTop c75_0 3 [0] [2] [2] [] := by kernel_rfl
theorem i75 : Impl b75 x75 := (.shal 3 _ _ _ _ rfl e75_0 (.refl _))
theorem e76_1 : k76_1 = denTop c76_1 1 [0,17] [] [] [] := by kernel_rfl
theorem e76_0 : k76_0 = denTop c76_0 1 [0,1] [] [] [0,3] := by kernel_rfl
theorem i76 : Impl b76 x76 := (.shal 1 _ _ _ _ rfl e76_0 (.seq (.refl _) (.shal 1 _ _ _ _ rfl e76_1 (.refl _))))
theorem e77_2 : k77_2 = denTop c77_2 1 [0,3,4,14] [0,3,4] [] [] := by kernel_rfl
theorem e77_3 : k77_3 = denTop c77_3 2 [0,3,4] [0,3,4] [] [] := by kernel_rfl
theorem e77_1 : k77_1 = denTop c77_1 1 [0,3] [] [] [0,3,4] := by kernel_rfl
theorem e77_4 : k77_4 = denTop c77_4 2 [3] [2] [2] [] := by kernel_rfl
theorem e77_0 : k77_0 = denTop c77_0 2 [0] [] [] [0,3] := by kernel_rfl
theorem i77 : Impl b77 x77 := (.shal 2 _ _ _ _ rfl e77_0 (.seq (.shal 1 _ _ _ _ rfl e77_1 (.block (.loop (.seq (.seq (.refl _) (.shal 1 _ _ _ _ rfl e77_2 (.refl _))) (.shal 2 _ _ _ _ rfl e77_3 (.refl _)))))) (.shal 2 _ _ _ _ rfl e77_4 (.refl _))))
theorem e78_1 : k78_1 = denTop c78_1 1 [0,4,5,6,21] [0,4,5,6] [] [] := by kernel_rfl
theorem e78_2 : k78_2 = denTop c78_2 2 [0,4,5,6] [] [] [0] := by kernel_rfl
theorem e78_0 : k78_0 = denTop c78_0 3 [0,1,2] [] [] [0,4,5,6] := by kernel_rfl
theorem i78 : Impl b78 x78 := (.shal 3 _ _ _ _ rfl e78_0 (.seq (.seq (.refl _) (.shal 1 _ _ _ _ rfl e78_1 (.refl _))) (.shal 2 _ _ _ _ rfl e78_2 (.refl _))))
theorem e79_1 : k79_1 = denTop c79_1 2 [1,3,6] [] [] [] := by kernel_rfl
theorem e79_0 : k79_0 = denTop c79_0 3 [0,1,2] [] [] [1,3,6] := by kernel_rfl
theorem i79 : Impl b79 x79 := (.shal 3 _ _ _ _ rfl e79_0 (.shal 2 _ _ _ _ rfl e79_1 (.refl _)))
theorem e80_4 : k80_4 = denTop c80_4 1 [0,37] [0,37] [] [] := by kernel_rfl
theorem e80_3 : k80_3 = denTop c80_3 1 [0,37,39] [0] [] [0,37] := by kernel_rfl
theorem e80_2 : k80_2 = denTop c80_2 1 [0,3] [] [] [0,37] := by kernel_rfl
theorem e80_5 : k80_5 = denTop c80_5 2 [0] [] [] [] := by kernel_rfl
theorem e80_1 : k80_1 = denTop c80_1 1 [0,3] [] [] [0,3] := by kernel_rfl
theorem e80_0 : k80_0 = denTop c80_0 4 [0,1] [] [] [0,3] := by kernel_rfl
theorem i80 : Impl b80 x80 := (.shal 4 _ _ _ _ rfl e80_0 (.shal 1 _ _ _ _ rfl e80_1 (.seq (.shal 1 _ _ _ _ rfl e80_2 (.join (.seq (.refl _) (.shal 1 _ _ _ _ rfl e80_3 (.shal 1 _ _ _ _ rfl e80_4 (.refl _)))))) (.shal 2 _ _ _ _ rfl e80_5 (.refl _)))))
theorem e81_2 : k81_2 = denTop c81_2 1 [0,2,3,4,20] [0,2,3,4] [] [] := by kernel_rfl
theorem e81_3 : k81_3 = denTop c81_3 1 [0,2,3,4] [] [] [0,2,3,4,5] := by kernel_rfl
theorem e81_4 : k81_4 = denTop c81_4 1 [0,2,3,4] [0,2,3,4] [] [] := by kernel_rfl
theorem e81_1 : k81_1 = denTop c81_1 1 [0,2,3] [] [] [0,2,3,4] := by kernel_rfl
theorem e81_5 : k81_5 = denTop c81_5 3 [0,2,3] [2] [2] [] := by kernel_rfl
theorem e81_0 : k81_0 = denTop c81_0 2 [0] [] [] [0,2,3] := by kernel_rfl
theorem i81 : Impl b81 x81 := (.shal 2 _ _ _ _ rfl e81_0 (.seq (.shal 1 _ _ _ _ rfl e81_1 (.block (.loop (.seq (.seq (.refl _) (.shal 1 _ _ _ _ rfl e81_2 (.refl _))) (.seq (.block (.shal 1 _ _ _ _ rfl e81_3 (.refl _))) (.shal 1 _ _ _ _ rfl e81_4 (.refl _))))))) (.shal 3 _ _ _ _ rfl e81_5 (.refl _))))
theorem e82_0 : k82_0 = denTop c82_0 3 [0] [2] [2] [] := by kernel_rfl
theorem i82 : Impl b82 x82 := (.shal 3 _ _ _ _ rfl e82_0 (.refl _))
theorem e83_1 : k83_1 = denTop c83_1 4 [0,1,2,11,12] [0,1,2,11,12] [] [] := by kernel_rfl
theorem e83_0 : k83_0 = denTop c83_0 1 [0,1,2] [] [] [0,1,2,11,12] := by kernel_rfl
theorem i83 : Impl b83 x83 := (.shal 1 _ _ _ _ rfl e83_0 (.block (.loop (.shal 4 _ _ _ _ rfl e83_1 (.refl _)))))
theorem e84_0 : k84_0 = denTop c84_0 1 [0,1] [] [] [] := by kernel_rfl
theorem i84 : Impl b84 x84 := (.shal 1 _ _ _ _ rfl e84_0 (.refl _))
theorem e85_0 : k85_0 = denTop c85_0 1 [0,1] [] [] [] := by kernel_rfl
theorem i85 : Impl b85 x85 := (.shal 1 _ _ _ _ rfl e85_0 (.refl _))
theorem e86_3 : k86_3 = denTop c86_3 1 [0,10,11,12] [0,10,11,12] [] [] := by kernel_rfl
theorem e86_2 : k86_2 = denTop c86_2 1 [0,10,11,12] [] [] [0,10,11,12] := by kernel_rfl
theorem e86_1 : k86_1 = denTop c86_1 2 [0,10,11,12] [0] [] [0,10,11,12] := by kernel_rfl
theorem e86_0 : k86_0 = denTop c86_0 1 [0] [] [] [0,10,11,12] := by kernel_rfl
theorem e86_4 : k86_4 = denTop c86_4 1 [0] [] [] [] := by kernel_rfl
theorem i86 : Impl b86 x86 := (.seq (.shal 1 _ _ _ _ rfl e86_0 (.block (.loop (.shal 2 _ _ _ _ rfl e86_1 (.shal 1 _ _ _ _ rfl e86_2 (.shal 1 _ _ _ _ rfl e86_3 (.refl _))))))) (.shal 1 _ _ _ _ rfl e86_4 (.refl _)))
theorem e87_0 : k87_0 = denTop c87_0 3 [0] [2] [2] [] := by kernel_rfl
theorem i87 : Impl b87 x87 := (.shal 3 _ _ _ _ rfl e87_0 (.refl _))
theorem e88_2 : k88_2 = denTop c88_2 1 [0,3] [] [] [] := by kernel_rfl
theorem e88_1 : k88_1 = denTop c88_1 1 [0,3] [] [] [0,3] := by kernel_rfl
theorem e88_0 : k88_0 = denTop c88_0 4 [0,1] [] [] [0,3] := by kernel_rfl
theorem i88 : Impl b88 x88 := (.shal 4 _ _ _ _ rfl e88_0 (.shal 1 _ _ _ _ rfl e88_1 (.shal 1 _ _ _ _ rfl e88_2 (.refl _))))
theorem e89_4 : k89_4 = denTop c89_4 1 [0,5,6] [0,5,6] [] [] := by kernel_rfl
theorem e89_3 : k89_3 = denTop c89_3 1 [0,5,6] [] [] [0,5,6] := by kernel_rfl
theorem e89_2 : k89_2 = denTop c89_2 1 [0,5,6] [5] [] [0,5,6] := by kernel_rfl
theorem e89_1 : k89_1 = denTop c89_1 1 [0,1,5] [] [] [0,5,6] := by kernel_rfl
theorem e89_5 : k89_5 = denTop c89_5 2 [5] [4] [4] [] := by kernel_rfl
theorem e89_0 : k89_0 = denTop c89_0 2 [0,1] [] [] [0,1,5] := by kernel_rfl
theorem i89 : Impl b89 x89 := (.shal 2 _ _ _ _ rfl e89_0 (.seq (.shal 1 _ _ _ _ rfl e89_1 (.block (.loop (.shal 1 _ _ _ _ rfl e89_2 (.shal 1 _ _ _ _ rfl e89_3 (.shal 1 _ _ _ _ rfl e89_4 (.refl _))))))) (.shal 2 _ _ _ _ rfl e89_5 (.refl _))))
theorem e90_0 : k90_0 = denTop c90_0 4 [0,1] [4,5] [4,5] [] := by kernel_rfl
theorem i90 : Impl b90 x90 := (.shal 4 _ _ _ _ rfl e90_0 (.refl _))
theorem e91_1 : k91_1 = denTop c91_1 1 [0,16] [0] [2,3] [] := by kernel_rfl
theorem e91_2 : k91_2 = denTop c91_2 2 [0] [2,3] [2,3] [] := by kernel_rfl
theorem e91_0 : k91_0 = denTop c91_0 1 [0] [] [] [0] := by kernel_rfl
theorem i91 : Impl b91 x91 := (.shal 1 _ _ _ _ rfl e91_0 (.seq (.seq (.refl _) (.shal 1 _ _ _ _ rfl e91_1 (.refl _))) (.shal 2 _ _ _ _ rfl e91_2 (.refl _))))
theorem e92_0 : k92_0 = denTop c92_0 4 [0] [2] [2] [] := by kernel_rfl
theorem i92 : Impl b92 x92 := (.shal 4 _ _ _ _ rfl e92_0 (.refl _))
theorem e93_0 : k93_0 = denTop c93_0 4 [0,1,2] [] [6,7] [6,7] := by kernel_rfl
theorem i93 : Impl b93 x93 := (.shal 4 _ _ _ _ rfl e93_0 (.refl _))
theorem e94_0 : k94_0 = denTop c94_0 4 [0,1] [4] [4] [] := by kernel_rfl
theorem i94 : Impl b94 x94 := (.shal 4 _ _ _ _ rfl e94_0 (.refl _))
theorem e95_2 : k95_2 = denTop c95_2 1 [0,3,4,15] [0,3,4] [] [] := by kernel_rfl
theorem e95_3 : k95_3 = denTop c95_3 1 [0,3,4] [0,3,4] [] [] := by kernel_rfl
theorem e95_1 : k95_1 = denTop c95_1 1 [0,3] [] [] [0,3,4] := by kernel_rfl
theorem e95_4 : k95_4 = denTop c95_4 2 [3] [2] [2] [] := by kernel_rfl
theorem e95_0 : k95_0 = denTop c95_0 2 [0] [] [] [0,3] := by kernel_rfl
theorem i95 : Impl b95 x95 := (.shal 2 _ _ _ _ rfl e95_0 (.seq (.shal 1 _ _ _ _ rfl e95_1 (.block (.loop (.seq (.seq (.refl _) (.shal 1 _ _ _ _ rfl e95_2 (.refl _))) (.shal 1 _ _ _ _ rfl e95_3 (.refl _)))))) (.shal 2 _ _ _ _ rfl e95_4 (.refl _))))
theorem e96_1 : k96_1 = denTop c96_1 2 [0,3] [] [] [] := by kernel_rfl
theorem e96_0 : k96_0 = denTop c96_0 2 [0,1] [] [] [0,3] := by kernel_rfl
theorem i96 : Impl b96 x96 := (.shal 2 _ _ _ _ rfl e96_0 (.shal 2 _ _ _ _ rfl e96_1 (.refl _)))
theorem e97_1 : k97_1 = denTop c97_1 1 [0,1,23] [0,1] [6] [] := by kernel_rfl
theorem e97_2 : k97_2 = denTop c97_2 3 [0,1] [6] [6] [] := by kernel_rfl
theorem e97_0 : k97_0 = denTop c97_0 1 [0,1,2] [] [] [0,1,2] := by kernel_rfl
theorem i97 : Impl b97 x97 := (.shal 1 _ _ _ _ rfl e97_0 (.seq (.seq (.refl _) (.shal 1 _ _ _ _ rfl e97_1 (.refl _))) (.shal 3 _ _ _ _ rfl e97_2 (.refl _))))
theorem e98_1 : k98_1 = denTop c98_1 1 [0,3,24] [0,3] [4] [] := by kernel_rfl
theorem e98_4 : k98_4 = denTop c98_4 2 [0,3,40,42] [0,3,40] [] [] := by kernel_rfl
theorem e98_3 : k98_3 = denTop c98_3 1 [0,3] [] [] [0,3,40] := by kernel_rfl
theorem e98_6 : k98_6 = denTop c98_6 3 [0,3] [4] [4] [] := by kernel_rfl
theorem e98_5 : k98_5 = denTop c98_5 2 [0,3] [] [] [0,3] := by kernel_rfl
theorem e98_2 : k98_2 = denTop c98_2 1 [0,3] [] [] [0,3] := by kernel_rfl
theorem e98_0 : k98_0 = denTop c98_0 1 [0,1] [] [] [0,3] := by kernel_rfl
theorem i98 : Impl b98 x98 := (.shal 1 _ _ _ _ rfl e98_0 (.seq (.seq (.refl _) (.shal 1 _ _ _ _ rfl e98_1 (.refl _))) (.seq (.refl _) (.shal 1 _ _ _ _ rfl e98_2 (.seq (.shal 1 _ _ _ _ rfl e98_3 (.join (.seq (.refl _) (.shal 2 _ _ _ _ rfl e98_4 (.refl _))))) (.shal 2 _ _ _ _ rfl e98_5 (.shal 3 _ _ _ _ rfl e98_6 (.refl _))))))))
theorem e99_0 : k99_0 = denTop c99_0 6 [0,1] [4] [4] [] := by kernel_rfl
theorem i99 : Impl b99 x99 := (.shal 6 _ _ _ _ rfl e99_0 (.refl _))
theorem e100_0 : k100_0 = denTop c100_0 1 [0,1] [] [] [] := by kernel_rfl
theorem i100 : Impl b100 x100 := (.shal 1 _ _ _ _ rfl e100_0 (.refl _))
theorem e101_0 : k101_0 = denTop c101_0 1 [0,1] [] [] [] := by kernel_rfl
theorem i101 : Impl b101 x101 := (.shal 1 _ _ _ _ rfl e101_0 (.refl _))
theorem e102_2 : k102_2 = denTop c102_2 4 [0,3,23,24,25] [0,3,23,24,25] [] [] := by kernel_rfl
theorem e102_1 : k102_1 = denTop c102_1 1 [0,3] [] [] [0,3,23,24,25] := by kernel_rfl
theorem e102_3 : k102_3 = denTop c102_3 1 [0,3] [] [] [] := by kernel_rfl
theorem e102_0 : k102_0 = denTop c102_0 4 [0,1] [] [] [0,3] := by kernel_rfl
theorem i102 : Impl b102 x102 := (.shal 4 _ _ _ _ rfl e102_0 (.seq (.shal 1 _ _ _ _ rfl e102_1 (.block (.loop (.shal 4 _ _ _ _ rfl e102_2 (.refl _))))) (.shal 1 _ _ _ _ rfl e102_3 (.refl _))))
theorem e103_0 : k103_0 = denTop c103_0 3 [0,1] [] [] [] := by kernel_rfl
theorem i103 : Impl b103 x103 := (.shal 3 _ _ _ _ rfl e103_0 (.refl _))
theorem e104_0 : k104_0 = denTop c104_0 3 [0,1] [] [] [] := by kernel_rfl
theorem i104 : Impl b104 x104 := (.shal 3 _ _ _ _ rfl e104_0 (.refl _))
theorem e105_1 : k105_1 = denTop c105_1 2 [0,1] [0,1] [] [] := by kernel_rfl
theorem e105_0 : k105_0 = denTop c105_0 1 [0,1] [] [] [0,1] := by kernel_rfl
theorem i105 : Impl b105 x105 := (.shal 1 _ _ _ _ rfl e105_0 (.block (.loop (.shal 2 _ _ _ _ rfl e105_1 (.refl _)))))
theorem e106_0 : k106_0 = denTop c106_0 1 [0,1] [] [] [] := by kernel_rfl
theorem i106 : Impl b106 x106 := (.shal 1 _ _ _ _ rfl e106_0 (.refl _))
theorem e107_0 : k107_0 = denTop c107_0 3 [0] [2] [2] [] := by kernel_rfl
theorem i107 : Impl b107 x107 := (.shal 3 _ _ _ _ rfl e107_0 (.refl _))
theorem e108_4 : k108_4 = denTop c108_4 1 [0,5,6] [0,5,6] [] [] := by kernel_rfl
theorem e108_3 : k108_3 = denTop c108_3 1 [0,5,6] [] [] [0,5,6] := by kernel_rfl
theorem e108_2 : k108_2 = denTop c108_2 1 [0,5,6] [5] [] [0,5,6] := by kernel_rfl
theorem e108_1 : k108_1 = denTop c108_1 1 [0,1,5] [] [] [0,5,6] := by kernel_rfl
theorem e108_5 : k108_5 = denTop c108_5 2 [5] [4] [4] [] := by kernel_rfl
theorem e108_0 : k108_0 = denTop c108_0 2 [0,1] [] [] [0,1,5] := by kernel_rfl
theorem i108 : Impl b108 x108 := (.shal 2 _ _ _ _ rfl e108_0 (.seq (.shal 1 _ _ _ _ rfl e108_1 (.block (.loop (.shal 1 _ _ _ _ rfl e108_2 (.shal 1 _ _ _ _ rfl e108_3 (.shal 1 _ _ _ _ rfl e108_4 (.refl _))))))) (.shal 2 _ _ _ _ rfl e108_5 (.refl _))))
theorem e109_0 : k109_0 = denTop c109_0 4 [0,1] [4] [4] [] := by kernel_rfl
theorem i109 : Impl b109 x109 := (.shal 4 _ _ _ _ rfl e109_0 (.refl _))
theorem e110_0 : k110_0 = denTop c110_0 3 [1,2] [6] [6] [] := by kernel_rfl
theorem i110 : Impl b110 x110 := (.shal 3 _ _ _ _ rfl e110_0 (.refl _))
theorem e111_0 : k111_0 = denTop c111_0 6 [0,1] [4] [4] [] := by kernel_rfl
theorem i111 : Impl b111 x111 := (.shal 6 _ _ _ _ rfl e111_0 (.refl _))
theorem e112_3 : k112_3 = denTop c112_3 1 [0,3,4] [0,3,4] [] [] := by kernel_rfl
theorem e112_2 : k112_2 = denTop c112_2 1 [0,3,4] [3] [] [0,3,4] := by kernel_rfl
theorem e112_1 : k112_1 = denTop c112_1 1 [0,3] [] [] [0,3,4] := by kernel_rfl
theorem e112_4 : k112_4 = denTop c112_4 2 [3] [2] [2] [] := by kernel_rfl
theorem e112_0 : k112_0 = denTop c112_0 2 [0] [] [] [0,3] := by kernel_rfl
theorem i112 : Impl b112 x112 := (.shal 2 _ _ _ _ rfl e112_0 (.seq (.shal 1 _ _ _ _ rfl e112_1 (.block (.loop (.shal 1 _ _ _ _ rfl e112_2 (.seq (.block (.refl _)) (.shal 1 _ _ _ _ rfl e112_3 (.refl _))))))) (.shal 2 _ _ _ _ rfl e112_4 (.refl _))))
theorem e113_1 : k113_1 = denTop c113_1 2 [0,1,6,7,8,10] [0,1,6,7,8] [] [] := by kernel_rfl
theorem e113_5 : k113_5 = denTop c113_5 1 [0,8,12] [] [] [] := by kernel_rfl
theorem e113_4 : k113_4 = denTop c113_4 2 [0,1,6,8,12] [] [] [0,8,12] := by kernel_rfl
theorem e113_3 : k113_3 = denTop c113_3 1 [0,1,6,7,8,11,12] [] [] [0,1,6,8,12] := by kernel_rfl
theorem e113_2 : k113_2 = denTop c113_2 2 [0,1,6,7,8] [] [] [0,1,6,7,8,11,12] := by kernel_rfl
theorem e113_0 : k113_0 = denTop c113_0 1 [0,1,2] [] [] [0,1,6,7,8] := by kernel_rfl
theorem i113 : Impl b113 x113 := (.shal 1 _ _ _ _ rfl e113_0 (.seq (.seq (.refl _) (.shal 2 _ _ _ _ rfl e113_1 (.refl _))) (.shal 2 _ _ _ _ rfl e113_2 (.shal 1 _ _ _ _ rfl e113_3 (.shal 2 _ _ _ _ rfl e113_4 (.shal 1 _ _ _ _ rfl e113_5 (.refl _)))))))
theorem e114_1 : k114_1 = denTop c114_1 1 [0,1,2,6,31] [0,1,2,6] [] [] := by kernel_rfl
theorem e114_4 : k114_4 = denTop c114_4 1 [0,1,2,6] [] [] [] := by kernel_rfl
theorem e114_3 : k114_3 = denTop c114_3 1 [0,1,2,6] [] [] [0,1,2,6] := by kernel_rfl
theorem e114_2 : k114_2 = denTop c114_2 1 [0,1,2,6] [] [] [0,1,2,6] := by kernel_rfl
theorem e114_0 : k114_0 = denTop c114_0 2 [0,1,2] [] [] [0,1,2,6,7] := by kernel_rfl
theorem i114 : Impl b114 x114 := (.shal 2 _ _ _ _ rfl e114_0 (.seq (.seq (.refl _) (.shal 1 _ _ _ _ rfl e114_1 (.refl _))) (.shal 1 _ _ _ _ rfl e114_2 (.shal 1 _ _ _ _ rfl e114_3 (.shal 1 _ _ _ _ rfl e114_4 (.refl _))))))
theorem e115_1 : k115_1 = denTop c115_1 1 [1,3] [] [2] [1,3] := by kernel_rfl
theorem e115_0 : k115_0 = denTop c115_0 6 [0] [] [] [1,3] := by kernel_rfl
theorem i115 : Impl b115 x115 := (.shal 6 _ _ _ _ rfl e115_0 (.shal 1 _ _ _ _ rfl e115_1 (.seq (.refl _) (.refl _))))
theorem e116_2 : k116_2 = denTop c116_2 2 [0,4] [4] [4] [] := by kernel_rfl
theorem e116_1 : k116_1 = denTop c116_1 4 [0,1,4] [] [] [0,4] := by kernel_rfl
theorem e116_0 : k116_0 = denTop c116_0 3 [0,1] [] [] [0,1,4] := by kernel_rfl
theorem i116 : Impl b116 x116 := (.shal 3 _ _ _ _ rfl e116_0 (.shal 4 _ _ _ _ rfl e116_1 (.shal 2 _ _ _ _ rfl e116_2 (.refl _))))
theorem e117_0 : k117_0 = denTop c117_0 3 [0,1,2,3] [] [] [] := by kernel_rfl
theorem i117 : Impl b117 x117 := (.shal 3 _ _ _ _ rfl e117_0 (.refl _))
theorem e118_0 : k118_0 = denTop c118_0 1 [0,31] [0] [] [] := by kernel_rfl
theorem e118_4 : k118_4 = denTop c118_4 4 [0,84,85,86] [0,84,85,86] [] [] := by kernel_rfl
theorem e118_3 : k118_3 = denTop c118_3 1 [0] [] [] [0,84,85,86] := by kernel_rfl
theorem e118_6 : k118_6 = denTop c118_6 1 [0,7,8] [0,7,8] [] [] := by kernel_rfl
theorem e118_5 : k118_5 = denTop c118_5 2 [0,7,8] [0] [] [0,7,8] := by kernel_rfl
theorem e118_8 : k118_8 = denTop c118_8 4 [0,133,134] [0,133,134] [] [] := by kernel_rfl
theorem e118_7 : k118_7 = denTop c118_7 1 [0] [] [] [0,133,134] := by kernel_rfl
theorem e118_9 : k118_9 = denTop c118_9 1 [0] [] [] [] := by kernel_rfl
theorem e118_2 : k118_2 = denTop c118_2 3 [0,2,3,4] [] [] [0] := by kernel_rfl
theorem e118_1 : k118_1 = denTop c118_1 1 [0] [] [] [0,2] := by kernel_rfl
theorem i118 : Impl b118 x118 := (.seq (.seq (.refl _) (.shal 1 _ _ _ _ rfl e118_0 (.refl _))) (.shal 1 _ _ _ _ rfl e118_1 (.seq (.refl _) (.shal 3 _ _ _ _ rfl e118_2 (.seq (.refl _) (.seq (.shal 1 _ _ _ _ rfl e118_3 (.block (.loop (.shal 4 _ _ _ _ rfl e118_4 (.refl _))))) (.seq (.seq (.refl _) (.block (.loop (.shal 2 _ _ _ _ rfl e118_5 (.shal 1 _ _ _ _ rfl e118_6 (.refl _)))))) (.seq (.shal 1 _ _ _ _ rfl e118_7 (.block (.loop (.shal 4 _ _ _ _ rfl e118_8 (.refl _))))) (.shal 1 _ _ _ _ rfl e118_9 (.refl _))))))))))
theorem e119_2 : k119_2 = denTop c119_2 3 [5,6,7] [4,5,6,7] [4] [] := by kernel_rfl
theorem e119_1 : k119_1 = denTop c119_1 3 [0,1] [] [] [5,6,7] := by kernel_rfl
theorem e119_0 : k119_0 = denTop c119_0 1 [0,1] [] [] [0,1] := by kernel_rfl
theorem i119 : Impl b119 x119 := (.shal 1 _ _ _ _ rfl e119_0 (.scope (.shal 3 _ _ _ _ rfl e119_1 (.seq (.refl _) (.shal 3 _ _ _ _ rfl e119_2 (.refl _))))))
theorem e120_1 : k120_1 = denTop c120_1 1 [0,2,4,23] [0,2,4] [6,7] [] := by kernel_rfl
theorem e120_2 : k120_2 = denTop c120_2 3 [0,2,4] [6,7] [6,7] [] := by kernel_rfl
theorem e120_0 : k120_0 = denTop c120_0 1 [0,1,2] [] [] [0,2,4] := by kernel_rfl
theorem i120 : Impl b120 x120 := (.shal 1 _ _ _ _ rfl e120_0 (.seq (.seq (.refl _) (.shal 1 _ _ _ _ rfl e120_1 (.refl _))) (.shal 3 _ _ _ _ rfl e120_2 (.refl _))))
theorem e121_0 : k121_0 = denTop c121_0 2 [0,1] [] [] [] := by kernel_rfl
theorem i121 : Impl b121 x121 := (.shal 2 _ _ _ _ rfl e121_0 (.refl _))
theorem e122_0 : k122_0 = denTop c122_0 3 [0,1,2,3] [] [] [0,1,8] := by kernel_rfl
theorem i122 : Impl b122 x122 := (.shal 3 _ _ _ _ rfl e122_0 (.refl _))
theorem e123_2 : k123_2 = denTop c123_2 4 [0,4,5,19,20,21] [0,4,5,19,20,21] [] [] := by kernel_rfl
theorem e123_1 : k123_1 = denTop c123_1 1 [0,3,4,5] [] [] [0,4,5,19,20,21] := by kernel_rfl
theorem e123_3 : k123_3 = denTop c123_3 1 [0,4,5] [] [] [] := by kernel_rfl
theorem e123_0 : k123_0 = denTop c123_0 3 [0,1,2,3,4,5] [] [] [0,3,4,5] := by kernel_rfl
theorem i123 : Impl b123 x123 := (.shal 3 _ _ _ _ rfl e123_0 (.seq (.shal 1 _ _ _ _ rfl e123_1 (.block (.loop (.shal 4 _ _ _ _ rfl e123_2 (.refl _))))) (.shal 1 _ _ _ _ rfl e123_3 (.refl _))))
theorem e124_1 : k124_1 = denTop c124_1 4 [0,10,11,12] [0,10,11,12] [] [] := by kernel_rfl
theorem e124_0 : k124_0 = denTop c124_0 2 [0,1] [] [] [0,10,11,12] := by kernel_rfl
theorem i124 : Impl b124 x124 := (.shal 2 _ _ _ _ rfl e124_0 (.block (.loop (.shal 4 _ _ _ _ rfl e124_1 (.refl _)))))
theorem e125_0 : k125_0 = denTop c125_0 3 [0] [2] [2] [] := by kernel_rfl
theorem i125 : Impl b125 x125 := (.shal 3 _ _ _ _ rfl e125_0 (.refl _))
theorem e126_0 : k126_0 = denTop c126_0 3 [0] [2] [2] [] := by kernel_rfl
theorem i126 : Impl b126 x126 := (.shal 3 _ _ _ _ rfl e126_0 (.refl _))
theorem e127_2 : k127_2 = denTop c127_2 1 [0,1,3,8,40] [0,1,3,8] [] [] := by kernel_rfl
theorem e127_6 : k127_6 = denTop c127_6 1 [0,3,8,9,67] [0,3,8,9] [] [] := by kernel_rfl
theorem e127_7 : k127_7 = denTop c127_7 1 [0,3,8,9,86] [0,3,8] [] [] := by kernel_rfl
theorem e127_5 : k127_5 = denTop c127_5 2 [0,3,8] [] [] [0,3,8,9] := by kernel_rfl
theorem e127_4 : k127_4 = denTop c127_4 1 [0,3,8] [] [] [0,3,8,49] := by kernel_rfl
theorem e127_3 : k127_3 = denTop c127_3 1 [0,1,3,8] [] [] [0,3,8] := by kernel_rfl
theorem e127_1 : k127_1 = denTop c127_1 2 [0,1,3,6] [] [] [0,1,3,6,8] := by kernel_rfl
theorem e127_0 : k127_0 = denTop c127_0 1 [0,1,2,3] [] [] [0,1,3,6] := by kernel_rfl
theorem i127 : Impl b127 x127 := (.shal 1 _ _ _ _ rfl e127_0 (.scope (.shal 2 _ _ _ _ rfl e127_1 (.seq (.seq (.refl _) (.shal 1 _ _ _ _ rfl e127_2 (.refl _))) (.shal 1 _ _ _ _ rfl e127_3 (.seq (.refl _) (.seq (.shal 1 _ _ _ _ rfl e127_4 (.cond (.shal 2 _ _ _ _ rfl e127_5 (.seq (.seq (.refl _) (.shal 1 _ _ _ _ rfl e127_6 (.refl _))) (.seq (.seq (.refl _) (.seq (.refl _) (.shal 1 _ _ _ _ rfl e127_7 (.refl _)))) (.refl _)))) (.refl _))) (.refl _))))))))
theorem e128_1 : k128_1 = denTop c128_1 1 [0,5,6,7,35] [0,5,6,7] [8] [] := by kernel_rfl
theorem e128_3 : k128_3 = denTop c128_3 1 [0,5,6,7,9,45] [0,5,6,7,9] [] [] := by kernel_rfl
theorem e128_4 : k128_4 = denTop c128_4 1 [0,5,6,7,9] [] [] [0,5,6,7,10] := by kernel_rfl
theorem e128_2 : k128_2 = denTop c128_2 1 [0,5,6,7] [] [] [0,5,6,7,9] := by kernel_rfl
theorem e128_0 : k128_0 = denTop c128_0 1 [0,1,2,3] [] [] [0,5,6,7] := by kernel_rfl
theorem i128 : Impl b128 x128 := (.shal 1 _ _ _ _ rfl e128_0 (.seq (.seq (.refl _) (.shal 1 _ _ _ _ rfl e128_1 (.refl _))) (.shal 1 _ _ _ _ rfl e128_2 (.seq (.seq (.refl _) (.shal 1 _ _ _ _ rfl e128_3 (.refl _))) (.shal 1 _ _ _ _ rfl e128_4 (.seq (.refl _) (.refl _)))))))
theorem e129_0 : k129_0 = denTop c129_0 2 [0,1,2] [] [] [] := by kernel_rfl
theorem i129 : Impl b129 x129 := (.shal 2 _ _ _ _ rfl e129_0 (.refl _))
theorem e130_1 : k130_1 = denTop c130_1 1 [0,1,9,31] [0,1,9] [8] [] := by kernel_rfl
theorem e130_2 : k130_2 = denTop c130_2 3 [0,1,9] [8] [8] [] := by kernel_rfl
theorem e130_0 : k130_0 = denTop c130_0 2 [0,1,2,3] [] [] [0,1,6,9] := by kernel_rfl
theorem i130 : Impl b130 x130 := (.shal 2 _ _ _ _ rfl e130_0 (.seq (.seq (.refl _) (.shal 1 _ _ _ _ rfl e130_1 (.refl _))) (.shal 3 _ _ _ _ rfl e130_2 (.refl _))))
theorem e131_1 : k131_1 = denTop c131_1 1 [0,1,2,25] [0,1,2] [6,7] [] := by kernel_rfl
theorem e131_4 : k131_4 = denTop c131_4 3 [0,1,2] [6,7] [6,7] [] := by kernel_rfl
theorem e131_3 : k131_3 = denTop c131_3 1 [0,1,2] [] [] [0,1,2] := by kernel_rfl
theorem e131_2 : k131_2 = denTop c131_2 1 [0,1,2] [] [6,7] [0,1,2] := by kernel_rfl
theorem e131_0 : k131_0 = denTop c131_0 1 [0,1,2] [] [] [0,1,2] := by kernel_rfl
theorem i131 : Impl b131 x131 := (.shal 1 _ _ _ _ rfl e131_0 (.seq (.seq (.refl _) (.shal 1 _ _ _ _ rfl e131_1 (.refl _))) (.shal 1 _ _ _ _ rfl e131_2 (.shal 1 _ _ _ _ rfl e131_3 (.shal 3 _ _ _ _ rfl e131_4 (.refl _))))))
theorem e132_2 : k132_2 = denTop c132_2 1 [0,4,5,26] [0,4,5] [] [] := by kernel_rfl
theorem e132_1 : k132_1 = denTop c132_1 1 [0,4,5] [] [] [0,4,5,7] := by kernel_rfl
theorem e132_3 : k132_3 = denTop c132_3 2 [0,4,5] [] [] [] := by kernel_rfl
theorem e132_0 : k132_0 = denTop c132_0 1 [0,1,2] [] [] [0,4,5] := by kernel_rfl
theorem i132 : Impl b132 x132 := (.shal 1 _ _ _ _ rfl e132_0 (.seq (.shal 1 _ _ _ _ rfl e132_1 (.seq (.refl _) (.shal 1 _ _ _ _ rfl e132_2 (.refl _)))) (.shal 2 _ _ _ _ rfl e132_3 (.refl _))))
theorem e133_0 : k133_0 = denTop c133_0 3 [0,1] [4] [4] [] := by kernel_rfl
theorem i133 : Impl b133 x133 := (.shal 3 _ _ _ _ rfl e133_0 (.refl _))
theorem e134_2 : k134_2 = denTop c134_2 3 [0,1] [8] [8] [] := by kernel_rfl
theorem e134_1 : k134_1 = denTop c134_1 2 [0,1,9] [] [8] [0,1] := by kernel_rfl
theorem e134_0 : k134_0 = denTop c134_0 3 [0,1,2,3] [] [] [0,1,9] := by kernel_rfl
theorem i134 : Impl b134 x134 := (.shal 3 _ _ _ _ rfl e134_0 (.shal 2 _ _ _ _ rfl e134_1 (.shal 3 _ _ _ _ rfl e134_2 (.refl _))))
theorem e135_0 : k135_0 = denTop c135_0 3 [0,1,2,3] [] [] [] := by kernel_rfl
theorem i135 : Impl b135 x135 := (.shal 3 _ _ _ _ rfl e135_0 (.refl _))
theorem e136_0 : k136_0 = denTop c136_0 1 [0,1] [] [] [] := by kernel_rfl
theorem i136 : Impl b136 x136 := (.shal 1 _ _ _ _ rfl e136_0 (.refl _))
theorem e137_0 : k137_0 = denTop c137_0 1 [0,1] [] [] [] := by kernel_rfl
theorem i137 : Impl b137 x137 := (.shal 1 _ _ _ _ rfl e137_0 (.refl _))
theorem e138_2 : k138_2 = denTop c138_2 2 [4,7] [4,5] [4,5] [] := by kernel_rfl
theorem e138_1 : k138_1 = denTop c138_1 2 [0,4,6] [] [] [4,7] := by kernel_rfl
theorem e138_0 : k138_0 = denTop c138_0 3 [0,1] [] [4,5] [0,4,6] := by kernel_rfl
theorem i138 : Impl b138 x138 := (.shal 3 _ _ _ _ rfl e138_0 (.shal 2 _ _ _ _ rfl e138_1 (.shal 2 _ _ _ _ rfl e138_2 (.refl _))))
theorem e139_0 : k139_0 = denTop c139_0 6 [0] [2] [2] [] := by kernel_rfl
theorem i139 : Impl b139 x139 := (.shal 6 _ _ _ _ rfl e139_0 (.refl _))
theorem e140_1 : k140_1 = denTop c140_1 5 [0,1,6] [0,1,6] [] [] := by kernel_rfl
theorem e140_0 : k140_0 = denTop c140_0 1 [0,1,2] [] [] [0,1,6] := by kernel_rfl
theorem i140 : Impl b140 x140 := (.scope (.shal 1 _ _ _ _ rfl e140_0 (.seq (.refl _) (.shal 5 _ _ _ _ rfl e140_1 (.refl _)))))
theorem e141_2 : k141_2 = denTop c141_2 2 [1,3,11,13] [1,3,11] [] [] := by kernel_rfl
theorem e141_1 : k141_1 = denTop c141_1 1 [1,3] [] [] [1,3,11] := by kernel_rfl
theorem e141_4 : k141_4 = denTop c141_4 2 [1,3,22,24] [1,3,22] [] [] := by kernel_rfl
theorem e141_3 : k141_3 = denTop c141_3 1 [1,3] [] [] [1,3,22] := by kernel_rfl
theorem e141_5 : k141_5 = denTop c141_5 2 [1,3] [2] [2] [] := by kernel_rfl
theorem e141_0 : k141_0 = denTop c141_0 2 [0] [] [] [1,3] := by kernel_rfl
theorem i141 : Impl b141 x141 := (.shal 2 _ _ _ _ rfl e141_0 (.seq (.shal 1 _ _ _ _ rfl e141_1 (.join (.seq (.refl _) (.shal 2 _ _ _ _ rfl e141_2 (.refl _))))) (.seq (.shal 1 _ _ _ _ rfl e141_3 (.join (.seq (.refl _) (.shal 2 _ _ _ _ rfl e141_4 (.refl _))))) (.shal 2 _ _ _ _ rfl e141_5 (.refl _)))))
theorem e142_0 : k142_0 = denTop c142_0 2 [0,1,2,3] [] [] [] := by kernel_rfl
theorem i142 : Impl b142 x142 := (.shal 2 _ _ _ _ rfl e142_0 (.refl _))
theorem e143_0 : k143_0 = denTop c143_0 2 [0,1] [] [] [] := by kernel_rfl
theorem i143 : Impl b143 x143 := (.shal 2 _ _ _ _ rfl e143_0 (.refl _))
theorem e144_0 : k144_0 = denTop c144_0 2 [0,1] [] [] [] := by kernel_rfl
theorem i144 : Impl b144 x144 := (.shal 2 _ _ _ _ rfl e144_0 (.refl _))
theorem e145_2 : k145_2 = denTop c145_2 4 [0,1,12,13] [0,1,12,13] [4] [] := by kernel_rfl
theorem e145_1 : k145_1 = denTop c145_1 1 [0,1] [] [] [0,1,12,13] := by kernel_rfl
theorem e145_3 : k145_3 = denTop c145_3 2 [] [4] [4] [] := by kernel_rfl
theorem e145_0 : k145_0 = denTop c145_0 2 [0,1] [] [4] [0,1] := by kernel_rfl
theorem i145 : Impl b145 x145 := (.shal 2 _ _ _ _ rfl e145_0 (.seq (.shal 1 _ _ _ _ rfl e145_1 (.block (.loop (.shal 4 _ _ _ _ rfl e145_2 (.refl _))))) (.shal 2 _ _ _ _ rfl e145_3 (.refl _))))
theorem e146_0 : k146_0 = denTop c146_0 4 [0] [2] [2] [] := by kernel_rfl
theorem i146 : Impl b146 x146 := (.shal 4 _ _ _ _ rfl e146_0 (.refl _))
theorem e147_0 : k147_0 = denTop c147_0 4 [0,1] [4,5] [4,5] [] := by kernel_rfl
theorem i147 : Impl b147 x147 := (.shal 4 _ _ _ _ rfl e147_0 (.refl _))
theorem e148_1 : k148_1 = denTop c148_1 1 [0,5,6,23] [0,6] [] [] := by kernel_rfl
theorem e148_2 : k148_2 = denTop c148_2 2 [0,6] [4] [4] [] := by kernel_rfl
theorem e148_0 : k148_0 = denTop c148_0 3 [0,1] [] [] [0,1,5,6] := by kernel_rfl
theorem i148 : Impl b148 x148 := (.shal 3 _ _ _ _ rfl e148_0 (.seq (.seq (.refl _) (.shal 1 _ _ _ _ rfl e148_1 (.refl _))) (.shal 2 _ _ _ _ rfl e148_2 (.refl _))))
theorem e149_2 : k149_2 = denTop c149_2 1 [0,1,2,30] [0,1,2] [6] [] := by kernel_rfl
theorem e149_1 : k149_1 = denTop c149_1 1 [0,1,2] [] [] [0,1,2,8] := by kernel_rfl
theorem e149_3 : k149_3 = denTop c149_3 3 [0,1,2] [6] [6] [] := by kernel_rfl
theorem e149_0 : k149_0 = denTop c149_0 1 [0,1,2] [] [] [0,1,2] := by kernel_rfl
theorem i149 : Impl b149 x149 := (.shal 1 _ _ _ _ rfl e149_0 (.seq (.shal 1 _ _ _ _ rfl e149_1 (.seq (.refl _) (.shal 1 _ _ _ _ rfl e149_2 (.refl _)))) (.shal 3 _ _ _ _ rfl e149_3 (.refl _))))
theorem e150_0 : k150_0 = denTop c150_0 2 [0,1] [] [] [] := by kernel_rfl
theorem i150 : Impl b150 x150 := (.shal 2 _ _ _ _ rfl e150_0 (.refl _))
theorem e151_0 : k151_0 = denTop c151_0 3 [] [0] [0] [] := by kernel_rfl
theorem i151 : Impl b151 x151 := (.shal 3 _ _ _ _ rfl e151_0 (.refl _))
theorem e152_0 : k152_0 = denTop c152_0 1 [0,1] [] [] [] := by kernel_rfl
theorem i152 : Impl b152 x152 := (.shal 1 _ _ _ _ rfl e152_0 (.refl _))
theorem e153_0 : k153_0 = denTop c153_0 6 [0] [2] [2] [] := by kernel_rfl
theorem i153 : Impl b153 x153 := (.shal 6 _ _ _ _ rfl e153_0 (.refl _))
theorem e154_0 : k154_0 = denTop c154_0 3 [0] [2] [2] [] := by kernel_rfl
theorem i154 : Impl b154 x154 := (.shal 3 _ _ _ _ rfl e154_0 (.refl _))
theorem e155_0 : k155_0 = denTop c155_0 5 [0,1] [4] [4] [] := by kernel_rfl
theorem i155 : Impl b155 x155 := (.shal 5 _ _ _ _ rfl e155_0 (.refl _))
theorem e156_0 : k156_0 = denTop c156_0 3 [0] [2] [2] [] := by kernel_rfl
theorem i156 : Impl b156 x156 := (.shal 3 _ _ _ _ rfl e156_0 (.refl _))
theorem e157_0 : k157_0 = denTop c157_0 3 [0,1,2] [5] [5] [] := by kernel_rfl
theorem i157 : Impl b157 x157 := (.shal 3 _ _ _ _ rfl e157_0 (.refl _))
theorem e158_0 : k158_0 = denTop c158_0 4 [0,1] [] [] [] := by kernel_rfl
theorem i158 : Impl b158 x158 := (.shal 4 _ _ _ _ rfl e158_0 (.refl _))
theorem e159_0 : k159_0 = denTop c159_0 2 [0,1] [] [] [] := by kernel_rfl
theorem i159 : Impl b159 x159 := (.shal 2 _ _ _ _ rfl e159_0 (.refl _))
theorem e160_0 : k160_0 = denTop c160_0 3 [0,1,2] [] [] [] := by kernel_rfl
theorem i160 : Impl b160 x160 := (.shal 3 _ _ _ _ rfl e160_0 (.refl _))
theorem e161_0 : k161_0 = denTop c161_0 4 [0] [] [] [0,2,5,6,7] := by kernel_rfl
theorem i161 : Impl b161 x161 := (.shal 4 _ _ _ _ rfl e161_0 (.seq (.refl _) (.refl _)))
theorem e162_3 : k162_3 = denTop c162_3 2 [0,1] [4] [4] [] := by kernel_rfl
theorem e162_2 : k162_2 = denTop c162_2 1 [0,1] [] [] [0,1] := by kernel_rfl
theorem e162_1 : k162_1 = denTop c162_1 1 [0,1] [] [4] [0,1] := by kernel_rfl
theorem e162_0 : k162_0 = denTop c162_0 2 [0,1] [] [4] [0,1] := by kernel_rfl
theorem i162 : Impl b162 x162 := (.shal 2 _ _ _ _ rfl e162_0 (.shal 1 _ _ _ _ rfl e162_1 (.shal 1 _ _ _ _ rfl e162_2 (.shal 2 _ _ _ _ rfl e162_3 (.refl _)))))
theorem e163_0 : k163_0 = denTop c163_0 1 [0,1] [] [] [] := by kernel_rfl
theorem i163 : Impl b163 x163 := (.shal 1 _ _ _ _ rfl e163_0 (.refl _))
theorem e164_0 : k164_0 = denTop c164_0 1 [0,1] [] [] [] := by kernel_rfl
theorem i164 : Impl b164 x164 := (.shal 1 _ _ _ _ rfl e164_0 (.refl _))
theorem e165_0 : k165_0 = denTop c165_0 1 [0,1] [] [] [0,1] := by kernel_rfl
theorem i165 : Impl b165 x165 := (.shal 1 _ _ _ _ rfl e165_0 (.seq (.refl _) (.refl _)))
theorem e166_0 : k166_0 = denTop c166_0 4 [0,1,2,3,4] [] [] [] := by kernel_rfl
theorem i166 : Impl b166 x166 := (.shal 4 _ _ _ _ rfl e166_0 (.refl _))
theorem e167_1 : k167_1 = denTop c167_1 1 [0,2,3,5,27] [0,2,3,5] [8] [] := by kernel_rfl
theorem e167_3 : k167_3 = denTop c167_3 3 [0,2] [8] [8] [] := by kernel_rfl
theorem e167_2 : k167_2 = denTop c167_2 2 [0,2,3,5] [] [] [0,2] := by kernel_rfl
theorem e167_0 : k167_0 = denTop c167_0 1 [0,1,2,3] [] [] [0,2,3,5] := by kernel_rfl
theorem i167 : Impl b167 x167 := (.shal 1 _ _ _ _ rfl e167_0 (.seq (.seq (.refl _) (.shal 1 _ _ _ _ rfl e167_1 (.refl _))) (.shal 2 _ _ _ _ rfl e167_2 (.shal 3 _ _ _ _ rfl e167_3 (.refl _)))))
theorem e168_0 : k168_0 = denTop c168_0 3 [0,1] [4] [4] [] := by kernel_rfl
theorem i168 : Impl b168 x168 := (.shal 3 _ _ _ _ rfl e168_0 (.refl _))
theorem e169_0 : k169_0 = denTop c169_0 3 [0] [2] [2] [] := by kernel_rfl
theorem i169 : Impl b169 x169 := (.shal 3 _ _ _ _ rfl e169_0 (.refl _))
theorem e170_0 : k170_0 = denTop c170_0 1 [0,1,2] [] [] [] := by kernel_rfl
theorem i170 : Impl b170 x170 := (.shal 1 _ _ _ _ rfl e170_0 (.refl _))
theorem e171_0 : k171_0 = denTop c171_0 1 [0,1] [] [] [2,3] := by kernel_rfl
theorem i171 : Impl b171 x171 := (.shal 1 _ _ _ _ rfl e171_0 (.seq (.refl _) (.refl _)))
theorem e172_0 : k172_0 = denTop c172_0 4 [0,1] [] [4] [4] := by kernel_rfl
theorem i172 : Impl b172 x172 := (.shal 4 _ _ _ _ rfl e172_0 (.refl _))
theorem e173_0 : k173_0 = denTop c173_0 1 [0] [] [] [] := by kernel_rfl
theorem i173 : Impl b173 x173 := (.shal 1 _ _ _ _ rfl e173_0 (.refl _))
theorem e174_2 : k174_2 = denTop c174_2 4 [0,1,7,8] [0,1,7,8] [4] [] := by kernel_rfl
theorem e174_1 : k174_1 = denTop c174_1 1 [0,1] [] [] [0,1,7,8] := by kernel_rfl
theorem e174_3 : k174_3 = denTop c174_3 2 [] [4] [4] [] := by kernel_rfl
theorem e174_0 : k174_0 = denTop c174_0 1 [0,1] [] [] [0,1] := by kernel_rfl
theorem i174 : Impl b174 x174 := (.shal 1 _ _ _ _ rfl e174_0 (.seq (.shal 1 _ _ _ _ rfl e174_1 (.block (.loop (.shal 4 _ _ _ _ rfl e174_2 (.refl _))))) (.shal 2 _ _ _ _ rfl e174_3 (.refl _))))
theorem e175_0 : k175_0 = denTop c175_0 3 [0,1] [3] [3] [] := by kernel_rfl
theorem i175 : Impl b175 x175 := (.shal 3 _ _ _ _ rfl e175_0 (.refl _))
theorem e176_1 : k176_1 = denTop c176_1 4 [0,1,2,7] [6] [6] [] := by kernel_rfl
theorem e176_0 : k176_0 = denTop c176_0 4 [0,1,2] [] [6] [0,1,2,7] := by kernel_rfl
theorem i176 : Impl b176 x176 := (.shal 4 _ _ _ _ rfl e176_0 (.shal 4 _ _ _ _ rfl e176_1 (.refl _)))
theorem e177_0 : k177_0 = denTop c177_0 4 [0] [2] [2] [] := by kernel_rfl
theorem i177 : Impl b177 x177 := (.shal 4 _ _ _ _ rfl e177_0 (.refl _))
theorem e178_3 : k178_3 = denTop c178_3 1 [0,1,5,6] [0,1,5,6] [] [] := by kernel_rfl
theorem e178_2 : k178_2 = denTop c178_2 2 [0,1,5,6] [0,5] [] [0,1,5,6] := by kernel_rfl
theorem e178_1 : k178_1 = denTop c178_1 1 [0,1,5] [] [] [0,1,5,6] := by kernel_rfl
theorem e178_4 : k178_4 = denTop c178_4 3 [0,5] [4] [4] [] := by kernel_rfl
theorem e178_0 : k178_0 = denTop c178_0 3 [0,1] [] [4] [0,1,5] := by kernel_rfl
theorem i178 : Impl b178 x178 := (.shal 3 _ _ _ _ rfl e178_0 (.seq (.shal 1 _ _ _ _ rfl e178_1 (.block (.loop (.shal 2 _ _ _ _ rfl e178_2 (.shal 1 _ _ _ _ rfl e178_3 (.refl _)))))) (.shal 3 _ _ _ _ rfl e178_4 (.refl _))))
theorem e179_0 : k179_0 = denTop c179_0 5 [0] [2] [2] [] := by kernel_rfl
theorem i179 : Impl b179 x179 := (.shal 5 _ _ _ _ rfl e179_0 (.refl _))
theorem e180_0 : k180_0 = denTop c180_0 3 [0] [2] [2] [] := by kernel_rfl
theorem i180 : Impl b180 x180 := (.shal 3 _ _ _ _ rfl e180_0 (.refl _))
theorem e181_0 : k181_0 = denTop c181_0 2 [0,1] [] [] [1,4] := by kernel_rfl
theorem i181 : Impl b181 x181 := (.shal 2 _ _ _ _ rfl e181_0 (.seq (.refl _) (.refl _)))
theorem e182_0 : k182_0 = denTop c182_0 3 [0,1,2,3] [] [] [] := by kernel_rfl
theorem i182 : Impl b182 x182 := (.shal 3 _ _ _ _ rfl e182_0 (.refl _))
theorem e183_1 : k183_1 = denTop c183_1 2 [0,1,7,9] [0,1,7] [] [] := by kernel_rfl
theorem e183_0 : k183_0 = denTop c183_0 1 [0,1] [] [] [0,1,7] := by kernel_rfl
theorem i183 : Impl b183 x183 := (.shal 1 _ _ _ _ rfl e183_0 (.join (.seq (.refl _) (.shal 2 _ _ _ _ rfl e183_1 (.refl _)))))
theorem e184_0 : k184_0 = denTop c184_0 3 [0,1,2] [5] [5] [] := by kernel_rfl
theorem i184 : Impl b184 x184 := (.shal 3 _ _ _ _ rfl e184_0 (.refl _))
theorem e185_1 : k185_1 = denTop c185_1 2 [0,1,7,9] [0,1,7] [] [] := by kernel_rfl
theorem e185_0 : k185_0 = denTop c185_0 1 [0,1] [] [] [0,1,7] := by kernel_rfl
theorem i185 : Impl b185 x185 := (.shal 1 _ _ _ _ rfl e185_0 (.join (.seq (.refl _) (.shal 2 _ _ _ _ rfl e185_1 (.refl _)))))
theorem e186_0 : k186_0 = denTop c186_0 3 [0,2] [5] [5] [] := by kernel_rfl
theorem i186 : Impl b186 x186 := (.shal 3 _ _ _ _ rfl e186_0 (.refl _))
theorem e187_4 : k187_4 = denTop c187_4 4 [3,7,8,9,17] [3,7,8,9,17] [] [] := by kernel_rfl
theorem e187_3 : k187_3 = denTop c187_3 3 [3,7,8,9] [] [] [3,7,8,9,17] := by kernel_rfl
theorem e187_5 : k187_5 = denTop c187_5 1 [3,7,8,9] [3,7,8,9] [] [] := by kernel_rfl
theorem e187_2 : k187_2 = denTop c187_2 2 [3,7,8,9] [3] [] [3,7,8,9] := by kernel_rfl
theorem e187_1 : k187_1 = denTop c187_1 1 [0,3] [] [] [3,7,8,9] := by kernel_rfl
theorem e187_6 : k187_6 = denTop c187_6 2 [3] [2] [2] [] := by kernel_rfl
theorem e187_0 : k187_0 = denTop c187_0 2 [0] [] [] [0,3] := by kernel_rfl
theorem i187 : Impl b187 x187 := (.shal 2 _ _ _ _ rfl e187_0 (.seq (.shal 1 _ _ _ _ rfl e187_1 (.block (.loop (.shal 2 _ _ _ _ rfl e187_2 (.seq (.block (.shal 3 _ _ _ _ rfl e187_3 (.block (.loop (.shal 4 _ _ _ _ rfl e187_4 (.refl _)))))) (.shal 1 _ _ _ _ rfl e187_5 (.refl _))))))) (.shal 2 _ _ _ _ rfl e187_6 (.refl _))))
theorem e188_0 : k188_0 = denTop c188_0 3 [0] [2] [2] [] := by kernel_rfl
theorem i188 : Impl b188 x188 := (.shal 3 _ _ _ _ rfl e188_0 (.refl _))
theorem e189_0 : k189_0 = denTop c189_0 2 [0,1,2] [] [] [] := by kernel_rfl
theorem i189 : Impl b189 x189 := (.shal 2 _ _ _ _ rfl e189_0 (.refl _))
theorem e190_0 : k190_0 = denTop c190_0 3 [0] [2] [2] [] := by kernel_rfl
theorem i190 : Impl b190 x190 := (.shal 3 _ _ _ _ rfl e190_0 (.refl _))
theorem e191_0 : k191_0 = denTop c191_0 2 [0,1] [] [] [] := by kernel_rfl
theorem i191 : Impl b191 x191 := (.shal 2 _ _ _ _ rfl e191_0 (.refl _))
theorem e192_1 : k192_1 = denTop c192_1 2 [0,5,7] [0,5] [] [] := by kernel_rfl
theorem e192_0 : k192_0 = denTop c192_0 1 [0,1] [] [] [0,5] := by kernel_rfl
theorem i192 : Impl b192 x192 := (.shal 1 _ _ _ _ rfl e192_0 (.join (.seq (.refl _) (.shal 2 _ _ _ _ rfl e192_1 (.refl _)))))
theorem e193_0 : k193_0 = denTop c193_0 1 [0,1] [] [] [] := by kernel_rfl
theorem i193 : Impl b193 x193 := (.shal 1 _ _ _ _ rfl e193_0 (.refl _))
theorem e194_0 : k194_0 = denTop c194_0 4 [0] [2] [2] [] := by kernel_rfl
theorem i194 : Impl b194 x194 := (.shal 4 _ _ _ _ rfl e194_0 (.refl _))
theorem e195_2 : k195_2 = denTop c195_2 4 [3,6,7,8] [3,6,7,8] [2] [] := by kernel_rfl
theorem e195_1 : k195_1 = denTop c195_1 1 [0,3] [] [] [3,6,7,8] := by kernel_rfl
theorem e195_3 : k195_3 = denTop c195_3 2 [3] [2] [2] [] := by kernel_rfl
theorem e195_0 : k195_0 = denTop c195_0 2 [0] [] [] [0,3] := by kernel_rfl
theorem i195 : Impl b195 x195 := (.shal 2 _ _ _ _ rfl e195_0 (.seq (.shal 1 _ _ _ _ rfl e195_1 (.block (.loop (.shal 4 _ _ _ _ rfl e195_2 (.refl _))))) (.shal 2 _ _ _ _ rfl e195_3 (.refl _))))
theorem e196_1 : k196_1 = denTop c196_1 4 [0,1] [4] [4] [] := by kernel_rfl
theorem e196_0 : k196_0 = denTop c196_0 5 [0,1] [] [4] [0,1] := by kernel_rfl
theorem i196 : Impl b196 x196 := (.shal 5 _ _ _ _ rfl e196_0 (.shal 4 _ _ _ _ rfl e196_1 (.refl _)))
theorem e197_2 : k197_2 = denTop c197_2 4 [0,1,7,8] [0,1,7,8] [4] [] := by kernel_rfl
theorem e197_1 : k197_1 = denTop c197_1 1 [0,1] [] [] [0,1,7,8] := by kernel_rfl
theorem e197_3 : k197_3 = denTop c197_3 2 [] [4] [4] [] := by kernel_rfl
theorem e197_0 : k197_0 = denTop c197_0 1 [0,1] [] [] [0,1] := by kernel_rfl
theorem i197 : Impl b197 x197 := (.shal 1 _ _ _ _ rfl e197_0 (.seq (.shal 1 _ _ _ _ rfl e197_1 (.block (.loop (.shal 4 _ _ _ _ rfl e197_2 (.refl _))))) (.shal 2 _ _ _ _ rfl e197_3 (.refl _))))
theorem e198_0 : k198_0 = denTop c198_0 3 [0] [2] [2] [] := by kernel_rfl
theorem i198 : Impl b198 x198 := (.shal 3 _ _ _ _ rfl e198_0 (.refl _))
theorem e199_0 : k199_0 = denTop c199_0 2 [0] [] [] [] := by kernel_rfl
theorem i199 : Impl b199 x199 := (.shal 2 _ _ _ _ rfl e199_0 (.refl _))
theorem e200_1 : k200_1 = denTop c200_1 2 [0,5,7] [0,5] [] [] := by kernel_rfl
theorem e200_0 : k200_0 = denTop c200_0 1 [0,1] [] [] [0,5] := by kernel_rfl
theorem i200 : Impl b200 x200 := (.shal 1 _ _ _ _ rfl e200_0 (.join (.seq (.refl _) (.shal 2 _ _ _ _ rfl e200_1 (.refl _)))))
theorem e201_1 : k201_1 = denTop c201_1 1 [1] [] [] [] := by kernel_rfl
theorem e201_2 : k201_2 = denTop c201_2 2 [2] [4] [4] [] := by kernel_rfl
theorem e201_0 : k201_0 = denTop c201_0 1 [0,1] [] [] [1] := by kernel_rfl
theorem i201 : Impl b201 x201 := (.shal 1 _ _ _ _ rfl e201_0 (.seq (.shal 1 _ _ _ _ rfl e201_1 (.block (.refl _))) (.shal 2 _ _ _ _ rfl e201_2 (.refl _))))
theorem e202_5 : k202_5 = denTop c202_5 1 [0,1,2,3,4,10,11,12,13,75] [0,1,2,3,4,10,11,12,13] [] [] := by kernel_rfl
theorem e202_6 : k202_6 = denTop c202_6 1 [0,1,2,3,4,10,11,12,13,97] [0,1,2,3,4,10,11,12,13] [] [] := by kernel_rfl
theorem e202_9 : k202_9 = denTop c202_9 1 [0,1,2,3,4,11,16,18,19,20,125] [0,1,2,3,4,10,11] [] [] := by kernel_rfl
theorem e202_8 : k202_8 = denTop c202_8 1 [0,1,2,3,4,11,16,18,19,20] [] [] [0,1,2,3,4,11,16,18,19,20,125] := by kernel_rfl
theorem e202_7 : k202_7 = denTop c202_7 4 [0,1,2,3,4,12,13] [] [] [0,1,2,3,4,11,16,18,19,20] := by kernel_rfl
theorem e202_4 : k202_4 = denTop c202_4 1 [0,1,2,3,4,10,11,12,13,14] [] [] [0,1,2,3,4,10,11,12,13,14] := by kernel_rfl
theorem e202_3 : k202_3 = denTop c202_3 1 [0,1,2,3,4,10,11,12] [] [] [0,1,2,3,4,10,11,12,13,14] := by kernel_rfl
theorem e202_2 : k202_2 = denTop c202_2 1 [0,1,2,3,4,10,11,12] [] [] [0,1,2,3,4,10,11,12] := by kernel_rfl
theorem e202_1 : k202_1 = denTop c202_1 3 [0,1,2,3,4,10,11] [] [] [0,1,2,3,4,10,11,12] := by kernel_rfl
theorem e202_0 : k202_0 = denTop c202_0 2 [0,1,2,3,4] [] [] [0,1,2,3,4,10,11] := by kernel_rfl
theorem i202 : Impl b202 x202 := (.shal 2 _ _ _ _ rfl e202_0 (.block (.loop (.block (.shal 3 _ _ _ _ rfl e202_1 (.shal 1 _ _ _ _ rfl e202_2 (.shal 1 _ _ _ _ rfl e202_3 (.shal 1 _ _ _ _ rfl e202_4 (.seq (.seq (.refl _) (.shal 1 _ _ _ _ rfl e202_5 (.refl _))) (.seq (.seq (.refl _) (.shal 1 _ _ _ _ rfl e202_6 (.refl _))) (.shal 4 _ _ _ _ rfl e202_7 (.shal 1 _ _ _ _ rfl e202_8 (.shal 1 _ _ _ _ rfl e202_9 (.refl _))))))))))))))
theorem e203_0 : k203_0 = denTop c203_0 4 [0] [2] [2] [] := by kernel_rfl
theorem i203 : Impl b203 x203 := (.shal 4 _ _ _ _ rfl e203_0 (.refl _))
theorem e204_0 : k204_0 = denTop c204_0 3 [0] [2] [2] [] := by kernel_rfl
theorem i204 : Impl b204 x204 := (.shal 3 _ _ _ _ rfl e204_0 (.refl _))
theorem e205_1 : k205_1 = denTop c205_1 1 [1] [] [] [] := by kernel_rfl
theorem e205_2 : k205_2 = denTop c205_2 2 [2] [4] [4] [] := by kernel_rfl
theorem e205_0 : k205_0 = denTop c205_0 1 [0,1] [] [] [1] := by kernel_rfl
theorem i205 : Impl b205 x205 := (.shal 1 _ _ _ _ rfl e205_0 (.seq (.shal 1 _ _ _ _ rfl e205_1 (.block (.refl _))) (.shal 2 _ _ _ _ rfl e205_2 (.refl _))))
theorem e206_4 : k206_4 = denTop c206_4 1 [0,1,2,3,8,9,10,11,68] [0,1,2,3,8,9,10,11] [] [] := by kernel_rfl
theorem e206_5 : k206_5 = denTop c206_5 1 [0,1,2,3,8,9,10,11,87] [0,1,2,3,8,9,10,11] [] [] := by kernel_rfl
theorem e206_8 : k206_8 = denTop c206_8 1 [0,1,2,3,9,14,16,17,18,113] [0,1,2,3,8,9] [] [] := by kernel_rfl
theorem e206_7 : k206_7 = denTop c206_7 1 [0,1,2,3,9,14,16,17,18] [] [] [0,1,2,3,9,14,16,17,18,113] := by kernel_rfl
theorem e206_6 : k206_6 = denTop c206_6 4 [0,1,2,3,10,11] [] [] [0,1,2,3,9,14,16,17,18] := by kernel_rfl
theorem e206_3 : k206_3 = denTop c206_3 2 [0,1,2,3,8,9,10] [] [] [0,1,2,3,8,9,10,11,12] := by kernel_rfl
theorem e206_2 : k206_2 = denTop c206_2 1 [0,1,2,3,8,9,10] [] [] [0,1,2,3,8,9,10] := by kernel_rfl
theorem e206_1 : k206_1 = denTop c206_1 3 [0,1,2,3,8,9] [] [] [0,1,2,3,8,9,10] := by kernel_rfl
theorem e206_0 : k206_0 = denTop c206_0 2 [0,1,2,3] [] [] [0,1,2,3,8,9] := by kernel_rfl
theorem i206 : Impl b206 x206 := (.shal 2 _ _ _ _ rfl e206_0 (.block (.loop (.block (.shal 3 _ _ _ _ rfl e206_1 (.shal 1 _ _ _ _ rfl e206_2 (.shal 2 _ _ _ _ rfl e206_3 (.seq (.seq (.refl _) (.shal 1 _ _ _ _ rfl e206_4 (.refl _))) (.seq (.seq (.refl _) (.shal 1 _ _ _ _ rfl e206_5 (.refl _))) (.shal 4 _ _ _ _ rfl e206_6 (.shal 1 _ _ _ _ rfl e206_7 (.shal 1 _ _ _ _ rfl e206_8 (.refl _)))))))))))))
theorem e207_3 : k207_3 = denTop c207_3 1 [0,1,2,3,8,9,34] [0,1,2,3,8,9] [] [] := by kernel_rfl
theorem e207_4 : k207_4 = denTop c207_4 1 [0,1,2,3,8,9] [0,1,2,3,8,9] [] [] := by kernel_rfl
theorem e207_2 : k207_2 = denTop c207_2 1 [0,1,2,3,8] [] [] [0,1,2,3,8,9] := by kernel_rfl
theorem e207_5 : k207_5 = denTop c207_5 1 [0,1,2,3,8] [0,1,2,3,8] [] [] := by kernel_rfl
theorem e207_1 : k207_1 = denTop c207_1 1 [0,1,2,3,8] [] [] [0,1,2,3,8] := by kernel_rfl
theorem e207_0 : k207_0 = denTop c207_0 1 [0,1,2,3] [] [] [0,1,2,3,8] := by kernel_rfl
theorem i207 : Impl b207 x207 := (.shal 1 _ _ _ _ rfl e207_0 (.block (.loop (.shal 1 _ _ _ _ rfl e207_1 (.seq (.block (.shal 1 _ _ _ _ rfl e207_2 (.block (.loop (.seq (.seq (.refl _) (.shal 1 _ _ _ _ rfl e207_3 (.refl _))) (.seq (.block (.refl _)) (.shal 1 _ _ _ _ rfl e207_4 (.refl _)))))))) (.shal 1 _ _ _ _ rfl e207_5 (.refl _)))))))
theorem e208_2 : k208_2 = denTop c208_2 3 [0,3,8,9,10,11] [0,3,8,9,10,11] [] [] := by kernel_rfl
theorem e208_1 : k208_1 = denTop c208_1 1 [0,3,8,9,10] [] [] [0,3,8,9,10,11] := by kernel_rfl
theorem e208_5 : k208_5 = denTop c208_5 1 [0,3,8,9,12] [0,3,8,9,12] [] [] := by kernel_rfl
theorem e208_6 : k208_6 = denTop c208_6 1 [0,3,8,9,12] [0,3,8,9,12] [] [] := by kernel_rfl
theorem e208_4 : k208_4 = denTop c208_4 1 [0,3,8,9,12] [] [] [0,3,8,9,12] := by kernel_rfl
theorem e208_3 : k208_3 = denTop c208_3 1 [0,3,8,9,10] [] [] [0,3,8,9,12] := by kernel_rfl
theorem e208_0 : k208_0 = denTop c208_0 3 [0,1,2,3] [] [] [0,3,8,9,10] := by kernel_rfl
theorem i208 : Impl b208 x208 := (.shal 3 _ _ _ _ rfl e208_0 (.seq (.shal 1 _ _ _ _ rfl e208_1 (.block (.loop (.shal 3 _ _ _ _ rfl e208_2 (.refl _))))) (.shal 1 _ _ _ _ rfl e208_3 (.block (.loop (.shal 1 _ _ _ _ rfl e208_4 (.seq (.block (.seq (.refl _) (.shal 1 _ _ _ _ rfl e208_5 (.refl _)))) (.shal 1 _ _ _ _ rfl e208_6 (.refl _)))))))))
theorem e209_3 : k209_3 = denTop c209_3 2 [0,1,8,9,10,11] [] [] [0,1,8,9,10,11,12] := by kernel_rfl
theorem e209_4 : k209_4 = denTop c209_4 1 [0,1,8,9,10,11] [0,1,8,9,10,11] [] [] := by kernel_rfl
theorem e209_2 : k209_2 = denTop c209_2 1 [0,1,8,9,10,11] [] [] [0,1,8,9,10,11] := by kernel_rfl
theorem e209_1 : k209_1 = denTop c209_1 3 [0,1,8] [] [] [0,1,8,9,10,11] := by kernel_rfl
theorem e209_0 : k209_0 = denTop c209_0 2 [0,1,2] [] [] [0,1,8,17] := by kernel_rfl
theorem i209 : Impl b209 x209 := (.shal 2 _ _ _ _ rfl e209_0 (.cond (.shal 3 _ _ _ _ rfl e209_1 (.block (.loop (.shal 1 _ _ _ _ rfl e209_2 (.seq (.block (.shal 2 _ _ _ _ rfl e209_3 (.refl _))) (.shal 1 _ _ _ _ rfl e209_4 (.refl _))))))) (.refl _)))
theorem e210_3 : k210_3 = denTop c210_3 2 [11,13] [8,9] [8,9] [] := by kernel_rfl
theorem e210_2 : k210_2 = denTop c210_2 1 [0,3,10,11,12,13,14] [] [] [11,13] := by kernel_rfl
theorem e210_1 : k210_1 = denTop c210_1 1 [0,1,3,10,11,12,13] [] [] [0,3,10,11,12,13,14] := by kernel_rfl
theorem e210_0 : k210_0 = denTop c210_0 5 [0,1,2,3] [] [] [0,1,3,10,11,12,13] := by kernel_rfl
theorem i210 : Impl b210 x210 := (.shal 5 _ _ _ _ rfl e210_0 (.shal 1 _ _ _ _ rfl e210_1 (.shal 1 _ _ _ _ rfl e210_2 (.shal 2 _ _ _ _ rfl e210_3 (.refl _)))))
theorem e211_2 : k211_2 = denTop c211_2 2 [0,8,9] [0,8,9] [] [] := by kernel_rfl
theorem e211_1 : k211_1 = denTop c211_1 1 [0,8,9] [] [] [0,8,9] := by kernel_rfl
theorem e211_0 : k211_0 = denTop c211_0 2 [0,1,2] [] [] [0,8,9] := by kernel_rfl
theorem i211 : Impl b211 x211 := (.shal 2 _ _ _ _ rfl e211_0 (.block (.loop (.shal 1 _ _ _ _ rfl e211_1 (.block (.seq (.refl _) (.shal 2 _ _ _ _ rfl e211_2 (.refl _))))))))
theorem e212_3 : k212_3 = denTop c212_3 1 [0,1,2,3,9,10,36] [0,1,2,3,9,10] [] [] := by kernel_rfl
theorem e212_4 : k212_4 = denTop c212_4 1 [0,1,2,3,9,10] [0,1,2,3,9,10] [] [] := by kernel_rfl
theorem e212_9 : k212_9 = denTop c212_9 1 [0,1,2,3,9,10,11] [0,1,2,3,9,10] [] [0,1,2,3,9,10,11] := by kernel_rfl
theorem e212_10 : k212_10 = denTop c212_10 1 [0,1,2,3,9,10,11] [0,1,2,3,9,10,11] [] [] := by kernel_rfl
theorem e212_8 : k212_8 = denTop c212_8 1 [0,1,2,3,9,10,11] [0,1,2,3,9,10] [] [0,1,2,3,9,10,11] := by kernel_rfl
theorem e212_7 : k212_7 = denTop c212_7 1 [0,1,2,3,9,10] [] [] [0,1,2,3,9,10,11] := by kernel_rfl
theorem e212_6 : k212_6 = denTop c212_6 1 [0,1,2,3,9,10] [] [] [0,1,2,3,9,10,65] := by kernel_rfl
theorem e212_14 : k212_14 = denTop c212_14 1 [0,1,2,3,9,10,12] [0,1,2,3,9,10] [] [0,1,2,3,9,10,12] := by kernel_rfl
theorem e212_15 : k212_15 = denTop c212_15 1 [0,1,2,3,9,10,12] [0,1,2,3,9,10,12] [] [] := by kernel_rfl
theorem e212_13 : k212_13 = denTop c212_13 1 [0,1,2,3,9,10,12] [0,1,2,3,9,10] [] [0,1,2,3,9,10,12] := by kernel_rfl
theorem e212_12 : k212_12 = denTop c212_12 1 [0,1,2,3,9,10] [] [] [0,1,2,3,9,10,12] := by kernel_rfl
theorem e212_11 : k212_11 = denTop c212_11 1 [0,1,2,3,9,10] [] [] [0,1,2,3,9,10,104] := by kernel_rfl
theorem e212_5 : k212_5 = denTop c212_5 2 [0,1,2,3,9,10] [] [8] [0,1,2,3,9,10] := by kernel_rfl
theorem e212_16 : k212_16 = denTop c212_16 1 [0,1,2,3,9,10] [0,1,2,3,9,10] [] [] := by kernel_rfl
theorem e212_2 : k212_2 = denTop c212_2 1 [0,1,2,3,9,10] [] [] [0,1,2,3,9,10] := by kernel_rfl
theorem e212_1 : k212_1 = denTop c212_1 1 [0,1,2,3,9] [] [] [0,1,2,3,9,10] := by kernel_rfl
theorem e212_17 : k212_17 = denTop c212_17 2 [] [8] [8] [] := by kernel_rfl
theorem e212_0 : k212_0 = denTop c212_0 2 [0,1,2,3] [] [] [0,1,2,3,9] := by kernel_rfl
theorem i212 : Impl b212 x212 := (.shal 2 _ _ _ _ rfl e212_0 (.seq (.shal 1 _ _ _ _ rfl e212_1 (.block (.loop (.shal 1 _ _ _ _ rfl e212_2 (.seq (.block (.seq (.block (.loop (.seq (.seq (.refl _) (.shal 1 _ _ _ _ rfl e212_3 (.refl _))) (.shal 1 _ _ _ _ rfl e212_4 (.refl _))))) (.shal 2 _ _ _ _ rfl e212_5 (.seq (.refl _) (.seq (.shal 1 _ _ _ _ rfl e212_6 (.cond (.shal 1 _ _ _ _ rfl e212_7 (.block (.loop (.shal 1 _ _ _ _ rfl e212_8 (.seq (.block (.shal 1 _ _ _ _ rfl e212_9 (.refl _))) (.shal 1 _ _ _ _ rfl e212_10 (.refl _))))))) (.refl _))) (.shal 1 _ _ _ _ rfl e212_11 (.cond (.shal 1 _ _ _ _ rfl e212_12 (.block (.loop (.shal 1 _ _ _ _ rfl e212_13 (.seq (.block (.shal 1 _ _ _ _ rfl e212_14 (.refl _))) (.shal 1 _ _ _ _ rfl e212_15 (.refl _))))))) (.refl _)))))))) (.shal 1 _ _ _ _ rfl e212_16 (.refl _))))))) (.shal 2 _ _ _ _ rfl e212_17 (.refl _))))
theorem e213_2 : k213_2 = denTop c213_2 1 [0,1,4,11,12,47] [0,1,4,11,12] [] [] := by kernel_rfl
theorem e213_3 : k213_3 = denTop c213_3 1 [0,1,4,11,12] [0,1,4,11,12] [] [] := by kernel_rfl
theorem e213_4 : k213_4 = denTop c213_4 1 [0,1,4,11,12,65] [0,1,4,11,12] [] [] := by kernel_rfl
theorem e213_5 : k213_5 = denTop c213_5 1 [0,1,4,11,12] [0,1,4,11,12] [] [] := by kernel_rfl
theorem e213_7 : k213_7 = denTop c213_7 2 [0,1,4,11,12] [0,1,4,11,12] [] [] := by kernel_rfl
theorem e213_6 : k213_6 = denTop c213_6 1 [0,1,4,11,12] [11] [] [0,1,4,11,12] := by kernel_rfl
theorem e213_8 : k213_8 = denTop c213_8 2 [11] [10] [10] [] := by kernel_rfl
theorem e213_1 : k213_1 = denTop c213_1 1 [0,1,2,4] [] [] [0,1,4,11,12] := by kernel_rfl
theorem e213_0 : k213_0 = denTop c213_0 1 [0,1,2,3,4] [] [] [0,1,2,3,4] := by kernel_rfl
theorem i213 : Impl b213 x213 := (.shal 1 _ _ _ _ rfl e213_0 (.seq (.refl _) (.shal 1 _ _ _ _ rfl e213_1 (.seq (.block (.loop (.block (.seq (.block (.loop (.seq (.seq (.refl _) (.shal 1 _ _ _ _ rfl e213_2 (.refl _))) (.shal 1 _ _ _ _ rfl e213_3 (.refl _))))) (.seq (.block (.loop (.seq (.seq (.refl _) (.shal 1 _ _ _ _ rfl e213_4 (.refl _))) (.shal 1 _ _ _ _ rfl e213_5 (.refl _))))) (.shal 1 _ _ _ _ rfl e213_6 (.seq (.refl _) (.shal 2 _ _ _ _ rfl e213_7 (.refl _))))))))) (.shal 2 _ _ _ _ rfl e213_8 (.refl _))))))
theorem e214_2 : k214_2 = denTop c214_2 1 [0,1,4,12,13,47] [0,1,4,12,13] [] [] := by kernel_rfl
theorem e214_3 : k214_3 = denTop c214_3 1 [0,1,4,12,13] [0,1,4,12,13] [] [] := by kernel_rfl
theorem e214_4 : k214_4 = denTop c214_4 1 [0,1,4,12,13,66] [0,1,4,12,13] [] [] := by kernel_rfl
theorem e214_5 : k214_5 = denTop c214_5 1 [0,1,4,12,13] [0,1,4,12,13] [] [] := by kernel_rfl
theorem e214_7 : k214_7 = denTop c214_7 2 [13] [0,1,4,12,13] [10,11] [] := by kernel_rfl
theorem e214_6 : k214_6 = denTop c214_6 1 [0,1,4,12,13] [] [] [0,1,4,12,13,71] := by kernel_rfl
theorem e214_9 : k214_9 = denTop c214_9 1 [0,1,4,12,13,120] [0,1,4,12,13] [] [] := by kernel_rfl
theorem e214_10 : k214_10 = denTop c214_10 1 [0,1,4,12,13] [0,1,4,12,13] [] [] := by kernel_rfl
theorem e214_11 : k214_11 = denTop c214_11 1 [0,1,4,12,13,139] [0,1,4,12,13] [] [] := by kernel_rfl
theorem e214_12 : k214_12 = denTop c214_12 1 [0,1,4,12,13] [0,1,4,12,13] [] [] := by kernel_rfl
theorem e214_14 : k214_14 = denTop c214_14 2 [0,1,4,12,13] [0,1,4,12,13] [] [] := by kernel_rfl
theorem e214_13 : k214_13 = denTop c214_13 1 [0,1,4,12,13] [0,1,13] [] [0,1,4,12,13] := by kernel_rfl
theorem e214_15 : k214_15 = denTop c214_15 2 [13] [10,11] [10,11] [] := by kernel_rfl
theorem e214_8 : k214_8 = denTop c214_8 2 [0,1,4,12,13] [] [] [0,1,4,12,13] := by kernel_rfl
theorem e214_1 : k214_1 = denTop c214_1 1 [0,1,2,4] [] [] [0,1,4,12,13] := by kernel_rfl
theorem e214_0 : k214_0 = denTop c214_0 1 [0,1,2,3,4] [] [] [0,1,2,3,4] := by kernel_rfl
theorem i214 : Impl b214 x214 := (.shal 1 _ _ _ _ rfl e214_0 (.seq (.refl _) (.shal 1 _ _ _ _ rfl e214_1 (.seq (.block (.loop (.seq (.seq (.refl _) (.shal 1 _ _ _ _ rfl e214_2 (.refl _))) (.shal 1 _ _ _ _ rfl e214_3 (.refl _))))) (.seq (.block (.loop (.seq (.seq (.refl _) (.shal 1 _ _ _ _ rfl e214_4 (.refl _))) (.shal 1 _ _ _ _ rfl e214_5 (.refl _))))) (.seq (.shal 1 _ _ _ _ rfl e214_6 (.cond (.seq (.refl _) (.shal 2 _ _ _ _ rfl e214_7 (.refl _))) (.refl _))) (.seq (.refl _) (.shal 2 _ _ _ _ rfl e214_8 (.seq (.block (.loop (.block (.seq (.block (.loop (.seq (.seq (.refl _) (.shal 1 _ _ _ _ rfl e214_9 (.refl _))) (.shal 1 _ _ _ _ rfl e214_10 (.refl _))))) (.seq (.block (.loop (.seq (.seq (.refl _) (.shal 1 _ _ _ _ rfl e214_11 (.refl _))) (.shal 1 _ _ _ _ rfl e214_12 (.refl _))))) (.shal 1 _ _ _ _ rfl e214_13 (.seq (.refl _) (.shal 2 _ _ _ _ rfl e214_14 (.refl _))))))))) (.seq (.refl _) (.shal 2 _ _ _ _ rfl e214_15 (.refl _))))))))))))
theorem e215_1 : k215_1 = denTop c215_1 2 [0,2] [] [] [2] := by kernel_rfl
theorem e215_0 : k215_0 = denTop c215_0 2 [0] [] [] [0,2] := by kernel_rfl
theorem i215 : Impl b215 x215 := (.shal 2 _ _ _ _ rfl e215_0 (.shal 2 _ _ _ _ rfl e215_1 (.refl _)))
theorem e216_2 : k216_2 = denTop c216_2 2 [0,2] [] [] [2] := by kernel_rfl
theorem e216_1 : k216_1 = denTop c216_1 1 [0,2] [] [] [0,2] := by kernel_rfl
theorem e216_0 : k216_0 = denTop c216_0 2 [0] [] [] [0,2] := by kernel_rfl
theorem i216 : Impl b216 x216 := (.shal 2 _ _ _ _ rfl e216_0 (.shal 1 _ _ _ _ rfl e216_1 (.shal 2 _ _ _ _ rfl e216_2 (.refl _))))
theorem e217_3 : k217_3 = denTop c217_3 1 [0,1,2,6,7,30] [0,1,2,6,7] [] [] := by kernel_rfl
theorem e217_4 : k217_4 = denTop c217_4 1 [0,1,2,6,7] [0,1,2,6,7] [] [] := by kernel_rfl
theorem e217_2 : k217_2 = denTop c217_2 1 [0,1,2,6] [] [] [0,1,2,6,7] := by kernel_rfl
theorem e217_5 : k217_5 = denTop c217_5 1 [0,1,2,6] [0,1,2,6] [] [] := by kernel_rfl
theorem e217_1 : k217_1 = denTop c217_1 1 [0,1,2,6] [] [] [0,1,2,6] := by kernel_rfl
theorem e217_0 : k217_0 = denTop c217_0 1 [0,1,2] [] [] [0,1,2,6] := by kernel_rfl
theorem i217 : Impl b217 x217 := (.shal 1 _ _ _ _ rfl e217_0 (.block (.loop (.shal 1 _ _ _ _ rfl e217_1 (.seq (.block (.shal 1 _ _ _ _ rfl e217_2 (.block (.loop (.seq (.seq (.refl _) (.shal 1 _ _ _ _ rfl e217_3 (.refl _))) (.seq (.block (.refl _)) (.shal 1 _ _ _ _ rfl e217_4 (.refl _)))))))) (.shal 1 _ _ _ _ rfl e217_5 (.refl _)))))))
theorem e218_2 : k218_2 = denTop c218_2 3 [0,6,7,8,9] [0,6,7,8,9] [] [] := by kernel_rfl
theorem e218_1 : k218_1 = denTop c218_1 1 [0,6,7,8] [] [] [0,6,7,8,9] := by kernel_rfl
theorem e218_5 : k218_5 = denTop c218_5 1 [0,6,7,10] [0,6,7,10] [] [] := by kernel_rfl
theorem e218_6 : k218_6 = denTop c218_6 1 [0,6,7,10] [0,6,7,10] [] [] := by kernel_rfl
theorem e218_4 : k218_4 = denTop c218_4 1 [0,6,7,10] [] [] [0,6,7,10] := by kernel_rfl
theorem e218_3 : k218_3 = denTop c218_3 1 [0,6,7,8] [] [] [0,6,7,10] := by kernel_rfl
theorem e218_0 : k218_0 = denTop c218_0 3 [0,1,2] [] [] [0,6,7,8] := by kernel_rfl
theorem i218 : Impl b218 x218 := (.shal 3 _ _ _ _ rfl e218_0 (.seq (.shal 1 _ _ _ _ rfl e218_1 (.block (.loop (.shal 3 _ _ _ _ rfl e218_2 (.refl _))))) (.shal 1 _ _ _ _ rfl e218_3 (.block (.loop (.shal 1 _ _ _ _ rfl e218_4 (.seq (.block (.seq (.refl _) (.shal 1 _ _ _ _ rfl e218_5 (.refl _)))) (.shal 1 _ _ _ _ rfl e218_6 (.refl _)))))))))
theorem e219_3 : k219_3 = denTop c219_3 2 [0,1,6,7,8,9] [] [] [0,1,6,7,8,9,10] := by kernel_rfl
theorem e219_4 : k219_4 = denTop c219_4 1 [0,1,6,7,8,9] [0,1,6,7,8,9] [] [] := by kernel_rfl
theorem e219_2 : k219_2 = denTop c219_2 1 [0,1,6,7,8,9] [] [] [0,1,6,7,8,9] := by kernel_rfl
theorem e219_1 : k219_1 = denTop c219_1 3 [0,1,6] [] [] [0,1,6,7,8,9] := by kernel_rfl
theorem e219_0 : k219_0 = denTop c219_0 2 [0,1,2] [] [] [0,1,6,15] := by kernel_rfl
theorem i219 : Impl b219 x219 := (.shal 2 _ _ _ _ rfl e219_0 (.cond (.shal 3 _ _ _ _ rfl e219_1 (.block (.loop (.shal 1 _ _ _ _ rfl e219_2 (.seq (.block (.shal 2 _ _ _ _ rfl e219_3 (.refl _))) (.shal 1 _ _ _ _ rfl e219_4 (.refl _))))))) (.refl _)))
theorem e220_3 : k220_3 = denTop c220_3 2 [9,11] [6,7] [6,7] [] := by kernel_rfl
theorem e220_2 : k220_2 = denTop c220_2 1 [0,8,9,10,11,12] [] [] [9,11] := by kernel_rfl
theorem e220_1 : k220_1 = denTop c220_1 1 [0,1,8,9,10,11] [] [] [0,8,9,10,11,12] := by kernel_rfl
theorem e220_0 : k220_0 = denTop c220_0 5 [0,1,2] [] [] [0,1,8,9,10,11] := by kernel_rfl
theorem i220 : Impl b220 x220 := (.shal 5 _ _ _ _ rfl e220_0 (.shal 1 _ _ _ _ rfl e220_1 (.shal 1 _ _ _ _ rfl e220_2 (.shal 2 _ _ _ _ rfl e220_3 (.refl _)))))
theorem e221_2 : k221_2 = denTop c221_2 2 [0,6,7] [0,6,7] [] [] := by kernel_rfl
theorem e221_1 : k221_1 = denTop c221_1 1 [0,6,7] [] [] [0,6,7] := by kernel_rfl
theorem e221_0 : k221_0 = denTop c221_0 2 [0,1,2] [] [] [0,6,7] := by kernel_rfl
theorem i221 : Impl b221 x221 := (.shal 2 _ _ _ _ rfl e221_0 (.block (.loop (.shal 1 _ _ _ _ rfl e221_1 (.block (.seq (.refl _) (.shal 2 _ _ _ _ rfl e221_2 (.refl _))))))))
theorem e222_3 : k222_3 = denTop c222_3 1 [0,1,2,7,8,32] [0,1,2,7,8] [] [] := by kernel_rfl
theorem e222_4 : k222_4 = denTop c222_4 1 [0,1,2,7,8] [0,1,2,7,8] [] [] := by kernel_rfl
theorem e222_9 : k222_9 = denTop c222_9 1 [0,1,2,7,8,9] [0,1,2,7,8] [] [0,1,2,7,8,9] := by kernel_rfl
theorem e222_10 : k222_10 = denTop c222_10 1 [0,1,2,7,8,9] [0,1,2,7,8,9] [] [] := by kernel_rfl
theorem e222_8 : k222_8 = denTop c222_8 1 [0,1,2,7,8,9] [0,1,2,7,8] [] [0,1,2,7,8,9] := by kernel_rfl
theorem e222_7 : k222_7 = denTop c222_7 1 [0,1,2,7,8] [] [] [0,1,2,7,8,9] := by kernel_rfl
theorem e222_6 : k222_6 = denTop c222_6 1 [0,1,2,7,8] [] [] [0,1,2,7,8,61] := by kernel_rfl
theorem e222_14 : k222_14 = denTop c222_14 1 [0,1,2,7,8,10] [0,1,2,7,8] [] [0,1,2,7,8,10] := by kernel_rfl
theorem e222_15 : k222_15 = denTop c222_15 1 [0,1,2,7,8,10] [0,1,2,7,8,10] [] [] := by kernel_rfl
theorem e222_13 : k222_13 = denTop c222_13 1 [0,1,2,7,8,10] [0,1,2,7,8] [] [0,1,2,7,8,10] := by kernel_rfl
theorem e222_12 : k222_12 = denTop c222_12 1 [0,1,2,7,8] [] [] [0,1,2,7,8,10] := by kernel_rfl
theorem e222_11 : k222_11 = denTop c222_11 1 [0,1,2,7,8] [] [] [0,1,2,7,8,98] := by kernel_rfl
theorem e222_5 : k222_5 = denTop c222_5 2 [0,1,2,7,8] [] [6] [0,1,2,7,8] := by kernel_rfl
theorem e222_16 : k222_16 = denTop c222_16 1 [0,1,2,7,8] [0,1,2,7,8] [] [] := by kernel_rfl
theorem e222_2 : k222_2 = denTop c222_2 1 [0,1,2,7,8] [] [] [0,1,2,7,8] := by kernel_rfl
theorem e222_1 : k222_1 = denTop c222_1 1 [0,1,2,7] [] [] [0,1,2,7,8] := by kernel_rfl
theorem e222_17 : k222_17 = denTop c222_17 2 [] [6] [6] [] := by kernel_rfl
theorem e222_0 : k222_0 = denTop c222_0 2 [0,1,2] [] [] [0,1,2,7] := by kernel_rfl
theorem i222 : Impl b222 x222 := (.shal 2 _ _ _ _ rfl e222_0 (.seq (.shal 1 _ _ _ _ rfl e222_1 (.block (.loop (.shal 1 _ _ _ _ rfl e222_2 (.seq (.block (.seq (.block (.loop (.seq (.seq (.refl _) (.shal 1 _ _ _ _ rfl e222_3 (.refl _))) (.shal 1 _ _ _ _ rfl e222_4 (.refl _))))) (.shal 2 _ _ _ _ rfl e222_5 (.seq (.refl _) (.seq (.shal 1 _ _ _ _ rfl e222_6 (.cond (.shal 1 _ _ _ _ rfl e222_7 (.block (.loop (.shal 1 _ _ _ _ rfl e222_8 (.seq (.block (.shal 1 _ _ _ _ rfl e222_9 (.refl _))) (.shal 1 _ _ _ _ rfl e222_10 (.refl _))))))) (.refl _))) (.shal 1 _ _ _ _ rfl e222_11 (.cond (.shal 1 _ _ _ _ rfl e222_12 (.block (.loop (.shal 1 _ _ _ _ rfl e222_13 (.seq (.block (.shal 1 _ _ _ _ rfl e222_14 (.refl _))) (.shal 1 _ _ _ _ rfl e222_15 (.refl _))))))) (.refl _)))))))) (.shal 1 _ _ _ _ rfl e222_16 (.refl _))))))) (.shal 2 _ _ _ _ rfl e222_17 (.refl _))))
theorem e223_0 : k223_0 = denTop c223_0 1 [0,1] [] [] [0,1] := by kernel_rfl
theorem i223 : Impl b223 x223 := (.shal 1 _ _ _ _ rfl e223_0 (.seq (.refl _) (.refl _)))
theorem e224_2 : k224_2 = denTop c224_2 1 [0,1,9,10,43] [0,1,9,10] [] [] := by kernel_rfl
theorem e224_3 : k224_3 = denTop c224_3 1 [0,1,9,10] [0,1,9,10] [] [] := by kernel_rfl
theorem e224_4 : k224_4 = denTop c224_4 1 [0,1,9,10,59] [0,1,9,10] [] [] := by kernel_rfl
theorem e224_5 : k224_5 = denTop c224_5 1 [0,1,9,10] [0,1,9,10] [] [] := by kernel_rfl
theorem e224_7 : k224_7 = denTop c224_7 2 [0,1,9,10] [0,1,9,10] [] [] := by kernel_rfl
theorem e224_6 : k224_6 = denTop c224_6 1 [0,1,9,10] [9] [] [0,1,9,10] := by kernel_rfl
theorem e224_8 : k224_8 = denTop c224_8 2 [9] [8] [8] [] := by kernel_rfl
theorem e224_1 : k224_1 = denTop c224_1 1 [0,1,2] [] [] [0,1,9,10] := by kernel_rfl
theorem e224_0 : k224_0 = denTop c224_0 1 [0,1,2,3] [] [] [0,1,2,3] := by kernel_rfl
theorem i224 : Impl b224 x224 := (.shal 1 _ _ _ _ rfl e224_0 (.seq (.refl _) (.shal 1 _ _ _ _ rfl e224_1 (.seq (.block (.loop (.block (.seq (.block (.loop (.seq (.seq (.refl _) (.shal 1 _ _ _ _ rfl e224_2 (.refl _))) (.shal 1 _ _ _ _ rfl e224_3 (.refl _))))) (.seq (.block (.loop (.seq (.seq (.refl _) (.shal 1 _ _ _ _ rfl e224_4 (.refl _))) (.shal 1 _ _ _ _ rfl e224_5 (.refl _))))) (.shal 1 _ _ _ _ rfl e224_6 (.seq (.refl _) (.shal 2 _ _ _ _ rfl e224_7 (.refl _))))))))) (.shal 2 _ _ _ _ rfl e224_8 (.refl _))))))
theorem e225_2 : k225_2 = denTop c225_2 1 [0,1,10,11,43] [0,1,10,11] [] [] := by kernel_rfl
theorem e225_3 : k225_3 = denTop c225_3 1 [0,1,10,11] [0,1,10,11] [] [] := by kernel_rfl
theorem e225_4 : k225_4 = denTop c225_4 1 [0,1,10,11,60] [0,1,10,11] [] [] := by kernel_rfl
theorem e225_5 : k225_5 = denTop c225_5 1 [0,1,10,11] [0,1,10,11] [] [] := by kernel_rfl
theorem e225_7 : k225_7 = denTop c225_7 2 [11] [0,1,10,11] [8,9] [] := by kernel_rfl
theorem e225_6 : k225_6 = denTop c225_6 1 [0,1,10,11] [] [] [0,1,10,11,65] := by kernel_rfl
theorem e225_9 : k225_9 = denTop c225_9 1 [0,1,10,11,112] [0,1,10,11] [] [] := by kernel_rfl
theorem e225_10 : k225_10 = denTop c225_10 1 [0,1,10,11] [0,1,10,11] [] [] := by kernel_rfl
theorem e225_11 : k225_11 = denTop c225_11 1 [0,1,10,11,129] [0,1,10,11] [] [] := by kernel_rfl
theorem e225_12 : k225_12 = denTop c225_12 1 [0,1,10,11] [0,1,10,11] [] [] := by kernel_rfl
theorem e225_14 : k225_14 = denTop c225_14 2 [0,1,10,11] [0,1,10,11] [] [] := by kernel_rfl
theorem e225_13 : k225_13 = denTop c225_13 1 [0,1,10,11] [0,1,11] [] [0,1,10,11] := by kernel_rfl
theorem e225_15 : k225_15 = denTop c225_15 2 [11] [8,9] [8,9] [] := by kernel_rfl
theorem e225_8 : k225_8 = denTop c225_8 2 [0,1,10,11] [] [] [0,1,10,11] := by kernel_rfl
theorem e225_1 : k225_1 = denTop c225_1 1 [0,1,2] [] [] [0,1,10,11] := by kernel_rfl
theorem e225_0 : k225_0 = denTop c225_0 1 [0,1,2,3] [] [] [0,1,2,3] := by kernel_rfl
theorem i225 : Impl b225 x225 := (.shal 1 _ _ _ _ rfl e225_0 (.seq (.refl _) (.shal 1 _ _ _ _ rfl e225_1 (.seq (.block (.loop (.seq (.seq (.refl _) (.shal 1 _ _ _ _ rfl e225_2 (.refl _))) (.shal 1 _ _ _ _ rfl e225_3 (.refl _))))) (.seq (.block (.loop (.seq (.seq (.refl _) (.shal 1 _ _ _ _ rfl e225_4 (.refl _))) (.shal 1 _ _ _ _ rfl e225_5 (.refl _))))) (.seq (.shal 1 _ _ _ _ rfl e225_6 (.cond (.seq (.refl _) (.shal 2 _ _ _ _ rfl e225_7 (.refl _))) (.refl _))) (.seq (.refl _) (.shal 2 _ _ _ _ rfl e225_8 (.seq (.block (.loop (.block (.seq (.block (.loop (.seq (.seq (.refl _) (.shal 1 _ _ _ _ rfl e225_9 (.refl _))) (.shal 1 _ _ _ _ rfl e225_10 (.refl _))))) (.seq (.block (.loop (.seq (.seq (.refl _) (.shal 1 _ _ _ _ rfl e225_11 (.refl _))) (.shal 1 _ _ _ _ rfl e225_12 (.refl _))))) (.shal 1 _ _ _ _ rfl e225_13 (.seq (.refl _) (.shal 2 _ _ _ _ rfl e225_14 (.refl _))))))))) (.seq (.refl _) (.shal 2 _ _ _ _ rfl e225_15 (.refl _))))))))))))
theorem e226_2 : k226_2 = denTop c226_2 1 [0,2,3,4,10,11,40] [0,2,3,4,10,11] [] [] := by kernel_rfl
theorem e226_4 : k226_4 = denTop c226_4 1 [0,2,3,4,11] [0,2,3,4,10] [] [] := by kernel_rfl
theorem e226_3 : k226_3 = denTop c226_3 1 [0,2,3,4,10,11] [] [] [0,2,3,4,10,11] := by kernel_rfl
theorem e226_1 : k226_1 = denTop c226_1 2 [0,2,3,4,10] [] [] [0,2,3,4,10,11] := by kernel_rfl
theorem e226_0 : k226_0 = denTop c226_0 1 [0,1,2,3,4] [] [] [0,2,3,4,10] := by kernel_rfl
theorem i226 : Impl b226 x226 := (.shal 1 _ _ _ _ rfl e226_0 (.block (.loop (.block (.shal 2 _ _ _ _ rfl e226_1 (.seq (.seq (.refl _) (.shal 1 _ _ _ _ rfl e226_2 (.refl _))) (.shal 1 _ _ _ _ rfl e226_3 (.seq (.refl _) (.shal 1 _ _ _ _ rfl e226_4 (.refl _))))))))))
theorem e227_0 : k227_0 = denTop c227_0 3 [0] [2] [2] [] := by kernel_rfl
theorem i227 : Impl b227 x227 := (.shal 3 _ _ _ _ rfl e227_0 (.refl _))
theorem e228_1 : k228_1 = denTop c228_1 3 [0] [2] [2] [] := by kernel_rfl
theorem e228_0 : k228_0 = denTop c228_0 3 [0] [] [] [0] := by kernel_rfl
theorem i228 : Impl b228 x228 := (.shal 3 _ _ _ _ rfl e228_0 (.shal 3 _ _ _ _ rfl e228_1 (.refl _)))
theorem e229_0 : k229_0 = denTop c229_0 3 [0,1,2,3] [8] [8] [] := by kernel_rfl
theorem i229 : Impl b229 x229 := (.shal 3 _ _ _ _ rfl e229_0 (.refl _))
theorem e230_1 : k230_1 = denTop c230_1 3 [0,1,2,4,5] [12] [12] [] := by kernel_rfl
theorem e230_0 : k230_0 = denTop c230_0 3 [0,1,2,3,4,5] [] [] [0,1,2,4,5] := by kernel_rfl
theorem i230 : Impl b230 x230 := (.shal 3 _ _ _ _ rfl e230_0 (.shal 3 _ _ _ _ rfl e230_1 (.refl _)))
theorem e231_2 : k231_2 = denTop c231_2 1 [0,2,3,8,9,36] [0,2,3,8,9] [] [] := by kernel_rfl
theorem e231_4 : k231_4 = denTop c231_4 1 [0,2,3,9] [0,2,3,8] [] [] := by kernel_rfl
theorem e231_3 : k231_3 = denTop c231_3 1 [0,2,3,8,9] [] [] [0,2,3,8,9] := by kernel_rfl
theorem e231_1 : k231_1 = denTop c231_1 2 [0,2,3,8] [] [] [0,2,3,8,9] := by kernel_rfl
theorem e231_0 : k231_0 = denTop c231_0 1 [0,1,2,3] [] [] [0,2,3,8] := by kernel_rfl
theorem i231 : Impl b231 x231 := (.shal 1 _ _ _ _ rfl e231_0 (.block (.loop (.block (.shal 2 _ _ _ _ rfl e231_1 (.seq (.seq (.refl _) (.shal 1 _ _ _ _ rfl e231_2 (.refl _))) (.shal 1 _ _ _ _ rfl e231_3 (.seq (.refl _) (.shal 1 _ _ _ _ rfl e231_4 (.refl _))))))))))
theorem e232_0 : k232_0 = denTop c232_0 3 [0,1,2] [6] [6] [] := by kernel_rfl
theorem i232 : Impl b232 x232 := (.shal 3 _ _ _ _ rfl e232_0 (.refl _))
theorem e233_1 : k233_1 = denTop c233_1 3 [0,1,2,4] [10] [10] [] := by kernel_rfl
theorem e233_0 : k233_0 = denTop c233_0 3 [0,1,2,3,4] [] [] [0,1,2,4] := by kernel_rfl
theorem i233 : Impl b233 x233 := (.shal 3 _ _ _ _ rfl e233_0 (.shal 3 _ _ _ _ rfl e233_1 (.refl _)))
theorem e234_2 : k234_2 = denTop c234_2 2 [1,2] [10,11] [10,11] [] := by kernel_rfl
theorem e234_1 : k234_1 = denTop c234_1 1 [0,1,2,3,4] [] [10,11] [1,2] := by kernel_rfl
theorem e234_0 : k234_0 = denTop c234_0 1 [0,1,2,3,4] [] [] [0,1,2,3,4] := by kernel_rfl
theorem i234 : Impl b234 x234 := (.shal 1 _ _ _ _ rfl e234_0 (.shal 1 _ _ _ _ rfl e234_1 (.shal 2 _ _ _ _ rfl e234_2 (.refl _))))
theorem e235_1 : k235_1 = denTop c235_1 2 [1,2] [8,9] [8,9] [] := by kernel_rfl
theorem e235_0 : k235_0 = denTop c235_0 2 [0,1,2,3] [] [8,9] [1,2] := by kernel_rfl
theorem i235 : Impl b235 x235 := (.shal 2 _ _ _ _ rfl e235_0 (.shal 2 _ _ _ _ rfl e235_1 (.refl _)))
theorem e252_0 : k252_0 = denTop c252_0 2 [0,1,2,3,4] [] [] [] := by kernel_rfl
theorem i252 : Impl b252 x252 := (.seq (.refl _) (.shal 2 _ _ _ _ rfl e252_0 (.refl _)))
theorem e253_0 : k253_0 = denTop c253_0 1 [0,1,2,3] [] [] [] := by kernel_rfl
theorem i253 : Impl b253 x253 := (.shal 1 _ _ _ _ rfl e253_0 (.refl _))
theorem e254_1 : k254_1 = denTop c254_1 1 [2,3,8] [] [] [] := by kernel_rfl
theorem e254_0 : k254_0 = denTop c254_0 1 [0,1,2,3] [] [] [2,3,8] := by kernel_rfl
theorem i254 : Impl b254 x254 := (.shal 1 _ _ _ _ rfl e254_0 (.seq (.refl _) (.shal 1 _ _ _ _ rfl e254_1 (.refl _))))
theorem e255_0 : k255_0 = denTop c255_0 1 [0,1,2,3] [] [] [] := by kernel_rfl
theorem i255 : Impl b255 x255 := (.shal 1 _ _ _ _ rfl e255_0 (.refl _))
theorem e256_0 : k256_0 = denTop c256_0 1 [0,1,2,3] [] [] [] := by kernel_rfl
theorem i256 : Impl b256 x256 := (.shal 1 _ _ _ _ rfl e256_0 (.refl _))
end
end Go.Am.Seat
