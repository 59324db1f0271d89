import Derived.Test.YtjpepdpbplpccaaDoorGtFns
open Go Go.GP
namespace Gt
set_option maxRecDepth 100000

theorem c22 : ∀ a0, denF e22 ps22 rt22 (bodyOf Go.Proofs.Tryd.f22) an22 a0 = same_smallScope a0 := by
  intro a0
  kernel_rfl
theorem c7 : ∀ a0, denF e7 ps7 rt7 (bodyOf Go.Proofs.Tryd.f7) an7 a0 = same_SmallLaw a0 := by
  intro a0
  kernel_rfl
theorem c8 : ∀ a0, denF e8 ps8 rt8 (bodyOf Go.Proofs.Tryd.f8) an8 a0 = law54_few a0 := by
  intro a0
  kernel_rfl
theorem c10 : ∀ a0 a1, denF e10 ps10 rt10 (bodyOf Go.Proofs.Tryd.f10) an10 (a0, a1) = same_Strings a0 a1 := by
  intro a0 a1
  kernel_rfl
theorem c24 : ∀ a0 a1, denF e24 ps24 rt24 (bodyOf Go.Proofs.Tryd.f24) an24 (a0, a1) = report_scopeOf a0 a1 := by
  intro a0 a1
  kernel_rfl
theorem c31 : ∀ a0 a1, denF e31 ps31 rt31 (bodyOf Go.Proofs.Tryd.f31) an31 (a0, a1) = report_defName a0 a1 := by
  intro a0 a1
  kernel_rfl
theorem c32 : ∀ a0 a1, denF e32 ps32 rt32 (bodyOf Go.Proofs.Tryd.f32) an32 (a0, a1) = report_ruleName a0 a1 := by
  intro a0 a1
  kernel_rfl
theorem c27 : ∀ a0, denF e27 ps27 rt27 (bodyOf Go.Proofs.Tryd.f27) an27 a0 = numtext_FormatInt a0 := by
  intro a0
  kernel_rfl
theorem c63 : ∀ a0, denF e63 ps63 rt63 (bodyOf Go.Proofs.Tryd.f63) an63 a0 = numtext_clampPlaces a0 := by
  intro a0
  kernel_rfl
theorem c55 : ∀ a0 a1, denF e55 ps55 rt55 (bodyOf Go.Proofs.Tryd.f55) an55 (a0, a1) = numtext_FormatFixed a0 a1 := by
  intro a0 a1
  kernel_rfl
theorem c66 : ∀ a0 a1, denF e66 ps66 rt66 (bodyOf Go.Proofs.Tryd.f66) an66 (a0, a1) = value_ValidType a0 a1 := by
  intro a0 a1
  kernel_rfl
theorem c80 : ∀ a0 a1, denF e80 ps80 rt80 (bodyOf Go.Proofs.Tryd.f80) an80 (a0, a1) = value_Bounds a0 a1 := by
  intro a0 a1
  kernel_rfl
theorem c67 : ∀ a0 a1 a2, denF e67 ps67 rt67 (bodyOf Go.Proofs.Tryd.f67) an67 (a0, a1, a2) = value_within a0 a1 a2 := by
  intro a0 a1 a2
  kernel_rfl
theorem c81 : ∀ a0, denF e81 ps81 rt81 (bodyOf Go.Proofs.Tryd.f81) an81 a0 = date_valid a0 := by
  intro a0
  kernel_rfl
theorem c109 : ∀ a0, denF e109 ps109 rt109 (bodyOf Go.Proofs.Tryd.f109) an109 a0 = date_leapYears a0 := by
  intro a0
  kernel_rfl
theorem c97 : ∀ a0, denF e97 ps97 rt97 (bodyOf Go.Proofs.Tryd.f97) an97 a0 = date_yearStart a0 := by
  intro a0
  kernel_rfl
theorem c110 : ∀ a0, denF e110 ps110 rt110 (bodyOf Go.Proofs.Tryd.f110) an110 a0 = date_IsLeap a0 := by
  intro a0
  kernel_rfl
theorem c98 : ∀ a0 a1, denF e98 ps98 rt98 (bodyOf Go.Proofs.Tryd.f98) an98 (a0, a1) = date_DaysInMonth a0 a1 := by
  intro a0 a1
  kernel_rfl
theorem c82 : ∀ a0, denF e82 ps82 rt82 (bodyOf Go.Proofs.Tryd.f82) an82 a0 = date_ToYMD a0 := by
  intro a0
  kernel_rfl
theorem c83 : ∀ a0 a1, denF e83 ps83 rt83 (bodyOf Go.Proofs.Tryd.f83) an83 (a0, a1) = date_pad a0 a1 := by
  intro a0 a1
  kernel_rfl
theorem c68 : ∀ a0, denF e68 ps68 rt68 (bodyOf Go.Proofs.Tryd.f68) an68 a0 = date_Format a0 := by
  intro a0
  kernel_rfl
theorem c58 : ∀ a0 a1, denF e58 ps58 rt58 (bodyOf Go.Proofs.Tryd.f58) an58 (a0, a1) = value_Format a0 a1 := by
  intro a0 a1
  kernel_rfl
theorem c48 : ∀ a0 a1, denF e48 ps48 rt48 (bodyOf Go.Proofs.Tryd.f48) an48 (a0, a1) = report_valueText a0 a1 := by
  intro a0 a1
  kernel_rfl
theorem c25 : ∀ a0 a1 a2 a3 a4, denF e25 ps25 rt25 (bodyOf Go.Proofs.Tryd.f25) an25 (a0, a1, a2, a3, a4) = report_valueLine a0 a1 a2 a3 a4 := by
  intro a0 a1 a2 a3 a4
  kernel_rfl
theorem c26 : ∀ a0 a1, denF e26 ps26 rt26 (bodyOf Go.Proofs.Tryd.f26) an26 (a0, a1) = report_memberScope a0 a1 := by
  intro a0 a1
  kernel_rfl
theorem c11 : ∀ a0 a1 a2, denF e11 ps11 rt11 (bodyOf Go.Proofs.Tryd.f11) an11 (a0, a1, a2) = report_Result a0 a1 a2 := by
  intro a0 a1 a2
  kernel_rfl
theorem c13 : ∀ a0 a1 a2, denF e13 ps13 rt13 (bodyOf Go.Proofs.Tryd.f13) an13 (a0, a1, a2) = report_EvalError a0 a1 a2 := by
  intro a0 a1 a2
  kernel_rfl
theorem c61 : ∀ a0, denF e61 ps61 rt61 (bodyOf Go.Proofs.Tryd.f61) an61 a0 = month_valid a0 := by
  intro a0
  kernel_rfl
theorem c62 : ∀ a0 a1, denF e62 ps62 rt62 (bodyOf Go.Proofs.Tryd.f62) an62 (a0, a1) = month_pad a0 a1 := by
  intro a0 a1
  kernel_rfl
theorem c54 : ∀ a0, denF e54 ps54 rt54 (bodyOf Go.Proofs.Tryd.f54) an54 a0 = month_Format a0 := by
  intro a0
  kernel_rfl
theorem c35 : ∀ a0, denF e35 ps35 rt35 (bodyOf Go.Proofs.Tryd.f35) an35 a0 = report_monthText a0 := by
  intro a0
  kernel_rfl
theorem c36 : ∀ a0, denF e36 ps36 rt36 (bodyOf Go.Proofs.Tryd.f36) an36 a0 = report_amount a0 := by
  intro a0
  kernel_rfl
theorem c37 : ∀ a0, denF e37 ps37 rt37 (bodyOf Go.Proofs.Tryd.f37) an37 a0 = balance_Arrears a0 := by
  intro a0
  kernel_rfl
theorem c38 : ∀ a0, denF e38 ps38 rt38 (bodyOf Go.Proofs.Tryd.f38) an38 a0 = balance_Overpayment a0 := by
  intro a0
  kernel_rfl
theorem c16 : ∀ a0, denF e16 ps16 rt16 (bodyOf Go.Proofs.Tryd.f16) an16 a0 = report_Balances a0 := by
  intro a0
  kernel_rfl
theorem c49 : ∀ a0, denF e49 ps49 rt49 (bodyOf Go.Proofs.Tryd.f49) an49 a0 = report_kindText a0 := by
  intro a0
  kernel_rfl
theorem c20 : ∀ a0, denF e20 ps20 rt20 (bodyOf Go.Proofs.Tryd.f20) an20 a0 = report_Postings a0 := by
  intro a0
  kernel_rfl
theorem c23 : ∀ a0, denF e23 ps23 rt23 (bodyOf Go.Proofs.Tryd.f23) an23 a0 = same_TinyLaw a0 := by
  intro a0
  kernel_rfl
theorem c9 : denF e9 ps9 rt9 (bodyOf Go.Proofs.Tryd.f9) an9 () = law54_awake := by kernel_rfl
theorem c28 : ∀ a0 a1, denF e28 ps28 rt28 (bodyOf Go.Proofs.Tryd.f28) an28 (a0, a1) = ref54_scopeAt a0 a1 := by
  intro a0 a1
  kernel_rfl
theorem c33 : ∀ a0 a1, denF e33 ps33 rt33 (bodyOf Go.Proofs.Tryd.f33) an33 (a0, a1) = ref54_defName a0 a1 := by
  intro a0 a1
  kernel_rfl
theorem c34 : ∀ a0 a1, denF e34 ps34 rt34 (bodyOf Go.Proofs.Tryd.f34) an34 (a0, a1) = ref54_ruleName a0 a1 := by
  intro a0 a1
  kernel_rfl
theorem c53 : ∀ q0 a0, denF (e53 q0) ps53 rt53 (bodyOf Go.Proofs.Tryd.f53) an53 a0 = ref01_digits_step q0 a0 := by
  intro q0 a0
  kernel_rfl
theorem c30 : ∀ a0, denF e30 ps30 rt30 (bodyOf Go.Proofs.Tryd.f30) an30 a0 = ref01_FormatInt a0 := by
  intro a0
  kernel_rfl
theorem c43 : ∀ a0, denF e43 ps43 rt43 (bodyOf Go.Proofs.Tryd.f43) an43 a0 = ref01_clamp a0 := by
  intro a0
  kernel_rfl
theorem c45 : ∀ a0, denF e45 ps45 rt45 (bodyOf Go.Proofs.Tryd.f45) an45 a0 = ref01_sign a0 := by
  intro a0
  kernel_rfl
theorem c57 : ∀ a0 a1, denF e57 ps57 rt57 (bodyOf Go.Proofs.Tryd.f57) an57 (a0, a1) = ref01_FormatFixed a0 a1 := by
  intro a0 a1
  kernel_rfl
theorem c69 : ∀ a0 a1, denF e69 ps69 rt69 (bodyOf Go.Proofs.Tryd.f69) an69 (a0, a1) = ref09_ValidType a0 a1 := by
  intro a0 a1
  kernel_rfl
theorem c70 : ∀ a0, denF e70 ps70 rt70 (bodyOf Go.Proofs.Tryd.f70) an70 a0 = ref09_Type a0 := by
  intro a0
  kernel_rfl
theorem c99 : ∀ a0 a1, denF e99 ps99 rt99 (bodyOf Go.Proofs.Tryd.f99) an99 (a0, a1) = ref09_Bounds a0 a1 := by
  intro a0 a1
  kernel_rfl
theorem c84 : ∀ a0 a1 a2, denF e84 ps84 rt84 (bodyOf Go.Proofs.Tryd.f84) an84 (a0, a1, a2) = ref09_In a0 a1 a2 := by
  intro a0 a1 a2
  kernel_rfl
theorem c71 : ∀ a0 a1, denF e71 ps71 rt71 (bodyOf Go.Proofs.Tryd.f71) an71 (a0, a1) = ref09_Valid a0 a1 := by
  intro a0 a1
  kernel_rfl
theorem c85 : ∀ a0, denF e85 ps85 rt85 (bodyOf Go.Proofs.Tryd.f85) an85 a0 = ref04_Valid a0 := by
  intro a0
  kernel_rfl
theorem c111 : ∀ a0, denF e111 ps111 rt111 (bodyOf Go.Proofs.Tryd.f111) an111 a0 = ref04_IsLeap a0 := by
  intro a0
  kernel_rfl
theorem c100 : ∀ a0, denF e100 ps100 rt100 (bodyOf Go.Proofs.Tryd.f100) an100 a0 = ref04_daysInYear a0 := by
  intro a0
  kernel_rfl
theorem c101 : ∀ a0 a1, denF e101 ps101 rt101 (bodyOf Go.Proofs.Tryd.f101) an101 (a0, a1) = ref04_DaysInMonth a0 a1 := by
  intro a0 a1
  kernel_rfl
theorem c86 : ∀ a0, denF e86 ps86 rt86 (bodyOf Go.Proofs.Tryd.f86) an86 a0 = ref04_ToYMD a0 := by
  intro a0
  kernel_rfl
theorem c87 : ∀ a0 a1, denF e87 ps87 rt87 (bodyOf Go.Proofs.Tryd.f87) an87 (a0, a1) = ref04_pad a0 a1 := by
  intro a0 a1
  kernel_rfl
theorem c72 : ∀ a0, denF e72 ps72 rt72 (bodyOf Go.Proofs.Tryd.f72) an72 a0 = ref04_Format a0 := by
  intro a0
  kernel_rfl
theorem c59 : ∀ a0 a1, denF e59 ps59 rt59 (bodyOf Go.Proofs.Tryd.f59) an59 (a0, a1) = ref09_Format a0 a1 := by
  intro a0 a1
  kernel_rfl
theorem c50 : ∀ a0 a1, denF e50 ps50 rt50 (bodyOf Go.Proofs.Tryd.f50) an50 (a0, a1) = ref54_valueText a0 a1 := by
  intro a0 a1
  kernel_rfl
theorem c29 : ∀ a0 a1 a2 a3 a4 a5, denF e29 ps29 rt29 (bodyOf Go.Proofs.Tryd.f29) an29 (a0, a1, a2, a3, a4, a5) = ref54_lines a0 a1 a2 a3 a4 a5 := by
  intro a0 a1 a2 a3 a4 a5
  kernel_rfl
theorem c12 : ∀ a0 a1 a2, denF e12 ps12 rt12 (bodyOf Go.Proofs.Tryd.f12) an12 (a0, a1, a2) = ref54_Result a0 a1 a2 := by
  intro a0 a1 a2
  kernel_rfl
theorem c3 : ∀ a0 a1 a2, denF e3 ps3 rt3 (bodyOf Go.Proofs.Tryd.f3) an3 (a0, a1, a2) = law54_ReportResult a0 a1 a2 := by
  intro a0 a1 a2
  kernel_rfl
theorem c14 : ∀ a0 a1 a2, denF e14 ps14 rt14 (bodyOf Go.Proofs.Tryd.f14) an14 (a0, a1, a2) = ref54_EvalError a0 a1 a2 := by
  intro a0 a1 a2
  kernel_rfl
theorem c4 : ∀ a0 a1 a2, denF e4 ps4 rt4 (bodyOf Go.Proofs.Tryd.f4) an4 (a0, a1, a2) = law54_ReportEvalError a0 a1 a2 := by
  intro a0 a1 a2
  kernel_rfl
theorem c15 : ∀ a0 a1, denF e15 ps15 rt15 (bodyOf Go.Proofs.Tryd.f15) an15 (a0, a1) = ref38_Within a0 a1 := by
  intro a0 a1
  kernel_rfl
theorem c65 : ∀ a0, denF e65 ps65 rt65 (bodyOf Go.Proofs.Tryd.f65) an65 a0 = ref07_valid a0 := by
  intro a0
  kernel_rfl
theorem c56 : ∀ a0, denF e56 ps56 rt56 (bodyOf Go.Proofs.Tryd.f56) an56 a0 = ref07_Format a0 := by
  intro a0
  kernel_rfl
theorem c39 : ∀ a0, denF e39 ps39 rt39 (bodyOf Go.Proofs.Tryd.f39) an39 a0 = ref54_monthText a0 := by
  intro a0
  kernel_rfl
theorem c40 : ∀ a0, denF e40 ps40 rt40 (bodyOf Go.Proofs.Tryd.f40) an40 a0 = ref54_amount a0 := by
  intro a0
  kernel_rfl
theorem c41 : ∀ a0, denF e41 ps41 rt41 (bodyOf Go.Proofs.Tryd.f41) an41 a0 = ref38_Arrears a0 := by
  intro a0
  kernel_rfl
theorem c42 : ∀ a0, denF e42 ps42 rt42 (bodyOf Go.Proofs.Tryd.f42) an42 a0 = ref38_Overpayment a0 := by
  intro a0
  kernel_rfl
theorem c17 : ∀ a0, denF e17 ps17 rt17 (bodyOf Go.Proofs.Tryd.f17) an17 a0 = ref54_Balances a0 := by
  intro a0
  kernel_rfl
theorem c18 : ∀ a0, denF e18 ps18 rt18 (bodyOf Go.Proofs.Tryd.f18) an18 a0 = ref01_Fields a0 := by
  intro a0
  kernel_rfl
theorem c46 : ∀ a0, denF e46 ps46 rt46 (bodyOf Go.Proofs.Tryd.f46) an46 a0 = ref01_allDigits a0 := by
  intro a0
  kernel_rfl
theorem c47 : ∀ a0 a1, denF e47 ps47 rt47 (bodyOf Go.Proofs.Tryd.f47) an47 (a0, a1) = ref01_number a0 a1 := by
  intro a0 a1
  kernel_rfl
theorem c44 : ∀ a0, denF e44 ps44 rt44 (bodyOf Go.Proofs.Tryd.f44) an44 a0 = ref01_ParseInt a0 := by
  intro a0
  kernel_rfl
theorem c19 : ∀ a0 a1, denF e19 ps19 rt19 (bodyOf Go.Proofs.Tryd.f19) an19 (a0, a1) = ref01_ParseFixed a0 a1 := by
  intro a0 a1
  kernel_rfl
theorem c5 : ∀ a0, denF e5 ps5 rt5 (bodyOf Go.Proofs.Tryd.f5) an5 a0 = law54_ReportBalances a0 := by
  intro a0
  kernel_rfl
theorem c51 : ∀ a0, denF e51 ps51 rt51 (bodyOf Go.Proofs.Tryd.f51) an51 a0 = ref54_kindText a0 := by
  intro a0
  kernel_rfl
theorem c21 : ∀ a0, denF e21 ps21 rt21 (bodyOf Go.Proofs.Tryd.f21) an21 a0 = ref54_Postings a0 := by
  intro a0
  kernel_rfl
theorem c6 : ∀ a0, denF e6 ps6 rt6 (bodyOf Go.Proofs.Tryd.f6) an6 a0 = law54_ReportPostings a0 := by
  intro a0
  kernel_rfl
end Gt
