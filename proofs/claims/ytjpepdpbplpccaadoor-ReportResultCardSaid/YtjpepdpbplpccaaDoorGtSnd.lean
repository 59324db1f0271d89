import Derived.Test.YtjpepdpbplpccaaDoorGtChk
import Derived.Test.YtjpepdpbplpccaaDoorShelf
open Go Go.GP
set_option linter.unusedVariables false
set_option linter.unusedSectionVars false
namespace Gt
set_option maxRecDepth 100000
theorem tt_ok : ttChk Go.Proofs.Tryd.prog tt = true := by kernel_rfl
theorem eqs_ok : ∀ t, memN t eqs = true → EqSound Go.Proofs.Tryd.prog t := fun t h => by cases h
theorem snd22 : FSound Go.Proofs.Tryd.prog gl 22 s22 :=
  denF_sound (f := 22) (fn := Go.Proofs.Tryd.f22) (c := bodyOf Go.Proofs.Tryd.f22) (rt := rt22) (ps := ps22) (E := e22) (an := an22) (by kernel_rfl) (by kernel_rfl) (by kernel_rfl) (by kernel_rfl)
    (envOk_of (by kernel_rfl) tt_ok eqs_ok (by kernel_rfl) trivial) (fun x r h => (c22 x).trans h)
theorem snd7 : FSound Go.Proofs.Tryd.prog gl 7 s7 :=
  denF_sound (f := 7) (fn := Go.Proofs.Tryd.f7) (c := bodyOf Go.Proofs.Tryd.f7) (rt := rt7) (ps := ps7) (E := e7) (an := an7) (by kernel_rfl) (by kernel_rfl) (by kernel_rfl) (by kernel_rfl)
    (envOk_of (by kernel_rfl) tt_ok eqs_ok (by kernel_rfl) ⟨snd22, trivial⟩) (fun x r h => (c7 x).trans h)
theorem snd8 : FSound Go.Proofs.Tryd.prog gl 8 s8 :=
  denF_sound (f := 8) (fn := Go.Proofs.Tryd.f8) (c := bodyOf Go.Proofs.Tryd.f8) (rt := rt8) (ps := ps8) (E := e8) (an := an8) (by kernel_rfl) (by kernel_rfl) (by kernel_rfl) (by kernel_rfl)
    (envOk_of (by kernel_rfl) tt_ok eqs_ok (by kernel_rfl) trivial) (fun x r h => (c8 x).trans h)
theorem snd10 : FSound Go.Proofs.Tryd.prog gl 10 s10 :=
  denF_sound (f := 10) (fn := Go.Proofs.Tryd.f10) (c := bodyOf Go.Proofs.Tryd.f10) (rt := rt10) (ps := ps10) (E := e10) (an := an10) (by kernel_rfl) (by kernel_rfl) (by kernel_rfl) (by kernel_rfl)
    (envOk_of (by kernel_rfl) tt_ok eqs_ok (by kernel_rfl) trivial) (fun x r h => (c10 x.1 x.2).trans h)
theorem snd24 : FSound Go.Proofs.Tryd.prog gl 24 s24 :=
  denF_sound (f := 24) (fn := Go.Proofs.Tryd.f24) (c := bodyOf Go.Proofs.Tryd.f24) (rt := rt24) (ps := ps24) (E := e24) (an := an24) (by kernel_rfl) (by kernel_rfl) (by kernel_rfl) (by kernel_rfl)
    (envOk_of (by kernel_rfl) tt_ok eqs_ok (by kernel_rfl) trivial) (fun x r h => (c24 x.1 x.2).trans h)
theorem snd31 : FSound Go.Proofs.Tryd.prog gl 31 s31 :=
  denF_sound (f := 31) (fn := Go.Proofs.Tryd.f31) (c := bodyOf Go.Proofs.Tryd.f31) (rt := rt31) (ps := ps31) (E := e31) (an := an31) (by kernel_rfl) (by kernel_rfl) (by kernel_rfl) (by kernel_rfl)
    (envOk_of (by kernel_rfl) tt_ok eqs_ok (by kernel_rfl) trivial) (fun x r h => (c31 x.1 x.2).trans h)
theorem snd32 : FSound Go.Proofs.Tryd.prog gl 32 s32 :=
  denF_sound (f := 32) (fn := Go.Proofs.Tryd.f32) (c := bodyOf Go.Proofs.Tryd.f32) (rt := rt32) (ps := ps32) (E := e32) (an := an32) (by kernel_rfl) (by kernel_rfl) (by kernel_rfl) (by kernel_rfl)
    (envOk_of (by kernel_rfl) tt_ok eqs_ok (by kernel_rfl) trivial) (fun x r h => (c32 x.1 x.2).trans h)
theorem snd52 : FSound Go.Proofs.Tryd.prog gl 52 s52 := itoa_sound (g := 0) Go.Proofs.Tryd.strconv_Itoa (by kernel_rfl) (by kernel_rfl)
theorem snd27 : FSound Go.Proofs.Tryd.prog gl 27 s27 :=
  denF_sound (f := 27) (fn := Go.Proofs.Tryd.f27) (c := bodyOf Go.Proofs.Tryd.f27) (rt := rt27) (ps := ps27) (E := e27) (an := an27) (by kernel_rfl) (by kernel_rfl) (by kernel_rfl) (by kernel_rfl)
    (envOk_of (by kernel_rfl) tt_ok eqs_ok (by kernel_rfl) ⟨snd52, trivial⟩) (fun x r h => (c27 x).trans h)
theorem snd63 : FSound Go.Proofs.Tryd.prog gl 63 s63 :=
  denF_sound (f := 63) (fn := Go.Proofs.Tryd.f63) (c := bodyOf Go.Proofs.Tryd.f63) (rt := rt63) (ps := ps63) (E := e63) (an := an63) (by kernel_rfl) (by kernel_rfl) (by kernel_rfl) (by kernel_rfl)
    (envOk_of (by kernel_rfl) tt_ok eqs_ok (by kernel_rfl) trivial) (fun x r h => (c63 x).trans h)
theorem snd64 : FSound Go.Proofs.Tryd.prog gl 64 s64 := repeat_sound Go.Proofs.Tryd.strings_Repeat
theorem snd55 : FSound Go.Proofs.Tryd.prog gl 55 s55 :=
  denF_sound (f := 55) (fn := Go.Proofs.Tryd.f55) (c := bodyOf Go.Proofs.Tryd.f55) (rt := rt55) (ps := ps55) (E := e55) (an := an55) (by kernel_rfl) (by kernel_rfl) (by kernel_rfl) (by kernel_rfl)
    (envOk_of (by kernel_rfl) tt_ok eqs_ok (by kernel_rfl) ⟨snd27, snd63, snd64, trivial⟩) (fun x r h => (c55 x.1 x.2).trans h)
theorem snd66 : FSound Go.Proofs.Tryd.prog gl 66 s66 :=
  denF_sound (f := 66) (fn := Go.Proofs.Tryd.f66) (c := bodyOf Go.Proofs.Tryd.f66) (rt := rt66) (ps := ps66) (E := e66) (an := an66) (by kernel_rfl) (by kernel_rfl) (by kernel_rfl) (by kernel_rfl)
    (envOk_of (by kernel_rfl) tt_ok eqs_ok (by kernel_rfl) trivial) (fun x r h => (c66 x.1 x.2).trans h)
theorem snd80 : FSound Go.Proofs.Tryd.prog gl 80 s80 :=
  denF_sound (f := 80) (fn := Go.Proofs.Tryd.f80) (c := bodyOf Go.Proofs.Tryd.f80) (rt := rt80) (ps := ps80) (E := e80) (an := an80) (by kernel_rfl) (by kernel_rfl) (by kernel_rfl) (by kernel_rfl)
    (envOk_of (by kernel_rfl) tt_ok eqs_ok (by kernel_rfl) ⟨snd66, trivial⟩) (fun x r h => (c80 x.1 x.2).trans h)
theorem snd67 : FSound Go.Proofs.Tryd.prog gl 67 s67 :=
  denF_sound (f := 67) (fn := Go.Proofs.Tryd.f67) (c := bodyOf Go.Proofs.Tryd.f67) (rt := rt67) (ps := ps67) (E := e67) (an := an67) (by kernel_rfl) (by kernel_rfl) (by kernel_rfl) (by kernel_rfl)
    (envOk_of (by kernel_rfl) tt_ok eqs_ok (by kernel_rfl) ⟨snd80, trivial⟩) (fun x r h => (c67 x.1 x.2.1 x.2.2).trans h)
theorem snd81 : FSound Go.Proofs.Tryd.prog gl 81 s81 :=
  denF_sound (f := 81) (fn := Go.Proofs.Tryd.f81) (c := bodyOf Go.Proofs.Tryd.f81) (rt := rt81) (ps := ps81) (E := e81) (an := an81) (by kernel_rfl) (by kernel_rfl) (by kernel_rfl) (by kernel_rfl)
    (envOk_of (by kernel_rfl) tt_ok eqs_ok (by kernel_rfl) trivial) (fun x r h => (c81 x).trans h)
theorem snd109 : FSound Go.Proofs.Tryd.prog gl 109 s109 :=
  denF_sound (f := 109) (fn := Go.Proofs.Tryd.f109) (c := bodyOf Go.Proofs.Tryd.f109) (rt := rt109) (ps := ps109) (E := e109) (an := an109) (by kernel_rfl) (by kernel_rfl) (by kernel_rfl) (by kernel_rfl)
    (envOk_of (by kernel_rfl) tt_ok eqs_ok (by kernel_rfl) trivial) (fun x r h => (c109 x).trans h)
theorem snd97 : FSound Go.Proofs.Tryd.prog gl 97 s97 :=
  denF_sound (f := 97) (fn := Go.Proofs.Tryd.f97) (c := bodyOf Go.Proofs.Tryd.f97) (rt := rt97) (ps := ps97) (E := e97) (an := an97) (by kernel_rfl) (by kernel_rfl) (by kernel_rfl) (by kernel_rfl)
    (envOk_of (by kernel_rfl) tt_ok eqs_ok (by kernel_rfl) ⟨snd109, trivial⟩) (fun x r h => (c97 x).trans h)
theorem snd110 : FSound Go.Proofs.Tryd.prog gl 110 s110 :=
  denF_sound (f := 110) (fn := Go.Proofs.Tryd.f110) (c := bodyOf Go.Proofs.Tryd.f110) (rt := rt110) (ps := ps110) (E := e110) (an := an110) (by kernel_rfl) (by kernel_rfl) (by kernel_rfl) (by kernel_rfl)
    (envOk_of (by kernel_rfl) tt_ok eqs_ok (by kernel_rfl) trivial) (fun x r h => (c110 x).trans h)
theorem snd98 : FSound Go.Proofs.Tryd.prog gl 98 s98 :=
  denF_sound (f := 98) (fn := Go.Proofs.Tryd.f98) (c := bodyOf Go.Proofs.Tryd.f98) (rt := rt98) (ps := ps98) (E := e98) (an := an98) (by kernel_rfl) (by kernel_rfl) (by kernel_rfl) (by kernel_rfl)
    (envOk_of (by kernel_rfl) tt_ok eqs_ok (by kernel_rfl) ⟨snd110, trivial⟩) (fun x r h => (c98 x.1 x.2).trans h)
theorem snd82 : FSound Go.Proofs.Tryd.prog gl 82 s82 :=
  denF_sound (f := 82) (fn := Go.Proofs.Tryd.f82) (c := bodyOf Go.Proofs.Tryd.f82) (rt := rt82) (ps := ps82) (E := e82) (an := an82) (by kernel_rfl) (by kernel_rfl) (by kernel_rfl) (by kernel_rfl)
    (envOk_of (by kernel_rfl) tt_ok eqs_ok (by kernel_rfl) ⟨snd81, snd97, snd98, trivial⟩) (fun x r h => (c82 x).trans h)
theorem snd83 : FSound Go.Proofs.Tryd.prog gl 83 s83 :=
  denF_sound (f := 83) (fn := Go.Proofs.Tryd.f83) (c := bodyOf Go.Proofs.Tryd.f83) (rt := rt83) (ps := ps83) (E := e83) (an := an83) (by kernel_rfl) (by kernel_rfl) (by kernel_rfl) (by kernel_rfl)
    (envOk_of (by kernel_rfl) tt_ok eqs_ok (by kernel_rfl) ⟨snd27, snd64, trivial⟩) (fun x r h => (c83 x.1 x.2).trans h)
theorem snd68 : FSound Go.Proofs.Tryd.prog gl 68 s68 :=
  denF_sound (f := 68) (fn := Go.Proofs.Tryd.f68) (c := bodyOf Go.Proofs.Tryd.f68) (rt := rt68) (ps := ps68) (E := e68) (an := an68) (by kernel_rfl) (by kernel_rfl) (by kernel_rfl) (by kernel_rfl)
    (envOk_of (by kernel_rfl) tt_ok eqs_ok (by kernel_rfl) ⟨snd81, snd82, snd83, trivial⟩) (fun x r h => (c68 x).trans h)
theorem snd58 : FSound Go.Proofs.Tryd.prog gl 58 s58 :=
  denF_sound (f := 58) (fn := Go.Proofs.Tryd.f58) (c := bodyOf Go.Proofs.Tryd.f58) (rt := rt58) (ps := ps58) (E := e58) (an := an58) (by kernel_rfl) (by kernel_rfl) (by kernel_rfl) (by kernel_rfl)
    (envOk_of (by kernel_rfl) tt_ok eqs_ok (by kernel_rfl) ⟨snd27, snd55, snd66, snd67, snd68, trivial⟩) (fun x r h => (c58 x.1 x.2).trans h)
theorem snd48 : FSound Go.Proofs.Tryd.prog gl 48 s48 :=
  denF_sound (f := 48) (fn := Go.Proofs.Tryd.f48) (c := bodyOf Go.Proofs.Tryd.f48) (rt := rt48) (ps := ps48) (E := e48) (an := an48) (by kernel_rfl) (by kernel_rfl) (by kernel_rfl) (by kernel_rfl)
    (envOk_of (by kernel_rfl) tt_ok eqs_ok (by kernel_rfl) ⟨snd58, trivial⟩) (fun x r h => (c48 x.1 x.2).trans h)
theorem snd25 : FSound Go.Proofs.Tryd.prog gl 25 s25 :=
  denF_sound (f := 25) (fn := Go.Proofs.Tryd.f25) (c := bodyOf Go.Proofs.Tryd.f25) (rt := rt25) (ps := ps25) (E := e25) (an := an25) (by kernel_rfl) (by kernel_rfl) (by kernel_rfl) (by kernel_rfl)
    (envOk_of (by kernel_rfl) tt_ok eqs_ok (by kernel_rfl) ⟨snd31, snd32, snd48, trivial⟩) (fun x r h => (c25 x.1 x.2.1 x.2.2.1 x.2.2.2.1 x.2.2.2.2).trans h)
theorem snd26 : FSound Go.Proofs.Tryd.prog gl 26 s26 :=
  denF_sound (f := 26) (fn := Go.Proofs.Tryd.f26) (c := bodyOf Go.Proofs.Tryd.f26) (rt := rt26) (ps := ps26) (E := e26) (an := an26) (by kernel_rfl) (by kernel_rfl) (by kernel_rfl) (by kernel_rfl)
    (envOk_of (by kernel_rfl) tt_ok eqs_ok (by kernel_rfl) ⟨snd24, trivial⟩) (fun x r h => (c26 x.1 x.2).trans h)
theorem snd11 : FSound Go.Proofs.Tryd.prog gl 11 s11 :=
  denF_sound (f := 11) (fn := Go.Proofs.Tryd.f11) (c := bodyOf Go.Proofs.Tryd.f11) (rt := rt11) (ps := ps11) (E := e11) (an := an11) (by kernel_rfl) (by kernel_rfl) (by kernel_rfl) (by kernel_rfl)
    (envOk_of (by kernel_rfl) tt_ok eqs_ok (by kernel_rfl) ⟨snd24, snd25, snd26, snd27, trivial⟩) (fun x r h => (c11 x.1 x.2.1 x.2.2).trans h)
theorem snd13 : FSound Go.Proofs.Tryd.prog gl 13 s13 :=
  denF_sound (f := 13) (fn := Go.Proofs.Tryd.f13) (c := bodyOf Go.Proofs.Tryd.f13) (rt := rt13) (ps := ps13) (E := e13) (an := an13) (by kernel_rfl) (by kernel_rfl) (by kernel_rfl) (by kernel_rfl)
    (envOk_of (by kernel_rfl) tt_ok eqs_ok (by kernel_rfl) ⟨snd24, snd26, snd27, snd31, snd32, trivial⟩) (fun x r h => (c13 x.1 x.2.1 x.2.2).trans h)
theorem snd61 : FSound Go.Proofs.Tryd.prog gl 61 s61 :=
  denF_sound (f := 61) (fn := Go.Proofs.Tryd.f61) (c := bodyOf Go.Proofs.Tryd.f61) (rt := rt61) (ps := ps61) (E := e61) (an := an61) (by kernel_rfl) (by kernel_rfl) (by kernel_rfl) (by kernel_rfl)
    (envOk_of (by kernel_rfl) tt_ok eqs_ok (by kernel_rfl) trivial) (fun x r h => (c61 x).trans h)
theorem snd62 : FSound Go.Proofs.Tryd.prog gl 62 s62 :=
  denF_sound (f := 62) (fn := Go.Proofs.Tryd.f62) (c := bodyOf Go.Proofs.Tryd.f62) (rt := rt62) (ps := ps62) (E := e62) (an := an62) (by kernel_rfl) (by kernel_rfl) (by kernel_rfl) (by kernel_rfl)
    (envOk_of (by kernel_rfl) tt_ok eqs_ok (by kernel_rfl) ⟨snd27, snd64, trivial⟩) (fun x r h => (c62 x.1 x.2).trans h)
theorem snd54 : FSound Go.Proofs.Tryd.prog gl 54 s54 :=
  denF_sound (f := 54) (fn := Go.Proofs.Tryd.f54) (c := bodyOf Go.Proofs.Tryd.f54) (rt := rt54) (ps := ps54) (E := e54) (an := an54) (by kernel_rfl) (by kernel_rfl) (by kernel_rfl) (by kernel_rfl)
    (envOk_of (by kernel_rfl) tt_ok eqs_ok (by kernel_rfl) ⟨snd61, snd62, trivial⟩) (fun x r h => (c54 x).trans h)
theorem snd35 : FSound Go.Proofs.Tryd.prog gl 35 s35 :=
  denF_sound (f := 35) (fn := Go.Proofs.Tryd.f35) (c := bodyOf Go.Proofs.Tryd.f35) (rt := rt35) (ps := ps35) (E := e35) (an := an35) (by kernel_rfl) (by kernel_rfl) (by kernel_rfl) (by kernel_rfl)
    (envOk_of (by kernel_rfl) tt_ok eqs_ok (by kernel_rfl) ⟨snd54, trivial⟩) (fun x r h => (c35 x).trans h)
theorem snd36 : FSound Go.Proofs.Tryd.prog gl 36 s36 :=
  denF_sound (f := 36) (fn := Go.Proofs.Tryd.f36) (c := bodyOf Go.Proofs.Tryd.f36) (rt := rt36) (ps := ps36) (E := e36) (an := an36) (by kernel_rfl) (by kernel_rfl) (by kernel_rfl) (by kernel_rfl)
    (envOk_of (by kernel_rfl) tt_ok eqs_ok (by kernel_rfl) ⟨snd55, trivial⟩) (fun x r h => (c36 x).trans h)
theorem snd37 : FSound Go.Proofs.Tryd.prog gl 37 s37 :=
  denF_sound (f := 37) (fn := Go.Proofs.Tryd.f37) (c := bodyOf Go.Proofs.Tryd.f37) (rt := rt37) (ps := ps37) (E := e37) (an := an37) (by kernel_rfl) (by kernel_rfl) (by kernel_rfl) (by kernel_rfl)
    (envOk_of (by kernel_rfl) tt_ok eqs_ok (by kernel_rfl) trivial) (fun x r h => (c37 x).trans h)
theorem snd38 : FSound Go.Proofs.Tryd.prog gl 38 s38 :=
  denF_sound (f := 38) (fn := Go.Proofs.Tryd.f38) (c := bodyOf Go.Proofs.Tryd.f38) (rt := rt38) (ps := ps38) (E := e38) (an := an38) (by kernel_rfl) (by kernel_rfl) (by kernel_rfl) (by kernel_rfl)
    (envOk_of (by kernel_rfl) tt_ok eqs_ok (by kernel_rfl) trivial) (fun x r h => (c38 x).trans h)
theorem snd16 : FSound Go.Proofs.Tryd.prog gl 16 s16 :=
  denF_sound (f := 16) (fn := Go.Proofs.Tryd.f16) (c := bodyOf Go.Proofs.Tryd.f16) (rt := rt16) (ps := ps16) (E := e16) (an := an16) (by kernel_rfl) (by kernel_rfl) (by kernel_rfl) (by kernel_rfl)
    (envOk_of (by kernel_rfl) tt_ok eqs_ok (by kernel_rfl) ⟨snd35, snd36, snd37, snd38, trivial⟩) (fun x r h => (c16 x).trans h)
theorem snd49 : FSound Go.Proofs.Tryd.prog gl 49 s49 :=
  denF_sound (f := 49) (fn := Go.Proofs.Tryd.f49) (c := bodyOf Go.Proofs.Tryd.f49) (rt := rt49) (ps := ps49) (E := e49) (an := an49) (by kernel_rfl) (by kernel_rfl) (by kernel_rfl) (by kernel_rfl)
    (envOk_of (by kernel_rfl) tt_ok eqs_ok (by kernel_rfl) trivial) (fun x r h => (c49 x).trans h)
theorem snd20 : FSound Go.Proofs.Tryd.prog gl 20 s20 :=
  denF_sound (f := 20) (fn := Go.Proofs.Tryd.f20) (c := bodyOf Go.Proofs.Tryd.f20) (rt := rt20) (ps := ps20) (E := e20) (an := an20) (by kernel_rfl) (by kernel_rfl) (by kernel_rfl) (by kernel_rfl)
    (envOk_of (by kernel_rfl) tt_ok eqs_ok (by kernel_rfl) ⟨snd35, snd36, snd48, snd49, trivial⟩) (fun x r h => (c20 x).trans h)
theorem snd23 : FSound Go.Proofs.Tryd.prog gl 23 s23 :=
  denF_sound (f := 23) (fn := Go.Proofs.Tryd.f23) (c := bodyOf Go.Proofs.Tryd.f23) (rt := rt23) (ps := ps23) (E := e23) (an := an23) (by kernel_rfl) (by kernel_rfl) (by kernel_rfl) (by kernel_rfl)
    (envOk_of (by kernel_rfl) tt_ok eqs_ok (by kernel_rfl) trivial) (fun x r h => (c23 x).trans h)
theorem snd9 : FSound Go.Proofs.Tryd.prog gl 9 s9 :=
  denF_sound (f := 9) (fn := Go.Proofs.Tryd.f9) (c := bodyOf Go.Proofs.Tryd.f9) (rt := rt9) (ps := ps9) (E := e9) (an := an9) (by kernel_rfl) (by kernel_rfl) (by kernel_rfl) (by kernel_rfl)
    (envOk_of (by kernel_rfl) tt_ok eqs_ok (by kernel_rfl) ⟨snd10, snd11, snd13, snd16, snd20, snd23, trivial⟩) (fun x r h => (c9).trans h)
theorem snd28 : FSound Go.Proofs.Tryd.prog gl 28 s28 :=
  denF_sound (f := 28) (fn := Go.Proofs.Tryd.f28) (c := bodyOf Go.Proofs.Tryd.f28) (rt := rt28) (ps := ps28) (E := e28) (an := an28) (by kernel_rfl) (by kernel_rfl) (by kernel_rfl) (by kernel_rfl)
    (envOk_of (by kernel_rfl) tt_ok eqs_ok (by kernel_rfl) trivial) (fun x r h => (c28 x.1 x.2).trans h)
theorem snd33 : FSound Go.Proofs.Tryd.prog gl 33 s33 :=
  denF_sound (f := 33) (fn := Go.Proofs.Tryd.f33) (c := bodyOf Go.Proofs.Tryd.f33) (rt := rt33) (ps := ps33) (E := e33) (an := an33) (by kernel_rfl) (by kernel_rfl) (by kernel_rfl) (by kernel_rfl)
    (envOk_of (by kernel_rfl) tt_ok eqs_ok (by kernel_rfl) trivial) (fun x r h => (c33 x.1 x.2).trans h)
theorem snd34 : FSound Go.Proofs.Tryd.prog gl 34 s34 :=
  denF_sound (f := 34) (fn := Go.Proofs.Tryd.f34) (c := bodyOf Go.Proofs.Tryd.f34) (rt := rt34) (ps := ps34) (E := e34) (an := an34) (by kernel_rfl) (by kernel_rfl) (by kernel_rfl) (by kernel_rfl)
    (envOk_of (by kernel_rfl) tt_ok eqs_ok (by kernel_rfl) trivial) (fun x r h => (c34 x.1 x.2).trans h)
theorem sndn53 : ∀ n, FSound Go.Proofs.Tryd.prog gl 53 ⟨ps53, [(false, (.dat .str))], [], fun x => (ref01_digits_scc n) x⟩ := by
  intro n
  induction n with
  | zero => exact fun w ok O vals x r _ _ _ _ _ h => by cases h
  | succ n ih => exact denF_sound (f := 53) (fn := Go.Proofs.Tryd.f53) (c := bodyOf Go.Proofs.Tryd.f53) (rt := rt53) (ps := ps53) (E := (e53 (ref01_digits_scc n))) (an := an53) (by kernel_rfl) (by kernel_rfl) (by kernel_rfl) (by kernel_rfl) (envOk_of (by kernel_rfl) tt_ok eqs_ok (by kernel_rfl) ⟨ih, trivial⟩) (fun x r h => (c53 _ x).trans h)
theorem snd53 : FSound Go.Proofs.Tryd.prog gl 53 s53 := (sndn53 fuel)
theorem snd30 : FSound Go.Proofs.Tryd.prog gl 30 s30 :=
  denF_sound (f := 30) (fn := Go.Proofs.Tryd.f30) (c := bodyOf Go.Proofs.Tryd.f30) (rt := rt30) (ps := ps30) (E := e30) (an := an30) (by kernel_rfl) (by kernel_rfl) (by kernel_rfl) (by kernel_rfl)
    (envOk_of (by kernel_rfl) tt_ok eqs_ok (by kernel_rfl) ⟨snd53, trivial⟩) (fun x r h => (c30 x).trans h)
theorem snd43 : FSound Go.Proofs.Tryd.prog gl 43 s43 :=
  denF_sound (f := 43) (fn := Go.Proofs.Tryd.f43) (c := bodyOf Go.Proofs.Tryd.f43) (rt := rt43) (ps := ps43) (E := e43) (an := an43) (by kernel_rfl) (by kernel_rfl) (by kernel_rfl) (by kernel_rfl)
    (envOk_of (by kernel_rfl) tt_ok eqs_ok (by kernel_rfl) trivial) (fun x r h => (c43 x).trans h)
theorem snd45 : FSound Go.Proofs.Tryd.prog gl 45 s45 :=
  denF_sound (f := 45) (fn := Go.Proofs.Tryd.f45) (c := bodyOf Go.Proofs.Tryd.f45) (rt := rt45) (ps := ps45) (E := e45) (an := an45) (by kernel_rfl) (by kernel_rfl) (by kernel_rfl) (by kernel_rfl)
    (envOk_of (by kernel_rfl) tt_ok eqs_ok (by kernel_rfl) trivial) (fun x r h => (c45 x).trans h)
theorem snd57 : FSound Go.Proofs.Tryd.prog gl 57 s57 :=
  denF_sound (f := 57) (fn := Go.Proofs.Tryd.f57) (c := bodyOf Go.Proofs.Tryd.f57) (rt := rt57) (ps := ps57) (E := e57) (an := an57) (by kernel_rfl) (by kernel_rfl) (by kernel_rfl) (by kernel_rfl)
    (envOk_of (by kernel_rfl) tt_ok eqs_ok (by kernel_rfl) ⟨snd30, snd43, snd45, trivial⟩) (fun x r h => (c57 x.1 x.2).trans h)
theorem snd69 : FSound Go.Proofs.Tryd.prog gl 69 s69 :=
  denF_sound (f := 69) (fn := Go.Proofs.Tryd.f69) (c := bodyOf Go.Proofs.Tryd.f69) (rt := rt69) (ps := ps69) (E := e69) (an := an69) (by kernel_rfl) (by kernel_rfl) (by kernel_rfl) (by kernel_rfl)
    (envOk_of (by kernel_rfl) tt_ok eqs_ok (by kernel_rfl) trivial) (fun x r h => (c69 x.1 x.2).trans h)
theorem snd70 : FSound Go.Proofs.Tryd.prog gl 70 s70 :=
  denF_sound (f := 70) (fn := Go.Proofs.Tryd.f70) (c := bodyOf Go.Proofs.Tryd.f70) (rt := rt70) (ps := ps70) (E := e70) (an := an70) (by kernel_rfl) (by kernel_rfl) (by kernel_rfl) (by kernel_rfl)
    (envOk_of (by kernel_rfl) tt_ok eqs_ok (by kernel_rfl) trivial) (fun x r h => (c70 x).trans h)
theorem snd99 : FSound Go.Proofs.Tryd.prog gl 99 s99 :=
  denF_sound (f := 99) (fn := Go.Proofs.Tryd.f99) (c := bodyOf Go.Proofs.Tryd.f99) (rt := rt99) (ps := ps99) (E := e99) (an := an99) (by kernel_rfl) (by kernel_rfl) (by kernel_rfl) (by kernel_rfl)
    (envOk_of (by kernel_rfl) tt_ok eqs_ok (by kernel_rfl) ⟨snd69, trivial⟩) (fun x r h => (c99 x.1 x.2).trans h)
theorem snd84 : FSound Go.Proofs.Tryd.prog gl 84 s84 :=
  denF_sound (f := 84) (fn := Go.Proofs.Tryd.f84) (c := bodyOf Go.Proofs.Tryd.f84) (rt := rt84) (ps := ps84) (E := e84) (an := an84) (by kernel_rfl) (by kernel_rfl) (by kernel_rfl) (by kernel_rfl)
    (envOk_of (by kernel_rfl) tt_ok eqs_ok (by kernel_rfl) ⟨snd99, trivial⟩) (fun x r h => (c84 x.1 x.2.1 x.2.2).trans h)
theorem snd71 : FSound Go.Proofs.Tryd.prog gl 71 s71 :=
  denF_sound (f := 71) (fn := Go.Proofs.Tryd.f71) (c := bodyOf Go.Proofs.Tryd.f71) (rt := rt71) (ps := ps71) (E := e71) (an := an71) (by kernel_rfl) (by kernel_rfl) (by kernel_rfl) (by kernel_rfl)
    (envOk_of (by kernel_rfl) tt_ok eqs_ok (by kernel_rfl) ⟨snd69, snd70, snd84, trivial⟩) (fun x r h => (c71 x.1 x.2).trans h)
theorem snd85 : FSound Go.Proofs.Tryd.prog gl 85 s85 :=
  denF_sound (f := 85) (fn := Go.Proofs.Tryd.f85) (c := bodyOf Go.Proofs.Tryd.f85) (rt := rt85) (ps := ps85) (E := e85) (an := an85) (by kernel_rfl) (by kernel_rfl) (by kernel_rfl) (by kernel_rfl)
    (envOk_of (by kernel_rfl) tt_ok eqs_ok (by kernel_rfl) trivial) (fun x r h => (c85 x).trans h)
theorem snd111 : FSound Go.Proofs.Tryd.prog gl 111 s111 :=
  denF_sound (f := 111) (fn := Go.Proofs.Tryd.f111) (c := bodyOf Go.Proofs.Tryd.f111) (rt := rt111) (ps := ps111) (E := e111) (an := an111) (by kernel_rfl) (by kernel_rfl) (by kernel_rfl) (by kernel_rfl)
    (envOk_of (by kernel_rfl) tt_ok eqs_ok (by kernel_rfl) trivial) (fun x r h => (c111 x).trans h)
theorem snd100 : FSound Go.Proofs.Tryd.prog gl 100 s100 :=
  denF_sound (f := 100) (fn := Go.Proofs.Tryd.f100) (c := bodyOf Go.Proofs.Tryd.f100) (rt := rt100) (ps := ps100) (E := e100) (an := an100) (by kernel_rfl) (by kernel_rfl) (by kernel_rfl) (by kernel_rfl)
    (envOk_of (by kernel_rfl) tt_ok eqs_ok (by kernel_rfl) ⟨snd111, trivial⟩) (fun x r h => (c100 x).trans h)
theorem snd101 : FSound Go.Proofs.Tryd.prog gl 101 s101 :=
  denF_sound (f := 101) (fn := Go.Proofs.Tryd.f101) (c := bodyOf Go.Proofs.Tryd.f101) (rt := rt101) (ps := ps101) (E := e101) (an := an101) (by kernel_rfl) (by kernel_rfl) (by kernel_rfl) (by kernel_rfl)
    (envOk_of (by kernel_rfl) tt_ok eqs_ok (by kernel_rfl) ⟨snd111, trivial⟩) (fun x r h => (c101 x.1 x.2).trans h)
theorem snd86 : FSound Go.Proofs.Tryd.prog gl 86 s86 :=
  denF_sound (f := 86) (fn := Go.Proofs.Tryd.f86) (c := bodyOf Go.Proofs.Tryd.f86) (rt := rt86) (ps := ps86) (E := e86) (an := an86) (by kernel_rfl) (by kernel_rfl) (by kernel_rfl) (by kernel_rfl)
    (envOk_of (by kernel_rfl) tt_ok eqs_ok (by kernel_rfl) ⟨snd85, snd100, snd101, trivial⟩) (fun x r h => (c86 x).trans h)
theorem snd87 : FSound Go.Proofs.Tryd.prog gl 87 s87 :=
  denF_sound (f := 87) (fn := Go.Proofs.Tryd.f87) (c := bodyOf Go.Proofs.Tryd.f87) (rt := rt87) (ps := ps87) (E := e87) (an := an87) (by kernel_rfl) (by kernel_rfl) (by kernel_rfl) (by kernel_rfl)
    (envOk_of (by kernel_rfl) tt_ok eqs_ok (by kernel_rfl) ⟨snd30, trivial⟩) (fun x r h => (c87 x.1 x.2).trans h)
theorem snd72 : FSound Go.Proofs.Tryd.prog gl 72 s72 :=
  denF_sound (f := 72) (fn := Go.Proofs.Tryd.f72) (c := bodyOf Go.Proofs.Tryd.f72) (rt := rt72) (ps := ps72) (E := e72) (an := an72) (by kernel_rfl) (by kernel_rfl) (by kernel_rfl) (by kernel_rfl)
    (envOk_of (by kernel_rfl) tt_ok eqs_ok (by kernel_rfl) ⟨snd85, snd86, snd87, trivial⟩) (fun x r h => (c72 x).trans h)
theorem snd59 : FSound Go.Proofs.Tryd.prog gl 59 s59 :=
  denF_sound (f := 59) (fn := Go.Proofs.Tryd.f59) (c := bodyOf Go.Proofs.Tryd.f59) (rt := rt59) (ps := ps59) (E := e59) (an := an59) (by kernel_rfl) (by kernel_rfl) (by kernel_rfl) (by kernel_rfl)
    (envOk_of (by kernel_rfl) tt_ok eqs_ok (by kernel_rfl) ⟨snd30, snd57, snd69, snd70, snd71, snd72, trivial⟩) (fun x r h => (c59 x.1 x.2).trans h)
theorem snd50 : FSound Go.Proofs.Tryd.prog gl 50 s50 :=
  denF_sound (f := 50) (fn := Go.Proofs.Tryd.f50) (c := bodyOf Go.Proofs.Tryd.f50) (rt := rt50) (ps := ps50) (E := e50) (an := an50) (by kernel_rfl) (by kernel_rfl) (by kernel_rfl) (by kernel_rfl)
    (envOk_of (by kernel_rfl) tt_ok eqs_ok (by kernel_rfl) ⟨snd59, trivial⟩) (fun x r h => (c50 x.1 x.2).trans h)
theorem snd29 : FSound Go.Proofs.Tryd.prog gl 29 s29 :=
  denF_sound (f := 29) (fn := Go.Proofs.Tryd.f29) (c := bodyOf Go.Proofs.Tryd.f29) (rt := rt29) (ps := ps29) (E := e29) (an := an29) (by kernel_rfl) (by kernel_rfl) (by kernel_rfl) (by kernel_rfl)
    (envOk_of (by kernel_rfl) tt_ok eqs_ok (by kernel_rfl) ⟨snd33, snd34, snd50, trivial⟩) (fun x r h => (c29 x.1 x.2.1 x.2.2.1 x.2.2.2.1 x.2.2.2.2.1 x.2.2.2.2.2).trans h)
theorem snd12 : FSound Go.Proofs.Tryd.prog gl 12 s12 :=
  denF_sound (f := 12) (fn := Go.Proofs.Tryd.f12) (c := bodyOf Go.Proofs.Tryd.f12) (rt := rt12) (ps := ps12) (E := e12) (an := an12) (by kernel_rfl) (by kernel_rfl) (by kernel_rfl) (by kernel_rfl)
    (envOk_of (by kernel_rfl) tt_ok eqs_ok (by kernel_rfl) ⟨snd28, snd29, snd30, trivial⟩) (fun x r h => (c12 x.1 x.2.1 x.2.2).trans h)
theorem snd3 : FSound Go.Proofs.Tryd.prog gl 3 s3 :=
  denF_sound (f := 3) (fn := Go.Proofs.Tryd.f3) (c := bodyOf Go.Proofs.Tryd.f3) (rt := rt3) (ps := ps3) (E := e3) (an := an3) (by kernel_rfl) (by kernel_rfl) (by kernel_rfl) (by kernel_rfl)
    (envOk_of (by kernel_rfl) tt_ok eqs_ok (by kernel_rfl) ⟨snd7, snd8, snd9, snd10, snd11, snd12, trivial⟩) (fun x r h => (c3 x.1 x.2.1 x.2.2).trans h)
theorem snd14 : FSound Go.Proofs.Tryd.prog gl 14 s14 :=
  denF_sound (f := 14) (fn := Go.Proofs.Tryd.f14) (c := bodyOf Go.Proofs.Tryd.f14) (rt := rt14) (ps := ps14) (E := e14) (an := an14) (by kernel_rfl) (by kernel_rfl) (by kernel_rfl) (by kernel_rfl)
    (envOk_of (by kernel_rfl) tt_ok eqs_ok (by kernel_rfl) ⟨snd28, snd30, snd33, snd34, trivial⟩) (fun x r h => (c14 x.1 x.2.1 x.2.2).trans h)
theorem snd4 : FSound Go.Proofs.Tryd.prog gl 4 s4 :=
  denF_sound (f := 4) (fn := Go.Proofs.Tryd.f4) (c := bodyOf Go.Proofs.Tryd.f4) (rt := rt4) (ps := ps4) (E := e4) (an := an4) (by kernel_rfl) (by kernel_rfl) (by kernel_rfl) (by kernel_rfl)
    (envOk_of (by kernel_rfl) tt_ok eqs_ok (by kernel_rfl) ⟨snd7, snd9, snd13, snd14, trivial⟩) (fun x r h => (c4 x.1 x.2.1 x.2.2).trans h)
theorem snd15 : FSound Go.Proofs.Tryd.prog gl 15 s15 :=
  denF_sound (f := 15) (fn := Go.Proofs.Tryd.f15) (c := bodyOf Go.Proofs.Tryd.f15) (rt := rt15) (ps := ps15) (E := e15) (an := an15) (by kernel_rfl) (by kernel_rfl) (by kernel_rfl) (by kernel_rfl)
    (envOk_of (by kernel_rfl) tt_ok eqs_ok (by kernel_rfl) trivial) (fun x r h => (c15 x.1 x.2).trans h)
theorem snd65 : FSound Go.Proofs.Tryd.prog gl 65 s65 :=
  denF_sound (f := 65) (fn := Go.Proofs.Tryd.f65) (c := bodyOf Go.Proofs.Tryd.f65) (rt := rt65) (ps := ps65) (E := e65) (an := an65) (by kernel_rfl) (by kernel_rfl) (by kernel_rfl) (by kernel_rfl)
    (envOk_of (by kernel_rfl) tt_ok eqs_ok (by kernel_rfl) trivial) (fun x r h => (c65 x).trans h)
theorem snd56 : FSound Go.Proofs.Tryd.prog gl 56 s56 :=
  denF_sound (f := 56) (fn := Go.Proofs.Tryd.f56) (c := bodyOf Go.Proofs.Tryd.f56) (rt := rt56) (ps := ps56) (E := e56) (an := an56) (by kernel_rfl) (by kernel_rfl) (by kernel_rfl) (by kernel_rfl)
    (envOk_of (by kernel_rfl) tt_ok eqs_ok (by kernel_rfl) ⟨snd30, snd65, trivial⟩) (fun x r h => (c56 x).trans h)
theorem snd39 : FSound Go.Proofs.Tryd.prog gl 39 s39 :=
  denF_sound (f := 39) (fn := Go.Proofs.Tryd.f39) (c := bodyOf Go.Proofs.Tryd.f39) (rt := rt39) (ps := ps39) (E := e39) (an := an39) (by kernel_rfl) (by kernel_rfl) (by kernel_rfl) (by kernel_rfl)
    (envOk_of (by kernel_rfl) tt_ok eqs_ok (by kernel_rfl) ⟨snd56, trivial⟩) (fun x r h => (c39 x).trans h)
theorem snd40 : FSound Go.Proofs.Tryd.prog gl 40 s40 :=
  denF_sound (f := 40) (fn := Go.Proofs.Tryd.f40) (c := bodyOf Go.Proofs.Tryd.f40) (rt := rt40) (ps := ps40) (E := e40) (an := an40) (by kernel_rfl) (by kernel_rfl) (by kernel_rfl) (by kernel_rfl)
    (envOk_of (by kernel_rfl) tt_ok eqs_ok (by kernel_rfl) ⟨snd57, trivial⟩) (fun x r h => (c40 x).trans h)
theorem snd41 : FSound Go.Proofs.Tryd.prog gl 41 s41 :=
  denF_sound (f := 41) (fn := Go.Proofs.Tryd.f41) (c := bodyOf Go.Proofs.Tryd.f41) (rt := rt41) (ps := ps41) (E := e41) (an := an41) (by kernel_rfl) (by kernel_rfl) (by kernel_rfl) (by kernel_rfl)
    (envOk_of (by kernel_rfl) tt_ok eqs_ok (by kernel_rfl) trivial) (fun x r h => (c41 x).trans h)
theorem snd42 : FSound Go.Proofs.Tryd.prog gl 42 s42 :=
  denF_sound (f := 42) (fn := Go.Proofs.Tryd.f42) (c := bodyOf Go.Proofs.Tryd.f42) (rt := rt42) (ps := ps42) (E := e42) (an := an42) (by kernel_rfl) (by kernel_rfl) (by kernel_rfl) (by kernel_rfl)
    (envOk_of (by kernel_rfl) tt_ok eqs_ok (by kernel_rfl) trivial) (fun x r h => (c42 x).trans h)
theorem snd17 : FSound Go.Proofs.Tryd.prog gl 17 s17 :=
  denF_sound (f := 17) (fn := Go.Proofs.Tryd.f17) (c := bodyOf Go.Proofs.Tryd.f17) (rt := rt17) (ps := ps17) (E := e17) (an := an17) (by kernel_rfl) (by kernel_rfl) (by kernel_rfl) (by kernel_rfl)
    (envOk_of (by kernel_rfl) tt_ok eqs_ok (by kernel_rfl) ⟨snd39, snd40, snd41, snd42, trivial⟩) (fun x r h => (c17 x).trans h)
theorem snd18 : FSound Go.Proofs.Tryd.prog gl 18 s18 :=
  denF_sound (f := 18) (fn := Go.Proofs.Tryd.f18) (c := bodyOf Go.Proofs.Tryd.f18) (rt := rt18) (ps := ps18) (E := e18) (an := an18) (by kernel_rfl) (by kernel_rfl) (by kernel_rfl) (by kernel_rfl)
    (envOk_of (by kernel_rfl) tt_ok eqs_ok (by kernel_rfl) trivial) (fun x r h => (c18 x).trans h)
theorem snd46 : FSound Go.Proofs.Tryd.prog gl 46 s46 :=
  denF_sound (f := 46) (fn := Go.Proofs.Tryd.f46) (c := bodyOf Go.Proofs.Tryd.f46) (rt := rt46) (ps := ps46) (E := e46) (an := an46) (by kernel_rfl) (by kernel_rfl) (by kernel_rfl) (by kernel_rfl)
    (envOk_of (by kernel_rfl) tt_ok eqs_ok (by kernel_rfl) trivial) (fun x r h => (c46 x).trans h)
theorem snd47 : FSound Go.Proofs.Tryd.prog gl 47 s47 :=
  denF_sound (f := 47) (fn := Go.Proofs.Tryd.f47) (c := bodyOf Go.Proofs.Tryd.f47) (rt := rt47) (ps := ps47) (E := e47) (an := an47) (by kernel_rfl) (by kernel_rfl) (by kernel_rfl) (by kernel_rfl)
    (envOk_of (by kernel_rfl) tt_ok eqs_ok (by kernel_rfl) trivial) (fun x r h => (c47 x.1 x.2).trans h)
theorem snd44 : FSound Go.Proofs.Tryd.prog gl 44 s44 :=
  denF_sound (f := 44) (fn := Go.Proofs.Tryd.f44) (c := bodyOf Go.Proofs.Tryd.f44) (rt := rt44) (ps := ps44) (E := e44) (an := an44) (by kernel_rfl) (by kernel_rfl) (by kernel_rfl) (by kernel_rfl)
    (envOk_of (by kernel_rfl) tt_ok eqs_ok (by kernel_rfl) ⟨snd45, snd46, snd47, trivial⟩) (fun x r h => (c44 x).trans h)
theorem snd19 : FSound Go.Proofs.Tryd.prog gl 19 s19 :=
  denF_sound (f := 19) (fn := Go.Proofs.Tryd.f19) (c := bodyOf Go.Proofs.Tryd.f19) (rt := rt19) (ps := ps19) (E := e19) (an := an19) (by kernel_rfl) (by kernel_rfl) (by kernel_rfl) (by kernel_rfl)
    (envOk_of (by kernel_rfl) tt_ok eqs_ok (by kernel_rfl) ⟨snd43, snd44, snd45, snd46, snd47, trivial⟩) (fun x r h => (c19 x.1 x.2).trans h)
theorem snd5 : FSound Go.Proofs.Tryd.prog gl 5 s5 :=
  denF_sound (f := 5) (fn := Go.Proofs.Tryd.f5) (c := bodyOf Go.Proofs.Tryd.f5) (rt := rt5) (ps := ps5) (E := e5) (an := an5) (by kernel_rfl) (by kernel_rfl) (by kernel_rfl) (by kernel_rfl)
    (envOk_of (by kernel_rfl) tt_ok eqs_ok (by kernel_rfl) ⟨snd9, snd10, snd15, snd16, snd17, snd18, snd19, trivial⟩) (fun x r h => (c5 x).trans h)
theorem snd51 : FSound Go.Proofs.Tryd.prog gl 51 s51 :=
  denF_sound (f := 51) (fn := Go.Proofs.Tryd.f51) (c := bodyOf Go.Proofs.Tryd.f51) (rt := rt51) (ps := ps51) (E := e51) (an := an51) (by kernel_rfl) (by kernel_rfl) (by kernel_rfl) (by kernel_rfl)
    (envOk_of (by kernel_rfl) tt_ok eqs_ok (by kernel_rfl) trivial) (fun x r h => (c51 x).trans h)
theorem snd21 : FSound Go.Proofs.Tryd.prog gl 21 s21 :=
  denF_sound (f := 21) (fn := Go.Proofs.Tryd.f21) (c := bodyOf Go.Proofs.Tryd.f21) (rt := rt21) (ps := ps21) (E := e21) (an := an21) (by kernel_rfl) (by kernel_rfl) (by kernel_rfl) (by kernel_rfl)
    (envOk_of (by kernel_rfl) tt_ok eqs_ok (by kernel_rfl) ⟨snd39, snd40, snd50, snd51, trivial⟩) (fun x r h => (c21 x).trans h)
theorem snd6 : FSound Go.Proofs.Tryd.prog gl 6 s6 :=
  denF_sound (f := 6) (fn := Go.Proofs.Tryd.f6) (c := bodyOf Go.Proofs.Tryd.f6) (rt := rt6) (ps := ps6) (E := e6) (an := an6) (by kernel_rfl) (by kernel_rfl) (by kernel_rfl) (by kernel_rfl)
    (envOk_of (by kernel_rfl) tt_ok eqs_ok (by kernel_rfl) ⟨snd9, snd10, snd20, snd21, trivial⟩) (fun x r h => (c6 x).trans h)
end Gt
