/- What the package-level variables hold, as the evaluator knows them. Conditions: none. -/
import Derived.Test.YtedkimnbghpkeaaGreatDoorEv4
import Derived.KernelRfl
namespace Go.Proofs.YtedkimnbghpkeaaGreatDoor
open Go Go.Ev
set_option linter.unusedSectionVars false
def ls0 : List (List UInt8) := [[58, 58], [61, 61], [60, 58], [124], [123], [125], [40], [41], [91], [93], [44], [58], [46], [61], [43], [60]]
def xs0 : List Value := ls0.map fun z => Value.string ⟨z.toArray⟩
noncomputable def vs0 : AV := (.cons (.str 2 14906) (.cons (.str 2 15677) (.cons (.str 2 15418) (.cons (.str 1 124) (.cons (.str 1 123) (.cons (.str 1 125) (.cons (.str 1 40) (.cons (.str 1 41) (.cons (.str 1 91) (.cons (.str 1 93) (.cons (.str 1 44) (.cons (.str 1 58) (.cons (.str 1 46) (.cons (.str 1 61) (.cons (.str 1 43) (.cons (.str 1 60) .nil))))))))))))))))
def ls2 : List (List UInt8) := [[109, 111, 100, 117, 108, 101], [105, 109, 112, 111, 114, 116], [116, 121, 112, 101], [102, 110], [108, 101, 116], [105, 110], [105, 102], [116, 104, 101, 110], [101, 108, 115, 101], [105, 115], [97, 115], [116, 114, 117, 101], [102, 97, 108, 115, 101], [110, 117, 108, 108], [100, 121, 110], [98, 111, 111, 108], [105, 110, 116], [114, 101, 99]]
def xs2 : List Value := ls2.map fun z => Value.string ⟨z.toArray⟩
noncomputable def vs2 : AV := (.cons (.str 6 120325194214501) (.cons (.str 6 115918758703732) (.cons (.str 4 1954115685) (.cons (.str 2 26222) (.cons (.str 3 7103860) (.cons (.str 2 26990) (.cons (.str 2 26982) (.cons (.str 4 1952998766) (.cons (.str 4 1701606245) (.cons (.str 2 26995) (.cons (.str 2 24947) (.cons (.str 4 1953658213) (.cons (.str 5 439721161573) (.cons (.str 4 1853189228) (.cons (.str 3 6584686) (.cons (.str 4 1651470188) (.cons (.str 3 6909556) (.cons (.str 3 7497059) .nil))))))))))))))))))
def ls5 : List Int := [1, 10, 100, 1000, 10000, 100000, 1000000, 10000000, 100000000, 1000000000, 10000000000, 100000000000, 1000000000000, 10000000000000, 100000000000000, 1000000000000000, 10000000000000000, 100000000000000000, 1000000000000000000, 10000000000000000000]
def xs5 : List Value := ls5.map (Value.int .u64)
noncomputable def vs5 : AV := (.cons (.int 7 1) (.cons (.int 7 10) (.cons (.int 7 100) (.cons (.int 7 1000) (.cons (.int 7 10000) (.cons (.int 7 100000) (.cons (.int 7 1000000) (.cons (.int 7 10000000) (.cons (.int 7 100000000) (.cons (.int 7 1000000000) (.cons (.int 7 10000000000) (.cons (.int 7 100000000000) (.cons (.int 7 1000000000000) (.cons (.int 7 10000000000000) (.cons (.int 7 100000000000000) (.cons (.int 7 1000000000000000) (.cons (.int 7 10000000000000000) (.cons (.int 7 100000000000000000) (.cons (.int 7 1000000000000000000) (.cons (.int 7 10000000000000000000) .nil))))))))))))))))))))
def ls6 : List Int := [0, 1, 28, 2, 29, 14, 24, 3, 30, 22, 20, 15, 25, 17, 4, 8, 31, 27, 13, 23, 21, 19, 16, 7, 26, 12, 18, 6, 11, 5, 10, 9]
def xs6 : List Value := ls6.map (Value.int .u8)
noncomputable def vs6 : AV := (.cons (.int 4 0) (.cons (.int 4 1) (.cons (.int 4 28) (.cons (.int 4 2) (.cons (.int 4 29) (.cons (.int 4 14) (.cons (.int 4 24) (.cons (.int 4 3) (.cons (.int 4 30) (.cons (.int 4 22) (.cons (.int 4 20) (.cons (.int 4 15) (.cons (.int 4 25) (.cons (.int 4 17) (.cons (.int 4 4) (.cons (.int 4 8) (.cons (.int 4 31) (.cons (.int 4 27) (.cons (.int 4 13) (.cons (.int 4 23) (.cons (.int 4 21) (.cons (.int 4 19) (.cons (.int 4 16) (.cons (.int 4 7) (.cons (.int 4 26) (.cons (.int 4 12) (.cons (.int 4 18) (.cons (.int 4 6) (.cons (.int 4 11) (.cons (.int 4 5) (.cons (.int 4 10) (.cons (.int 4 9) .nil))))))))))))))))))))))))))))))))
def ls7 : List Int := [0, 1, 56, 2, 57, 49, 28, 3, 61, 58, 42, 50, 38, 29, 17, 4, 62, 47, 59, 36, 45, 43, 51, 22, 53, 39, 33, 30, 24, 18, 12, 5, 63, 55, 48, 27, 60, 41, 37, 16, 46, 35, 44, 21, 52, 32, 23, 11, 54, 26, 40, 15, 34, 20, 31, 10, 25, 14, 19, 9, 13, 8, 7, 6]
def xs7 : List Value := ls7.map (Value.int .u8)
noncomputable def vs7 : AV := (.cons (.int 4 0) (.cons (.int 4 1) (.cons (.int 4 56) (.cons (.int 4 2) (.cons (.int 4 57) (.cons (.int 4 49) (.cons (.int 4 28) (.cons (.int 4 3) (.cons (.int 4 61) (.cons (.int 4 58) (.cons (.int 4 42) (.cons (.int 4 50) (.cons (.int 4 38) (.cons (.int 4 29) (.cons (.int 4 17) (.cons (.int 4 4) (.cons (.int 4 62) (.cons (.int 4 47) (.cons (.int 4 59) (.cons (.int 4 36) (.cons (.int 4 45) (.cons (.int 4 43) (.cons (.int 4 51) (.cons (.int 4 22) (.cons (.int 4 53) (.cons (.int 4 39) (.cons (.int 4 33) (.cons (.int 4 30) (.cons (.int 4 24) (.cons (.int 4 18) (.cons (.int 4 12) (.cons (.int 4 5) (.cons (.int 4 63) (.cons (.int 4 55) (.cons (.int 4 48) (.cons (.int 4 27) (.cons (.int 4 60) (.cons (.int 4 41) (.cons (.int 4 37) (.cons (.int 4 16) (.cons (.int 4 46) (.cons (.int 4 35) (.cons (.int 4 44) (.cons (.int 4 21) (.cons (.int 4 52) (.cons (.int 4 32) (.cons (.int 4 23) (.cons (.int 4 11) (.cons (.int 4 54) (.cons (.int 4 26) (.cons (.int 4 40) (.cons (.int 4 15) (.cons (.int 4 34) (.cons (.int 4 20) (.cons (.int 4 31) (.cons (.int 4 10) (.cons (.int 4 25) (.cons (.int 4 14) (.cons (.int 4 19) (.cons (.int 4 9) (.cons (.int 4 13) (.cons (.int 4 8) (.cons (.int 4 7) (.cons (.int 4 6) .nil))))))))))))))))))))))))))))))))))))))))))))))))))))))))))))))))
noncomputable def gl0 : List (Option (Nat × Nat × AV)) := [some (166, 16, vs0), none, some (247, 18, vs2), none, none, some (449, 20, vs5), some (455, 32, vs6), some (456, 64, vs7)]
section
variable [Sym]
theorem v0 (ι : Inj) : VRL ι vs0 xs0 := (ofVal_both ι 300).2 _ _ (by kernel_rfl)
theorem v2 (ι : Inj) : VRL ι vs2 xs2 := (ofVal_both ι 300).2 _ _ (by kernel_rfl)
theorem v5 (ι : Inj) : VRL ι vs5 xs5 := (ofVal_both ι 300).2 _ _ (by kernel_rfl)
theorem v6 (ι : Inj) : VRL ι vs6 xs6 := (ofVal_both ι 300).2 _ _ (by kernel_rfl)
theorem v7 (ι : Inj) : VRL ι vs7 xs7 := (ofVal_both ι 300).2 _ _ (by kernel_rfl)
end
end Go.Proofs.YtedkimnbghpkeaaGreatDoor
