/- The table of types and the signatures of the functions of this seat.
   Conditions: as each theorem states. -/
import Derived.Test.YthgbcbnmdioknaaK3
import Derived.Test.YthgbcbnmdioknaaProg
import Derived.Test.YthgbcbnmdioknaaK5
set_option linter.unusedVariables false
set_option linter.unusedSimpArgs false
set_option maxRecDepth 100000
namespace Go.Proofs.Ythgbcbnmdioknaa.Ref
open Go.RowKit Go.Proofs.YthgbcbnmdioknaaW.PrintWords Go.Proofs.YthgbcbnmdioknaaW.PrintLast
open Go.Proofs.Ythgbcbnmdioknaa
abbrev TyEntry : Ty := (.pair .str (.pair (.int .i64) (.pair (.int .i64) (.slice 9 .str))))
def tab : Tab := ⟨[(2, (.int .i64)), (3, (.int .i64)), (4, .bool), (5, (.int .u8)), (9, .str), (22, (.slice 5 (.int .u8))), (24, (.slice 3 (.int .i64))), (34, (.slice 48 TyEntry)), (41, (.pair (.int .i64) (.slice 3 (.int .i64)))), (46, (.slice 9 .str)), (48, TyEntry), (94, (.pair (.slice 5 (.int .u8)) (.pair (.int .i64) (.int .i64)))), (109, (.int .u64))], [(41, 0, [false]), (41, 1, [true]), (48, 0, [false]), (48, 1, [true, false]), (48, 2, [true, true, false]), (48, 3, [true, true, true]), (94, 0, [false]), (94, 1, [true, false]), (94, 2, [true, true])], [], [41, 42, 49, 56, 57, 58, 66, 67, 69, 78, 83, 84, 93, 94, 98, 99, 100, 112, 115, 117], [40], [69, 74]⟩
theorem ty2 : TyF Try.prog 2 (.int .i64) := ⟨by kernel_rfl, by kernel_rfl, show Try.prog.underlying 2 = some (.int .i64) from by kernel_rfl⟩
theorem ty3 : TyF Try.prog 3 (.int .i64) := ⟨by kernel_rfl, by kernel_rfl, show Try.prog.underlying 3 = some (.int .i64) from by kernel_rfl⟩
theorem ty4 : TyF Try.prog 4 .bool := ⟨by kernel_rfl, by kernel_rfl, show Try.prog.underlying 4 = some .bool from by kernel_rfl⟩
theorem ty5 : TyF Try.prog 5 (.int .u8) := ⟨by kernel_rfl, by kernel_rfl, show Try.prog.underlying 5 = some (.int .u8) from by kernel_rfl⟩
theorem ty9 : TyF Try.prog 9 .str := ⟨by kernel_rfl, by kernel_rfl, show Try.prog.underlying 9 = some .string from by kernel_rfl⟩
theorem ty22 : TyF Try.prog 22 (.slice 5 (.int .u8)) := ⟨by kernel_rfl, by kernel_rfl, ⟨by kernel_rfl, 1, by kernel_rfl, by decide, by decide, fun k hk => by cases hk; exact (by kernel_rfl : Try.prog.underlying 5 = some (.int .u8))⟩⟩
theorem ty24 : TyF Try.prog 24 (.slice 3 (.int .i64)) := ⟨by kernel_rfl, by kernel_rfl, ⟨by kernel_rfl, 8, by kernel_rfl, by decide, by decide, fun k hk => by cases hk; exact (by kernel_rfl : Try.prog.underlying 3 = some (.int .i64))⟩⟩
theorem ty34 : TyF Try.prog 34 (.slice 48 TyEntry) := ⟨by kernel_rfl, by kernel_rfl, ⟨by kernel_rfl, 56, by kernel_rfl, by decide, by decide, fun k hk => by cases hk⟩⟩
theorem ty41 : TyF Try.prog 41 (.pair (.int .i64) (.slice 3 (.int .i64))) := ⟨by kernel_rfl, by kernel_rfl, (und_pair (by kernel_rfl))⟩
theorem ty46 : TyF Try.prog 46 (.slice 9 .str) := ⟨by kernel_rfl, by kernel_rfl, ⟨by kernel_rfl, 16, by kernel_rfl, by decide, by decide, fun k hk => by cases hk⟩⟩
theorem ty48 : TyF Try.prog 48 TyEntry := ⟨by kernel_rfl, by kernel_rfl, (und_pair (by kernel_rfl))⟩
theorem ty94 : TyF Try.prog 94 (.pair (.slice 5 (.int .u8)) (.pair (.int .i64) (.int .i64))) := ⟨by kernel_rfl, by kernel_rfl, (und_pair (by kernel_rfl))⟩
theorem ty109 : TyF Try.prog 109 (.int .u64) := ⟨by kernel_rfl, by kernel_rfl, show Try.prog.underlying 109 = some (.int .u64) from by kernel_rfl⟩
theorem tabOk : TabOk Try.prog tab := tabOk_of ⟨ty2, ⟨ty3, ⟨ty4, ⟨ty5, ⟨ty9, ⟨ty22, ⟨ty24, ⟨ty34, ⟨ty41, ⟨ty46, ⟨ty48, ⟨ty94, ⟨ty109, trivial⟩⟩⟩⟩⟩⟩⟩⟩⟩⟩⟩⟩⟩ ⟨fp_at (t0 := (.pair (.int .i64) (.slice 3 (.int .i64)))) rfl (by kernel_rfl), ⟨fp_at (t0 := (.pair (.int .i64) (.slice 3 (.int .i64)))) rfl (by kernel_rfl), ⟨fp_at (t0 := TyEntry) rfl (by kernel_rfl), ⟨fp_at (t0 := TyEntry) rfl (by kernel_rfl), ⟨fp_at (t0 := TyEntry) rfl (by kernel_rfl), ⟨fp_at (t0 := TyEntry) rfl (by kernel_rfl), ⟨fp_at (t0 := (.pair (.slice 5 (.int .u8)) (.pair (.int .i64) (.int .i64)))) rfl (by kernel_rfl), ⟨fp_at (t0 := (.pair (.slice 5 (.int .u8)) (.pair (.int .i64) (.int .i64)))) rfl (by kernel_rfl), ⟨fp_at (t0 := (.pair (.slice 5 (.int .u8)) (.pair (.int .i64) (.int .i64)))) rfl (by kernel_rfl), trivial⟩⟩⟩⟩⟩⟩⟩⟩⟩ (by kernel_rfl) ⟨plB_ok (by kernel_rfl), ⟨plB_ok (by kernel_rfl), ⟨plB_ok (by kernel_rfl), trivial⟩⟩⟩ trivial
def sigs_4 : Sig := [(.bool, .no)]
def sigs_6 : Sig := [(.bool, .no)]
def sigs_8 : Sig := [((.slice 3 (.int .i64)), (.own 0))]
def sigs_10 : Sig := [((.slice 3 (.int .i64)), (.own 0))]
def sigs_11 : Sig := [((.int .i64), .no)]
def sigs_12 : Sig := [((.int .i64), .no)]
def sigs_13 : Sig := [((.int .i64), .no), (.bool, .no)]
def sigs_15 : Sig := [((.int .i64), .no), (.bool, .no)]
def sigs_17 : Sig := [((.int .i64), .no)]
def sigs_18 : Sig := [((.int .i64), .no)]
def sigs_19 : Sig := [((.int .i64), .no)]
def sigs_20 : Sig := [((.slice 48 TyEntry), .no), (.str, .no)]
def sigs_21 : Sig := [((.pair (.int .i64) (.slice 3 (.int .i64))), (.pair .no (.own 0))), (.bool, .no)]
def sigs_22 : Sig := [((.pair (.int .i64) (.slice 3 (.int .i64))), (.pair .no (.own 0))), (.bool, .no)]
def sigs_23 : Sig := [(.bool, .no)]
def sigs_24 : Sig := [(.bool, .no)]
def sigs_25 : Sig := [((.int .i64), .no)]
def sigs_26 : Sig := [(TyEntry, (.pair .no (.pair .no (.pair .no (.own 0)))))]
def sigs_27 : Sig := [(.bool, .no)]
def sigs_28 : Sig := [(.bool, .no)]
def sigs_29 : Sig := [((.int .i64), .no)]
def sigs_30 : Sig := [((.int .i64), .no), ((.int .i64), .no), (TyEntry, .no), ((.pair (.int .i64) (.slice 3 (.int .i64))), .no)]
def sigs_31 : Sig := [((.int .i64), .no), ((.slice 48 TyEntry), (.own 0))]
def sigs_32 : Sig := [(.bool, .no)]
def sigs_33 : Sig := [(.bool, .no)]
def sigs_34 : Sig := [(.bool, .no)]
def sigs_40 : Sig := []
def sigs_42 : Sig := [((.int .i64), .no)]
def sigs_43 : Sig := [(.bool, .no)]
def sigs_44 : Sig := [((.slice 3 (.int .i64)), (.own 0))]
def sigs_45 : Sig := [(.bool, .no)]
def sigs_46 : Sig := [((.slice 3 (.int .i64)), (.own 0))]
def sigs_47 : Sig := [((.int .i64), .no)]
def sigs_48 : Sig := [((.int .i64), .no)]
def sigs_49 : Sig := [((.int .i64), .no)]
def sigs_50 : Sig := [((.int .i64), .no)]
def sigs_52 : Sig := [((.int .i64), .no)]
def sigs_53 : Sig := [((.slice 3 (.int .i64)), (.own 0))]
def sigs_54 : Sig := [((.int .i64), .no)]
def sigs_55 : Sig := [((.slice 3 (.int .i64)), (.own 0))]
def sigs_56 : Sig := [((.slice 48 TyEntry), (.own 0))]
def sigs_57 : Sig := [(.bool, .no)]
def sigs_58 : Sig := [(.str, .no)]
def sigs_59 : Sig := [((.int .i64), .no)]
def sigs_60 : Sig := [(.bool, .no)]
def sigs_61 : Sig := [(.bool, .no)]
def sigs_62 : Sig := [((.int .i64), .no)]
def sigs_63 : Sig := [((.int .i64), .no)]
def sigs_64 : Sig := [(.bool, .no)]
def sigs_65 : Sig := [(.bool, .no)]
def sigs_66 : Sig := [((.slice 48 TyEntry), (.own 0))]
def sigs_67 : Sig := [(TyEntry, (.pair .no (.pair .no (.pair .no (.own 0)))))]
def sigs_68 : Sig := [(TyEntry, (.pair .no (.pair .no (.pair .no (.own 0)))))]
def sigs_69 : Sig := [((.pair (.int .i64) (.slice 3 (.int .i64))), .no)]
def sigs_70 : Sig := [((.int .i64), .no)]
def sigs_71 : Sig := [(.bool, .no)]
def sigs_78 : Sig := [((.int .i64), .no)]
def sigs_79 : Sig := [((.int .i64), .no)]
def sigs_80 : Sig := [((.int .i64), .no)]
def sigs_81 : Sig := [((.slice 48 TyEntry), (.own 0)), (.bool, .no)]
def sigs_82 : Sig := [(TyEntry, (.pair .no (.pair .no (.pair .no (.own 0)))))]
def sigs_83 : Sig := [(.str, .no)]
def sigs_84 : Sig := [(.str, .no)]
def sigs_85 : Sig := [((.int .i64), .no)]
def sigs_86 : Sig := [(.bool, .no)]
def sigs_87 : Sig := [(.bool, .no)]
def sigs_88 : Sig := [(.bool, .no)]
def sigs_89 : Sig := [((.slice 3 (.int .i64)), (.own 0))]
def sigs_90 : Sig := [(.bool, .no)]
def sigs_91 : Sig := [(.bool, .no)]
def sigs_92 : Sig := [(.bool, .no)]
def sigs_93 : Sig := [(TyEntry, (.pair .no (.pair .no (.pair .no (.own 0)))))]
def sigs_94 : Sig := [((.slice 9 .str), (.own 0))]
def sigs_95 : Sig := [((.slice 9 .str), (.own 0))]
def sigs_96 : Sig := [((.slice 3 (.int .i64)), (.own 0))]
def sigs_97 : Sig := [((.int .i64), .no)]
def sigs_105 : Sig := [((.int .i64), .no)]
def sigs_106 : Sig := [((.slice 48 TyEntry), (.own 0))]
def sigs_107 : Sig := [((.slice 3 (.int .i64)), (.own 0))]
def sigs_108 : Sig := [(.bool, .no)]
def sigs_109 : Sig := [(.bool, .no)]
def sigs_110 : Sig := [(TyEntry, (.pair .no (.pair .no (.pair .no (.own 0)))))]
def sigs_111 : Sig := [(TyEntry, (.pair .no (.pair .no (.pair .no (.own 0)))))]
def sigs_112 : Sig := [((.slice 9 .str), (.own 0))]
def sigs_113 : Sig := [((.slice 3 (.int .i64)), (.own 0))]
def sigs_114 : Sig := [((.int .i64), .no)]
def sigs_131 : Sig := [((.slice 3 (.int .i64)), (.own 0))]
def sigs_132 : Sig := [((.int .i64), .no)]
def sigs_133 : Sig := [((.slice 3 (.int .i64)), (.own 0))]
def sigs_134 : Sig := [((.int .i64), .no)]
def sigs : Sigs := fun n => (cond (Nat.beq n 4) (some sigs_4) (cond (Nat.beq n 6) (some sigs_6) (cond (Nat.beq n 8) (some sigs_8) (cond (Nat.beq n 10) (some sigs_10) (cond (Nat.beq n 11) (some sigs_11) (cond (Nat.beq n 12) (some sigs_12) (cond (Nat.beq n 13) (some sigs_13) (cond (Nat.beq n 15) (some sigs_15) (cond (Nat.beq n 17) (some sigs_17) (cond (Nat.beq n 18) (some sigs_18) (cond (Nat.beq n 19) (some sigs_19) (cond (Nat.beq n 20) (some sigs_20) (cond (Nat.beq n 21) (some sigs_21) (cond (Nat.beq n 22) (some sigs_22) (cond (Nat.beq n 23) (some sigs_23) (cond (Nat.beq n 24) (some sigs_24) (cond (Nat.beq n 25) (some sigs_25) (cond (Nat.beq n 26) (some sigs_26) (cond (Nat.beq n 27) (some sigs_27) (cond (Nat.beq n 28) (some sigs_28) (cond (Nat.beq n 29) (some sigs_29) (cond (Nat.beq n 30) (some sigs_30) (cond (Nat.beq n 31) (some sigs_31) (cond (Nat.beq n 32) (some sigs_32) (cond (Nat.beq n 33) (some sigs_33) (cond (Nat.beq n 34) (some sigs_34) (cond (Nat.beq n 40) (some sigs_40) (cond (Nat.beq n 42) (some sigs_42) (cond (Nat.beq n 43) (some sigs_43) (cond (Nat.beq n 44) (some sigs_44) (cond (Nat.beq n 45) (some sigs_45) (cond (Nat.beq n 46) (some sigs_46) (cond (Nat.beq n 47) (some sigs_47) (cond (Nat.beq n 48) (some sigs_48) (cond (Nat.beq n 49) (some sigs_49) (cond (Nat.beq n 50) (some sigs_50) (cond (Nat.beq n 52) (some sigs_52) (cond (Nat.beq n 53) (some sigs_53) (cond (Nat.beq n 54) (some sigs_54) (cond (Nat.beq n 55) (some sigs_55) (cond (Nat.beq n 56) (some sigs_56) (cond (Nat.beq n 57) (some sigs_57) (cond (Nat.beq n 58) (some sigs_58) (cond (Nat.beq n 59) (some sigs_59) (cond (Nat.beq n 60) (some sigs_60) (cond (Nat.beq n 61) (some sigs_61) (cond (Nat.beq n 62) (some sigs_62) (cond (Nat.beq n 63) (some sigs_63) (cond (Nat.beq n 64) (some sigs_64) (cond (Nat.beq n 65) (some sigs_65) (cond (Nat.beq n 66) (some sigs_66) (cond (Nat.beq n 67) (some sigs_67) (cond (Nat.beq n 68) (some sigs_68) (cond (Nat.beq n 69) (some sigs_69) (cond (Nat.beq n 70) (some sigs_70) (cond (Nat.beq n 71) (some sigs_71) (cond (Nat.beq n 78) (some sigs_78) (cond (Nat.beq n 79) (some sigs_79) (cond (Nat.beq n 80) (some sigs_80) (cond (Nat.beq n 81) (some sigs_81) (cond (Nat.beq n 82) (some sigs_82) (cond (Nat.beq n 83) (some sigs_83) (cond (Nat.beq n 84) (some sigs_84) (cond (Nat.beq n 85) (some sigs_85) (cond (Nat.beq n 86) (some sigs_86) (cond (Nat.beq n 87) (some sigs_87) (cond (Nat.beq n 88) (some sigs_88) (cond (Nat.beq n 89) (some sigs_89) (cond (Nat.beq n 90) (some sigs_90) (cond (Nat.beq n 91) (some sigs_91) (cond (Nat.beq n 92) (some sigs_92) (cond (Nat.beq n 93) (some sigs_93) (cond (Nat.beq n 94) (some sigs_94) (cond (Nat.beq n 95) (some sigs_95) (cond (Nat.beq n 96) (some sigs_96) (cond (Nat.beq n 97) (some sigs_97) (cond (Nat.beq n 105) (some sigs_105) (cond (Nat.beq n 106) (some sigs_106) (cond (Nat.beq n 107) (some sigs_107) (cond (Nat.beq n 108) (some sigs_108) (cond (Nat.beq n 109) (some sigs_109) (cond (Nat.beq n 110) (some sigs_110) (cond (Nat.beq n 111) (some sigs_111) (cond (Nat.beq n 112) (some sigs_112) (cond (Nat.beq n 113) (some sigs_113) (cond (Nat.beq n 114) (some sigs_114) (cond (Nat.beq n 131) (some sigs_131) (cond (Nat.beq n 132) (some sigs_132) (cond (Nat.beq n 133) (some sigs_133) (cond (Nat.beq n 134) (some sigs_134) none))))))))))))))))))))))))))))))))))))))))))))))))))))))))))))))))))))))))))))))))))))))))))
end Go.Proofs.Ythgbcbnmdioknaa.Ref
