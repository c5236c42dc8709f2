/- The table of types and the signatures of the functions of this seat.
   Conditions: as each theorem states. -/
import Derived.Test.YthcenfbfgjcikaaK3
import Derived.Test.YthcenfbfgjcikaaProg
set_option linter.unusedVariables false
set_option linter.unusedSimpArgs false
set_option maxRecDepth 100000
namespace Go.Proofs.Ythcenfbfgjcikaa.Ref
open Go.RowKit Go.Proofs.YthcenfbfgjcikaaW.PrintWords Go.Proofs.YthcenfbfgjcikaaW.PrintLast
open Go.Proofs.Ythcenfbfgjcikaa
abbrev TyEntry : Ty := (.pair .str (.pair (.int .i64) (.pair (.int .i64) (.slice 9 .str))))
abbrev TyHead : Ty := (.pair (.int .i64) (.pair (.int .i64) (.pair (.int .i64) (.pair (.int .i64) (.pair (.int .i64) (.pair (.int .i64) (.pair (.int .i64) (.pair (.int .i64) (.pair (.pair (.slice 3 (.int .i64)) (.int .i64)) (.pair (.pair (.slice 3 (.int .i64)) (.int .i64)) (.pair (.int .i64) (.pair (.pair (.slice 3 (.int .i64)) (.int .i64)) .bool))))))))))))
abbrev TySigned : Ty := (.pair TyHead (.slice 100 (.pair (.int .i64) (.int .i64))))
def tab : Tab := ⟨[(2, (.int .i64)), (3, (.int .i64)), (4, .bool), (5, (.int .u8)), (9, .str), (22, (.slice 3 (.int .i64))), (24, (.pair (.slice 3 (.int .i64)) (.int .i64))), (33, (.pair (.slice 3 (.int .i64)) (.int .i64))), (35, TyHead), (57, (.slice 84 TyEntry)), (63, (.slice 89 TyEntry)), (82, (.slice 9 .str)), (84, TyEntry), (89, TyEntry), (111, (.slice 5 (.int .u8)))], [(24, 0, [false]), (24, 1, [true]), (33, 0, [false]), (33, 1, [true]), (35, 0, [false]), (35, 1, [true, false]), (35, 2, [true, true, false]), (35, 3, [true, true, true, false]), (35, 4, [true, true, true, true, false]), (35, 5, [true, true, true, true, true, false]), (35, 6, [true, true, true, true, true, true, false]), (35, 7, [true, true, true, true, true, true, true, false]), (35, 8, [true, true, true, true, true, true, true, true, false]), (35, 9, [true, true, true, true, true, true, true, true, true, false]), (35, 10, [true, true, true, true, true, true, true, true, true, true, false]), (35, 11, [true, true, true, true, true, true, true, true, true, true, true, false]), (35, 12, [true, true, true, true, true, true, true, true, true, true, true, true]), (84, 0, [false]), (84, 1, [true, false]), (84, 2, [true, true, false]), (84, 3, [true, true, true]), (89, 0, [false]), (89, 1, [true, false]), (89, 2, [true, true, false]), (89, 3, [true, true, true])], [21, 22, 23, 37, 57, 58, 76]⟩
theorem ty2 : TyF Try.prog 2 (.int .i64) := ⟨by kernel_rfl, by kernel_rfl, show Try.prog.underlying 2 = some (.int .i64) from by kernel_rfl⟩
theorem ty3 : TyF Try.prog 3 (.int .i64) := ⟨by kernel_rfl, by kernel_rfl, show Try.prog.underlying 3 = some (.int .i64) from by kernel_rfl⟩
theorem ty4 : TyF Try.prog 4 .bool := ⟨by kernel_rfl, by kernel_rfl, show Try.prog.underlying 4 = some .bool from by kernel_rfl⟩
theorem ty5 : TyF Try.prog 5 (.int .u8) := ⟨by kernel_rfl, by kernel_rfl, show Try.prog.underlying 5 = some (.int .u8) from by kernel_rfl⟩
theorem ty9 : TyF Try.prog 9 .str := ⟨by kernel_rfl, by kernel_rfl, show Try.prog.underlying 9 = some .string from by kernel_rfl⟩
theorem ty22 : TyF Try.prog 22 (.slice 3 (.int .i64)) := ⟨by kernel_rfl, by kernel_rfl, ⟨by kernel_rfl, 8, by kernel_rfl, by decide, by decide, fun k hk => by cases hk; exact (by kernel_rfl : Try.prog.underlying 3 = some (.int .i64))⟩⟩
theorem ty24 : TyF Try.prog 24 (.pair (.slice 3 (.int .i64)) (.int .i64)) := ⟨by kernel_rfl, by kernel_rfl, (und_pair (by kernel_rfl))⟩
theorem ty33 : TyF Try.prog 33 (.pair (.slice 3 (.int .i64)) (.int .i64)) := ⟨by kernel_rfl, by kernel_rfl, (und_pair (by kernel_rfl))⟩
theorem ty35 : TyF Try.prog 35 TyHead := ⟨by kernel_rfl, by kernel_rfl, (und_pair (by kernel_rfl))⟩
theorem ty57 : TyF Try.prog 57 (.slice 84 TyEntry) := ⟨by kernel_rfl, by kernel_rfl, ⟨by kernel_rfl, 56, by kernel_rfl, by decide, by decide, fun k hk => by cases hk⟩⟩
theorem ty63 : TyF Try.prog 63 (.slice 89 TyEntry) := ⟨by kernel_rfl, by kernel_rfl, ⟨by kernel_rfl, 56, by kernel_rfl, by decide, by decide, fun k hk => by cases hk⟩⟩
theorem ty82 : TyF Try.prog 82 (.slice 9 .str) := ⟨by kernel_rfl, by kernel_rfl, ⟨by kernel_rfl, 16, by kernel_rfl, by decide, by decide, fun k hk => by cases hk⟩⟩
theorem ty84 : TyF Try.prog 84 TyEntry := ⟨by kernel_rfl, by kernel_rfl, (und_pair (by kernel_rfl))⟩
theorem ty89 : TyF Try.prog 89 TyEntry := ⟨by kernel_rfl, by kernel_rfl, (und_pair (by kernel_rfl))⟩
theorem ty111 : TyF Try.prog 111 (.slice 5 (.int .u8)) := ⟨by kernel_rfl, by kernel_rfl, ⟨by kernel_rfl, 1, by kernel_rfl, by decide, by decide, fun k hk => by cases hk; exact (by kernel_rfl : Try.prog.underlying 5 = some (.int .u8))⟩⟩
theorem tabOk : TabOk Try.prog tab := tabOk_of ⟨ty2, ⟨ty3, ⟨ty4, ⟨ty5, ⟨ty9, ⟨ty22, ⟨ty24, ⟨ty33, ⟨ty35, ⟨ty57, ⟨ty63, ⟨ty82, ⟨ty84, ⟨ty89, ⟨ty111, trivial⟩⟩⟩⟩⟩⟩⟩⟩⟩⟩⟩⟩⟩⟩⟩ ⟨fp_at (t0 := (.pair (.slice 3 (.int .i64)) (.int .i64))) rfl (by kernel_rfl), ⟨fp_at (t0 := (.pair (.slice 3 (.int .i64)) (.int .i64))) rfl (by kernel_rfl), ⟨fp_at (t0 := (.pair (.slice 3 (.int .i64)) (.int .i64))) rfl (by kernel_rfl), ⟨fp_at (t0 := (.pair (.slice 3 (.int .i64)) (.int .i64))) rfl (by kernel_rfl), ⟨fp_at (t0 := TyHead) rfl (by kernel_rfl), ⟨fp_at (t0 := TyHead) rfl (by kernel_rfl), ⟨fp_at (t0 := TyHead) rfl (by kernel_rfl), ⟨fp_at (t0 := TyHead) rfl (by kernel_rfl), ⟨fp_at (t0 := TyHead) rfl (by kernel_rfl), ⟨fp_at (t0 := TyHead) rfl (by kernel_rfl), ⟨fp_at (t0 := TyHead) rfl (by kernel_rfl), ⟨fp_at (t0 := TyHead) rfl (by kernel_rfl), ⟨fp_at (t0 := TyHead) rfl (by kernel_rfl), ⟨fp_at (t0 := TyHead) rfl (by kernel_rfl), ⟨fp_at (t0 := TyHead) rfl (by kernel_rfl), ⟨fp_at (t0 := TyHead) rfl (by kernel_rfl), ⟨fp_at (t0 := TyHead) rfl (by kernel_rfl), ⟨fp_at (t0 := TyEntry) rfl (by kernel_rfl), ⟨fp_at (t0 := TyEntry) rfl (by kernel_rfl), ⟨fp_at (t0 := TyEntry) rfl (by kernel_rfl), ⟨fp_at (t0 := TyEntry) rfl (by kernel_rfl), ⟨fp_at (t0 := TyEntry) rfl (by kernel_rfl), ⟨fp_at (t0 := TyEntry) rfl (by kernel_rfl), ⟨fp_at (t0 := TyEntry) rfl (by kernel_rfl), ⟨fp_at (t0 := TyEntry) rfl (by kernel_rfl), trivial⟩⟩⟩⟩⟩⟩⟩⟩⟩⟩⟩⟩⟩⟩⟩⟩⟩⟩⟩⟩⟩⟩⟩⟩⟩ (by kernel_rfl) ⟨plB_ok (by kernel_rfl), ⟨plB_ok (by kernel_rfl), ⟨plB_ok (by kernel_rfl), ⟨plB_ok (by kernel_rfl), ⟨plB_ok (by kernel_rfl), trivial⟩⟩⟩⟩⟩ trivial
def sigs_7 : Sig := [(.bool, .no)]
def sigs_14 : Sig := [(.bool, .no)]
def sigs_20 : Sig := [(.bool, .no)]
def sigs_21 : Sig := [((.int .i64), .no), (TyHead, (.pair .no (.pair .no (.pair .no (.pair .no (.pair .no (.pair .no (.pair .no (.pair .no (.pair (.pair (.own 0) .no) (.pair (.pair (.own 1) .no) (.pair .no (.pair (.pair (.own 2) .no) .no)))))))))))))]
def sigs_23 : Sig := [((.int .i64), .no), ((.pair (.slice 3 (.int .i64)) (.int .i64)), (.pair (.own 0) .no))]
def sigs_24 : Sig := [((.int .i64), .no)]
def sigs_30 : Sig := [((.int .i64), .no)]
def sigs_31 : Sig := [((.int .i64), .no)]
def sigs_32 : Sig := [(TyHead, (.pair .no (.pair .no (.pair .no (.pair .no (.pair .no (.pair .no (.pair .no (.pair .no (.pair (.pair (.own 0) .no) (.pair (.pair (.own 1) .no) (.pair .no (.pair (.pair (.own 2) .no) .no))))))))))))), (.bool, .no)]
def sigs_33 : Sig := [((.pair (.slice 3 (.int .i64)) (.int .i64)), (.pair (.own 0) .no))]
def sigs_34 : Sig := [((.slice 89 TyEntry), (.own 0))]
def sigs_35 : Sig := [(TyHead, (.pair .no (.pair .no (.pair .no (.pair .no (.pair .no (.pair .no (.pair .no (.pair .no (.pair (.pair (.own 0) .no) (.pair (.pair (.own 1) .no) (.pair .no (.pair (.pair (.own 2) .no) .no))))))))))))), (.bool, .no)]
def sigs_36 : Sig := [(.bool, .no)]
def sigs_37 : Sig := [((.int .i64), .no), ((.slice 89 TyEntry), (.own 0))]
def sigs_38 : Sig := [((.int .i64), .no)]
def sigs_40 : Sig := [(.bool, .no)]
def sigs_48 : Sig := [(.bool, .no)]
def sigs_54 : Sig := [((.pair (.slice 3 (.int .i64)) (.int .i64)), (.pair (.own 0) .no))]
def sigs_55 : Sig := [((.pair (.slice 3 (.int .i64)) (.int .i64)), (.pair (.own 0) .no))]
def sigs_56 : Sig := [(.bool, .no)]
def sigs_58 : Sig := [((.int .i64), .no), ((.slice 3 (.int .i64)), (.own 0))]
def sigs_59 : Sig := [((.int .i64), .no)]
def sigs_62 : Sig := [((.int .i64), .no)]
def sigs_63 : Sig := [((.int .i64), .no)]
def sigs_64 : Sig := [(.bool, .no)]
def sigs_65 : Sig := [(.bool, .no)]
def sigs_66 : Sig := [((.int .i64), .no)]
def sigs_67 : Sig := [((.int .i64), .no)]
def sigs_68 : Sig := [((.slice 3 (.int .i64)), (.own 0))]
def sigs_69 : Sig := [(TyEntry, (.pair .no (.pair .no (.pair .no (.own 0)))))]
def sigs_70 : Sig := [((.int .i64), .no)]
def sigs_71 : Sig := [((.int .i64), .no)]
def sigs_72 : Sig := [((.int .i64), .no)]
def sigs_73 : Sig := [(.bool, .no)]
def sigs_74 : Sig := [(.bool, .no)]
def sigs_75 : Sig := [(.str, .no)]
def sigs_76 : Sig := [((.int .i64), .no), ((.slice 9 .str), (.own 0))]
def sigs_77 : Sig := [(.bool, .no)]
def sigs_78 : Sig := [(.bool, .no)]
def sigs_79 : Sig := [((.int .i64), .no)]
def sigs_83 : Sig := [((.slice 3 (.int .i64)), (.own 0))]
def sigs_85 : Sig := [(.bool, .no)]
def sigs_86 : Sig := [(.bool, .no)]
def sigs_87 : Sig := [(.bool, .no)]
def sigs_88 : Sig := [(.bool, .no)]
def sigs_89 : Sig := [(.bool, .no)]
def sigs_90 : Sig := [(.bool, .no)]
def sigs_91 : Sig := [(.bool, .no)]
def sigs_97 : Sig := [((.slice 3 (.int .i64)), (.own 0))]
def sigs_98 : Sig := [((.int .i64), .no)]
def sigs_99 : Sig := [(.bool, .no)]
def sigs_100 : Sig := [((.int .i64), .no)]
def sigs_101 : Sig := [((.int .i64), .no)]
def sigs_102 : Sig := [((.int .i64), .no)]
def sigs_103 : Sig := [((.slice 3 (.int .i64)), (.own 0))]
def sigs_104 : Sig := [((.slice 9 .str), (.own 0))]
def sigs_105 : Sig := [((.int .i64), .no)]
def sigs_106 : Sig := [((.slice 3 (.int .i64)), (.own 0))]
def sigs_107 : Sig := [((.int .i64), .no)]
def sigs_108 : Sig := [((.int .i64), .no)]
def sigs_109 : Sig := [((.slice 3 (.int .i64)), (.own 0))]
def sigs_110 : Sig := [(.bool, .no)]
def sigs_111 : Sig := [((.int .i64), .no)]
def sigs_112 : Sig := [(.bool, .no)]
def sigs_113 : Sig := [((.int .i64), .no)]
def sigs_116 : Sig := [(.bool, .no)]
def sigs_117 : Sig := [(.bool, .no)]
def sigs_121 : Sig := [(.bool, .no)]
def sigs_122 : Sig := [(.bool, .no)]
def sigs_123 : Sig := [((.slice 3 (.int .i64)), (.own 0))]
def sigs_124 : Sig := [((.int .i64), .no)]
def sigs_125 : Sig := [((.int .i64), .no)]
def sigs_126 : Sig := [((.int .i64), .no)]
def sigs_127 : Sig := [((.slice 3 (.int .i64)), (.own 0))]
def sigs_128 : Sig := [((.int .i64), .no)]
def sigs_129 : Sig := [(.bool, .no)]
def sigs_130 : Sig := [(.bool, .no)]
def sigs_131 : Sig := [((.int .i64), .no)]
def sigs_136 : Sig := [((.int .i64), .no)]
def sigs_137 : Sig := [((.slice 3 (.int .i64)), (.own 0))]
def sigs_138 : Sig := [((.int .i64), .no)]
def sigs_139 : Sig := [((.slice 3 (.int .i64)), (.own 0))]
def sigs_140 : Sig := [(.bool, .no)]
def sigs_141 : Sig := [(.bool, .no)]
def sigs_142 : Sig := [((.int .i64), .no)]
def sigs_148 : Sig := [((.slice 3 (.int .i64)), (.own 0))]
def sigs_149 : Sig := [((.slice 3 (.int .i64)), (.own 0))]
def sigs_150 : Sig := [((.int .i64), .no)]
def sigs_154 : Sig := [((.slice 3 (.int .i64)), (.own 0))]
def sigs_155 : Sig := [((.slice 3 (.int .i64)), (.own 0))]
def sigs : Sigs := fun n => (cond (Nat.beq n 7) (some sigs_7) (cond (Nat.beq n 14) (some sigs_14) (cond (Nat.beq n 20) (some sigs_20) (cond (Nat.beq n 21) (some sigs_21) (cond (Nat.beq n 23) (some sigs_23) (cond (Nat.beq n 24) (some sigs_24) (cond (Nat.beq n 30) (some sigs_30) (cond (Nat.beq n 31) (some sigs_31) (cond (Nat.beq n 32) (some sigs_32) (cond (Nat.beq n 33) (some sigs_33) (cond (Nat.beq n 34) (some sigs_34) (cond (Nat.beq n 35) (some sigs_35) (cond (Nat.beq n 36) (some sigs_36) (cond (Nat.beq n 37) (some sigs_37) (cond (Nat.beq n 38) (some sigs_38) (cond (Nat.beq n 40) (some sigs_40) (cond (Nat.beq n 48) (some sigs_48) (cond (Nat.beq n 54) (some sigs_54) (cond (Nat.beq n 55) (some sigs_55) (cond (Nat.beq n 56) (some sigs_56) (cond (Nat.beq n 58) (some sigs_58) (cond (Nat.beq n 59) (some sigs_59) (cond (Nat.beq n 62) (some sigs_62) (cond (Nat.beq n 63) (some sigs_63) (cond (Nat.beq n 64) (some sigs_64) (cond (Nat.beq n 65) (some sigs_65) (cond (Nat.beq n 66) (some sigs_66) (cond (Nat.beq n 67) (some sigs_67) (cond (Nat.beq n 68) (some sigs_68) (cond (Nat.beq n 69) (some sigs_69) (cond (Nat.beq n 70) (some sigs_70) (cond (Nat.beq n 71) (some sigs_71) (cond (Nat.beq n 72) (some sigs_72) (cond (Nat.beq n 73) (some sigs_73) (cond (Nat.beq n 74) (some sigs_74) (cond (Nat.beq n 75) (some sigs_75) (cond (Nat.beq n 76) (some sigs_76) (cond (Nat.beq n 77) (some sigs_77) (cond (Nat.beq n 78) (some sigs_78) (cond (Nat.beq n 79) (some sigs_79) (cond (Nat.beq n 83) (some sigs_83) (cond (Nat.beq n 85) (some sigs_85) (cond (Nat.beq n 86) (some sigs_86) (cond (Nat.beq n 87) (some sigs_87) (cond (Nat.beq n 88) (some sigs_88) (cond (Nat.beq n 89) (some sigs_89) (cond (Nat.beq n 90) (some sigs_90) (cond (Nat.beq n 91) (some sigs_91) (cond (Nat.beq n 97) (some sigs_97) (cond (Nat.beq n 98) (some sigs_98) (cond (Nat.beq n 99) (some sigs_99) (cond (Nat.beq n 100) (some sigs_100) (cond (Nat.beq n 101) (some sigs_101) (cond (Nat.beq n 102) (some sigs_102) (cond (Nat.beq n 103) (some sigs_103) (cond (Nat.beq n 104) (some sigs_104) (cond (Nat.beq n 105) (some sigs_105) (cond (Nat.beq n 106) (some sigs_106) (cond (Nat.beq n 107) (some sigs_107) (cond (Nat.beq n 108) (some sigs_108) (cond (Nat.beq n 109) (some sigs_109) (cond (Nat.beq n 110) (some sigs_110) (cond (Nat.beq n 111) (some sigs_111) (cond (Nat.beq n 112) (some sigs_112) (cond (Nat.beq n 113) (some sigs_113) (cond (Nat.beq n 116) (some sigs_116) (cond (Nat.beq n 117) (some sigs_117) (cond (Nat.beq n 121) (some sigs_121) (cond (Nat.beq n 122) (some sigs_122) (cond (Nat.beq n 123) (some sigs_123) (cond (Nat.beq n 124) (some sigs_124) (cond (Nat.beq n 125) (some sigs_125) (cond (Nat.beq n 126) (some sigs_126) (cond (Nat.beq n 127) (some sigs_127) (cond (Nat.beq n 128) (some sigs_128) (cond (Nat.beq n 129) (some sigs_129) (cond (Nat.beq n 130) (some sigs_130) (cond (Nat.beq n 131) (some sigs_131) (cond (Nat.beq n 136) (some sigs_136) (cond (Nat.beq n 137) (some sigs_137) (cond (Nat.beq n 138) (some sigs_138) (cond (Nat.beq n 139) (some sigs_139) (cond (Nat.beq n 140) (some sigs_140) (cond (Nat.beq n 141) (some sigs_141) (cond (Nat.beq n 142) (some sigs_142) (cond (Nat.beq n 148) (some sigs_148) (cond (Nat.beq n 149) (some sigs_149) (cond (Nat.beq n 150) (some sigs_150) (cond (Nat.beq n 154) (some sigs_154) (cond (Nat.beq n 155) (some sigs_155) none))))))))))))))))))))))))))))))))))))))))))))))))))))))))))))))))))))))))))))))))))))))))))
end Go.Proofs.Ythcenfbfgjcikaa.Ref
