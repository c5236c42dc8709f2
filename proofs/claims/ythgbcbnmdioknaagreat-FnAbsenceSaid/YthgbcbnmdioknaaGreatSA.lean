/- The table of types and the signatures of the functions of this seat.
   Conditions: as each theorem states. -/
import Derived.Test.YthgbcbnmdioknaaGreatK3
import Derived.Test.YthgbcbnmdioknaaGreatProg
set_option linter.unusedVariables false
set_option linter.unusedSimpArgs false
set_option maxRecDepth 100000
namespace Go.Proofs.YthgbcbnmdioknaaGreat.Ref
open Go.RowKit Go.Proofs.YthgbcbnmdioknaaGreatW.PrintWords Go.Proofs.YthgbcbnmdioknaaGreatW.PrintLast
open Go.Proofs.YthgbcbnmdioknaaGreat
abbrev TyEntry : Ty := (.pair .str (.pair (.int .i64) (.pair (.int .i64) (.slice 9 .str))))
def tab : Tab := ⟨[(2, (.int .i64)), (3, (.int .i64)), (4, .bool), (5, (.int .u8)), (9, .str), (22, (.slice 5 (.int .u8))), (24, (.slice 29 TyEntry)), (27, (.slice 9 .str)), (29, TyEntry), (30, (.slice 3 (.int .i64))), (32, (.pair (.int .i64) (.slice 3 (.int .i64)))), (34, (.pair (.int .i64) (.pair TyEntry (.pair TyEntry (.pair (.pair (.int .i64) (.slice 3 (.int .i64))) (.pair (.int .i64) (.slice 3 (.int .i64)))))))), (108, (.pair (.slice 5 (.int .u8)) (.pair (.int .i64) (.int .i64)))), (136, (.int .u64))], [(29, 0, [false]), (29, 1, [true, false]), (29, 2, [true, true, false]), (29, 3, [true, true, true]), (32, 0, [false]), (32, 1, [true]), (34, 0, [false]), (34, 1, [true, false]), (34, 2, [true, true, false]), (34, 3, [true, true, true, false]), (34, 4, [true, true, true, true]), (108, 0, [false]), (108, 1, [true, false]), (108, 2, [true, true])], [], [49, 50, 51, 53, 58, 59, 60, 74, 79, 99, 100, 101, 102, 105, 110, 111, 131, 132, 133, 147, 151, 158, 160], [48], [53, 105]⟩
theorem ty2 : TyF Tryz.prog 2 (.int .i64) := ⟨by kernel_rfl, by kernel_rfl, show Tryz.prog.underlying 2 = some (.int .i64) from by kernel_rfl⟩
theorem ty3 : TyF Tryz.prog 3 (.int .i64) := ⟨by kernel_rfl, by kernel_rfl, show Tryz.prog.underlying 3 = some (.int .i64) from by kernel_rfl⟩
theorem ty4 : TyF Tryz.prog 4 .bool := ⟨by kernel_rfl, by kernel_rfl, show Tryz.prog.underlying 4 = some .bool from by kernel_rfl⟩
theorem ty5 : TyF Tryz.prog 5 (.int .u8) := ⟨by kernel_rfl, by kernel_rfl, show Tryz.prog.underlying 5 = some (.int .u8) from by kernel_rfl⟩
theorem ty9 : TyF Tryz.prog 9 .str := ⟨by kernel_rfl, by kernel_rfl, show Tryz.prog.underlying 9 = some .string from by kernel_rfl⟩
theorem ty22 : TyF Tryz.prog 22 (.slice 5 (.int .u8)) := ⟨by kernel_rfl, by kernel_rfl, ⟨by kernel_rfl, 1, by kernel_rfl, by decide, by decide, fun k hk => by cases hk; exact (by kernel_rfl : Tryz.prog.underlying 5 = some (.int .u8))⟩⟩
theorem ty24 : TyF Tryz.prog 24 (.slice 29 TyEntry) := ⟨by kernel_rfl, by kernel_rfl, ⟨by kernel_rfl, 56, by kernel_rfl, by decide, by decide, fun k hk => by cases hk⟩⟩
theorem ty27 : TyF Tryz.prog 27 (.slice 9 .str) := ⟨by kernel_rfl, by kernel_rfl, ⟨by kernel_rfl, 16, by kernel_rfl, by decide, by decide, fun k hk => by cases hk⟩⟩
theorem ty29 : TyF Tryz.prog 29 TyEntry := ⟨by kernel_rfl, by kernel_rfl, (und_pair (by kernel_rfl))⟩
theorem ty30 : TyF Tryz.prog 30 (.slice 3 (.int .i64)) := ⟨by kernel_rfl, by kernel_rfl, ⟨by kernel_rfl, 8, by kernel_rfl, by decide, by decide, fun k hk => by cases hk; exact (by kernel_rfl : Tryz.prog.underlying 3 = some (.int .i64))⟩⟩
theorem ty32 : TyF Tryz.prog 32 (.pair (.int .i64) (.slice 3 (.int .i64))) := ⟨by kernel_rfl, by kernel_rfl, (und_pair (by kernel_rfl))⟩
theorem ty34 : TyF Tryz.prog 34 (.pair (.int .i64) (.pair TyEntry (.pair TyEntry (.pair (.pair (.int .i64) (.slice 3 (.int .i64))) (.pair (.int .i64) (.slice 3 (.int .i64))))))) := ⟨by kernel_rfl, by kernel_rfl, (und_pair (by kernel_rfl))⟩
theorem ty108 : TyF Tryz.prog 108 (.pair (.slice 5 (.int .u8)) (.pair (.int .i64) (.int .i64))) := ⟨by kernel_rfl, by kernel_rfl, (und_pair (by kernel_rfl))⟩
theorem ty136 : TyF Tryz.prog 136 (.int .u64) := ⟨by kernel_rfl, by kernel_rfl, show Tryz.prog.underlying 136 = some (.int .u64) from by kernel_rfl⟩
theorem tabOk : TabOk Tryz.prog tab := tabOk_of ⟨ty2, ⟨ty3, ⟨ty4, ⟨ty5, ⟨ty9, ⟨ty22, ⟨ty24, ⟨ty27, ⟨ty29, ⟨ty30, ⟨ty32, ⟨ty34, ⟨ty108, ⟨ty136, trivial⟩⟩⟩⟩⟩⟩⟩⟩⟩⟩⟩⟩⟩⟩ ⟨fp_at (t0 := TyEntry) rfl (by kernel_rfl), ⟨fp_at (t0 := TyEntry) rfl (by kernel_rfl), ⟨fp_at (t0 := TyEntry) rfl (by kernel_rfl), ⟨fp_at (t0 := TyEntry) rfl (by kernel_rfl), ⟨fp_at (t0 := (.pair (.int .i64) (.slice 3 (.int .i64)))) rfl (by kernel_rfl), ⟨fp_at (t0 := (.pair (.int .i64) (.slice 3 (.int .i64)))) rfl (by kernel_rfl), ⟨fp_at (t0 := (.pair (.int .i64) (.pair TyEntry (.pair TyEntry (.pair (.pair (.int .i64) (.slice 3 (.int .i64))) (.pair (.int .i64) (.slice 3 (.int .i64)))))))) rfl (by kernel_rfl), ⟨fp_at (t0 := (.pair (.int .i64) (.pair TyEntry (.pair TyEntry (.pair (.pair (.int .i64) (.slice 3 (.int .i64))) (.pair (.int .i64) (.slice 3 (.int .i64)))))))) rfl (by kernel_rfl), ⟨fp_at (t0 := (.pair (.int .i64) (.pair TyEntry (.pair TyEntry (.pair (.pair (.int .i64) (.slice 3 (.int .i64))) (.pair (.int .i64) (.slice 3 (.int .i64)))))))) rfl (by kernel_rfl), ⟨fp_at (t0 := (.pair (.int .i64) (.pair TyEntry (.pair TyEntry (.pair (.pair (.int .i64) (.slice 3 (.int .i64))) (.pair (.int .i64) (.slice 3 (.int .i64)))))))) rfl (by kernel_rfl), ⟨fp_at (t0 := (.pair (.int .i64) (.pair TyEntry (.pair TyEntry (.pair (.pair (.int .i64) (.slice 3 (.int .i64))) (.pair (.int .i64) (.slice 3 (.int .i64)))))))) rfl (by kernel_rfl), ⟨fp_at (t0 := (.pair (.slice 5 (.int .u8)) (.pair (.int .i64) (.int .i64)))) rfl (by kernel_rfl), ⟨fp_at (t0 := (.pair (.slice 5 (.int .u8)) (.pair (.int .i64) (.int .i64)))) rfl (by kernel_rfl), ⟨fp_at (t0 := (.pair (.slice 5 (.int .u8)) (.pair (.int .i64) (.int .i64)))) rfl (by kernel_rfl), trivial⟩⟩⟩⟩⟩⟩⟩⟩⟩⟩⟩⟩⟩⟩ (by kernel_rfl) ⟨plB_ok (by kernel_rfl), ⟨plB_ok (by kernel_rfl), ⟨plB_ok (by kernel_rfl), ⟨plB_ok (by kernel_rfl), trivial⟩⟩⟩⟩ trivial
def sigs_3 : Sig := [(.bool, .no)]
def sigs_5 : Sig := [(.bool, .no)]
def sigs_6 : Sig := [((.slice 29 TyEntry), .no), (.str, .no)]
def sigs_7 : Sig := [((.pair (.int .i64) (.pair TyEntry (.pair TyEntry (.pair (.pair (.int .i64) (.slice 3 (.int .i64))) (.pair (.int .i64) (.slice 3 (.int .i64))))))), (.pair .no (.pair (.pair .no (.pair .no (.pair .no (.own 0)))) (.pair (.pair .no (.pair .no (.pair .no (.own 1)))) (.pair (.pair .no (.own 2)) (.pair .no (.own 3))))))), (.bool, .no)]
def sigs_8 : Sig := [((.pair (.int .i64) (.pair TyEntry (.pair TyEntry (.pair (.pair (.int .i64) (.slice 3 (.int .i64))) (.pair (.int .i64) (.slice 3 (.int .i64))))))), (.pair .no (.pair (.pair .no (.pair .no (.pair .no (.own 0)))) (.pair (.pair .no (.pair .no (.pair .no (.own 1)))) (.pair (.pair .no (.own 2)) (.pair .no (.own 3))))))), (.bool, .no)]
def sigs_9 : Sig := [(.bool, .no)]
def sigs_10 : Sig := [((.int .i64), .no)]
def sigs_11 : Sig := [(.bool, .no)]
def sigs_12 : Sig := [((.int .i64), .no)]
def sigs_13 : Sig := [((.int .i64), .no), ((.int .i64), .no), (.str, .no), ((.pair (.int .i64) (.pair TyEntry (.pair TyEntry (.pair (.pair (.int .i64) (.slice 3 (.int .i64))) (.pair (.int .i64) (.slice 3 (.int .i64))))))), .no)]
def sigs_14 : Sig := [(.bool, .no)]
def sigs_28 : Sig := [((.slice 29 TyEntry), .no), (.str, .no)]
def sigs_29 : Sig := [(.bool, .no)]
def sigs_30 : Sig := [(.bool, .no)]
def sigs_31 : Sig := [((.int .i64), .no)]
def sigs_32 : Sig := [(TyEntry, (.pair .no (.pair .no (.pair .no (.own 0)))))]
def sigs_33 : Sig := [((.pair (.int .i64) (.slice 3 (.int .i64))), (.pair .no (.own 0))), (.bool, .no)]
def sigs_34 : Sig := [(.bool, .no)]
def sigs_35 : Sig := [(.bool, .no)]
def sigs_36 : Sig := [((.int .i64), .no)]
def sigs_37 : Sig := [((.int .i64), .no)]
def sigs_38 : Sig := [(TyEntry, (.pair .no (.pair .no (.pair .no (.own 0)))))]
def sigs_39 : Sig := [((.pair (.int .i64) (.slice 3 (.int .i64))), (.pair .no (.own 0))), (.bool, .no)]
def sigs_40 : Sig := [(.bool, .no)]
def sigs_41 : Sig := [(.bool, .no)]
def sigs_42 : Sig := [((.int .i64), .no)]
def sigs_43 : Sig := [((.int .i64), .no)]
def sigs_44 : Sig := [((.slice 3 (.int .i64)), (.own 0))]
def sigs_45 : Sig := [(.bool, .no)]
def sigs_46 : Sig := [(.bool, .no)]
def sigs_47 : Sig := [((.int .i64), .no)]
def sigs_48 : Sig := []
def sigs_49 : Sig := [((.slice 29 TyEntry), (.own 0))]
def sigs_50 : Sig := [(.str, .no)]
def sigs_51 : Sig := [((.int .i64), .no)]
def sigs_52 : Sig := [((.int .i64), .no)]
def sigs_53 : Sig := [((.pair (.int .i64) (.pair TyEntry (.pair TyEntry (.pair (.pair (.int .i64) (.slice 3 (.int .i64))) (.pair (.int .i64) (.slice 3 (.int .i64))))))), .no)]
def sigs_54 : Sig := [(.bool, .no)]
def sigs_55 : Sig := [(.bool, .no)]
def sigs_56 : Sig := [(.bool, .no)]
def sigs_57 : Sig := [((.int .i64), .no)]
def sigs_59 : Sig := [((.int .i64), .no)]
def sigs_60 : Sig := [((.slice 29 TyEntry), (.own 0))]
def sigs_69 : Sig := [(.bool, .no)]
def sigs_71 : Sig := [((.int .i64), .no)]
def sigs_77 : Sig := [((.int .i64), .no)]
def sigs_79 : Sig := [(.bool, .no)]
def sigs_80 : Sig := [(.bool, .no)]
def sigs_81 : Sig := [((.int .i64), .no)]
def sigs_82 : Sig := [(.bool, .no)]
def sigs_83 : Sig := [((.slice 9 .str), (.own 0))]
def sigs_84 : Sig := [((.slice 3 (.int .i64)), (.own 0))]
def sigs_85 : Sig := [(.bool, .no)]
def sigs_86 : Sig := [((.slice 9 .str), (.own 0))]
def sigs_87 : Sig := [((.slice 3 (.int .i64)), (.own 0))]
def sigs_88 : Sig := [((.slice 3 (.int .i64)), (.own 0))]
def sigs_89 : Sig := [(.bool, .no)]
def sigs_90 : Sig := [(.bool, .no)]
def sigs_91 : Sig := [((.int .i64), .no)]
def sigs_92 : Sig := [((.slice 3 (.int .i64)), (.own 0))]
def sigs_93 : Sig := [((.int .i64), .no)]
def sigs_94 : Sig := [(.bool, .no)]
def sigs_95 : Sig := [(.bool, .no)]
def sigs_96 : Sig := [(.bool, .no)]
def sigs_97 : Sig := [((.int .i64), .no)]
def sigs_98 : Sig := [((.slice 29 TyEntry), (.own 0)), (.bool, .no)]
def sigs_99 : Sig := [(TyEntry, (.pair .no (.pair .no (.pair .no (.own 0)))))]
def sigs_100 : Sig := [(.str, .no)]
def sigs_101 : Sig := [(.str, .no)]
def sigs_102 : Sig := [((.int .i64), .no)]
def sigs_103 : Sig := [((.int .i64), .no)]
def sigs_104 : Sig := [((.int .i64), .no)]
def sigs_105 : Sig := [((.pair (.int .i64) (.slice 3 (.int .i64))), .no)]
def sigs_106 : Sig := [(.bool, .no)]
def sigs_107 : Sig := [(.bool, .no)]
def sigs_108 : Sig := [((.int .i64), .no), (.bool, .no)]
def sigs_109 : Sig := [((.int .i64), .no)]
def sigs_111 : Sig := [(TyEntry, (.pair .no (.pair .no (.pair .no (.own 0)))))]
def sigs_112 : Sig := [(TyEntry, (.pair .no (.pair .no (.pair .no (.own 0)))))]
def sigs_114 : Sig := [(.bool, .no)]
def sigs_127 : Sig := [((.int .i64), .no)]
def sigs_136 : Sig := [((.int .i64), .no)]
def sigs_137 : Sig := [(.bool, .no)]
def sigs_138 : Sig := [(.bool, .no)]
def sigs_139 : Sig := [((.slice 3 (.int .i64)), (.own 0))]
def sigs_140 : Sig := [((.int .i64), .no)]
def sigs_141 : Sig := [((.slice 3 (.int .i64)), (.own 0))]
def sigs_142 : Sig := [((.int .i64), .no), (.bool, .no)]
def sigs_143 : Sig := [((.int .i64), .no)]
def sigs_144 : Sig := [((.slice 29 TyEntry), (.own 0))]
def sigs_145 : Sig := [(TyEntry, (.pair .no (.pair .no (.pair .no (.own 0)))))]
def sigs_146 : Sig := [(TyEntry, (.pair .no (.pair .no (.pair .no (.own 0)))))]
def sigs_147 : Sig := [((.slice 9 .str), (.own 0))]
def sigs_148 : Sig := [(.bool, .no)]
def sigs_149 : Sig := [((.int .i64), .no)]
def sigs_150 : Sig := [((.slice 3 (.int .i64)), (.own 0))]
def sigs_151 : Sig := [((.slice 9 .str), (.own 0))]
def sigs_163 : Sig := [(.bool, .no)]
def sigs_164 : Sig := [(.bool, .no)]
def sigs_165 : Sig := [((.slice 3 (.int .i64)), (.own 0))]
def sigs_167 : Sig := [((.slice 3 (.int .i64)), (.own 0))]
def sigs_170 : Sig := [((.int .i64), .no)]
def sigs_171 : Sig := [((.slice 3 (.int .i64)), (.own 0))]
def sigs_172 : Sig := [((.slice 3 (.int .i64)), (.own 0))]
def sigs : Sigs := fun n => (cond (Nat.beq n 3) (some sigs_3) (cond (Nat.beq n 5) (some sigs_5) (cond (Nat.beq n 6) (some sigs_6) (cond (Nat.beq n 7) (some sigs_7) (cond (Nat.beq n 8) (some sigs_8) (cond (Nat.beq n 9) (some sigs_9) (cond (Nat.beq n 10) (some sigs_10) (cond (Nat.beq n 11) (some sigs_11) (cond (Nat.beq n 12) (some sigs_12) (cond (Nat.beq n 13) (some sigs_13) (cond (Nat.beq n 14) (some sigs_14) (cond (Nat.beq n 28) (some sigs_28) (cond (Nat.beq n 29) (some sigs_29) (cond (Nat.beq n 30) (some sigs_30) (cond (Nat.beq n 31) (some sigs_31) (cond (Nat.beq n 32) (some sigs_32) (cond (Nat.beq n 33) (some sigs_33) (cond (Nat.beq n 34) (some sigs_34) (cond (Nat.beq n 35) (some sigs_35) (cond (Nat.beq n 36) (some sigs_36) (cond (Nat.beq n 37) (some sigs_37) (cond (Nat.beq n 38) (some sigs_38) (cond (Nat.beq n 39) (some sigs_39) (cond (Nat.beq n 40) (some sigs_40) (cond (Nat.beq n 41) (some sigs_41) (cond (Nat.beq n 42) (some sigs_42) (cond (Nat.beq n 43) (some sigs_43) (cond (Nat.beq n 44) (some sigs_44) (cond (Nat.beq n 45) (some sigs_45) (cond (Nat.beq n 46) (some sigs_46) (cond (Nat.beq n 47) (some sigs_47) (cond (Nat.beq n 48) (some sigs_48) (cond (Nat.beq n 49) (some sigs_49) (cond (Nat.beq n 50) (some sigs_50) (cond (Nat.beq n 51) (some sigs_51) (cond (Nat.beq n 52) (some sigs_52) (cond (Nat.beq n 53) (some sigs_53) (cond (Nat.beq n 54) (some sigs_54) (cond (Nat.beq n 55) (some sigs_55) (cond (Nat.beq n 56) (some sigs_56) (cond (Nat.beq n 57) (some sigs_57) (cond (Nat.beq n 59) (some sigs_59) (cond (Nat.beq n 60) (some sigs_60) (cond (Nat.beq n 69) (some sigs_69) (cond (Nat.beq n 71) (some sigs_71) (cond (Nat.beq n 77) (some sigs_77) (cond (Nat.beq n 79) (some sigs_79) (cond (Nat.beq n 80) (some sigs_80) (cond (Nat.beq n 81) (some sigs_81) (cond (Nat.beq n 82) (some sigs_82) (cond (Nat.beq n 83) (some sigs_83) (cond (Nat.beq n 84) (some sigs_84) (cond (Nat.beq n 85) (some sigs_85) (cond (Nat.beq n 86) (some sigs_86) (cond (Nat.beq n 87) (some sigs_87) (cond (Nat.beq n 88) (some sigs_88) (cond (Nat.beq n 89) (some sigs_89) (cond (Nat.beq n 90) (some sigs_90) (cond (Nat.beq n 91) (some sigs_91) (cond (Nat.beq n 92) (some sigs_92) (cond (Nat.beq n 93) (some sigs_93) (cond (Nat.beq n 94) (some sigs_94) (cond (Nat.beq n 95) (some sigs_95) (cond (Nat.beq n 96) (some sigs_96) (cond (Nat.beq n 97) (some sigs_97) (cond (Nat.beq n 98) (some sigs_98) (cond (Nat.beq n 99) (some sigs_99) (cond (Nat.beq n 100) (some sigs_100) (cond (Nat.beq n 101) (some sigs_101) (cond (Nat.beq n 102) (some sigs_102) (cond (Nat.beq n 103) (some sigs_103) (cond (Nat.beq n 104) (some sigs_104) (cond (Nat.beq n 105) (some sigs_105) (cond (Nat.beq n 106) (some sigs_106) (cond (Nat.beq n 107) (some sigs_107) (cond (Nat.beq n 108) (some sigs_108) (cond (Nat.beq n 109) (some sigs_109) (cond (Nat.beq n 111) (some sigs_111) (cond (Nat.beq n 112) (some sigs_112) (cond (Nat.beq n 114) (some sigs_114) (cond (Nat.beq n 127) (some sigs_127) (cond (Nat.beq n 136) (some sigs_136) (cond (Nat.beq n 137) (some sigs_137) (cond (Nat.beq n 138) (some sigs_138) (cond (Nat.beq n 139) (some sigs_139) (cond (Nat.beq n 140) (some sigs_140) (cond (Nat.beq n 141) (some sigs_141) (cond (Nat.beq n 142) (some sigs_142) (cond (Nat.beq n 143) (some sigs_143) (cond (Nat.beq n 144) (some sigs_144) (cond (Nat.beq n 145) (some sigs_145) (cond (Nat.beq n 146) (some sigs_146) (cond (Nat.beq n 147) (some sigs_147) (cond (Nat.beq n 148) (some sigs_148) (cond (Nat.beq n 149) (some sigs_149) (cond (Nat.beq n 150) (some sigs_150) (cond (Nat.beq n 151) (some sigs_151) (cond (Nat.beq n 163) (some sigs_163) (cond (Nat.beq n 164) (some sigs_164) (cond (Nat.beq n 165) (some sigs_165) (cond (Nat.beq n 167) (some sigs_167) (cond (Nat.beq n 170) (some sigs_170) (cond (Nat.beq n 171) (some sigs_171) (cond (Nat.beq n 172) (some sigs_172) none))))))))))))))))))))))))))))))))))))))))))))))))))))))))))))))))))))))))))))))))))))))))))))))))))))))))
end Go.Proofs.YthgbcbnmdioknaaGreat.Ref
