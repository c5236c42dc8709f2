/- The table of types and the signatures of the functions of this seat.
   Conditions: as each theorem states. -/
import Derived.Test.YthegggkfngnehaaK3
import Derived.Test.YthegggkfngnehaaProg
set_option linter.unusedVariables false
set_option linter.unusedSimpArgs false
set_option maxRecDepth 100000
namespace Go.Proofs.Ythegggkfngnehaa.Ref
open Go.RowKit Go.Proofs.YthegggkfngnehaaW.PrintWords Go.Proofs.YthegggkfngnehaaW.PrintLast
open Go.Proofs.Ythegggkfngnehaa
def tab : Tab := ⟨[(2, (.int .i64)), (3, (.int .i64)), (4, .bool), (5, (.int .u8)), (9, .str), (22, (.slice 9 .str)), (24, (.pair .str (.pair (.int .i64) (.pair (.int .i64) (.slice 9 .str))))), (25, (.slice 3 (.int .i64))), (27, (.pair (.int .i64) (.slice 3 (.int .i64)))), (31, (.pair .str (.pair (.int .i64) (.pair (.int .i64) (.slice 9 .str))))), (33, (.pair (.int .i64) (.slice 3 (.int .i64)))), (38, (.slice 24 (.pair .str (.pair (.int .i64) (.pair (.int .i64) (.slice 9 .str)))))), (41, (.slice 31 (.pair .str (.pair (.int .i64) (.pair (.int .i64) (.slice 9 .str)))))), (51, (.pair (.int .i64) (.pair (.pair .str (.pair (.int .i64) (.pair (.int .i64) (.slice 9 .str)))) (.pair (.pair .str (.pair (.int .i64) (.pair (.int .i64) (.slice 9 .str)))) (.pair (.pair (.int .i64) (.slice 3 (.int .i64))) (.pair (.int .i64) (.slice 3 (.int .i64)))))))), (55, (.pair (.int .i64) (.pair (.pair .str (.pair (.int .i64) (.pair (.int .i64) (.slice 9 .str)))) (.pair (.pair .str (.pair (.int .i64) (.pair (.int .i64) (.slice 9 .str)))) (.pair (.pair (.int .i64) (.slice 3 (.int .i64))) (.pair (.int .i64) (.slice 3 (.int .i64)))))))), (96, (.slice 5 (.int .u8)))], [(24, 0, [false]), (24, 1, [true, false]), (24, 2, [true, true, false]), (24, 3, [true, true, true]), (27, 0, [false]), (27, 1, [true]), (31, 0, [false]), (31, 1, [true, false]), (31, 2, [true, true, false]), (31, 3, [true, true, true]), (33, 0, [false]), (33, 1, [true]), (51, 0, [false]), (51, 1, [true, false]), (51, 2, [true, true, false]), (51, 3, [true, true, true, false]), (51, 4, [true, true, true, true]), (55, 0, [false]), (55, 1, [true, false]), (55, 2, [true, true, false]), (55, 3, [true, true, true, false]), (55, 4, [true, true, true, true])]⟩
theorem ty2 : TyF Try.prog 2 (.int .i64) := ⟨by kernel_rfl, by kernel_rfl, show Try.prog.underlying 2 = some (.int .i64) from by kernel_rfl⟩
theorem ty3 : TyF Try.prog 3 (.int .i64) := ⟨by kernel_rfl, by kernel_rfl, show Try.prog.underlying 3 = some (.int .i64) from by kernel_rfl⟩
theorem ty4 : TyF Try.prog 4 .bool := ⟨by kernel_rfl, by kernel_rfl, show Try.prog.underlying 4 = some .bool from by kernel_rfl⟩
theorem ty5 : TyF Try.prog 5 (.int .u8) := ⟨by kernel_rfl, by kernel_rfl, show Try.prog.underlying 5 = some (.int .u8) from by kernel_rfl⟩
theorem ty9 : TyF Try.prog 9 .str := ⟨by kernel_rfl, by kernel_rfl, show Try.prog.underlying 9 = some .string from by kernel_rfl⟩
theorem ty22 : TyF Try.prog 22 (.slice 9 .str) := ⟨by kernel_rfl, by kernel_rfl, ⟨by kernel_rfl, 16, by kernel_rfl, by decide, by decide, fun k hk => by cases hk⟩⟩
theorem ty24 : TyF Try.prog 24 (.pair .str (.pair (.int .i64) (.pair (.int .i64) (.slice 9 .str)))) := ⟨by kernel_rfl, by kernel_rfl, (und_pair (by kernel_rfl))⟩
theorem ty25 : TyF Try.prog 25 (.slice 3 (.int .i64)) := ⟨by kernel_rfl, by kernel_rfl, ⟨by kernel_rfl, 8, by kernel_rfl, by decide, by decide, fun k hk => by cases hk; exact (by kernel_rfl : Try.prog.underlying 3 = some (.int .i64))⟩⟩
theorem ty27 : TyF Try.prog 27 (.pair (.int .i64) (.slice 3 (.int .i64))) := ⟨by kernel_rfl, by kernel_rfl, (und_pair (by kernel_rfl))⟩
theorem ty31 : TyF Try.prog 31 (.pair .str (.pair (.int .i64) (.pair (.int .i64) (.slice 9 .str)))) := ⟨by kernel_rfl, by kernel_rfl, (und_pair (by kernel_rfl))⟩
theorem ty33 : TyF Try.prog 33 (.pair (.int .i64) (.slice 3 (.int .i64))) := ⟨by kernel_rfl, by kernel_rfl, (und_pair (by kernel_rfl))⟩
theorem ty38 : TyF Try.prog 38 (.slice 24 (.pair .str (.pair (.int .i64) (.pair (.int .i64) (.slice 9 .str))))) := ⟨by kernel_rfl, by kernel_rfl, ⟨by kernel_rfl, 56, by kernel_rfl, by decide, by decide, fun k hk => by cases hk⟩⟩
theorem ty41 : TyF Try.prog 41 (.slice 31 (.pair .str (.pair (.int .i64) (.pair (.int .i64) (.slice 9 .str))))) := ⟨by kernel_rfl, by kernel_rfl, ⟨by kernel_rfl, 56, by kernel_rfl, by decide, by decide, fun k hk => by cases hk⟩⟩
theorem ty51 : TyF Try.prog 51 (.pair (.int .i64) (.pair (.pair .str (.pair (.int .i64) (.pair (.int .i64) (.slice 9 .str)))) (.pair (.pair .str (.pair (.int .i64) (.pair (.int .i64) (.slice 9 .str)))) (.pair (.pair (.int .i64) (.slice 3 (.int .i64))) (.pair (.int .i64) (.slice 3 (.int .i64))))))) := ⟨by kernel_rfl, by kernel_rfl, (und_pair (by kernel_rfl))⟩
theorem ty55 : TyF Try.prog 55 (.pair (.int .i64) (.pair (.pair .str (.pair (.int .i64) (.pair (.int .i64) (.slice 9 .str)))) (.pair (.pair .str (.pair (.int .i64) (.pair (.int .i64) (.slice 9 .str)))) (.pair (.pair (.int .i64) (.slice 3 (.int .i64))) (.pair (.int .i64) (.slice 3 (.int .i64))))))) := ⟨by kernel_rfl, by kernel_rfl, (und_pair (by kernel_rfl))⟩
theorem ty96 : TyF Try.prog 96 (.slice 5 (.int .u8)) := ⟨by kernel_rfl, by kernel_rfl, ⟨by kernel_rfl, 1, by kernel_rfl, by decide, by decide, fun k hk => by cases hk; exact (by kernel_rfl : Try.prog.underlying 5 = some (.int .u8))⟩⟩
theorem tabOk : TabOk Try.prog tab := tabOk_of ⟨ty2, ⟨ty3, ⟨ty4, ⟨ty5, ⟨ty9, ⟨ty22, ⟨ty24, ⟨ty25, ⟨ty27, ⟨ty31, ⟨ty33, ⟨ty38, ⟨ty41, ⟨ty51, ⟨ty55, ⟨ty96, trivial⟩⟩⟩⟩⟩⟩⟩⟩⟩⟩⟩⟩⟩⟩⟩⟩ ⟨fp_at (t0 := (.pair .str (.pair (.int .i64) (.pair (.int .i64) (.slice 9 .str))))) rfl (by kernel_rfl), ⟨fp_at (t0 := (.pair .str (.pair (.int .i64) (.pair (.int .i64) (.slice 9 .str))))) rfl (by kernel_rfl), ⟨fp_at (t0 := (.pair .str (.pair (.int .i64) (.pair (.int .i64) (.slice 9 .str))))) rfl (by kernel_rfl), ⟨fp_at (t0 := (.pair .str (.pair (.int .i64) (.pair (.int .i64) (.slice 9 .str))))) rfl (by kernel_rfl), ⟨fp_at (t0 := (.pair (.int .i64) (.slice 3 (.int .i64)))) rfl (by kernel_rfl), ⟨fp_at (t0 := (.pair (.int .i64) (.slice 3 (.int .i64)))) rfl (by kernel_rfl), ⟨fp_at (t0 := (.pair .str (.pair (.int .i64) (.pair (.int .i64) (.slice 9 .str))))) rfl (by kernel_rfl), ⟨fp_at (t0 := (.pair .str (.pair (.int .i64) (.pair (.int .i64) (.slice 9 .str))))) rfl (by kernel_rfl), ⟨fp_at (t0 := (.pair .str (.pair (.int .i64) (.pair (.int .i64) (.slice 9 .str))))) rfl (by kernel_rfl), ⟨fp_at (t0 := (.pair .str (.pair (.int .i64) (.pair (.int .i64) (.slice 9 .str))))) rfl (by kernel_rfl), ⟨fp_at (t0 := (.pair (.int .i64) (.slice 3 (.int .i64)))) rfl (by kernel_rfl), ⟨fp_at (t0 := (.pair (.int .i64) (.slice 3 (.int .i64)))) rfl (by kernel_rfl), ⟨fp_at (t0 := (.pair (.int .i64) (.pair (.pair .str (.pair (.int .i64) (.pair (.int .i64) (.slice 9 .str)))) (.pair (.pair .str (.pair (.int .i64) (.pair (.int .i64) (.slice 9 .str)))) (.pair (.pair (.int .i64) (.slice 3 (.int .i64))) (.pair (.int .i64) (.slice 3 (.int .i64)))))))) rfl (by kernel_rfl), ⟨fp_at (t0 := (.pair (.int .i64) (.pair (.pair .str (.pair (.int .i64) (.pair (.int .i64) (.slice 9 .str)))) (.pair (.pair .str (.pair (.int .i64) (.pair (.int .i64) (.slice 9 .str)))) (.pair (.pair (.int .i64) (.slice 3 (.int .i64))) (.pair (.int .i64) (.slice 3 (.int .i64)))))))) rfl (by kernel_rfl), ⟨fp_at (t0 := (.pair (.int .i64) (.pair (.pair .str (.pair (.int .i64) (.pair (.int .i64) (.slice 9 .str)))) (.pair (.pair .str (.pair (.int .i64) (.pair (.int .i64) (.slice 9 .str)))) (.pair (.pair (.int .i64) (.slice 3 (.int .i64))) (.pair (.int .i64) (.slice 3 (.int .i64)))))))) rfl (by kernel_rfl), ⟨fp_at (t0 := (.pair (.int .i64) (.pair (.pair .str (.pair (.int .i64) (.pair (.int .i64) (.slice 9 .str)))) (.pair (.pair .str (.pair (.int .i64) (.pair (.int .i64) (.slice 9 .str)))) (.pair (.pair (.int .i64) (.slice 3 (.int .i64))) (.pair (.int .i64) (.slice 3 (.int .i64)))))))) rfl (by kernel_rfl), ⟨fp_at (t0 := (.pair (.int .i64) (.pair (.pair .str (.pair (.int .i64) (.pair (.int .i64) (.slice 9 .str)))) (.pair (.pair .str (.pair (.int .i64) (.pair (.int .i64) (.slice 9 .str)))) (.pair (.pair (.int .i64) (.slice 3 (.int .i64))) (.pair (.int .i64) (.slice 3 (.int .i64)))))))) rfl (by kernel_rfl), ⟨fp_at (t0 := (.pair (.int .i64) (.pair (.pair .str (.pair (.int .i64) (.pair (.int .i64) (.slice 9 .str)))) (.pair (.pair .str (.pair (.int .i64) (.pair (.int .i64) (.slice 9 .str)))) (.pair (.pair (.int .i64) (.slice 3 (.int .i64))) (.pair (.int .i64) (.slice 3 (.int .i64)))))))) rfl (by kernel_rfl), ⟨fp_at (t0 := (.pair (.int .i64) (.pair (.pair .str (.pair (.int .i64) (.pair (.int .i64) (.slice 9 .str)))) (.pair (.pair .str (.pair (.int .i64) (.pair (.int .i64) (.slice 9 .str)))) (.pair (.pair (.int .i64) (.slice 3 (.int .i64))) (.pair (.int .i64) (.slice 3 (.int .i64)))))))) rfl (by kernel_rfl), ⟨fp_at (t0 := (.pair (.int .i64) (.pair (.pair .str (.pair (.int .i64) (.pair (.int .i64) (.slice 9 .str)))) (.pair (.pair .str (.pair (.int .i64) (.pair (.int .i64) (.slice 9 .str)))) (.pair (.pair (.int .i64) (.slice 3 (.int .i64))) (.pair (.int .i64) (.slice 3 (.int .i64)))))))) rfl (by kernel_rfl), ⟨fp_at (t0 := (.pair (.int .i64) (.pair (.pair .str (.pair (.int .i64) (.pair (.int .i64) (.slice 9 .str)))) (.pair (.pair .str (.pair (.int .i64) (.pair (.int .i64) (.slice 9 .str)))) (.pair (.pair (.int .i64) (.slice 3 (.int .i64))) (.pair (.int .i64) (.slice 3 (.int .i64)))))))) rfl (by kernel_rfl), ⟨fp_at (t0 := (.pair (.int .i64) (.pair (.pair .str (.pair (.int .i64) (.pair (.int .i64) (.slice 9 .str)))) (.pair (.pair .str (.pair (.int .i64) (.pair (.int .i64) (.slice 9 .str)))) (.pair (.pair (.int .i64) (.slice 3 (.int .i64))) (.pair (.int .i64) (.slice 3 (.int .i64)))))))) rfl (by kernel_rfl), trivial⟩⟩⟩⟩⟩⟩⟩⟩⟩⟩⟩⟩⟩⟩⟩⟩⟩⟩⟩⟩⟩⟩ (by kernel_rfl) ⟨plB_ok (by kernel_rfl), ⟨plB_ok (by kernel_rfl), ⟨plB_ok (by kernel_rfl), ⟨plB_ok (by kernel_rfl), ⟨plB_ok (by kernel_rfl), ⟨plB_ok (by kernel_rfl), trivial⟩⟩⟩⟩⟩⟩ trivial
def sigs_3 : Sig := [(.bool, .no)]
def sigs_4 : Sig := [(.bool, .no)]
def sigs_6 : Sig := [(.bool, .no)]
def sigs_9 : Sig := [((.int .i64), .no)]
def sigs_10 : Sig := [((.int .i64), .no)]
def sigs_11 : Sig := [(.bool, .no)]
def sigs_12 : Sig := [((.pair .str (.pair (.int .i64) (.pair (.int .i64) (.slice 9 .str)))), (.pair .no (.pair .no (.pair .no (.own 0)))))]
def sigs_13 : Sig := [((.pair (.int .i64) (.slice 3 (.int .i64))), (.pair .no (.own 0)))]
def sigs_14 : Sig := [(.bool, .no)]
def sigs_15 : Sig := [(.bool, .no)]
def sigs_16 : Sig := [(.bool, .no)]
def sigs_17 : Sig := [((.int .i64), .no)]
def sigs_18 : Sig := [(.bool, .no)]
def sigs_19 : Sig := [((.slice 31 (.pair .str (.pair (.int .i64) (.pair (.int .i64) (.slice 9 .str))))), (.own 0))]
def sigs_20 : Sig := [(.bool, .no)]
def sigs_21 : Sig := [(.bool, .no)]
def sigs_27 : Sig := [((.int .i64), .no)]
def sigs_28 : Sig := [(.bool, .no)]
def sigs_29 : Sig := [((.pair (.int .i64) (.pair (.pair .str (.pair (.int .i64) (.pair (.int .i64) (.slice 9 .str)))) (.pair (.pair .str (.pair (.int .i64) (.pair (.int .i64) (.slice 9 .str)))) (.pair (.pair (.int .i64) (.slice 3 (.int .i64))) (.pair (.int .i64) (.slice 3 (.int .i64))))))), (.pair .no (.pair (.pair .no (.pair .no (.pair .no (.own 0)))) (.pair (.pair .no (.pair .no (.pair .no (.own 1)))) (.pair (.pair .no (.own 2)) (.pair .no (.own 3)))))))]
def sigs_30 : Sig := [(.bool, .no)]
def sigs_31 : Sig := [(.bool, .no)]
def sigs_39 : Sig := [((.int .i64), .no)]
def sigs_40 : Sig := [((.int .i64), .no)]
def sigs_41 : Sig := [((.int .i64), .no), (.bool, .no)]
def sigs_42 : Sig := [((.int .i64), .no)]
def sigs_43 : Sig := [(.bool, .no)]
def sigs_44 : Sig := [((.int .i64), .no)]
def sigs_45 : Sig := [((.slice 9 .str), (.own 0))]
def sigs_46 : Sig := [((.slice 3 (.int .i64)), (.own 0))]
def sigs_47 : Sig := [((.int .i64), .no), (.bool, .no)]
def sigs_48 : Sig := [((.int .i64), .no)]
def sigs_49 : Sig := [(.bool, .no)]
def sigs_50 : Sig := [((.int .i64), .no)]
def sigs_51 : Sig := [(.bool, .no)]
def sigs_52 : Sig := [(.bool, .no)]
def sigs_53 : Sig := [(.bool, .no)]
def sigs_54 : Sig := [((.int .i64), .no)]
def sigs_55 : Sig := [(.bool, .no)]
def sigs_56 : Sig := [((.int .i64), .no)]
def sigs_59 : Sig := [((.slice 3 (.int .i64)), (.own 0))]
def sigs_62 : Sig := [((.slice 3 (.int .i64)), (.own 0))]
def sigs_67 : Sig := [(.bool, .no)]
def sigs_68 : Sig := [(.bool, .no)]
def sigs_69 : Sig := [(.bool, .no)]
def sigs_70 : Sig := [((.int .i64), .no)]
def sigs_71 : Sig := [(.bool, .no)]
def sigs_72 : Sig := [(.bool, .no)]
def sigs_73 : Sig := [(.bool, .no)]
def sigs_74 : Sig := [((.int .i64), .no)]
def sigs_85 : Sig := [((.int .i64), .no)]
def sigs_86 : Sig := [((.int .i64), .no)]
def sigs_87 : Sig := [((.slice 3 (.int .i64)), (.own 0))]
def sigs_88 : Sig := [(.bool, .no)]
def sigs_89 : Sig := [((.int .i64), .no)]
def sigs_90 : Sig := [((.int .i64), .no)]
def sigs_91 : Sig := [((.slice 3 (.int .i64)), (.own 0))]
def sigs_92 : Sig := [(.bool, .no)]
def sigs_93 : Sig := [(.bool, .no)]
def sigs_94 : Sig := [((.int .i64), .no)]
def sigs_95 : Sig := [((.int .i64), .no)]
def sigs_96 : Sig := [((.int .i64), .no)]
def sigs_97 : Sig := [((.slice 3 (.int .i64)), (.own 0))]
def sigs_100 : Sig := [((.slice 3 (.int .i64)), (.own 0))]
def sigs_101 : Sig := [(.bool, .no)]
def sigs_102 : Sig := [(.bool, .no)]
def sigs_103 : Sig := [(.bool, .no)]
def sigs_104 : Sig := [(.bool, .no)]
def sigs_105 : Sig := [((.int .i64), .no)]
def sigs_108 : Sig := [((.int .i64), .no)]
def sigs_109 : Sig := [((.slice 3 (.int .i64)), (.own 0))]
def sigs_110 : Sig := [((.int .i64), .no)]
def sigs_111 : Sig := [((.slice 3 (.int .i64)), (.own 0))]
def sigs_112 : Sig := [(.bool, .no)]
def sigs_113 : Sig := [(.bool, .no)]
def sigs_114 : Sig := [(.bool, .no)]
def sigs_115 : Sig := [(.bool, .no)]
def sigs_116 : Sig := [(.bool, .no)]
def sigs_117 : Sig := [(.bool, .no)]
def sigs_118 : Sig := [((.int .i64), .no)]
def sigs_119 : Sig := [((.slice 3 (.int .i64)), (.own 0))]
def sigs_120 : Sig := [((.slice 3 (.int .i64)), (.own 0))]
def sigs_121 : Sig := [((.int .i64), .no)]
def sigs_122 : Sig := [(.bool, .no)]
def sigs_123 : Sig := [(.bool, .no)]
def sigs : Sigs := fun n => (cond (Nat.beq n 3) (some sigs_3) (cond (Nat.beq n 4) (some sigs_4) (cond (Nat.beq n 6) (some sigs_6) (cond (Nat.beq n 9) (some sigs_9) (cond (Nat.beq n 10) (some sigs_10) (cond (Nat.beq n 11) (some sigs_11) (cond (Nat.beq n 12) (some sigs_12) (cond (Nat.beq n 13) (some sigs_13) (cond (Nat.beq n 14) (some sigs_14) (cond (Nat.beq n 15) (some sigs_15) (cond (Nat.beq n 16) (some sigs_16) (cond (Nat.beq n 17) (some sigs_17) (cond (Nat.beq n 18) (some sigs_18) (cond (Nat.beq n 19) (some sigs_19) (cond (Nat.beq n 20) (some sigs_20) (cond (Nat.beq n 21) (some sigs_21) (cond (Nat.beq n 27) (some sigs_27) (cond (Nat.beq n 28) (some sigs_28) (cond (Nat.beq n 29) (some sigs_29) (cond (Nat.beq n 30) (some sigs_30) (cond (Nat.beq n 31) (some sigs_31) (cond (Nat.beq n 39) (some sigs_39) (cond (Nat.beq n 40) (some sigs_40) (cond (Nat.beq n 41) (some sigs_41) (cond (Nat.beq n 42) (some sigs_42) (cond (Nat.beq n 43) (some sigs_43) (cond (Nat.beq n 44) (some sigs_44) (cond (Nat.beq n 45) (some sigs_45) (cond (Nat.beq n 46) (some sigs_46) (cond (Nat.beq n 47) (some sigs_47) (cond (Nat.beq n 48) (some sigs_48) (cond (Nat.beq n 49) (some sigs_49) (cond (Nat.beq n 50) (some sigs_50) (cond (Nat.beq n 51) (some sigs_51) (cond (Nat.beq n 52) (some sigs_52) (cond (Nat.beq n 53) (some sigs_53) (cond (Nat.beq n 54) (some sigs_54) (cond (Nat.beq n 55) (some sigs_55) (cond (Nat.beq n 56) (some sigs_56) (cond (Nat.beq n 59) (some sigs_59) (cond (Nat.beq n 62) (some sigs_62) (cond (Nat.beq n 67) (some sigs_67) (cond (Nat.beq n 68) (some sigs_68) (cond (Nat.beq n 69) (some sigs_69) (cond (Nat.beq n 70) (some sigs_70) (cond (Nat.beq n 71) (some sigs_71) (cond (Nat.beq n 72) (some sigs_72) (cond (Nat.beq n 73) (some sigs_73) (cond (Nat.beq n 74) (some sigs_74) (cond (Nat.beq n 85) (some sigs_85) (cond (Nat.beq n 86) (some sigs_86) (cond (Nat.beq n 87) (some sigs_87) (cond (Nat.beq n 88) (some sigs_88) (cond (Nat.beq n 89) (some sigs_89) (cond (Nat.beq n 90) (some sigs_90) (cond (Nat.beq n 91) (some sigs_91) (cond (Nat.beq n 92) (some sigs_92) (cond (Nat.beq n 93) (some sigs_93) (cond (Nat.beq n 94) (some sigs_94) (cond (Nat.beq n 95) (some sigs_95) (cond (Nat.beq n 96) (some sigs_96) (cond (Nat.beq n 97) (some sigs_97) (cond (Nat.beq n 100) (some sigs_100) (cond (Nat.beq n 101) (some sigs_101) (cond (Nat.beq n 102) (some sigs_102) (cond (Nat.beq n 103) (some sigs_103) (cond (Nat.beq n 104) (some sigs_104) (cond (Nat.beq n 105) (some sigs_105) (cond (Nat.beq n 108) (some sigs_108) (cond (Nat.beq n 109) (some sigs_109) (cond (Nat.beq n 110) (some sigs_110) (cond (Nat.beq n 111) (some sigs_111) (cond (Nat.beq n 112) (some sigs_112) (cond (Nat.beq n 113) (some sigs_113) (cond (Nat.beq n 114) (some sigs_114) (cond (Nat.beq n 115) (some sigs_115) (cond (Nat.beq n 116) (some sigs_116) (cond (Nat.beq n 117) (some sigs_117) (cond (Nat.beq n 118) (some sigs_118) (cond (Nat.beq n 119) (some sigs_119) (cond (Nat.beq n 120) (some sigs_120) (cond (Nat.beq n 121) (some sigs_121) (cond (Nat.beq n 122) (some sigs_122) (cond (Nat.beq n 123) (some sigs_123) none))))))))))))))))))))))))))))))))))))))))))))))))))))))))))))))))))))))))))))))))))))
end Go.Proofs.Ythegggkfngnehaa.Ref
