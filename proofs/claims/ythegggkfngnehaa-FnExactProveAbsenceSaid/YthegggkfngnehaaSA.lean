/- The table of types and the signatures of the functions of this seat.
   Conditions: as each theorem states. -/
import Derived.Test.YthegggkfngnehaaK3
import Derived.Test.YthegggkfngnehaaProg
set_option linter.unusedVariables false
set_option linter.unusedSimpArgs false
set_option maxRecDepth 100000
namespace Go.Proofs.Ythegggkfngnehaa.Ref
open Go.RowKit Go.Proofs.YthegggkfngnehaaW.PrintWords Go.Proofs.YthegggkfngnehaaW.PrintLast
open Go.Proofs.Ythegggkfngnehaa
abbrev TyEntry : Ty := (.pair .str (.pair (.int .i64) (.pair (.int .i64) (.slice 9 .str))))
def tab : Tab := ⟨[(2, (.int .i64)), (3, (.int .i64)), (4, .bool), (5, (.int .u8)), (9, .str), (22, (.slice 9 .str)), (24, TyEntry), (25, (.slice 3 (.int .i64))), (31, TyEntry), (33, (.pair (.int .i64) (.slice 3 (.int .i64)))), (38, (.slice 24 TyEntry)), (41, (.slice 31 TyEntry)), (55, (.pair (.int .i64) (.pair TyEntry (.pair TyEntry (.pair (.pair (.int .i64) (.slice 3 (.int .i64))) (.pair (.int .i64) (.slice 3 (.int .i64)))))))), (96, (.slice 5 (.int .u8)))], [(24, 0, [false]), (24, 1, [true, false]), (24, 2, [true, true, false]), (24, 3, [true, true, true]), (31, 0, [false]), (31, 1, [true, false]), (31, 2, [true, true, false]), (31, 3, [true, true, true]), (33, 0, [false]), (33, 1, [true]), (55, 0, [false]), (55, 1, [true, false]), (55, 2, [true, true, false]), (55, 3, [true, true, true, false]), (55, 4, [true, true, true, true])], [24, 25, 34, 64, 65, 79]⟩
theorem ty2 : TyF Try.prog 2 (.int .i64) := ⟨by kernel_rfl, by kernel_rfl, show Try.prog.underlying 2 = some (.int .i64) from by kernel_rfl⟩
theorem ty3 : TyF Try.prog 3 (.int .i64) := ⟨by kernel_rfl, by kernel_rfl, show Try.prog.underlying 3 = some (.int .i64) from by kernel_rfl⟩
theorem ty4 : TyF Try.prog 4 .bool := ⟨by kernel_rfl, by kernel_rfl, show Try.prog.underlying 4 = some .bool from by kernel_rfl⟩
theorem ty5 : TyF Try.prog 5 (.int .u8) := ⟨by kernel_rfl, by kernel_rfl, show Try.prog.underlying 5 = some (.int .u8) from by kernel_rfl⟩
theorem ty9 : TyF Try.prog 9 .str := ⟨by kernel_rfl, by kernel_rfl, show Try.prog.underlying 9 = some .string from by kernel_rfl⟩
theorem ty22 : TyF Try.prog 22 (.slice 9 .str) := ⟨by kernel_rfl, by kernel_rfl, ⟨by kernel_rfl, 16, by kernel_rfl, by decide, by decide, fun k hk => by cases hk⟩⟩
theorem ty24 : TyF Try.prog 24 TyEntry := ⟨by kernel_rfl, by kernel_rfl, (und_pair (by kernel_rfl))⟩
theorem ty25 : TyF Try.prog 25 (.slice 3 (.int .i64)) := ⟨by kernel_rfl, by kernel_rfl, ⟨by kernel_rfl, 8, by kernel_rfl, by decide, by decide, fun k hk => by cases hk; exact (by kernel_rfl : Try.prog.underlying 3 = some (.int .i64))⟩⟩
theorem ty31 : TyF Try.prog 31 TyEntry := ⟨by kernel_rfl, by kernel_rfl, (und_pair (by kernel_rfl))⟩
theorem ty33 : TyF Try.prog 33 (.pair (.int .i64) (.slice 3 (.int .i64))) := ⟨by kernel_rfl, by kernel_rfl, (und_pair (by kernel_rfl))⟩
theorem ty38 : TyF Try.prog 38 (.slice 24 TyEntry) := ⟨by kernel_rfl, by kernel_rfl, ⟨by kernel_rfl, 56, by kernel_rfl, by decide, by decide, fun k hk => by cases hk⟩⟩
theorem ty41 : TyF Try.prog 41 (.slice 31 TyEntry) := ⟨by kernel_rfl, by kernel_rfl, ⟨by kernel_rfl, 56, by kernel_rfl, by decide, by decide, fun k hk => by cases hk⟩⟩
theorem ty55 : TyF Try.prog 55 (.pair (.int .i64) (.pair TyEntry (.pair TyEntry (.pair (.pair (.int .i64) (.slice 3 (.int .i64))) (.pair (.int .i64) (.slice 3 (.int .i64))))))) := ⟨by kernel_rfl, by kernel_rfl, (und_pair (by kernel_rfl))⟩
theorem ty96 : TyF Try.prog 96 (.slice 5 (.int .u8)) := ⟨by kernel_rfl, by kernel_rfl, ⟨by kernel_rfl, 1, by kernel_rfl, by decide, by decide, fun k hk => by cases hk; exact (by kernel_rfl : Try.prog.underlying 5 = some (.int .u8))⟩⟩
theorem tabOk : TabOk Try.prog tab := tabOk_of ⟨ty2, ⟨ty3, ⟨ty4, ⟨ty5, ⟨ty9, ⟨ty22, ⟨ty24, ⟨ty25, ⟨ty31, ⟨ty33, ⟨ty38, ⟨ty41, ⟨ty55, ⟨ty96, trivial⟩⟩⟩⟩⟩⟩⟩⟩⟩⟩⟩⟩⟩⟩ ⟨fp_at (t0 := TyEntry) rfl (by kernel_rfl), ⟨fp_at (t0 := TyEntry) rfl (by kernel_rfl), ⟨fp_at (t0 := TyEntry) rfl (by kernel_rfl), ⟨fp_at (t0 := TyEntry) rfl (by kernel_rfl), ⟨fp_at (t0 := TyEntry) rfl (by kernel_rfl), ⟨fp_at (t0 := TyEntry) rfl (by kernel_rfl), ⟨fp_at (t0 := TyEntry) rfl (by kernel_rfl), ⟨fp_at (t0 := TyEntry) rfl (by kernel_rfl), ⟨fp_at (t0 := (.pair (.int .i64) (.slice 3 (.int .i64)))) rfl (by kernel_rfl), ⟨fp_at (t0 := (.pair (.int .i64) (.slice 3 (.int .i64)))) rfl (by kernel_rfl), ⟨fp_at (t0 := (.pair (.int .i64) (.pair TyEntry (.pair TyEntry (.pair (.pair (.int .i64) (.slice 3 (.int .i64))) (.pair (.int .i64) (.slice 3 (.int .i64)))))))) rfl (by kernel_rfl), ⟨fp_at (t0 := (.pair (.int .i64) (.pair TyEntry (.pair TyEntry (.pair (.pair (.int .i64) (.slice 3 (.int .i64))) (.pair (.int .i64) (.slice 3 (.int .i64)))))))) rfl (by kernel_rfl), ⟨fp_at (t0 := (.pair (.int .i64) (.pair TyEntry (.pair TyEntry (.pair (.pair (.int .i64) (.slice 3 (.int .i64))) (.pair (.int .i64) (.slice 3 (.int .i64)))))))) rfl (by kernel_rfl), ⟨fp_at (t0 := (.pair (.int .i64) (.pair TyEntry (.pair TyEntry (.pair (.pair (.int .i64) (.slice 3 (.int .i64))) (.pair (.int .i64) (.slice 3 (.int .i64)))))))) rfl (by kernel_rfl), ⟨fp_at (t0 := (.pair (.int .i64) (.pair TyEntry (.pair TyEntry (.pair (.pair (.int .i64) (.slice 3 (.int .i64))) (.pair (.int .i64) (.slice 3 (.int .i64)))))))) rfl (by kernel_rfl), trivial⟩⟩⟩⟩⟩⟩⟩⟩⟩⟩⟩⟩⟩⟩⟩ (by kernel_rfl) ⟨plB_ok (by kernel_rfl), ⟨plB_ok (by kernel_rfl), ⟨plB_ok (by kernel_rfl), ⟨plB_ok (by kernel_rfl), trivial⟩⟩⟩⟩ trivial
def sigs_7 : Sig := [(.bool, .no)]
def sigs_9 : Sig := [((.int .i64), .no)]
def sigs_12 : Sig := [(TyEntry, (.pair .no (.pair .no (.pair .no (.own 0)))))]
def sigs_15 : Sig := [(.bool, .no)]
def sigs_16 : Sig := [(.bool, .no)]
def sigs_17 : Sig := [((.int .i64), .no)]
def sigs_19 : Sig := [((.slice 31 TyEntry), (.own 0))]
def sigs_21 : Sig := [(.bool, .no)]
def sigs_22 : Sig := [((.pair (.int .i64) (.slice 3 (.int .i64))), (.pair .no (.own 0))), (.bool, .no)]
def sigs_23 : Sig := [((.pair (.int .i64) (.slice 3 (.int .i64))), (.pair .no (.own 0))), (.bool, .no)]
def sigs_24 : Sig := [((.int .i64), .no), ((.slice 31 TyEntry), (.own 0))]
def sigs_25 : Sig := [((.int .i64), .no), ((.pair (.int .i64) (.slice 3 (.int .i64))), (.pair .no (.own 0)))]
def sigs_26 : Sig := [((.int .i64), .no)]
def sigs_31 : Sig := [(.bool, .no)]
def sigs_32 : Sig := [((.pair (.int .i64) (.pair TyEntry (.pair TyEntry (.pair (.pair (.int .i64) (.slice 3 (.int .i64))) (.pair (.int .i64) (.slice 3 (.int .i64))))))), (.pair .no (.pair (.pair .no (.pair .no (.pair .no (.own 0)))) (.pair (.pair .no (.pair .no (.pair .no (.own 1)))) (.pair (.pair .no (.own 2)) (.pair .no (.own 3))))))), (.bool, .no)]
def sigs_33 : Sig := [((.pair (.int .i64) (.pair TyEntry (.pair TyEntry (.pair (.pair (.int .i64) (.slice 3 (.int .i64))) (.pair (.int .i64) (.slice 3 (.int .i64))))))), (.pair .no (.pair (.pair .no (.pair .no (.pair .no (.own 0)))) (.pair (.pair .no (.pair .no (.pair .no (.own 1)))) (.pair (.pair .no (.own 2)) (.pair .no (.own 3))))))), (.bool, .no)]
def sigs_34 : Sig := [((.int .i64), .no), ((.pair (.int .i64) (.pair TyEntry (.pair TyEntry (.pair (.pair (.int .i64) (.slice 3 (.int .i64))) (.pair (.int .i64) (.slice 3 (.int .i64))))))), (.pair .no (.pair (.pair .no (.pair .no (.pair .no (.own 0)))) (.pair (.pair .no (.pair .no (.pair .no (.own 1)))) (.pair (.pair .no (.own 2)) (.pair .no (.own 3)))))))]
def sigs_35 : Sig := [((.int .i64), .no)]
def sigs_39 : Sig := [((.int .i64), .no)]
def sigs_42 : Sig := [((.int .i64), .no)]
def sigs_43 : Sig := [(.bool, .no)]
def sigs_45 : Sig := [((.slice 9 .str), (.own 0))]
def sigs_48 : Sig := [((.int .i64), .no)]
def sigs_49 : Sig := [(.bool, .no)]
def sigs_51 : Sig := [(.bool, .no)]
def sigs_52 : Sig := [(.bool, .no)]
def sigs_53 : Sig := [(.bool, .no)]
def sigs_55 : Sig := [(.bool, .no)]
def sigs_57 : Sig := [((.int .i64), .no)]
def sigs_58 : Sig := [((.slice 3 (.int .i64)), (.own 0))]
def sigs_59 : Sig := [((.slice 3 (.int .i64)), (.own 0))]
def sigs_60 : Sig := [((.int .i64), .no)]
def sigs_61 : Sig := [((.slice 3 (.int .i64)), (.own 0))]
def sigs_62 : Sig := [((.slice 3 (.int .i64)), (.own 0))]
def sigs_63 : Sig := [(.str, .no)]
def sigs_64 : Sig := [((.int .i64), .no), ((.slice 9 .str), (.own 0))]
def sigs_65 : Sig := [((.int .i64), .no), ((.slice 3 (.int .i64)), (.own 0))]
def sigs_66 : Sig := [((.int .i64), .no)]
def sigs_67 : Sig := [(.bool, .no)]
def sigs_68 : Sig := [(.bool, .no)]
def sigs_70 : Sig := [((.int .i64), .no)]
def sigs_71 : Sig := [(.bool, .no)]
def sigs_72 : Sig := [(.bool, .no)]
def sigs_74 : Sig := [((.int .i64), .no)]
def sigs_75 : Sig := [((.int .i64), .no)]
def sigs_76 : Sig := [(TyEntry, (.pair .no (.pair .no (.pair .no (.own 0)))))]
def sigs_77 : Sig := [((.int .i64), .no)]
def sigs_78 : Sig := [(TyEntry, (.pair .no (.pair .no (.pair .no (.own 0)))))]
def sigs_79 : Sig := [((.int .i64), .no), (TyEntry, (.pair .no (.pair .no (.pair .no (.own 0)))))]
def sigs_80 : Sig := [((.int .i64), .no)]
def sigs_84 : Sig := [((.int .i64), .no)]
def sigs_85 : Sig := [((.int .i64), .no)]
def sigs_86 : Sig := [((.int .i64), .no)]
def sigs_87 : Sig := [((.slice 3 (.int .i64)), (.own 0))]
def sigs_88 : Sig := [(.bool, .no)]
def sigs_89 : Sig := [((.int .i64), .no)]
def sigs_90 : Sig := [((.int .i64), .no)]
def sigs_91 : Sig := [((.slice 3 (.int .i64)), (.own 0))]
def sigs_92 : Sig := [(.bool, .no)]
def sigs_93 : Sig := [(.bool, .no)]
def sigs_94 : Sig := [((.int .i64), .no)]
def sigs_97 : Sig := [((.slice 3 (.int .i64)), (.own 0))]
def sigs_98 : Sig := [((.int .i64), .no)]
def sigs_99 : Sig := [(.bool, .no)]
def sigs_100 : Sig := [((.slice 3 (.int .i64)), (.own 0))]
def sigs_105 : Sig := [((.int .i64), .no)]
def sigs_106 : Sig := [((.slice 9 .str), (.own 0))]
def sigs_107 : Sig := [((.slice 9 .str), (.own 0))]
def sigs_108 : Sig := [((.int .i64), .no)]
def sigs_109 : Sig := [((.slice 3 (.int .i64)), (.own 0))]
def sigs_110 : Sig := [((.int .i64), .no)]
def sigs_111 : Sig := [((.slice 3 (.int .i64)), (.own 0))]
def sigs_112 : Sig := [(.bool, .no)]
def sigs_113 : Sig := [(.bool, .no)]
def sigs_118 : Sig := [((.int .i64), .no)]
def sigs_119 : Sig := [((.slice 3 (.int .i64)), (.own 0))]
def sigs_120 : Sig := [((.slice 3 (.int .i64)), (.own 0))]
def sigs_121 : Sig := [((.int .i64), .no)]
def sigs : Sigs := fun n => (cond (Nat.beq n 7) (some sigs_7) (cond (Nat.beq n 9) (some sigs_9) (cond (Nat.beq n 12) (some sigs_12) (cond (Nat.beq n 15) (some sigs_15) (cond (Nat.beq n 16) (some sigs_16) (cond (Nat.beq n 17) (some sigs_17) (cond (Nat.beq n 19) (some sigs_19) (cond (Nat.beq n 21) (some sigs_21) (cond (Nat.beq n 22) (some sigs_22) (cond (Nat.beq n 23) (some sigs_23) (cond (Nat.beq n 24) (some sigs_24) (cond (Nat.beq n 25) (some sigs_25) (cond (Nat.beq n 26) (some sigs_26) (cond (Nat.beq n 31) (some sigs_31) (cond (Nat.beq n 32) (some sigs_32) (cond (Nat.beq n 33) (some sigs_33) (cond (Nat.beq n 34) (some sigs_34) (cond (Nat.beq n 35) (some sigs_35) (cond (Nat.beq n 39) (some sigs_39) (cond (Nat.beq n 42) (some sigs_42) (cond (Nat.beq n 43) (some sigs_43) (cond (Nat.beq n 45) (some sigs_45) (cond (Nat.beq n 48) (some sigs_48) (cond (Nat.beq n 49) (some sigs_49) (cond (Nat.beq n 51) (some sigs_51) (cond (Nat.beq n 52) (some sigs_52) (cond (Nat.beq n 53) (some sigs_53) (cond (Nat.beq n 55) (some sigs_55) (cond (Nat.beq n 57) (some sigs_57) (cond (Nat.beq n 58) (some sigs_58) (cond (Nat.beq n 59) (some sigs_59) (cond (Nat.beq n 60) (some sigs_60) (cond (Nat.beq n 61) (some sigs_61) (cond (Nat.beq n 62) (some sigs_62) (cond (Nat.beq n 63) (some sigs_63) (cond (Nat.beq n 64) (some sigs_64) (cond (Nat.beq n 65) (some sigs_65) (cond (Nat.beq n 66) (some sigs_66) (cond (Nat.beq n 67) (some sigs_67) (cond (Nat.beq n 68) (some sigs_68) (cond (Nat.beq n 70) (some sigs_70) (cond (Nat.beq n 71) (some sigs_71) (cond (Nat.beq n 72) (some sigs_72) (cond (Nat.beq n 74) (some sigs_74) (cond (Nat.beq n 75) (some sigs_75) (cond (Nat.beq n 76) (some sigs_76) (cond (Nat.beq n 77) (some sigs_77) (cond (Nat.beq n 78) (some sigs_78) (cond (Nat.beq n 79) (some sigs_79) (cond (Nat.beq n 80) (some sigs_80) (cond (Nat.beq n 84) (some sigs_84) (cond (Nat.beq n 85) (some sigs_85) (cond (Nat.beq n 86) (some sigs_86) (cond (Nat.beq n 87) (some sigs_87) (cond (Nat.beq n 88) (some sigs_88) (cond (Nat.beq n 89) (some sigs_89) (cond (Nat.beq n 90) (some sigs_90) (cond (Nat.beq n 91) (some sigs_91) (cond (Nat.beq n 92) (some sigs_92) (cond (Nat.beq n 93) (some sigs_93) (cond (Nat.beq n 94) (some sigs_94) (cond (Nat.beq n 97) (some sigs_97) (cond (Nat.beq n 98) (some sigs_98) (cond (Nat.beq n 99) (some sigs_99) (cond (Nat.beq n 100) (some sigs_100) (cond (Nat.beq n 105) (some sigs_105) (cond (Nat.beq n 106) (some sigs_106) (cond (Nat.beq n 107) (some sigs_107) (cond (Nat.beq n 108) (some sigs_108) (cond (Nat.beq n 109) (some sigs_109) (cond (Nat.beq n 110) (some sigs_110) (cond (Nat.beq n 111) (some sigs_111) (cond (Nat.beq n 112) (some sigs_112) (cond (Nat.beq n 113) (some sigs_113) (cond (Nat.beq n 118) (some sigs_118) (cond (Nat.beq n 119) (some sigs_119) (cond (Nat.beq n 120) (some sigs_120) (cond (Nat.beq n 121) (some sigs_121) none))))))))))))))))))))))))))))))))))))))))))))))))))))))))))))))))))))))))))))))
end Go.Proofs.Ythegggkfngnehaa.Ref
