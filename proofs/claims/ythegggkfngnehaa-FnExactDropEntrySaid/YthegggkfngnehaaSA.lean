/- The table of types and the signatures of the functions of this seat.
   Conditions: as each theorem states. -/
import Derived.Test.YthegggkfngnehaaK3
import Derived.Test.YthegggkfngnehaaProg
import Derived.Test.YthegggkfngnehaaK7
set_option linter.unusedVariables false
set_option linter.unusedSimpArgs false
set_option maxRecDepth 100000
namespace Go.Proofs.Ythegggkfngnehaa.Ref
open Go.RowKit Go.Proofs.YthegggkfngnehaaW.PrintWords Go.Proofs.YthegggkfngnehaaW.PrintLast
open Go.Proofs.Ythegggkfngnehaa
abbrev TyEntry : Ty := (.pair .str (.pair (.int .i64) (.pair (.int .i64) (.slice 9 .str))))
def tab : Tab := ⟨[(2, (.int .i64)), (3, (.int .i64)), (4, .bool), (5, (.int .u8)), (9, .str), (22, (.slice 9 .str)), (24, TyEntry), (31, TyEntry), (38, (.slice 24 TyEntry)), (41, (.slice 31 TyEntry)), (96, (.slice 5 (.int .u8)))], [(24, 0, [false]), (24, 1, [true, false]), (24, 2, [true, true, false]), (24, 3, [true, true, true]), (31, 0, [false]), (31, 1, [true, false]), (31, 2, [true, true, false]), (31, 3, [true, true, true])], [24, 25, 34, 64, 65, 79], [], [], [83]⟩
theorem ty2 : TyF Try.prog 2 (.int .i64) := ⟨by kernel_rfl, by kernel_rfl, show Try.prog.underlying 2 = some (.int .i64) from by kernel_rfl⟩
theorem ty3 : TyF Try.prog 3 (.int .i64) := ⟨by kernel_rfl, by kernel_rfl, show Try.prog.underlying 3 = some (.int .i64) from by kernel_rfl⟩
theorem ty4 : TyF Try.prog 4 .bool := ⟨by kernel_rfl, by kernel_rfl, show Try.prog.underlying 4 = some .bool from by kernel_rfl⟩
theorem ty5 : TyF Try.prog 5 (.int .u8) := ⟨by kernel_rfl, by kernel_rfl, show Try.prog.underlying 5 = some (.int .u8) from by kernel_rfl⟩
theorem ty9 : TyF Try.prog 9 .str := ⟨by kernel_rfl, by kernel_rfl, show Try.prog.underlying 9 = some .string from by kernel_rfl⟩
theorem ty22 : TyF Try.prog 22 (.slice 9 .str) := ⟨by kernel_rfl, by kernel_rfl, ⟨by kernel_rfl, 16, by kernel_rfl, by decide, by decide, fun k hk => by cases hk⟩⟩
theorem ty24 : TyF Try.prog 24 TyEntry := ⟨by kernel_rfl, by kernel_rfl, (und_pair (by kernel_rfl))⟩
theorem ty31 : TyF Try.prog 31 TyEntry := ⟨by kernel_rfl, by kernel_rfl, (und_pair (by kernel_rfl))⟩
theorem ty38 : TyF Try.prog 38 (.slice 24 TyEntry) := ⟨by kernel_rfl, by kernel_rfl, ⟨by kernel_rfl, 56, by kernel_rfl, by decide, by decide, fun k hk => by cases hk⟩⟩
theorem ty41 : TyF Try.prog 41 (.slice 31 TyEntry) := ⟨by kernel_rfl, by kernel_rfl, ⟨by kernel_rfl, 56, by kernel_rfl, by decide, by decide, fun k hk => by cases hk⟩⟩
theorem ty96 : TyF Try.prog 96 (.slice 5 (.int .u8)) := ⟨by kernel_rfl, by kernel_rfl, ⟨by kernel_rfl, 1, by kernel_rfl, by decide, by decide, fun k hk => by cases hk; exact (by kernel_rfl : Try.prog.underlying 5 = some (.int .u8))⟩⟩
theorem tabOk : TabOk Try.prog tab := tabOk_of ⟨ty2, ⟨ty3, ⟨ty4, ⟨ty5, ⟨ty9, ⟨ty22, ⟨ty24, ⟨ty31, ⟨ty38, ⟨ty41, ⟨ty96, trivial⟩⟩⟩⟩⟩⟩⟩⟩⟩⟩⟩ ⟨fp_at (t0 := TyEntry) rfl (by kernel_rfl), ⟨fp_at (t0 := TyEntry) rfl (by kernel_rfl), ⟨fp_at (t0 := TyEntry) rfl (by kernel_rfl), ⟨fp_at (t0 := TyEntry) rfl (by kernel_rfl), ⟨fp_at (t0 := TyEntry) rfl (by kernel_rfl), ⟨fp_at (t0 := TyEntry) rfl (by kernel_rfl), ⟨fp_at (t0 := TyEntry) rfl (by kernel_rfl), ⟨fp_at (t0 := TyEntry) rfl (by kernel_rfl), trivial⟩⟩⟩⟩⟩⟩⟩⟩ (by kernel_rfl) ⟨plB_ok (by kernel_rfl), ⟨plB_ok (by kernel_rfl), trivial⟩⟩ trivial
def sigs_8 : Sig := [(.bool, .no)]
def sigs_9 : Sig := [((.int .i64), .no)]
def sigs_12 : Sig := [(TyEntry, (.pair .no (.pair .no (.pair .no (.own 0)))))]
def sigs_15 : Sig := [(.bool, .no)]
def sigs_17 : Sig := [((.int .i64), .no)]
def sigs_19 : Sig := [((.slice 31 TyEntry), (.own 0))]
def sigs_21 : Sig := [(.bool, .no)]
def sigs_24 : Sig := [((.int .i64), .no), ((.slice 31 TyEntry), (.own 0))]
def sigs_36 : Sig := [((.slice 31 TyEntry), (.own 0)), (.bool, .no)]
def sigs_37 : Sig := [((.slice 31 TyEntry), (.own 0)), (.bool, .no)]
def sigs_38 : Sig := [((.int .i64), .no)]
def sigs_39 : Sig := [((.int .i64), .no)]
def sigs_43 : Sig := [(.bool, .no)]
def sigs_45 : Sig := [((.slice 9 .str), (.own 0))]
def sigs_49 : Sig := [(.bool, .no)]
def sigs_51 : Sig := [(.bool, .no)]
def sigs_53 : Sig := [(.bool, .no)]
def sigs_55 : Sig := [(.bool, .no)]
def sigs_57 : Sig := [((.int .i64), .no)]
def sigs_60 : Sig := [((.int .i64), .no)]
def sigs_63 : Sig := [(.str, .no)]
def sigs_64 : Sig := [((.int .i64), .no), ((.slice 9 .str), (.own 0))]
def sigs_67 : Sig := [(.bool, .no)]
def sigs_68 : Sig := [(.bool, .no)]
def sigs_70 : Sig := [((.int .i64), .no)]
def sigs_71 : Sig := [(.bool, .no)]
def sigs_72 : Sig := [(.bool, .no)]
def sigs_74 : Sig := [((.int .i64), .no)]
def sigs_76 : Sig := [(TyEntry, (.pair .no (.pair .no (.pair .no (.own 0)))))]
def sigs_78 : Sig := [(TyEntry, (.pair .no (.pair .no (.pair .no (.own 0)))))]
def sigs_81 : Sig := [((.slice 31 TyEntry), (.own 0))]
def sigs_82 : Sig := [((.slice 31 TyEntry), (.own 0))]
def sigs_83 : Sig := [((.slice 31 TyEntry), (.own 0))]
def sigs_84 : Sig := [((.int .i64), .no)]
def sigs_88 : Sig := [(.bool, .no)]
def sigs_92 : Sig := [(.bool, .no)]
def sigs_93 : Sig := [(.bool, .no)]
def sigs_98 : Sig := [((.int .i64), .no)]
def sigs_99 : Sig := [(.bool, .no)]
def sigs_105 : Sig := [((.int .i64), .no)]
def sigs_106 : Sig := [((.slice 9 .str), (.own 0))]
def sigs_107 : Sig := [((.slice 9 .str), (.own 0))]
def sigs_112 : Sig := [(.bool, .no)]
def sigs_113 : Sig := [(.bool, .no)]
def sigs_118 : Sig := [((.int .i64), .no)]
def sigs_121 : Sig := [((.int .i64), .no)]
def sigs : Sigs := fun n => (cond (Nat.beq n 8) (some sigs_8) (cond (Nat.beq n 9) (some sigs_9) (cond (Nat.beq n 12) (some sigs_12) (cond (Nat.beq n 15) (some sigs_15) (cond (Nat.beq n 17) (some sigs_17) (cond (Nat.beq n 19) (some sigs_19) (cond (Nat.beq n 21) (some sigs_21) (cond (Nat.beq n 24) (some sigs_24) (cond (Nat.beq n 36) (some sigs_36) (cond (Nat.beq n 37) (some sigs_37) (cond (Nat.beq n 38) (some sigs_38) (cond (Nat.beq n 39) (some sigs_39) (cond (Nat.beq n 43) (some sigs_43) (cond (Nat.beq n 45) (some sigs_45) (cond (Nat.beq n 49) (some sigs_49) (cond (Nat.beq n 51) (some sigs_51) (cond (Nat.beq n 53) (some sigs_53) (cond (Nat.beq n 55) (some sigs_55) (cond (Nat.beq n 57) (some sigs_57) (cond (Nat.beq n 60) (some sigs_60) (cond (Nat.beq n 63) (some sigs_63) (cond (Nat.beq n 64) (some sigs_64) (cond (Nat.beq n 67) (some sigs_67) (cond (Nat.beq n 68) (some sigs_68) (cond (Nat.beq n 70) (some sigs_70) (cond (Nat.beq n 71) (some sigs_71) (cond (Nat.beq n 72) (some sigs_72) (cond (Nat.beq n 74) (some sigs_74) (cond (Nat.beq n 76) (some sigs_76) (cond (Nat.beq n 78) (some sigs_78) (cond (Nat.beq n 81) (some sigs_81) (cond (Nat.beq n 82) (some sigs_82) (cond (Nat.beq n 83) (some sigs_83) (cond (Nat.beq n 84) (some sigs_84) (cond (Nat.beq n 88) (some sigs_88) (cond (Nat.beq n 92) (some sigs_92) (cond (Nat.beq n 93) (some sigs_93) (cond (Nat.beq n 98) (some sigs_98) (cond (Nat.beq n 99) (some sigs_99) (cond (Nat.beq n 105) (some sigs_105) (cond (Nat.beq n 106) (some sigs_106) (cond (Nat.beq n 107) (some sigs_107) (cond (Nat.beq n 112) (some sigs_112) (cond (Nat.beq n 113) (some sigs_113) (cond (Nat.beq n 118) (some sigs_118) (cond (Nat.beq n 121) (some sigs_121) none))))))))))))))))))))))))))))))))))))))))))))))
end Go.Proofs.Ythegggkfngnehaa.Ref
