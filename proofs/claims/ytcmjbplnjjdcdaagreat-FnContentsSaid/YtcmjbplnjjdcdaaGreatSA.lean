/- The table of types and the signatures of the functions of this seat.
   Conditions: as each theorem states. -/
import Derived.Test.YtcmjbplnjjdcdaaGreatK3
import Derived.Test.YtcmjbplnjjdcdaaGreatProg
import Derived.Test.YtcmjbplnjjdcdaaGreatK7
set_option linter.unusedVariables false
set_option linter.unusedSimpArgs false
set_option maxRecDepth 100000
namespace Go.Proofs.YtcmjbplnjjdcdaaGreat.Ref
open Go.RowKit Go.Proofs.YtcmjbplnjjdcdaaGreatW.PrintWords Go.Proofs.YtcmjbplnjjdcdaaGreatW.PrintLast
open Go.Proofs.YtcmjbplnjjdcdaaGreat
abbrev TyEntry : Ty := (.pair .str (.pair (.int .i64) (.pair (.int .i64) (.slice 9 .str))))
def tab : Tab := ⟨[(2, (.int .i64)), (3, (.int .i64)), (4, .bool), (5, (.int .u8)), (9, .str), (22, (.slice 5 (.int .u8))), (24, (.slice 27 TyEntry)), (25, (.slice 9 .str)), (27, TyEntry), (62, (.pair (.slice 5 (.int .u8)) (.pair (.int .i64) (.int .i64)))), (66, (.slice 3 (.int .i64))), (69, (.int .u64))], [(27, 0, [false]), (27, 1, [true, false]), (27, 2, [true, true, false]), (27, 3, [true, true, true]), (62, 0, [false]), (62, 1, [true, false]), (62, 2, [true, true])], [], [20, 21, 45, 46, 48, 49, 50, 51, 66, 67, 70, 71, 72], [19], [27, 36]⟩
theorem ty2 : TyF Tryz.prog 2 (.int .i64) := ⟨by kernel_rfl, by kernel_rfl, show Tryz.prog.underlying 2 = some (.int .i64) from by kernel_rfl⟩
theorem ty3 : TyF Tryz.prog 3 (.int .i64) := ⟨by kernel_rfl, by kernel_rfl, show Tryz.prog.underlying 3 = some (.int .i64) from by kernel_rfl⟩
theorem ty4 : TyF Tryz.prog 4 .bool := ⟨by kernel_rfl, by kernel_rfl, show Tryz.prog.underlying 4 = some .bool from by kernel_rfl⟩
theorem ty5 : TyF Tryz.prog 5 (.int .u8) := ⟨by kernel_rfl, by kernel_rfl, show Tryz.prog.underlying 5 = some (.int .u8) from by kernel_rfl⟩
theorem ty9 : TyF Tryz.prog 9 .str := ⟨by kernel_rfl, by kernel_rfl, show Tryz.prog.underlying 9 = some .string from by kernel_rfl⟩
theorem ty22 : TyF Tryz.prog 22 (.slice 5 (.int .u8)) := ⟨by kernel_rfl, by kernel_rfl, ⟨by kernel_rfl, 1, by kernel_rfl, by decide, by decide, fun k hk => by cases hk; exact (by kernel_rfl : Tryz.prog.underlying 5 = some (.int .u8))⟩⟩
theorem ty24 : TyF Tryz.prog 24 (.slice 27 TyEntry) := ⟨by kernel_rfl, by kernel_rfl, ⟨by kernel_rfl, 56, by kernel_rfl, by decide, by decide, fun k hk => by cases hk⟩⟩
theorem ty25 : TyF Tryz.prog 25 (.slice 9 .str) := ⟨by kernel_rfl, by kernel_rfl, ⟨by kernel_rfl, 16, by kernel_rfl, by decide, by decide, fun k hk => by cases hk⟩⟩
theorem ty27 : TyF Tryz.prog 27 TyEntry := ⟨by kernel_rfl, by kernel_rfl, (und_pair (by kernel_rfl))⟩
theorem ty62 : TyF Tryz.prog 62 (.pair (.slice 5 (.int .u8)) (.pair (.int .i64) (.int .i64))) := ⟨by kernel_rfl, by kernel_rfl, (und_pair (by kernel_rfl))⟩
theorem ty66 : TyF Tryz.prog 66 (.slice 3 (.int .i64)) := ⟨by kernel_rfl, by kernel_rfl, ⟨by kernel_rfl, 8, by kernel_rfl, by decide, by decide, fun k hk => by cases hk; exact (by kernel_rfl : Tryz.prog.underlying 3 = some (.int .i64))⟩⟩
theorem ty69 : TyF Tryz.prog 69 (.int .u64) := ⟨by kernel_rfl, by kernel_rfl, show Tryz.prog.underlying 69 = some (.int .u64) from by kernel_rfl⟩
theorem tabOk : TabOk Tryz.prog tab := tabOk_of ⟨ty2, ⟨ty3, ⟨ty4, ⟨ty5, ⟨ty9, ⟨ty22, ⟨ty24, ⟨ty25, ⟨ty27, ⟨ty62, ⟨ty66, ⟨ty69, trivial⟩⟩⟩⟩⟩⟩⟩⟩⟩⟩⟩⟩ ⟨fp_at (t0 := TyEntry) rfl (by kernel_rfl), ⟨fp_at (t0 := TyEntry) rfl (by kernel_rfl), ⟨fp_at (t0 := TyEntry) rfl (by kernel_rfl), ⟨fp_at (t0 := TyEntry) rfl (by kernel_rfl), ⟨fp_at (t0 := (.pair (.slice 5 (.int .u8)) (.pair (.int .i64) (.int .i64)))) rfl (by kernel_rfl), ⟨fp_at (t0 := (.pair (.slice 5 (.int .u8)) (.pair (.int .i64) (.int .i64)))) rfl (by kernel_rfl), ⟨fp_at (t0 := (.pair (.slice 5 (.int .u8)) (.pair (.int .i64) (.int .i64)))) rfl (by kernel_rfl), trivial⟩⟩⟩⟩⟩⟩⟩ (by kernel_rfl) ⟨plB_ok (by kernel_rfl), ⟨plB_ok (by kernel_rfl), trivial⟩⟩ trivial
def sigs_3 : Sig := [(.bool, .no)]
def sigs_4 : Sig := [(.bool, .no)]
def sigs_5 : Sig := [((.slice 27 TyEntry), .no), (TyEntry, .no)]
def sigs_6 : Sig := [((.slice 27 TyEntry), .no), (.bool, .no)]
def sigs_7 : Sig := [((.slice 27 TyEntry), (.own 0)), (.bool, .no)]
def sigs_8 : Sig := [(.bool, .no)]
def sigs_9 : Sig := [((.int .i64), .no)]
def sigs_10 : Sig := [(.bool, .no)]
def sigs_11 : Sig := [(.bool, .no)]
def sigs_12 : Sig := [((.slice 27 TyEntry), .no), (.bool, .no)]
def sigs_13 : Sig := [((.slice 27 TyEntry), (.own 0)), (.str, .no)]
def sigs_14 : Sig := [((.slice 9 .str), (.own 0))]
def sigs_15 : Sig := [(.bool, .no)]
def sigs_16 : Sig := [((.slice 9 .str), (.own 0))]
def sigs_17 : Sig := [((.slice 9 .str), (.own 0))]
def sigs_18 : Sig := [(.bool, .no)]
def sigs_19 : Sig := []
def sigs_20 : Sig := [((.slice 27 TyEntry), (.own 0))]
def sigs_21 : Sig := [(TyEntry, (.pair .no (.pair .no (.pair .no (.own 0)))))]
def sigs_22 : Sig := [((.slice 27 TyEntry), (.own 0))]
def sigs_23 : Sig := [((.int .i64), .no), (.bool, .no)]
def sigs_24 : Sig := [((.int .i64), .no)]
def sigs_25 : Sig := [((.int .i64), .no)]
def sigs_26 : Sig := [(TyEntry, (.pair .no (.pair .no (.pair .no (.own 0)))))]
def sigs_27 : Sig := [((.slice 27 TyEntry), (.own 0))]
def sigs_28 : Sig := [((.int .i64), .no)]
def sigs_29 : Sig := [(TyEntry, (.pair .no (.pair .no (.pair .no (.own 0)))))]
def sigs_30 : Sig := [((.slice 27 TyEntry), (.own 0))]
def sigs_31 : Sig := [(.bool, .no)]
def sigs_32 : Sig := [((.int .i64), .no)]
def sigs_33 : Sig := [(.bool, .no)]
def sigs_34 : Sig := [(.bool, .no)]
def sigs_35 : Sig := [(.bool, .no)]
def sigs_36 : Sig := [((.slice 27 TyEntry), (.own 0))]
def sigs_37 : Sig := [((.slice 27 TyEntry), (.own 0)), (.str, .no)]
def sigs_38 : Sig := [((.slice 9 .str), (.own 0))]
def sigs_39 : Sig := [(.bool, .no)]
def sigs_40 : Sig := [(.bool, .no)]
def sigs_41 : Sig := [(.str, .no)]
def sigs_42 : Sig := [(.bool, .no)]
def sigs_43 : Sig := [(.bool, .no)]
def sigs_44 : Sig := [(.bool, .no)]
def sigs_45 : Sig := [((.slice 27 TyEntry), (.own 0))]
def sigs_46 : Sig := [((.int .i64), .no)]
def sigs_47 : Sig := [(TyEntry, (.pair .no (.pair .no (.pair .no (.own 0)))))]
def sigs_48 : Sig := [(TyEntry, (.pair .no (.pair .no (.pair .no (.own 0)))))]
def sigs_49 : Sig := [((.int .i64), .no)]
def sigs_50 : Sig := [(.str, .no)]
def sigs_51 : Sig := [((.slice 9 .str), (.own 0))]
def sigs_52 : Sig := [((.int .i64), .no)]
def sigs_53 : Sig := [((.slice 9 .str), (.own 0))]
def sigs_56 : Sig := [((.slice 9 .str), (.own 0))]
def sigs_57 : Sig := [(.bool, .no)]
def sigs_58 : Sig := [(.bool, .no)]
def sigs_59 : Sig := [(.bool, .no)]
def sigs_62 : Sig := [(.bool, .no)]
def sigs_63 : Sig := [(.str, .no)]
def sigs_64 : Sig := [(.bool, .no)]
def sigs_65 : Sig := [(.bool, .no)]
def sigs_66 : Sig := [((.int .i64), .no)]
def sigs_67 : Sig := [(.str, .no)]
def sigs_68 : Sig := [(TyEntry, (.pair .no (.pair .no (.pair .no (.own 0)))))]
def sigs_69 : Sig := [(TyEntry, (.pair .no (.pair .no (.pair .no (.own 0)))))]
def sigs_70 : Sig := [((.slice 9 .str), (.own 0))]
def sigs_71 : Sig := [(.bool, .no)]
def sigs_72 : Sig := [(.str, .no)]
def sigs_73 : Sig := [((.int .i64), .no)]
def sigs_75 : Sig := [(.bool, .no)]
def sigs_76 : Sig := [(.bool, .no)]
def sigs_81 : Sig := [((.int .i64), .no)]
def sigs : Sigs := fun n => (cond (Nat.beq n 3) (some sigs_3) (cond (Nat.beq n 4) (some sigs_4) (cond (Nat.beq n 5) (some sigs_5) (cond (Nat.beq n 6) (some sigs_6) (cond (Nat.beq n 7) (some sigs_7) (cond (Nat.beq n 8) (some sigs_8) (cond (Nat.beq n 9) (some sigs_9) (cond (Nat.beq n 10) (some sigs_10) (cond (Nat.beq n 11) (some sigs_11) (cond (Nat.beq n 12) (some sigs_12) (cond (Nat.beq n 13) (some sigs_13) (cond (Nat.beq n 14) (some sigs_14) (cond (Nat.beq n 15) (some sigs_15) (cond (Nat.beq n 16) (some sigs_16) (cond (Nat.beq n 17) (some sigs_17) (cond (Nat.beq n 18) (some sigs_18) (cond (Nat.beq n 19) (some sigs_19) (cond (Nat.beq n 20) (some sigs_20) (cond (Nat.beq n 21) (some sigs_21) (cond (Nat.beq n 22) (some sigs_22) (cond (Nat.beq n 23) (some sigs_23) (cond (Nat.beq n 24) (some sigs_24) (cond (Nat.beq n 25) (some sigs_25) (cond (Nat.beq n 26) (some sigs_26) (cond (Nat.beq n 27) (some sigs_27) (cond (Nat.beq n 28) (some sigs_28) (cond (Nat.beq n 29) (some sigs_29) (cond (Nat.beq n 30) (some sigs_30) (cond (Nat.beq n 31) (some sigs_31) (cond (Nat.beq n 32) (some sigs_32) (cond (Nat.beq n 33) (some sigs_33) (cond (Nat.beq n 34) (some sigs_34) (cond (Nat.beq n 35) (some sigs_35) (cond (Nat.beq n 36) (some sigs_36) (cond (Nat.beq n 37) (some sigs_37) (cond (Nat.beq n 38) (some sigs_38) (cond (Nat.beq n 39) (some sigs_39) (cond (Nat.beq n 40) (some sigs_40) (cond (Nat.beq n 41) (some sigs_41) (cond (Nat.beq n 42) (some sigs_42) (cond (Nat.beq n 43) (some sigs_43) (cond (Nat.beq n 44) (some sigs_44) (cond (Nat.beq n 45) (some sigs_45) (cond (Nat.beq n 46) (some sigs_46) (cond (Nat.beq n 47) (some sigs_47) (cond (Nat.beq n 48) (some sigs_48) (cond (Nat.beq n 49) (some sigs_49) (cond (Nat.beq n 50) (some sigs_50) (cond (Nat.beq n 51) (some sigs_51) (cond (Nat.beq n 52) (some sigs_52) (cond (Nat.beq n 53) (some sigs_53) (cond (Nat.beq n 56) (some sigs_56) (cond (Nat.beq n 57) (some sigs_57) (cond (Nat.beq n 58) (some sigs_58) (cond (Nat.beq n 59) (some sigs_59) (cond (Nat.beq n 62) (some sigs_62) (cond (Nat.beq n 63) (some sigs_63) (cond (Nat.beq n 64) (some sigs_64) (cond (Nat.beq n 65) (some sigs_65) (cond (Nat.beq n 66) (some sigs_66) (cond (Nat.beq n 67) (some sigs_67) (cond (Nat.beq n 68) (some sigs_68) (cond (Nat.beq n 69) (some sigs_69) (cond (Nat.beq n 70) (some sigs_70) (cond (Nat.beq n 71) (some sigs_71) (cond (Nat.beq n 72) (some sigs_72) (cond (Nat.beq n 73) (some sigs_73) (cond (Nat.beq n 75) (some sigs_75) (cond (Nat.beq n 76) (some sigs_76) (cond (Nat.beq n 81) (some sigs_81) none))))))))))))))))))))))))))))))))))))))))))))))))))))))))))))))))))))))
end Go.Proofs.YtcmjbplnjjdcdaaGreat.Ref
