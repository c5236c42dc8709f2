/- The table of types and the signatures of the functions of this seat.
   Conditions: as each theorem states. -/
import Derived.Test.YtcmjbplnjjdcdaaK3
import Derived.Test.YtcmjbplnjjdcdaaProg
import Derived.Test.YtcmjbplnjjdcdaaK7
set_option linter.unusedVariables false
set_option linter.unusedSimpArgs false
set_option maxRecDepth 100000
namespace Go.Proofs.Ytcmjbplnjjdcdaa.Ref
open Go.RowKit Go.Proofs.YtcmjbplnjjdcdaaW.PrintWords Go.Proofs.YtcmjbplnjjdcdaaW.PrintLast
open Go.Proofs.Ytcmjbplnjjdcdaa
abbrev TyEntry : Ty := (.pair .str (.pair (.int .i64) (.pair (.int .i64) (.slice 9 .str))))
def tab : Tab := ⟨[(2, (.int .i64)), (3, (.int .i64)), (4, .bool), (5, (.int .u8)), (9, .str), (22, (.slice 25 TyEntry)), (23, (.slice 9 .str)), (25, TyEntry), (28, (.slice 32 TyEntry)), (32, TyEntry), (57, (.int .u64)), (59, (.slice 5 (.int .u8)))], [(25, 0, [false]), (25, 1, [true, false]), (25, 2, [true, true, false]), (25, 3, [true, true, true]), (32, 0, [false]), (32, 1, [true, false]), (32, 2, [true, true, false]), (32, 3, [true, true, true])], [13, 14, 19], [], [], [33]⟩
theorem ty2 : TyF Try.prog 2 (.int .i64) := ⟨by kernel_rfl, by kernel_rfl, show Try.prog.underlying 2 = some (.int .i64) from by kernel_rfl⟩
theorem ty3 : TyF Try.prog 3 (.int .i64) := ⟨by kernel_rfl, by kernel_rfl, show Try.prog.underlying 3 = some (.int .i64) from by kernel_rfl⟩
theorem ty4 : TyF Try.prog 4 .bool := ⟨by kernel_rfl, by kernel_rfl, show Try.prog.underlying 4 = some .bool from by kernel_rfl⟩
theorem ty5 : TyF Try.prog 5 (.int .u8) := ⟨by kernel_rfl, by kernel_rfl, show Try.prog.underlying 5 = some (.int .u8) from by kernel_rfl⟩
theorem ty9 : TyF Try.prog 9 .str := ⟨by kernel_rfl, by kernel_rfl, show Try.prog.underlying 9 = some .string from by kernel_rfl⟩
theorem ty22 : TyF Try.prog 22 (.slice 25 TyEntry) := ⟨by kernel_rfl, by kernel_rfl, ⟨by kernel_rfl, 56, by kernel_rfl, by decide, by decide, fun k hk => by cases hk⟩⟩
theorem ty23 : TyF Try.prog 23 (.slice 9 .str) := ⟨by kernel_rfl, by kernel_rfl, ⟨by kernel_rfl, 16, by kernel_rfl, by decide, by decide, fun k hk => by cases hk⟩⟩
theorem ty25 : TyF Try.prog 25 TyEntry := ⟨by kernel_rfl, by kernel_rfl, (und_pair (by kernel_rfl))⟩
theorem ty28 : TyF Try.prog 28 (.slice 32 TyEntry) := ⟨by kernel_rfl, by kernel_rfl, ⟨by kernel_rfl, 56, by kernel_rfl, by decide, by decide, fun k hk => by cases hk⟩⟩
theorem ty32 : TyF Try.prog 32 TyEntry := ⟨by kernel_rfl, by kernel_rfl, (und_pair (by kernel_rfl))⟩
theorem ty57 : TyF Try.prog 57 (.int .u64) := ⟨by kernel_rfl, by kernel_rfl, show Try.prog.underlying 57 = some (.int .u64) from by kernel_rfl⟩
theorem ty59 : TyF Try.prog 59 (.slice 5 (.int .u8)) := ⟨by kernel_rfl, by kernel_rfl, ⟨by kernel_rfl, 1, by kernel_rfl, by decide, by decide, fun k hk => by cases hk; exact (by kernel_rfl : Try.prog.underlying 5 = some (.int .u8))⟩⟩
theorem tabOk : TabOk Try.prog tab := tabOk_of ⟨ty2, ⟨ty3, ⟨ty4, ⟨ty5, ⟨ty9, ⟨ty22, ⟨ty23, ⟨ty25, ⟨ty28, ⟨ty32, ⟨ty57, ⟨ty59, trivial⟩⟩⟩⟩⟩⟩⟩⟩⟩⟩⟩⟩ ⟨fp_at (t0 := TyEntry) rfl (by kernel_rfl), ⟨fp_at (t0 := TyEntry) rfl (by kernel_rfl), ⟨fp_at (t0 := TyEntry) rfl (by kernel_rfl), ⟨fp_at (t0 := TyEntry) rfl (by kernel_rfl), ⟨fp_at (t0 := TyEntry) rfl (by kernel_rfl), ⟨fp_at (t0 := TyEntry) rfl (by kernel_rfl), ⟨fp_at (t0 := TyEntry) rfl (by kernel_rfl), ⟨fp_at (t0 := TyEntry) rfl (by kernel_rfl), trivial⟩⟩⟩⟩⟩⟩⟩⟩ (by kernel_rfl) ⟨plB_ok (by kernel_rfl), ⟨plB_ok (by kernel_rfl), trivial⟩⟩ trivial
def sigs_3 : Sig := [(.bool, .no)]
def sigs_5 : Sig := [((.int .i64), .no)]
def sigs_6 : Sig := [((.int .i64), .no)]
def sigs_7 : Sig := [((.slice 32 TyEntry), (.own 0)), (.bool, .no)]
def sigs_8 : Sig := [((.slice 32 TyEntry), (.own 0))]
def sigs_9 : Sig := [(TyEntry, (.pair .no (.pair .no (.pair .no (.own 0)))))]
def sigs_10 : Sig := [((.slice 32 TyEntry), (.own 0)), (.bool, .no)]
def sigs_11 : Sig := [(.bool, .no)]
def sigs_12 : Sig := [(.bool, .no)]
def sigs_13 : Sig := [((.int .i64), .no), ((.slice 32 TyEntry), (.own 0))]
def sigs_14 : Sig := [((.int .i64), .no), (TyEntry, (.pair .no (.pair .no (.pair .no (.own 0)))))]
def sigs_15 : Sig := [((.int .i64), .no)]
def sigs_18 : Sig := [(.bool, .no)]
def sigs_19 : Sig := [((.int .i64), .no), ((.slice 9 .str), (.own 0))]
def sigs_20 : Sig := [((.int .i64), .no)]
def sigs_21 : Sig := [((.int .i64), .no)]
def sigs_22 : Sig := [((.int .i64), .no)]
def sigs_23 : Sig := [(TyEntry, (.pair .no (.pair .no (.pair .no (.own 0)))))]
def sigs_24 : Sig := [(.bool, .no)]
def sigs_25 : Sig := [((.slice 32 TyEntry), (.own 0))]
def sigs_26 : Sig := [((.slice 9 .str), (.own 0))]
def sigs_27 : Sig := [((.slice 32 TyEntry), (.own 0))]
def sigs_28 : Sig := [(.bool, .no)]
def sigs_29 : Sig := [((.int .i64), .no), (.bool, .no)]
def sigs_30 : Sig := [((.int .i64), .no)]
def sigs_31 : Sig := [((.int .i64), .no)]
def sigs_32 : Sig := [(TyEntry, (.pair .no (.pair .no (.pair .no (.own 0)))))]
def sigs_33 : Sig := [((.slice 32 TyEntry), (.own 0))]
def sigs_34 : Sig := [(.str, .no)]
def sigs_39 : Sig := [((.slice 9 .str), (.own 0))]
def sigs_40 : Sig := [(.bool, .no)]
def sigs_41 : Sig := [(.bool, .no)]
def sigs_42 : Sig := [((.int .i64), .no)]
def sigs_43 : Sig := [((.slice 9 .str), (.own 0))]
def sigs_46 : Sig := [(.bool, .no)]
def sigs_48 : Sig := [(.bool, .no)]
def sigs_50 : Sig := [(.bool, .no)]
def sigs_51 : Sig := [(.bool, .no)]
def sigs_52 : Sig := [(.bool, .no)]
def sigs_53 : Sig := [(.bool, .no)]
def sigs_54 : Sig := [(.bool, .no)]
def sigs_55 : Sig := [((.int .i64), .no)]
def sigs_59 : Sig := [(.bool, .no)]
def sigs_60 : Sig := [(.bool, .no)]
def sigs_65 : Sig := [((.int .i64), .no)]
def sigs : Sigs := fun n => (cond (Nat.beq n 3) (some sigs_3) (cond (Nat.beq n 5) (some sigs_5) (cond (Nat.beq n 6) (some sigs_6) (cond (Nat.beq n 7) (some sigs_7) (cond (Nat.beq n 8) (some sigs_8) (cond (Nat.beq n 9) (some sigs_9) (cond (Nat.beq n 10) (some sigs_10) (cond (Nat.beq n 11) (some sigs_11) (cond (Nat.beq n 12) (some sigs_12) (cond (Nat.beq n 13) (some sigs_13) (cond (Nat.beq n 14) (some sigs_14) (cond (Nat.beq n 15) (some sigs_15) (cond (Nat.beq n 18) (some sigs_18) (cond (Nat.beq n 19) (some sigs_19) (cond (Nat.beq n 20) (some sigs_20) (cond (Nat.beq n 21) (some sigs_21) (cond (Nat.beq n 22) (some sigs_22) (cond (Nat.beq n 23) (some sigs_23) (cond (Nat.beq n 24) (some sigs_24) (cond (Nat.beq n 25) (some sigs_25) (cond (Nat.beq n 26) (some sigs_26) (cond (Nat.beq n 27) (some sigs_27) (cond (Nat.beq n 28) (some sigs_28) (cond (Nat.beq n 29) (some sigs_29) (cond (Nat.beq n 30) (some sigs_30) (cond (Nat.beq n 31) (some sigs_31) (cond (Nat.beq n 32) (some sigs_32) (cond (Nat.beq n 33) (some sigs_33) (cond (Nat.beq n 34) (some sigs_34) (cond (Nat.beq n 39) (some sigs_39) (cond (Nat.beq n 40) (some sigs_40) (cond (Nat.beq n 41) (some sigs_41) (cond (Nat.beq n 42) (some sigs_42) (cond (Nat.beq n 43) (some sigs_43) (cond (Nat.beq n 46) (some sigs_46) (cond (Nat.beq n 48) (some sigs_48) (cond (Nat.beq n 50) (some sigs_50) (cond (Nat.beq n 51) (some sigs_51) (cond (Nat.beq n 52) (some sigs_52) (cond (Nat.beq n 53) (some sigs_53) (cond (Nat.beq n 54) (some sigs_54) (cond (Nat.beq n 55) (some sigs_55) (cond (Nat.beq n 59) (some sigs_59) (cond (Nat.beq n 60) (some sigs_60) (cond (Nat.beq n 65) (some sigs_65) none)))))))))))))))))))))))))))))))))))))))))))))
end Go.Proofs.Ytcmjbplnjjdcdaa.Ref
