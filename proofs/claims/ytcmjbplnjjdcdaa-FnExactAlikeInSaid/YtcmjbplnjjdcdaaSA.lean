/- The table of types and the signatures of the functions of this seat.
   Conditions: as each theorem states. -/
import Derived.Test.YtcmjbplnjjdcdaaK3
import Derived.Test.YtcmjbplnjjdcdaaProg
import Derived.Test.YtcmjbplnjjdcdaaK7
set_option linter.unusedVariables false
set_option linter.unusedSimpArgs false
set_option maxRecDepth 100000
namespace Go.Proofs.Ytcmjbplnjjdcdaa.Ref
open Go.RowKit Go.Proofs.YtcmjbplnjjdcdaaW.PrintWords Go.Proofs.YtcmjbplnjjdcdaaW.PrintLast
open Go.Proofs.Ytcmjbplnjjdcdaa
abbrev TyEntry : Ty := (.pair .str (.pair (.int .i64) (.pair (.int .i64) (.slice 9 .str))))
def tab : Tab := ⟨[(2, (.int .i64)), (3, (.int .i64)), (4, .bool), (5, (.int .u8)), (9, .str), (22, (.slice 25 TyEntry)), (23, (.slice 9 .str)), (25, TyEntry), (28, (.slice 32 TyEntry)), (32, TyEntry), (59, (.slice 5 (.int .u8)))], [(25, 0, [false]), (25, 1, [true, false]), (25, 2, [true, true, false]), (25, 3, [true, true, true]), (32, 0, [false]), (32, 1, [true, false]), (32, 2, [true, true, false]), (32, 3, [true, true, true])], [13, 14, 19], [], [], [33]⟩
theorem ty2 : TyF Try.prog 2 (.int .i64) := ⟨by kernel_rfl, by kernel_rfl, show Try.prog.underlying 2 = some (.int .i64) from by kernel_rfl⟩
theorem ty3 : TyF Try.prog 3 (.int .i64) := ⟨by kernel_rfl, by kernel_rfl, show Try.prog.underlying 3 = some (.int .i64) from by kernel_rfl⟩
theorem ty4 : TyF Try.prog 4 .bool := ⟨by kernel_rfl, by kernel_rfl, show Try.prog.underlying 4 = some .bool from by kernel_rfl⟩
theorem ty5 : TyF Try.prog 5 (.int .u8) := ⟨by kernel_rfl, by kernel_rfl, show Try.prog.underlying 5 = some (.int .u8) from by kernel_rfl⟩
theorem ty9 : TyF Try.prog 9 .str := ⟨by kernel_rfl, by kernel_rfl, show Try.prog.underlying 9 = some .string from by kernel_rfl⟩
theorem ty22 : TyF Try.prog 22 (.slice 25 TyEntry) := ⟨by kernel_rfl, by kernel_rfl, ⟨by kernel_rfl, 56, by kernel_rfl, by decide, by decide, fun k hk => by cases hk⟩⟩
theorem ty23 : TyF Try.prog 23 (.slice 9 .str) := ⟨by kernel_rfl, by kernel_rfl, ⟨by kernel_rfl, 16, by kernel_rfl, by decide, by decide, fun k hk => by cases hk⟩⟩
theorem ty25 : TyF Try.prog 25 TyEntry := ⟨by kernel_rfl, by kernel_rfl, (und_pair (by kernel_rfl))⟩
theorem ty28 : TyF Try.prog 28 (.slice 32 TyEntry) := ⟨by kernel_rfl, by kernel_rfl, ⟨by kernel_rfl, 56, by kernel_rfl, by decide, by decide, fun k hk => by cases hk⟩⟩
theorem ty32 : TyF Try.prog 32 TyEntry := ⟨by kernel_rfl, by kernel_rfl, (und_pair (by kernel_rfl))⟩
theorem ty59 : TyF Try.prog 59 (.slice 5 (.int .u8)) := ⟨by kernel_rfl, by kernel_rfl, ⟨by kernel_rfl, 1, by kernel_rfl, by decide, by decide, fun k hk => by cases hk; exact (by kernel_rfl : Try.prog.underlying 5 = some (.int .u8))⟩⟩
theorem tabOk : TabOk Try.prog tab := tabOk_of ⟨ty2, ⟨ty3, ⟨ty4, ⟨ty5, ⟨ty9, ⟨ty22, ⟨ty23, ⟨ty25, ⟨ty28, ⟨ty32, ⟨ty59, trivial⟩⟩⟩⟩⟩⟩⟩⟩⟩⟩⟩ ⟨fp_at (t0 := TyEntry) rfl (by kernel_rfl), ⟨fp_at (t0 := TyEntry) rfl (by kernel_rfl), ⟨fp_at (t0 := TyEntry) rfl (by kernel_rfl), ⟨fp_at (t0 := TyEntry) rfl (by kernel_rfl), ⟨fp_at (t0 := TyEntry) rfl (by kernel_rfl), ⟨fp_at (t0 := TyEntry) rfl (by kernel_rfl), ⟨fp_at (t0 := TyEntry) rfl (by kernel_rfl), ⟨fp_at (t0 := TyEntry) rfl (by kernel_rfl), trivial⟩⟩⟩⟩⟩⟩⟩⟩ (by kernel_rfl) ⟨plB_ok (by kernel_rfl), ⟨plB_ok (by kernel_rfl), trivial⟩⟩ trivial
def sigs_4 : Sig := [(.bool, .no)]
def sigs_5 : Sig := [((.int .i64), .no)]
def sigs_6 : Sig := [((.int .i64), .no)]
def sigs_8 : Sig := [((.slice 32 TyEntry), (.own 0))]
def sigs_9 : Sig := [(TyEntry, (.pair .no (.pair .no (.pair .no (.own 0)))))]
def sigs_11 : Sig := [(.bool, .no)]
def sigs_12 : Sig := [(.bool, .no)]
def sigs_13 : Sig := [((.int .i64), .no), ((.slice 32 TyEntry), (.own 0))]
def sigs_16 : Sig := [((.slice 9 .str), (.own 0))]
def sigs_17 : Sig := [((.slice 9 .str), (.own 0))]
def sigs_18 : Sig := [(.bool, .no)]
def sigs_19 : Sig := [((.int .i64), .no), ((.slice 9 .str), (.own 0))]
def sigs_20 : Sig := [((.int .i64), .no)]
def sigs_21 : Sig := [((.int .i64), .no)]
def sigs_26 : Sig := [((.slice 9 .str), (.own 0))]
def sigs_34 : Sig := [(.str, .no)]
def sigs_35 : Sig := [(.bool, .no)]
def sigs_36 : Sig := [((.slice 9 .str), (.own 0))]
def sigs_37 : Sig := [(.bool, .no)]
def sigs_38 : Sig := [(.bool, .no)]
def sigs_46 : Sig := [(.bool, .no)]
def sigs_47 : Sig := [(.str, .no)]
def sigs_48 : Sig := [(.bool, .no)]
def sigs_49 : Sig := [(.str, .no)]
def sigs_50 : Sig := [(.bool, .no)]
def sigs_52 : Sig := [(.bool, .no)]
def sigs : Sigs := fun n => (cond (Nat.beq n 4) (some sigs_4) (cond (Nat.beq n 5) (some sigs_5) (cond (Nat.beq n 6) (some sigs_6) (cond (Nat.beq n 8) (some sigs_8) (cond (Nat.beq n 9) (some sigs_9) (cond (Nat.beq n 11) (some sigs_11) (cond (Nat.beq n 12) (some sigs_12) (cond (Nat.beq n 13) (some sigs_13) (cond (Nat.beq n 16) (some sigs_16) (cond (Nat.beq n 17) (some sigs_17) (cond (Nat.beq n 18) (some sigs_18) (cond (Nat.beq n 19) (some sigs_19) (cond (Nat.beq n 20) (some sigs_20) (cond (Nat.beq n 21) (some sigs_21) (cond (Nat.beq n 26) (some sigs_26) (cond (Nat.beq n 34) (some sigs_34) (cond (Nat.beq n 35) (some sigs_35) (cond (Nat.beq n 36) (some sigs_36) (cond (Nat.beq n 37) (some sigs_37) (cond (Nat.beq n 38) (some sigs_38) (cond (Nat.beq n 46) (some sigs_46) (cond (Nat.beq n 47) (some sigs_47) (cond (Nat.beq n 48) (some sigs_48) (cond (Nat.beq n 49) (some sigs_49) (cond (Nat.beq n 50) (some sigs_50) (cond (Nat.beq n 52) (some sigs_52) none))))))))))))))))))))))))))
end Go.Proofs.Ytcmjbplnjjdcdaa.Ref
