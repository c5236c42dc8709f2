/- The table of types and the signatures of the functions of this seat.
   Conditions: as each theorem states. -/
import Derived.Test.YthiiialbkppmnaaK3
import Derived.Test.YthiiialbkppmnaaProg
set_option linter.unusedVariables false
set_option linter.unusedSimpArgs false
set_option maxRecDepth 100000
namespace Go.Proofs.Ythiiialbkppmnaa.Ref
open Go.RowKit Go.Proofs.YthiiialbkppmnaaW.PrintWords Go.Proofs.YthiiialbkppmnaaW.PrintLast
open Go.Proofs.Ythiiialbkppmnaa
def tab : Tab := ⟨[(2, (.int .i64)), (3, (.int .i64)), (4, .bool), (5, (.int .u8)), (9, .str), (22, (.slice 9 .str)), (24, (.pair .str (.pair (.int .i64) (.pair (.int .i64) (.slice 9 .str))))), (26, (.slice 3 (.int .i64))), (28, (.pair .str (.pair (.int .i64) (.pair (.int .i64) (.slice 9 .str))))), (36, (.slice 24 (.pair .str (.pair (.int .i64) (.pair (.int .i64) (.slice 9 .str)))))), (39, (.slice 28 (.pair .str (.pair (.int .i64) (.pair (.int .i64) (.slice 9 .str)))))), (60, (.slice 5 (.int .u8)))], [(24, 0, [false]), (24, 1, [true, false]), (24, 2, [true, true, false]), (24, 3, [true, true, true]), (28, 0, [false]), (28, 1, [true, false]), (28, 2, [true, true, false]), (28, 3, [true, true, true])], [15, 16, 25, 37]⟩
theorem ty2 : TyF Try.prog 2 (.int .i64) := ⟨by kernel_rfl, by kernel_rfl, show Try.prog.underlying 2 = some (.int .i64) from by kernel_rfl⟩
theorem ty3 : TyF Try.prog 3 (.int .i64) := ⟨by kernel_rfl, by kernel_rfl, show Try.prog.underlying 3 = some (.int .i64) from by kernel_rfl⟩
theorem ty4 : TyF Try.prog 4 .bool := ⟨by kernel_rfl, by kernel_rfl, show Try.prog.underlying 4 = some .bool from by kernel_rfl⟩
theorem ty5 : TyF Try.prog 5 (.int .u8) := ⟨by kernel_rfl, by kernel_rfl, show Try.prog.underlying 5 = some (.int .u8) from by kernel_rfl⟩
theorem ty9 : TyF Try.prog 9 .str := ⟨by kernel_rfl, by kernel_rfl, show Try.prog.underlying 9 = some .string from by kernel_rfl⟩
theorem ty22 : TyF Try.prog 22 (.slice 9 .str) := ⟨by kernel_rfl, by kernel_rfl, ⟨by kernel_rfl, 16, by kernel_rfl, by decide, by decide, fun k hk => by cases hk⟩⟩
theorem ty24 : TyF Try.prog 24 (.pair .str (.pair (.int .i64) (.pair (.int .i64) (.slice 9 .str)))) := ⟨by kernel_rfl, by kernel_rfl, (und_pair (by kernel_rfl))⟩
theorem ty26 : TyF Try.prog 26 (.slice 3 (.int .i64)) := ⟨by kernel_rfl, by kernel_rfl, ⟨by kernel_rfl, 8, by kernel_rfl, by decide, by decide, fun k hk => by cases hk; exact (by kernel_rfl : Try.prog.underlying 3 = some (.int .i64))⟩⟩
theorem ty28 : TyF Try.prog 28 (.pair .str (.pair (.int .i64) (.pair (.int .i64) (.slice 9 .str)))) := ⟨by kernel_rfl, by kernel_rfl, (und_pair (by kernel_rfl))⟩
theorem ty36 : TyF Try.prog 36 (.slice 24 (.pair .str (.pair (.int .i64) (.pair (.int .i64) (.slice 9 .str))))) := ⟨by kernel_rfl, by kernel_rfl, ⟨by kernel_rfl, 56, by kernel_rfl, by decide, by decide, fun k hk => by cases hk⟩⟩
theorem ty39 : TyF Try.prog 39 (.slice 28 (.pair .str (.pair (.int .i64) (.pair (.int .i64) (.slice 9 .str))))) := ⟨by kernel_rfl, by kernel_rfl, ⟨by kernel_rfl, 56, by kernel_rfl, by decide, by decide, fun k hk => by cases hk⟩⟩
theorem ty60 : TyF Try.prog 60 (.slice 5 (.int .u8)) := ⟨by kernel_rfl, by kernel_rfl, ⟨by kernel_rfl, 1, by kernel_rfl, by decide, by decide, fun k hk => by cases hk; exact (by kernel_rfl : Try.prog.underlying 5 = some (.int .u8))⟩⟩
theorem tabOk : TabOk Try.prog tab := tabOk_of ⟨ty2, ⟨ty3, ⟨ty4, ⟨ty5, ⟨ty9, ⟨ty22, ⟨ty24, ⟨ty26, ⟨ty28, ⟨ty36, ⟨ty39, ⟨ty60, trivial⟩⟩⟩⟩⟩⟩⟩⟩⟩⟩⟩⟩ ⟨fp_at (t0 := (.pair .str (.pair (.int .i64) (.pair (.int .i64) (.slice 9 .str))))) rfl (by kernel_rfl), ⟨fp_at (t0 := (.pair .str (.pair (.int .i64) (.pair (.int .i64) (.slice 9 .str))))) rfl (by kernel_rfl), ⟨fp_at (t0 := (.pair .str (.pair (.int .i64) (.pair (.int .i64) (.slice 9 .str))))) rfl (by kernel_rfl), ⟨fp_at (t0 := (.pair .str (.pair (.int .i64) (.pair (.int .i64) (.slice 9 .str))))) rfl (by kernel_rfl), ⟨fp_at (t0 := (.pair .str (.pair (.int .i64) (.pair (.int .i64) (.slice 9 .str))))) rfl (by kernel_rfl), ⟨fp_at (t0 := (.pair .str (.pair (.int .i64) (.pair (.int .i64) (.slice 9 .str))))) rfl (by kernel_rfl), ⟨fp_at (t0 := (.pair .str (.pair (.int .i64) (.pair (.int .i64) (.slice 9 .str))))) rfl (by kernel_rfl), ⟨fp_at (t0 := (.pair .str (.pair (.int .i64) (.pair (.int .i64) (.slice 9 .str))))) rfl (by kernel_rfl), trivial⟩⟩⟩⟩⟩⟩⟩⟩ (by kernel_rfl) ⟨plB_ok (by kernel_rfl), ⟨plB_ok (by kernel_rfl), trivial⟩⟩ trivial
def sigs_5 : Sig := [(.bool, .no)]
def sigs_9 : Sig := [((.int .i64), .no)]
def sigs_10 : Sig := [((.slice 3 (.int .i64)), (.own 0))]
def sigs_11 : Sig := [((.pair .str (.pair (.int .i64) (.pair (.int .i64) (.slice 9 .str)))), (.pair .no (.pair .no (.pair .no (.own 0)))))]
def sigs_12 : Sig := [((.slice 3 (.int .i64)), (.own 0))]
def sigs_13 : Sig := [(.bool, .no)]
def sigs_14 : Sig := [(.bool, .no)]
def sigs_16 : Sig := [((.int .i64), .no), ((.slice 3 (.int .i64)), (.own 0))]
def sigs_17 : Sig := [((.int .i64), .no)]
def sigs_18 : Sig := [((.int .i64), .no)]
def sigs_19 : Sig := [((.int .i64), .no)]
def sigs_20 : Sig := [((.int .i64), .no)]
def sigs_21 : Sig := [((.slice 3 (.int .i64)), (.own 0))]
def sigs_22 : Sig := [((.slice 28 (.pair .str (.pair (.int .i64) (.pair (.int .i64) (.slice 9 .str))))), (.own 0))]
def sigs_23 : Sig := [((.slice 3 (.int .i64)), (.own 0))]
def sigs_24 : Sig := [(.bool, .no)]
def sigs_25 : Sig := [((.int .i64), .no), ((.slice 28 (.pair .str (.pair (.int .i64) (.pair (.int .i64) (.slice 9 .str))))), (.own 0))]
def sigs_32 : Sig := [((.int .i64), .no)]
def sigs_33 : Sig := [((.slice 3 (.int .i64)), (.own 0))]
def sigs_34 : Sig := [((.slice 9 .str), (.own 0))]
def sigs_35 : Sig := [((.slice 3 (.int .i64)), (.own 0))]
def sigs_36 : Sig := [(.bool, .no)]
def sigs_37 : Sig := [((.int .i64), .no), ((.slice 9 .str), (.own 0))]
def sigs_38 : Sig := [((.int .i64), .no)]
def sigs_39 : Sig := [((.int .i64), .no)]
def sigs_40 : Sig := [(.str, .no)]
def sigs_46 : Sig := [(.bool, .no)]
def sigs_49 : Sig := [(.bool, .no)]
def sigs_54 : Sig := [((.slice 3 (.int .i64)), (.own 0))]
def sigs_55 : Sig := [((.slice 3 (.int .i64)), (.own 0))]
def sigs_56 : Sig := [((.int .i64), .no)]
def sigs_57 : Sig := [((.int .i64), .no)]
def sigs : Sigs := fun n => (cond (Nat.beq n 5) (some sigs_5) (cond (Nat.beq n 9) (some sigs_9) (cond (Nat.beq n 10) (some sigs_10) (cond (Nat.beq n 11) (some sigs_11) (cond (Nat.beq n 12) (some sigs_12) (cond (Nat.beq n 13) (some sigs_13) (cond (Nat.beq n 14) (some sigs_14) (cond (Nat.beq n 16) (some sigs_16) (cond (Nat.beq n 17) (some sigs_17) (cond (Nat.beq n 18) (some sigs_18) (cond (Nat.beq n 19) (some sigs_19) (cond (Nat.beq n 20) (some sigs_20) (cond (Nat.beq n 21) (some sigs_21) (cond (Nat.beq n 22) (some sigs_22) (cond (Nat.beq n 23) (some sigs_23) (cond (Nat.beq n 24) (some sigs_24) (cond (Nat.beq n 25) (some sigs_25) (cond (Nat.beq n 32) (some sigs_32) (cond (Nat.beq n 33) (some sigs_33) (cond (Nat.beq n 34) (some sigs_34) (cond (Nat.beq n 35) (some sigs_35) (cond (Nat.beq n 36) (some sigs_36) (cond (Nat.beq n 37) (some sigs_37) (cond (Nat.beq n 38) (some sigs_38) (cond (Nat.beq n 39) (some sigs_39) (cond (Nat.beq n 40) (some sigs_40) (cond (Nat.beq n 46) (some sigs_46) (cond (Nat.beq n 49) (some sigs_49) (cond (Nat.beq n 54) (some sigs_54) (cond (Nat.beq n 55) (some sigs_55) (cond (Nat.beq n 56) (some sigs_56) (cond (Nat.beq n 57) (some sigs_57) none))))))))))))))))))))))))))))))))
end Go.Proofs.Ythiiialbkppmnaa.Ref
