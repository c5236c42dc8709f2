/- The table of types and the signatures of the functions of this seat.
   Conditions: as each theorem states. -/
import Derived.Test.YtkiohdkbaliikaaK3
import Derived.Test.YtkiohdkbaliikaaProg
set_option linter.unusedVariables false
set_option linter.unusedSimpArgs false
set_option maxRecDepth 100000
namespace Go.Proofs.Ytkiohdkbaliikaa.Ref
open Go.RowKit Go.Proofs.YtkiohdkbaliikaaW.PrintWords Go.Proofs.YtkiohdkbaliikaaW.PrintLast
open Go.Proofs.Ytkiohdkbaliikaa
def tab : Tab := ⟨[(2, (.int .i64)), (3, (.int .i64)), (4, .bool), (5, (.int .u8)), (9, .str), (22, (.slice 9 .str)), (24, (.pair .str (.pair (.int .i64) (.pair (.int .i64) (.slice 9 .str))))), (27, (.pair .str (.pair (.int .i64) (.pair (.int .i64) (.slice 9 .str))))), (36, (.slice 24 (.pair .str (.pair (.int .i64) (.pair (.int .i64) (.slice 9 .str)))))), (39, (.slice 27 (.pair .str (.pair (.int .i64) (.pair (.int .i64) (.slice 9 .str)))))), (54, (.slice 5 (.int .u8)))], [(24, 0, [false]), (24, 1, [true, false]), (24, 2, [true, true, false]), (24, 3, [true, true, true]), (27, 0, [false]), (27, 1, [true, false]), (27, 2, [true, true, false]), (27, 3, [true, true, true])], [19, 20, 31]⟩
theorem ty2 : TyF Try.prog 2 (.int .i64) := ⟨by kernel_rfl, by kernel_rfl, show Try.prog.underlying 2 = some (.int .i64) from by kernel_rfl⟩
theorem ty3 : TyF Try.prog 3 (.int .i64) := ⟨by kernel_rfl, by kernel_rfl, show Try.prog.underlying 3 = some (.int .i64) from by kernel_rfl⟩
theorem ty4 : TyF Try.prog 4 .bool := ⟨by kernel_rfl, by kernel_rfl, show Try.prog.underlying 4 = some .bool from by kernel_rfl⟩
theorem ty5 : TyF Try.prog 5 (.int .u8) := ⟨by kernel_rfl, by kernel_rfl, show Try.prog.underlying 5 = some (.int .u8) from by kernel_rfl⟩
theorem ty9 : TyF Try.prog 9 .str := ⟨by kernel_rfl, by kernel_rfl, show Try.prog.underlying 9 = some .string from by kernel_rfl⟩
theorem ty22 : TyF Try.prog 22 (.slice 9 .str) := ⟨by kernel_rfl, by kernel_rfl, ⟨by kernel_rfl, 16, by kernel_rfl, by decide, by decide, fun k hk => by cases hk⟩⟩
theorem ty24 : TyF Try.prog 24 (.pair .str (.pair (.int .i64) (.pair (.int .i64) (.slice 9 .str)))) := ⟨by kernel_rfl, by kernel_rfl, (und_pair (by kernel_rfl))⟩
theorem ty27 : TyF Try.prog 27 (.pair .str (.pair (.int .i64) (.pair (.int .i64) (.slice 9 .str)))) := ⟨by kernel_rfl, by kernel_rfl, (und_pair (by kernel_rfl))⟩
theorem ty36 : TyF Try.prog 36 (.slice 24 (.pair .str (.pair (.int .i64) (.pair (.int .i64) (.slice 9 .str))))) := ⟨by kernel_rfl, by kernel_rfl, ⟨by kernel_rfl, 56, by kernel_rfl, by decide, by decide, fun k hk => by cases hk⟩⟩
theorem ty39 : TyF Try.prog 39 (.slice 27 (.pair .str (.pair (.int .i64) (.pair (.int .i64) (.slice 9 .str))))) := ⟨by kernel_rfl, by kernel_rfl, ⟨by kernel_rfl, 56, by kernel_rfl, by decide, by decide, fun k hk => by cases hk⟩⟩
theorem ty54 : TyF Try.prog 54 (.slice 5 (.int .u8)) := ⟨by kernel_rfl, by kernel_rfl, ⟨by kernel_rfl, 1, by kernel_rfl, by decide, by decide, fun k hk => by cases hk; exact (by kernel_rfl : Try.prog.underlying 5 = some (.int .u8))⟩⟩
theorem tabOk : TabOk Try.prog tab := tabOk_of ⟨ty2, ⟨ty3, ⟨ty4, ⟨ty5, ⟨ty9, ⟨ty22, ⟨ty24, ⟨ty27, ⟨ty36, ⟨ty39, ⟨ty54, trivial⟩⟩⟩⟩⟩⟩⟩⟩⟩⟩⟩ ⟨fp_at (t0 := (.pair .str (.pair (.int .i64) (.pair (.int .i64) (.slice 9 .str))))) rfl (by kernel_rfl), ⟨fp_at (t0 := (.pair .str (.pair (.int .i64) (.pair (.int .i64) (.slice 9 .str))))) rfl (by kernel_rfl), ⟨fp_at (t0 := (.pair .str (.pair (.int .i64) (.pair (.int .i64) (.slice 9 .str))))) rfl (by kernel_rfl), ⟨fp_at (t0 := (.pair .str (.pair (.int .i64) (.pair (.int .i64) (.slice 9 .str))))) rfl (by kernel_rfl), ⟨fp_at (t0 := (.pair .str (.pair (.int .i64) (.pair (.int .i64) (.slice 9 .str))))) rfl (by kernel_rfl), ⟨fp_at (t0 := (.pair .str (.pair (.int .i64) (.pair (.int .i64) (.slice 9 .str))))) rfl (by kernel_rfl), ⟨fp_at (t0 := (.pair .str (.pair (.int .i64) (.pair (.int .i64) (.slice 9 .str))))) rfl (by kernel_rfl), ⟨fp_at (t0 := (.pair .str (.pair (.int .i64) (.pair (.int .i64) (.slice 9 .str))))) rfl (by kernel_rfl), trivial⟩⟩⟩⟩⟩⟩⟩⟩ (by kernel_rfl) ⟨plB_ok (by kernel_rfl), ⟨plB_ok (by kernel_rfl), trivial⟩⟩ trivial
def sigs_7 : Sig := [(.bool, .no)]
def sigs_9 : Sig := [((.int .i64), .no)]
def sigs_11 : Sig := [((.pair .str (.pair (.int .i64) (.pair (.int .i64) (.slice 9 .str)))), (.pair .no (.pair .no (.pair .no (.own 0)))))]
def sigs_13 : Sig := [(.bool, .no)]
def sigs_14 : Sig := [((.int .i64), .no)]
def sigs_16 : Sig := [((.slice 9 .str), (.own 0))]
def sigs_18 : Sig := [(.bool, .no)]
def sigs_19 : Sig := [((.int .i64), .no), ((.slice 9 .str), (.own 0))]
def sigs_22 : Sig := [((.int .i64), .no)]
def sigs_24 : Sig := [((.slice 27 (.pair .str (.pair (.int .i64) (.pair (.int .i64) (.slice 9 .str))))), (.own 0))]
def sigs_26 : Sig := [(.bool, .no)]
def sigs_29 : Sig := [((.slice 9 .str), (.own 0))]
def sigs_30 : Sig := [((.slice 9 .str), (.own 0))]
def sigs_31 : Sig := [((.int .i64), .no), ((.slice 27 (.pair .str (.pair (.int .i64) (.pair (.int .i64) (.slice 9 .str))))), (.own 0))]
def sigs_32 : Sig := [((.int .i64), .no)]
def sigs_39 : Sig := [(.str, .no)]
def sigs_44 : Sig := [((.slice 9 .str), (.own 0))]
def sigs_45 : Sig := [(.bool, .no)]
def sigs : Sigs := fun n => (cond (Nat.beq n 7) (some sigs_7) (cond (Nat.beq n 9) (some sigs_9) (cond (Nat.beq n 11) (some sigs_11) (cond (Nat.beq n 13) (some sigs_13) (cond (Nat.beq n 14) (some sigs_14) (cond (Nat.beq n 16) (some sigs_16) (cond (Nat.beq n 18) (some sigs_18) (cond (Nat.beq n 19) (some sigs_19) (cond (Nat.beq n 22) (some sigs_22) (cond (Nat.beq n 24) (some sigs_24) (cond (Nat.beq n 26) (some sigs_26) (cond (Nat.beq n 29) (some sigs_29) (cond (Nat.beq n 30) (some sigs_30) (cond (Nat.beq n 31) (some sigs_31) (cond (Nat.beq n 32) (some sigs_32) (cond (Nat.beq n 39) (some sigs_39) (cond (Nat.beq n 44) (some sigs_44) (cond (Nat.beq n 45) (some sigs_45) none))))))))))))))))))
end Go.Proofs.Ytkiohdkbaliikaa.Ref
