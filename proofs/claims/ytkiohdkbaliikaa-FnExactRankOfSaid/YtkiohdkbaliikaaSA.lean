/- The table of types and the signatures of the functions of this seat.
   Conditions: as each theorem states. -/
import Derived.Test.YtkiohdkbaliikaaK3
import Derived.Test.YtkiohdkbaliikaaProg
set_option linter.unusedVariables false
set_option linter.unusedSimpArgs false
set_option maxRecDepth 100000
namespace Go.Proofs.Ytkiohdkbaliikaa.Ref
open Go.RowKit Go.Proofs.YtkiohdkbaliikaaW.PrintWords Go.Proofs.YtkiohdkbaliikaaW.PrintLast
open Go.Proofs.Ytkiohdkbaliikaa
def tab : Tab := ⟨[(2, (.int .i64)), (3, (.int .i64)), (4, .bool), (9, .str), (22, (.slice 9 .str)), (24, (.pair .str (.pair (.int .i64) (.pair (.int .i64) (.slice 9 .str))))), (27, (.pair .str (.pair (.int .i64) (.pair (.int .i64) (.slice 9 .str))))), (36, (.slice 24 (.pair .str (.pair (.int .i64) (.pair (.int .i64) (.slice 9 .str)))))), (39, (.slice 27 (.pair .str (.pair (.int .i64) (.pair (.int .i64) (.slice 9 .str))))))], [(24, 0, [false]), (24, 1, [true, false]), (24, 2, [true, true, false]), (24, 3, [true, true, true]), (27, 0, [false]), (27, 1, [true, false]), (27, 2, [true, true, false]), (27, 3, [true, true, true])]⟩
theorem ty2 : TyF Try.prog 2 (.int .i64) := ⟨by kernel_rfl, by kernel_rfl, show Try.prog.underlying 2 = some (.int .i64) from by kernel_rfl⟩
theorem ty3 : TyF Try.prog 3 (.int .i64) := ⟨by kernel_rfl, by kernel_rfl, show Try.prog.underlying 3 = some (.int .i64) from by kernel_rfl⟩
theorem ty4 : TyF Try.prog 4 .bool := ⟨by kernel_rfl, by kernel_rfl, show Try.prog.underlying 4 = some .bool from by kernel_rfl⟩
theorem ty9 : TyF Try.prog 9 .str := ⟨by kernel_rfl, by kernel_rfl, show Try.prog.underlying 9 = some .string from by kernel_rfl⟩
theorem ty22 : TyF Try.prog 22 (.slice 9 .str) := ⟨by kernel_rfl, by kernel_rfl, ⟨by kernel_rfl, 16, by kernel_rfl, by decide, by decide, fun k hk => by cases hk⟩⟩
theorem ty24 : TyF Try.prog 24 (.pair .str (.pair (.int .i64) (.pair (.int .i64) (.slice 9 .str)))) := ⟨by kernel_rfl, by kernel_rfl, (und_pair (by kernel_rfl))⟩
theorem ty27 : TyF Try.prog 27 (.pair .str (.pair (.int .i64) (.pair (.int .i64) (.slice 9 .str)))) := ⟨by kernel_rfl, by kernel_rfl, (und_pair (by kernel_rfl))⟩
theorem ty36 : TyF Try.prog 36 (.slice 24 (.pair .str (.pair (.int .i64) (.pair (.int .i64) (.slice 9 .str))))) := ⟨by kernel_rfl, by kernel_rfl, ⟨by kernel_rfl, 56, by kernel_rfl, by decide, by decide, fun k hk => by cases hk⟩⟩
theorem ty39 : TyF Try.prog 39 (.slice 27 (.pair .str (.pair (.int .i64) (.pair (.int .i64) (.slice 9 .str))))) := ⟨by kernel_rfl, by kernel_rfl, ⟨by kernel_rfl, 56, by kernel_rfl, by decide, by decide, fun k hk => by cases hk⟩⟩
theorem tabOk : TabOk Try.prog tab := tabOk_of ⟨ty2, ⟨ty3, ⟨ty4, ⟨ty9, ⟨ty22, ⟨ty24, ⟨ty27, ⟨ty36, ⟨ty39, trivial⟩⟩⟩⟩⟩⟩⟩⟩⟩ ⟨fp_at (t0 := (.pair .str (.pair (.int .i64) (.pair (.int .i64) (.slice 9 .str))))) rfl (by kernel_rfl), ⟨fp_at (t0 := (.pair .str (.pair (.int .i64) (.pair (.int .i64) (.slice 9 .str))))) rfl (by kernel_rfl), ⟨fp_at (t0 := (.pair .str (.pair (.int .i64) (.pair (.int .i64) (.slice 9 .str))))) rfl (by kernel_rfl), ⟨fp_at (t0 := (.pair .str (.pair (.int .i64) (.pair (.int .i64) (.slice 9 .str))))) rfl (by kernel_rfl), ⟨fp_at (t0 := (.pair .str (.pair (.int .i64) (.pair (.int .i64) (.slice 9 .str))))) rfl (by kernel_rfl), ⟨fp_at (t0 := (.pair .str (.pair (.int .i64) (.pair (.int .i64) (.slice 9 .str))))) rfl (by kernel_rfl), ⟨fp_at (t0 := (.pair .str (.pair (.int .i64) (.pair (.int .i64) (.slice 9 .str))))) rfl (by kernel_rfl), ⟨fp_at (t0 := (.pair .str (.pair (.int .i64) (.pair (.int .i64) (.slice 9 .str))))) rfl (by kernel_rfl), trivial⟩⟩⟩⟩⟩⟩⟩⟩ (by kernel_rfl) ⟨plB_ok (by kernel_rfl), ⟨plB_ok (by kernel_rfl), trivial⟩⟩ trivial
def sigs_3 : Sig := [(.bool, .no)]
def sigs_5 : Sig := [(.bool, .no)]
def sigs_6 : Sig := [(.bool, .no)]
def sigs_8 : Sig := [(.bool, .no)]
def sigs_9 : Sig := [((.int .i64), .no)]
def sigs_10 : Sig := [(.bool, .no)]
def sigs_11 : Sig := [((.pair .str (.pair (.int .i64) (.pair (.int .i64) (.slice 9 .str)))), (.pair .no (.pair .no (.pair .no (.own 0)))))]
def sigs_12 : Sig := [(.bool, .no)]
def sigs_13 : Sig := [(.bool, .no)]
def sigs_14 : Sig := [((.int .i64), .no)]
def sigs_16 : Sig := [((.slice 9 .str), (.own 0))]
def sigs_18 : Sig := [(.bool, .no)]
def sigs_22 : Sig := [((.int .i64), .no)]
def sigs_23 : Sig := [((.int .i64), .no)]
def sigs_24 : Sig := [((.slice 27 (.pair .str (.pair (.int .i64) (.pair (.int .i64) (.slice 9 .str))))), (.own 0))]
def sigs_25 : Sig := [((.int .i64), .no)]
def sigs_26 : Sig := [(.bool, .no)]
def sigs_27 : Sig := [((.int .i64), .no)]
def sigs_28 : Sig := [((.int .i64), .no)]
def sigs_33 : Sig := [(.bool, .no)]
def sigs_34 : Sig := [(.bool, .no)]
def sigs_35 : Sig := [(.bool, .no)]
def sigs_36 : Sig := [(.bool, .no)]
def sigs_40 : Sig := [((.int .i64), .no)]
def sigs_41 : Sig := [(.bool, .no)]
def sigs_42 : Sig := [((.int .i64), .no)]
def sigs_43 : Sig := [((.int .i64), .no)]
def sigs_46 : Sig := [(.bool, .no)]
def sigs_47 : Sig := [((.int .i64), .no)]
def sigs_48 : Sig := [((.int .i64), .no)]
def sigs : Sigs := fun n => (cond (Nat.beq n 3) (some sigs_3) (cond (Nat.beq n 5) (some sigs_5) (cond (Nat.beq n 6) (some sigs_6) (cond (Nat.beq n 8) (some sigs_8) (cond (Nat.beq n 9) (some sigs_9) (cond (Nat.beq n 10) (some sigs_10) (cond (Nat.beq n 11) (some sigs_11) (cond (Nat.beq n 12) (some sigs_12) (cond (Nat.beq n 13) (some sigs_13) (cond (Nat.beq n 14) (some sigs_14) (cond (Nat.beq n 16) (some sigs_16) (cond (Nat.beq n 18) (some sigs_18) (cond (Nat.beq n 22) (some sigs_22) (cond (Nat.beq n 23) (some sigs_23) (cond (Nat.beq n 24) (some sigs_24) (cond (Nat.beq n 25) (some sigs_25) (cond (Nat.beq n 26) (some sigs_26) (cond (Nat.beq n 27) (some sigs_27) (cond (Nat.beq n 28) (some sigs_28) (cond (Nat.beq n 33) (some sigs_33) (cond (Nat.beq n 34) (some sigs_34) (cond (Nat.beq n 35) (some sigs_35) (cond (Nat.beq n 36) (some sigs_36) (cond (Nat.beq n 40) (some sigs_40) (cond (Nat.beq n 41) (some sigs_41) (cond (Nat.beq n 42) (some sigs_42) (cond (Nat.beq n 43) (some sigs_43) (cond (Nat.beq n 46) (some sigs_46) (cond (Nat.beq n 47) (some sigs_47) (cond (Nat.beq n 48) (some sigs_48) none))))))))))))))))))))))))))))))
end Go.Proofs.Ytkiohdkbaliikaa.Ref
