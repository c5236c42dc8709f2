/- The table of types and the signatures of the functions of this seat.
   Conditions: as each theorem states. -/
import Derived.Test.YtnhkdfcggcoemaaK2
import Derived.Test.YtnhkdfcggcoemaaProg
set_option linter.unusedVariables false
set_option linter.unusedSimpArgs false
set_option maxRecDepth 100000
namespace Go.Proofs.Ytnhkdfcggcoemaa.Ref
open Go.RowKit Go.Proofs.YtnhkdfcggcoemaaW.PrintWords Go.Proofs.YtnhkdfcggcoemaaW.PrintLast
open Go.Proofs.Ytnhkdfcggcoemaa
def tab : Tab := ⟨[(3, (.int .i64)), (4, .bool), (26, (.slice 3 (.int .i64))), (28, (.pair (.slice 3 (.int .i64)) (.int .i64))), (31, (.pair (.slice 3 (.int .i64)) (.int .i64))), (36, (.pair (.int .i64) (.slice 3 (.int .i64)))), (39, (.pair (.int .i64) (.slice 3 (.int .i64))))], [(28, 0, [false]), (28, 1, [true]), (31, 0, [false]), (31, 1, [true]), (36, 0, [false]), (36, 1, [true]), (39, 0, [false]), (39, 1, [true])]⟩
theorem ty3 : TyF Try.prog 3 (.int .i64) := ⟨by kernel_rfl, by kernel_rfl, show Try.prog.underlying 3 = some (.int .i64) from by kernel_rfl⟩
theorem ty4 : TyF Try.prog 4 .bool := ⟨by kernel_rfl, by kernel_rfl, show Try.prog.underlying 4 = some .bool from by kernel_rfl⟩
theorem ty26 : TyF Try.prog 26 (.slice 3 (.int .i64)) := ⟨by kernel_rfl, by kernel_rfl, ⟨by kernel_rfl, 8, by kernel_rfl, by decide, by decide, fun k hk => by cases hk; exact (by kernel_rfl : Try.prog.underlying 3 = some (.int .i64))⟩⟩
theorem ty28 : TyF Try.prog 28 (.pair (.slice 3 (.int .i64)) (.int .i64)) := ⟨by kernel_rfl, by kernel_rfl, (und_pair (by kernel_rfl))⟩
theorem ty31 : TyF Try.prog 31 (.pair (.slice 3 (.int .i64)) (.int .i64)) := ⟨by kernel_rfl, by kernel_rfl, (und_pair (by kernel_rfl))⟩
theorem ty36 : TyF Try.prog 36 (.pair (.int .i64) (.slice 3 (.int .i64))) := ⟨by kernel_rfl, by kernel_rfl, (und_pair (by kernel_rfl))⟩
theorem ty39 : TyF Try.prog 39 (.pair (.int .i64) (.slice 3 (.int .i64))) := ⟨by kernel_rfl, by kernel_rfl, (und_pair (by kernel_rfl))⟩
theorem tabOk : TabOk Try.prog tab := tabOk_of ⟨ty3, ⟨ty4, ⟨ty26, ⟨ty28, ⟨ty31, ⟨ty36, ⟨ty39, trivial⟩⟩⟩⟩⟩⟩⟩ ⟨fp_at (t0 := (.pair (.slice 3 (.int .i64)) (.int .i64))) rfl (by kernel_rfl), ⟨fp_at (t0 := (.pair (.slice 3 (.int .i64)) (.int .i64))) rfl (by kernel_rfl), ⟨fp_at (t0 := (.pair (.slice 3 (.int .i64)) (.int .i64))) rfl (by kernel_rfl), ⟨fp_at (t0 := (.pair (.slice 3 (.int .i64)) (.int .i64))) rfl (by kernel_rfl), ⟨fp_at (t0 := (.pair (.int .i64) (.slice 3 (.int .i64)))) rfl (by kernel_rfl), ⟨fp_at (t0 := (.pair (.int .i64) (.slice 3 (.int .i64)))) rfl (by kernel_rfl), ⟨fp_at (t0 := (.pair (.int .i64) (.slice 3 (.int .i64)))) rfl (by kernel_rfl), ⟨fp_at (t0 := (.pair (.int .i64) (.slice 3 (.int .i64)))) rfl (by kernel_rfl), trivial⟩⟩⟩⟩⟩⟩⟩⟩ (by kernel_rfl) ⟨plB_ok (by kernel_rfl), ⟨plB_ok (by kernel_rfl), ⟨plB_ok (by kernel_rfl), ⟨plB_ok (by kernel_rfl), trivial⟩⟩⟩⟩ trivial
def sigs_5 : Sig := [(.bool, .no)]
def sigs_6 : Sig := [(.bool, .no)]
def sigs_13 : Sig := [((.int .i64), .no)]
def sigs_14 : Sig := [(.bool, .no)]
def sigs_15 : Sig := [((.pair (.slice 3 (.int .i64)) (.int .i64)), (.pair (.own 0) .no))]
def sigs_16 : Sig := [(.bool, .no)]
def sigs_17 : Sig := [(.bool, .no)]
def sigs_18 : Sig := [((.int .i64), .no)]
def sigs_19 : Sig := [((.int .i64), .no)]
def sigs_20 : Sig := [((.pair (.int .i64) (.slice 3 (.int .i64))), (.pair .no (.own 0)))]
def sigs_21 : Sig := [((.int .i64), .no)]
def sigs_22 : Sig := [(.bool, .no)]
def sigs_34 : Sig := [((.int .i64), .no)]
def sigs_35 : Sig := [((.slice 3 (.int .i64)), (.own 0))]
def sigs_36 : Sig := [(.bool, .no)]
def sigs : Sigs := fun n => (cond (Nat.beq n 5) (some sigs_5) (cond (Nat.beq n 6) (some sigs_6) (cond (Nat.beq n 13) (some sigs_13) (cond (Nat.beq n 14) (some sigs_14) (cond (Nat.beq n 15) (some sigs_15) (cond (Nat.beq n 16) (some sigs_16) (cond (Nat.beq n 17) (some sigs_17) (cond (Nat.beq n 18) (some sigs_18) (cond (Nat.beq n 19) (some sigs_19) (cond (Nat.beq n 20) (some sigs_20) (cond (Nat.beq n 21) (some sigs_21) (cond (Nat.beq n 22) (some sigs_22) (cond (Nat.beq n 34) (some sigs_34) (cond (Nat.beq n 35) (some sigs_35) (cond (Nat.beq n 36) (some sigs_36) none)))))))))))))))
end Go.Proofs.Ytnhkdfcggcoemaa.Ref
