/- The table of types and the signatures of the functions of this seat.
   Conditions: as each theorem states. -/
import Derived.Test.YtaghpijciobacaaK3
import Derived.Test.YtaghpijciobacaaProg
set_option linter.unusedVariables false
set_option linter.unusedSimpArgs false
set_option maxRecDepth 100000
namespace Go.Proofs.Ytaghpijciobacaa.Ref
open Go.RowKit Go.Proofs.YtaghpijciobacaaW.PrintWords Go.Proofs.YtaghpijciobacaaW.PrintLast
open Go.Proofs.Ytaghpijciobacaa
abbrev TyHead : Ty := (.pair (.int .i64) (.pair (.int .i64) (.pair (.int .i64) (.pair (.int .i64) (.pair (.int .i64) (.pair (.int .i64) (.pair (.int .i64) (.pair (.int .i64) (.pair (.pair (.slice 3 (.int .i64)) (.int .i64)) (.pair (.pair (.slice 3 (.int .i64)) (.int .i64)) (.pair (.int .i64) (.pair (.pair (.slice 3 (.int .i64)) (.int .i64)) .bool))))))))))))
def tab : Tab := ⟨[(2, (.int .i64)), (3, (.int .i64)), (4, .bool), (5, (.int .u8)), (9, .str), (22, (.slice 5 (.int .u8))), (24, (.slice 3 (.int .i64))), (26, (.pair (.slice 3 (.int .i64)) (.int .i64))), (28, TyHead), (57, (.pair (.slice 5 (.int .u8)) (.pair (.int .i64) (.int .i64)))), (63, (.slice 24 (.slice 3 (.int .i64)))), (65, (.int .u64))], [(26, 0, [false]), (26, 1, [true]), (28, 0, [false]), (28, 1, [true, false]), (28, 2, [true, true, false]), (28, 3, [true, true, true, false]), (28, 4, [true, true, true, true, false]), (28, 5, [true, true, true, true, true, false]), (28, 6, [true, true, true, true, true, true, false]), (28, 7, [true, true, true, true, true, true, true, false]), (28, 8, [true, true, true, true, true, true, true, true, false]), (28, 9, [true, true, true, true, true, true, true, true, true, false]), (28, 10, [true, true, true, true, true, true, true, true, true, true, false]), (28, 11, [true, true, true, true, true, true, true, true, true, true, true, false]), (28, 12, [true, true, true, true, true, true, true, true, true, true, true, true]), (57, 0, [false]), (57, 1, [true, false]), (57, 2, [true, true])], [], [20, 21, 23, 24, 43, 44, 46, 47], [19]⟩
theorem ty2 : TyF Try.prog 2 (.int .i64) := ⟨by kernel_rfl, by kernel_rfl, show Try.prog.underlying 2 = some (.int .i64) from by kernel_rfl⟩
theorem ty3 : TyF Try.prog 3 (.int .i64) := ⟨by kernel_rfl, by kernel_rfl, show Try.prog.underlying 3 = some (.int .i64) from by kernel_rfl⟩
theorem ty4 : TyF Try.prog 4 .bool := ⟨by kernel_rfl, by kernel_rfl, show Try.prog.underlying 4 = some .bool from by kernel_rfl⟩
theorem ty5 : TyF Try.prog 5 (.int .u8) := ⟨by kernel_rfl, by kernel_rfl, show Try.prog.underlying 5 = some (.int .u8) from by kernel_rfl⟩
theorem ty9 : TyF Try.prog 9 .str := ⟨by kernel_rfl, by kernel_rfl, show Try.prog.underlying 9 = some .string from by kernel_rfl⟩
theorem ty22 : TyF Try.prog 22 (.slice 5 (.int .u8)) := ⟨by kernel_rfl, by kernel_rfl, ⟨by kernel_rfl, 1, by kernel_rfl, by decide, by decide, fun k hk => by cases hk; exact (by kernel_rfl : Try.prog.underlying 5 = some (.int .u8))⟩⟩
theorem ty24 : TyF Try.prog 24 (.slice 3 (.int .i64)) := ⟨by kernel_rfl, by kernel_rfl, ⟨by kernel_rfl, 8, by kernel_rfl, by decide, by decide, fun k hk => by cases hk; exact (by kernel_rfl : Try.prog.underlying 3 = some (.int .i64))⟩⟩
theorem ty26 : TyF Try.prog 26 (.pair (.slice 3 (.int .i64)) (.int .i64)) := ⟨by kernel_rfl, by kernel_rfl, (und_pair (by kernel_rfl))⟩
theorem ty28 : TyF Try.prog 28 TyHead := ⟨by kernel_rfl, by kernel_rfl, (und_pair (by kernel_rfl))⟩
theorem ty57 : TyF Try.prog 57 (.pair (.slice 5 (.int .u8)) (.pair (.int .i64) (.int .i64))) := ⟨by kernel_rfl, by kernel_rfl, (und_pair (by kernel_rfl))⟩
theorem ty63 : TyF Try.prog 63 (.slice 24 (.slice 3 (.int .i64))) := ⟨by kernel_rfl, by kernel_rfl, ⟨by kernel_rfl, 24, by kernel_rfl, by decide, by decide, fun k hk => by cases hk⟩⟩
theorem ty65 : TyF Try.prog 65 (.int .u64) := ⟨by kernel_rfl, by kernel_rfl, show Try.prog.underlying 65 = some (.int .u64) from by kernel_rfl⟩
theorem tabOk : TabOk Try.prog tab := tabOk_of ⟨ty2, ⟨ty3, ⟨ty4, ⟨ty5, ⟨ty9, ⟨ty22, ⟨ty24, ⟨ty26, ⟨ty28, ⟨ty57, ⟨ty63, ⟨ty65, trivial⟩⟩⟩⟩⟩⟩⟩⟩⟩⟩⟩⟩ ⟨fp_at (t0 := (.pair (.slice 3 (.int .i64)) (.int .i64))) rfl (by kernel_rfl), ⟨fp_at (t0 := (.pair (.slice 3 (.int .i64)) (.int .i64))) rfl (by kernel_rfl), ⟨fp_at (t0 := TyHead) rfl (by kernel_rfl), ⟨fp_at (t0 := TyHead) rfl (by kernel_rfl), ⟨fp_at (t0 := TyHead) rfl (by kernel_rfl), ⟨fp_at (t0 := TyHead) rfl (by kernel_rfl), ⟨fp_at (t0 := TyHead) rfl (by kernel_rfl), ⟨fp_at (t0 := TyHead) rfl (by kernel_rfl), ⟨fp_at (t0 := TyHead) rfl (by kernel_rfl), ⟨fp_at (t0 := TyHead) rfl (by kernel_rfl), ⟨fp_at (t0 := TyHead) rfl (by kernel_rfl), ⟨fp_at (t0 := TyHead) rfl (by kernel_rfl), ⟨fp_at (t0 := TyHead) rfl (by kernel_rfl), ⟨fp_at (t0 := TyHead) rfl (by kernel_rfl), ⟨fp_at (t0 := TyHead) rfl (by kernel_rfl), ⟨fp_at (t0 := (.pair (.slice 5 (.int .u8)) (.pair (.int .i64) (.int .i64)))) rfl (by kernel_rfl), ⟨fp_at (t0 := (.pair (.slice 5 (.int .u8)) (.pair (.int .i64) (.int .i64)))) rfl (by kernel_rfl), ⟨fp_at (t0 := (.pair (.slice 5 (.int .u8)) (.pair (.int .i64) (.int .i64)))) rfl (by kernel_rfl), trivial⟩⟩⟩⟩⟩⟩⟩⟩⟩⟩⟩⟩⟩⟩⟩⟩⟩⟩ (by kernel_rfl) ⟨plB_ok (by kernel_rfl), ⟨plB_ok (by kernel_rfl), ⟨plB_ok (by kernel_rfl), trivial⟩⟩⟩ trivial
def sigs_3 : Sig := [(.bool, .no)]
def sigs_4 : Sig := [(.bool, .no)]
def sigs_5 : Sig := [(TyHead, (.pair .no (.pair .no (.pair .no (.pair .no (.pair .no (.pair .no (.pair .no (.pair .no (.pair (.pair (.own 0) .no) (.pair (.pair (.own 1) .no) (.pair .no (.pair (.pair (.own 2) .no) .no))))))))))))), (TyHead, (.pair .no (.pair .no (.pair .no (.pair .no (.pair .no (.pair .no (.pair .no (.pair .no (.pair (.pair (.own 3) .no) (.pair (.pair (.own 4) .no) (.pair .no (.pair (.pair (.own 5) .no) .no)))))))))))))]
def sigs_6 : Sig := [(TyHead, (.pair .no (.pair .no (.pair .no (.pair .no (.pair .no (.pair .no (.pair .no (.pair .no (.pair (.pair (.own 0) .no) (.pair (.pair (.own 1) .no) (.pair .no (.pair (.pair (.own 2) .no) .no))))))))))))), ((.int .i64), .no)]
def sigs_7 : Sig := [((.pair (.slice 3 (.int .i64)) (.int .i64)), (.pair (.own 0) .no))]
def sigs_8 : Sig := [(.bool, .no)]
def sigs_9 : Sig := [(.bool, .no)]
def sigs_10 : Sig := [(.bool, .no)]
def sigs_11 : Sig := [(.bool, .no)]
def sigs_12 : Sig := [((.int .i64), .no)]
def sigs_13 : Sig := [((.int .i64), .no)]
def sigs_14 : Sig := [(.bool, .no)]
def sigs_15 : Sig := [(.bool, .no)]
def sigs_16 : Sig := [(.bool, .no)]
def sigs_17 : Sig := [((.slice 3 (.int .i64)), (.own 0))]
def sigs_18 : Sig := [((.slice 3 (.int .i64)), (.own 0))]
def sigs_19 : Sig := []
def sigs_20 : Sig := [(TyHead, (.pair .no (.pair .no (.pair .no (.pair .no (.pair .no (.pair .no (.pair .no (.pair .no (.pair (.pair (.own 0) .no) (.pair (.pair (.own 1) .no) (.pair .no (.pair (.pair (.own 2) .no) .no)))))))))))))]
def sigs_21 : Sig := [(.bool, .no)]
def sigs_22 : Sig := [(TyHead, (.pair .no (.pair .no (.pair .no (.pair .no (.pair .no (.pair .no (.pair .no (.pair .no (.pair (.pair (.own 0) .no) (.pair (.pair (.own 1) .no) (.pair .no (.pair (.pair (.own 2) .no) .no)))))))))))))]
def sigs_23 : Sig := [((.int .i64), .no)]
def sigs_24 : Sig := [((.pair (.slice 3 (.int .i64)) (.int .i64)), (.pair (.own 0) .no))]
def sigs_25 : Sig := [(.bool, .no)]
def sigs_26 : Sig := [(.bool, .no)]
def sigs_27 : Sig := [(.bool, .no)]
def sigs_28 : Sig := [(.bool, .no)]
def sigs_29 : Sig := [(.bool, .no)]
def sigs_30 : Sig := [(.bool, .no)]
def sigs_31 : Sig := [(.bool, .no)]
def sigs_32 : Sig := [(.bool, .no)]
def sigs_33 : Sig := [(.bool, .no)]
def sigs_34 : Sig := [(.bool, .no)]
def sigs_35 : Sig := [(.bool, .no)]
def sigs_36 : Sig := [(.bool, .no)]
def sigs_37 : Sig := [((.int .i64), .no)]
def sigs_38 : Sig := [((.int .i64), .no)]
def sigs_39 : Sig := [((.slice 3 (.int .i64)), (.own 0))]
def sigs_40 : Sig := [((.slice 3 (.int .i64)), (.own 0))]
def sigs_41 : Sig := [((.int .i64), .no)]
def sigs_42 : Sig := [((.slice 3 (.int .i64)), (.own 0))]
def sigs_43 : Sig := [(TyHead, (.pair .no (.pair .no (.pair .no (.pair .no (.pair .no (.pair .no (.pair .no (.pair .no (.pair (.pair (.own 0) .no) (.pair (.pair (.own 1) .no) (.pair .no (.pair (.pair (.own 2) .no) .no)))))))))))))]
def sigs_44 : Sig := [((.int .i64), .no)]
def sigs_45 : Sig := [((.pair (.slice 3 (.int .i64)) (.int .i64)), (.pair (.own 0) .no))]
def sigs_46 : Sig := [((.int .i64), .no)]
def sigs_47 : Sig := [((.pair (.slice 3 (.int .i64)) (.int .i64)), (.pair (.own 0) .no))]
def sigs_48 : Sig := [(.bool, .no)]
def sigs_49 : Sig := [(.bool, .no)]
def sigs_50 : Sig := [((.int .i64), .no)]
def sigs_51 : Sig := [((.int .i64), .no)]
def sigs_52 : Sig := [((.slice 3 (.int .i64)), (.own 0))]
def sigs : Sigs := fun n => (cond (Nat.beq n 3) (some sigs_3) (cond (Nat.beq n 4) (some sigs_4) (cond (Nat.beq n 5) (some sigs_5) (cond (Nat.beq n 6) (some sigs_6) (cond (Nat.beq n 7) (some sigs_7) (cond (Nat.beq n 8) (some sigs_8) (cond (Nat.beq n 9) (some sigs_9) (cond (Nat.beq n 10) (some sigs_10) (cond (Nat.beq n 11) (some sigs_11) (cond (Nat.beq n 12) (some sigs_12) (cond (Nat.beq n 13) (some sigs_13) (cond (Nat.beq n 14) (some sigs_14) (cond (Nat.beq n 15) (some sigs_15) (cond (Nat.beq n 16) (some sigs_16) (cond (Nat.beq n 17) (some sigs_17) (cond (Nat.beq n 18) (some sigs_18) (cond (Nat.beq n 19) (some sigs_19) (cond (Nat.beq n 20) (some sigs_20) (cond (Nat.beq n 21) (some sigs_21) (cond (Nat.beq n 22) (some sigs_22) (cond (Nat.beq n 23) (some sigs_23) (cond (Nat.beq n 24) (some sigs_24) (cond (Nat.beq n 25) (some sigs_25) (cond (Nat.beq n 26) (some sigs_26) (cond (Nat.beq n 27) (some sigs_27) (cond (Nat.beq n 28) (some sigs_28) (cond (Nat.beq n 29) (some sigs_29) (cond (Nat.beq n 30) (some sigs_30) (cond (Nat.beq n 31) (some sigs_31) (cond (Nat.beq n 32) (some sigs_32) (cond (Nat.beq n 33) (some sigs_33) (cond (Nat.beq n 34) (some sigs_34) (cond (Nat.beq n 35) (some sigs_35) (cond (Nat.beq n 36) (some sigs_36) (cond (Nat.beq n 37) (some sigs_37) (cond (Nat.beq n 38) (some sigs_38) (cond (Nat.beq n 39) (some sigs_39) (cond (Nat.beq n 40) (some sigs_40) (cond (Nat.beq n 41) (some sigs_41) (cond (Nat.beq n 42) (some sigs_42) (cond (Nat.beq n 43) (some sigs_43) (cond (Nat.beq n 44) (some sigs_44) (cond (Nat.beq n 45) (some sigs_45) (cond (Nat.beq n 46) (some sigs_46) (cond (Nat.beq n 47) (some sigs_47) (cond (Nat.beq n 48) (some sigs_48) (cond (Nat.beq n 49) (some sigs_49) (cond (Nat.beq n 50) (some sigs_50) (cond (Nat.beq n 51) (some sigs_51) (cond (Nat.beq n 52) (some sigs_52) none))))))))))))))))))))))))))))))))))))))))))))))))))
end Go.Proofs.Ytaghpijciobacaa.Ref
