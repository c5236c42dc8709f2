/- The table of types and the signatures of the functions of this seat.
   Conditions: as each theorem states. -/
import Derived.Test.YthgbcbnmdioknaaK3
import Derived.Test.YthgbcbnmdioknaaProg
import Derived.Test.YthgbcbnmdioknaaK6
set_option linter.unusedVariables false
set_option linter.unusedSimpArgs false
set_option maxRecDepth 100000
namespace Go.Proofs.Ythgbcbnmdioknaa.Ref
open Go.RowKit Go.Proofs.YthgbcbnmdioknaaW.PrintWords Go.Proofs.YthgbcbnmdioknaaW.PrintLast
open Go.Proofs.Ythgbcbnmdioknaa
def tab : Tab := ⟨[(2, (.int .i64)), (3, (.int .i64)), (4, .bool), (5, (.int .u8)), (22, (.slice 5 (.int .u8))), (24, (.slice 3 (.int .i64))), (59, (.slice 64 (.pair (.int .i64) (.int .i64)))), (64, (.pair (.int .i64) (.int .i64))), (87, (.pair (.slice 3 (.int .i64)) (.int .i64))), (94, (.pair (.slice 5 (.int .u8)) (.pair (.int .i64) (.int .i64)))), (109, (.int .u64)), (136, (.slice 24 (.slice 3 (.int .i64))))], [(64, 0, [false]), (64, 1, [true]), (87, 0, [false]), (87, 1, [true]), (94, 0, [false]), (94, 1, [true, false]), (94, 2, [true, true])], [73], [41, 42, 49, 56, 57, 58, 66, 67, 69, 78, 83, 84, 93, 94, 98, 99, 100, 112, 115, 117], [40], [69, 73, 74]⟩
theorem ty2 : TyF Try.prog 2 (.int .i64) := ⟨by kernel_rfl, by kernel_rfl, show Try.prog.underlying 2 = some (.int .i64) from by kernel_rfl⟩
theorem ty3 : TyF Try.prog 3 (.int .i64) := ⟨by kernel_rfl, by kernel_rfl, show Try.prog.underlying 3 = some (.int .i64) from by kernel_rfl⟩
theorem ty4 : TyF Try.prog 4 .bool := ⟨by kernel_rfl, by kernel_rfl, show Try.prog.underlying 4 = some .bool from by kernel_rfl⟩
theorem ty5 : TyF Try.prog 5 (.int .u8) := ⟨by kernel_rfl, by kernel_rfl, show Try.prog.underlying 5 = some (.int .u8) from by kernel_rfl⟩
theorem ty22 : TyF Try.prog 22 (.slice 5 (.int .u8)) := ⟨by kernel_rfl, by kernel_rfl, ⟨by kernel_rfl, 1, by kernel_rfl, by decide, by decide, fun k hk => by cases hk; exact (by kernel_rfl : Try.prog.underlying 5 = some (.int .u8))⟩⟩
theorem ty24 : TyF Try.prog 24 (.slice 3 (.int .i64)) := ⟨by kernel_rfl, by kernel_rfl, ⟨by kernel_rfl, 8, by kernel_rfl, by decide, by decide, fun k hk => by cases hk; exact (by kernel_rfl : Try.prog.underlying 3 = some (.int .i64))⟩⟩
theorem ty59 : TyF Try.prog 59 (.slice 64 (.pair (.int .i64) (.int .i64))) := ⟨by kernel_rfl, by kernel_rfl, ⟨by kernel_rfl, 16, by kernel_rfl, by decide, by decide, fun k hk => by cases hk⟩⟩
theorem ty64 : TyF Try.prog 64 (.pair (.int .i64) (.int .i64)) := ⟨by kernel_rfl, by kernel_rfl, (und_pair (by kernel_rfl))⟩
theorem ty87 : TyF Try.prog 87 (.pair (.slice 3 (.int .i64)) (.int .i64)) := ⟨by kernel_rfl, by kernel_rfl, (und_pair (by kernel_rfl))⟩
theorem ty94 : TyF Try.prog 94 (.pair (.slice 5 (.int .u8)) (.pair (.int .i64) (.int .i64))) := ⟨by kernel_rfl, by kernel_rfl, (und_pair (by kernel_rfl))⟩
theorem ty109 : TyF Try.prog 109 (.int .u64) := ⟨by kernel_rfl, by kernel_rfl, show Try.prog.underlying 109 = some (.int .u64) from by kernel_rfl⟩
theorem ty136 : TyF Try.prog 136 (.slice 24 (.slice 3 (.int .i64))) := ⟨by kernel_rfl, by kernel_rfl, ⟨by kernel_rfl, 24, by kernel_rfl, by decide, by decide, fun k hk => by cases hk⟩⟩
theorem eq2_64 : eq2F Try.prog 64 := by
  intro x y x' y' X Y w
  have hm : Try.prog.eqGuardType Try.prog.depth 64 = false := by kernel_rfl
  obtain ⟨f1, f2, hu, h1, h2, ⟨k1, u1⟩, ⟨k2, u2⟩⟩ : ∃ f1 f2 : Field, Try.prog.underlying 64 = some (.struct #[f1, f2]) ∧ (f1.name == "_") = false ∧ (f2.name == "_") = false ∧ (∃ k, Try.prog.underlying f1.type = some (.int k) ∧ ∀ a b (w : World), (part f1.type #[a, b] f1.offset).run Try.prog w = .ok a w) ∧ (∃ k, Try.prog.underlying f2.type = some (.int k) ∧ ∀ a b (w : World), (part f2.type #[a, b] f2.offset).run Try.prog w = .ok b w) :=
    ⟨((structOf Try.prog 64).getD #[])[0]!, ((structOf Try.prog 64).getD #[])[1]!, by kernel_rfl, by kernel_rfl, by kernel_rfl, ⟨.i64, by kernel_rfl, fun a b w => by kernel_rfl⟩, ⟨.i64, by kernel_rfl, fun a b w => by kernel_rfl⟩⟩
  have he : (Op.equalIn 10000 64 (.agg #[.int .i64 x, .int .i64 y]) (.agg #[.int .i64 x', .int .i64 y'])).run Try.prog w = .ok (x == x' && y == y') w := by
    have hf : Try.prog.fieldsOf 64 = #[f1, f2] := by simp [Program.fieldsOf, hu]
    have n1 : f1.name ≠ "_" := by simpa using h1
    have n2 : f2.name ≠ "_" := by simpa using h2
    rw [run_equalIn_agg w 9999 64 _ _ (by rw [hf]; exact hu) (by kernel_rfl), hf]
    show (Op.eqFields 9999 _ _ [f1, f2]).run Try.prog w = _
    simp only [Op.eqFields, if_pos n1, if_pos n2, Sem.run_bind, u1.2, u2.2, run_equalIn_int w 9998 _ _ _ _ _ u1.1, run_equalIn_int w 9998 _ _ _ _ _ u2.1, Result.andThen_ok]
    have r2 : ∀ w : World, (Op.equalIn 9999 f2.type (.int .i64 y) (.int .i64 y')).run Try.prog w = .ok (y == y') w := fun w => run_equalIn_int w 9998 _ _ _ _ _ u2.1
    cases hx : x == x'
    · simp
    · cases hy : y == y' <;> simp [u2.2, r2, hy]
  constructor
  · simp only [Sem.run_bind, run_eqGuard_agg w .eql 64 X Y _ _ hm, Result.andThen_ok, run_eql_struct, he]
  · simp only [Sem.run_bind, run_eqGuard_agg w .neq 64 X Y _ _ hm, Result.andThen_ok, run_neq_struct, he]
theorem tabOk : TabOk Try.prog tab := tabOk_of ⟨ty2, ⟨ty3, ⟨ty4, ⟨ty5, ⟨ty22, ⟨ty24, ⟨ty59, ⟨ty64, ⟨ty87, ⟨ty94, ⟨ty109, ⟨ty136, trivial⟩⟩⟩⟩⟩⟩⟩⟩⟩⟩⟩⟩ ⟨fp_at (t0 := (.pair (.int .i64) (.int .i64))) rfl (by kernel_rfl), ⟨fp_at (t0 := (.pair (.int .i64) (.int .i64))) rfl (by kernel_rfl), ⟨fp_at (t0 := (.pair (.slice 3 (.int .i64)) (.int .i64))) rfl (by kernel_rfl), ⟨fp_at (t0 := (.pair (.slice 3 (.int .i64)) (.int .i64))) rfl (by kernel_rfl), ⟨fp_at (t0 := (.pair (.slice 5 (.int .u8)) (.pair (.int .i64) (.int .i64)))) rfl (by kernel_rfl), ⟨fp_at (t0 := (.pair (.slice 5 (.int .u8)) (.pair (.int .i64) (.int .i64)))) rfl (by kernel_rfl), ⟨fp_at (t0 := (.pair (.slice 5 (.int .u8)) (.pair (.int .i64) (.int .i64)))) rfl (by kernel_rfl), trivial⟩⟩⟩⟩⟩⟩⟩ (by kernel_rfl) ⟨plB_ok (by kernel_rfl), ⟨plB_ok (by kernel_rfl), ⟨plB_ok (by kernel_rfl), trivial⟩⟩⟩ ⟨eq2_64, trivial⟩
def sigs_5 : Sig := [(.bool, .no)]
def sigs_6 : Sig := [(.bool, .no)]
def sigs_9 : Sig := [(.bool, .no)]
def sigs_35 : Sig := [((.slice 3 (.int .i64)), .no), ((.slice 64 (.pair (.int .i64) (.int .i64))), .no)]
def sigs_36 : Sig := [((.slice 3 (.int .i64)), (.own 0))]
def sigs_37 : Sig := [(.bool, .no)]
def sigs_38 : Sig := [(.bool, .no)]
def sigs_39 : Sig := [((.slice 3 (.int .i64)), (.own 0))]
def sigs_40 : Sig := []
def sigs_42 : Sig := [((.int .i64), .no)]
def sigs_43 : Sig := [(.bool, .no)]
def sigs_45 : Sig := [(.bool, .no)]
def sigs_48 : Sig := [((.int .i64), .no)]
def sigs_49 : Sig := [((.int .i64), .no)]
def sigs_72 : Sig := [((.pair (.slice 3 (.int .i64)) (.int .i64)), .no), ((.slice 3 (.int .i64)), .no), ((.slice 64 (.pair (.int .i64) (.int .i64))), .no)]
def sigs_73 : Sig := [((.slice 3 (.int .i64)), (.own 0))]
def sigs_74 : Sig := [((.slice 3 (.int .i64)), (.own 0))]
def sigs_75 : Sig := [(.bool, .no)]
def sigs_76 : Sig := [((.int .i64), .no)]
def sigs_77 : Sig := [(.bool, .no)]
def sigs_78 : Sig := [((.int .i64), .no)]
def sigs_79 : Sig := [((.int .i64), .no)]
def sigs_80 : Sig := [((.int .i64), .no)]
def sigs_98 : Sig := [((.pair (.slice 3 (.int .i64)) (.int .i64)), .no)]
def sigs_99 : Sig := [((.slice 3 (.int .i64)), .no)]
def sigs_100 : Sig := [((.slice 64 (.pair (.int .i64) (.int .i64))), (.own 0))]
def sigs_103 : Sig := [((.int .i64), .no)]
def sigs_104 : Sig := [((.int .i64), .no)]
def sigs_105 : Sig := [((.int .i64), .no)]
def sigs_115 : Sig := [((.pair (.slice 3 (.int .i64)) (.int .i64)), (.pair (.own 0) .no))]
def sigs_116 : Sig := [((.slice 64 (.pair (.int .i64) (.int .i64))), (.own 0))]
def sigs_117 : Sig := [((.slice 3 (.int .i64)), (.own 0))]
def sigs_129 : Sig := [((.slice 3 (.int .i64)), (.own 0))]
def sigs_130 : Sig := [((.int .i64), .no)]
def sigs_135 : Sig := [(.bool, .no)]
def sigs_142 : Sig := [((.slice 3 (.int .i64)), (.own 0))]
def sigs : Sigs := fun n => (cond (Nat.beq n 5) (some sigs_5) (cond (Nat.beq n 6) (some sigs_6) (cond (Nat.beq n 9) (some sigs_9) (cond (Nat.beq n 35) (some sigs_35) (cond (Nat.beq n 36) (some sigs_36) (cond (Nat.beq n 37) (some sigs_37) (cond (Nat.beq n 38) (some sigs_38) (cond (Nat.beq n 39) (some sigs_39) (cond (Nat.beq n 40) (some sigs_40) (cond (Nat.beq n 42) (some sigs_42) (cond (Nat.beq n 43) (some sigs_43) (cond (Nat.beq n 45) (some sigs_45) (cond (Nat.beq n 48) (some sigs_48) (cond (Nat.beq n 49) (some sigs_49) (cond (Nat.beq n 72) (some sigs_72) (cond (Nat.beq n 73) (some sigs_73) (cond (Nat.beq n 74) (some sigs_74) (cond (Nat.beq n 75) (some sigs_75) (cond (Nat.beq n 76) (some sigs_76) (cond (Nat.beq n 77) (some sigs_77) (cond (Nat.beq n 78) (some sigs_78) (cond (Nat.beq n 79) (some sigs_79) (cond (Nat.beq n 80) (some sigs_80) (cond (Nat.beq n 98) (some sigs_98) (cond (Nat.beq n 99) (some sigs_99) (cond (Nat.beq n 100) (some sigs_100) (cond (Nat.beq n 103) (some sigs_103) (cond (Nat.beq n 104) (some sigs_104) (cond (Nat.beq n 105) (some sigs_105) (cond (Nat.beq n 115) (some sigs_115) (cond (Nat.beq n 116) (some sigs_116) (cond (Nat.beq n 117) (some sigs_117) (cond (Nat.beq n 129) (some sigs_129) (cond (Nat.beq n 130) (some sigs_130) (cond (Nat.beq n 135) (some sigs_135) (cond (Nat.beq n 142) (some sigs_142) none))))))))))))))))))))))))))))))))))))
end Go.Proofs.Ythgbcbnmdioknaa.Ref
