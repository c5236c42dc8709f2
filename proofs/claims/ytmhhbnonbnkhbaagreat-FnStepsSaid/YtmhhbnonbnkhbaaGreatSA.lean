/- The table of types and the signatures of the functions of this seat.
   Conditions: as each theorem states. -/
import Derived.Test.YtmhhbnonbnkhbaaGreatK3
import Derived.Test.YtmhhbnonbnkhbaaGreatProg
set_option linter.unusedVariables false
set_option linter.unusedSimpArgs false
set_option maxRecDepth 100000
namespace Go.Proofs.YtmhhbnonbnkhbaaGreat.Ref
open Go.RowKit Go.Proofs.YtmhhbnonbnkhbaaGreatW.PrintWords Go.Proofs.YtmhhbnonbnkhbaaGreatW.PrintLast
open Go.Proofs.YtmhhbnonbnkhbaaGreat
abbrev TyEntry : Ty := (.pair .str (.pair (.int .i64) (.pair (.int .i64) (.slice 9 .str))))
abbrev TyHead : Ty := (.pair (.int .i64) (.pair (.int .i64) (.pair (.int .i64) (.pair (.int .i64) (.pair (.int .i64) (.pair (.int .i64) (.pair (.int .i64) (.pair (.int .i64) (.pair (.pair (.slice 3 (.int .i64)) (.int .i64)) (.pair (.pair (.slice 3 (.int .i64)) (.int .i64)) (.pair (.int .i64) (.pair (.pair (.slice 3 (.int .i64)) (.int .i64)) .bool))))))))))))
abbrev TySigned : Ty := (.pair TyHead (.slice 77 (.pair (.int .i64) (.int .i64))))
def tab : Tab := ⟨[(2, (.int .i64)), (3, (.int .i64)), (4, .bool), (5, (.int .u8)), (9, .str), (22, (.slice 5 (.int .u8))), (24, (.slice 3 (.int .i64))), (26, (.pair (.slice 3 (.int .i64)) (.int .i64))), (28, TyHead), (29, (.slice 77 (.pair (.int .i64) (.int .i64)))), (31, TySigned), (62, (.pair (.slice 5 (.int .u8)) (.pair (.int .i64) (.int .i64)))), (72, (.slice 9 .str)), (77, (.pair (.int .i64) (.int .i64))), (84, (.slice 100 TyEntry)), (94, (.int .u64)), (95, (.slice 24 (.slice 3 (.int .i64)))), (100, TyEntry)], [(26, 0, [false]), (26, 1, [true]), (28, 0, [false]), (28, 1, [true, false]), (28, 2, [true, true, false]), (28, 3, [true, true, true, false]), (28, 4, [true, true, true, true, false]), (28, 5, [true, true, true, true, true, false]), (28, 6, [true, true, true, true, true, true, false]), (28, 7, [true, true, true, true, true, true, true, false]), (28, 8, [true, true, true, true, true, true, true, true, false]), (28, 9, [true, true, true, true, true, true, true, true, true, false]), (28, 10, [true, true, true, true, true, true, true, true, true, true, false]), (28, 11, [true, true, true, true, true, true, true, true, true, true, true, false]), (28, 12, [true, true, true, true, true, true, true, true, true, true, true, true]), (31, 0, [false]), (31, 1, [true]), (62, 0, [false]), (62, 1, [true, false]), (62, 2, [true, true]), (77, 0, [false]), (77, 1, [true]), (100, 0, [false]), (100, 1, [true, false]), (100, 2, [true, true, false]), (100, 3, [true, true, true])], [], [20, 21, 22, 41, 45, 46, 48, 50, 51, 52, 71, 76, 77, 83, 91, 103, 106, 113], [19]⟩
theorem ty2 : TyF Tryz.prog 2 (.int .i64) := ⟨by kernel_rfl, by kernel_rfl, show Tryz.prog.underlying 2 = some (.int .i64) from by kernel_rfl⟩
theorem ty3 : TyF Tryz.prog 3 (.int .i64) := ⟨by kernel_rfl, by kernel_rfl, show Tryz.prog.underlying 3 = some (.int .i64) from by kernel_rfl⟩
theorem ty4 : TyF Tryz.prog 4 .bool := ⟨by kernel_rfl, by kernel_rfl, show Tryz.prog.underlying 4 = some .bool from by kernel_rfl⟩
theorem ty5 : TyF Tryz.prog 5 (.int .u8) := ⟨by kernel_rfl, by kernel_rfl, show Tryz.prog.underlying 5 = some (.int .u8) from by kernel_rfl⟩
theorem ty9 : TyF Tryz.prog 9 .str := ⟨by kernel_rfl, by kernel_rfl, show Tryz.prog.underlying 9 = some .string from by kernel_rfl⟩
theorem ty22 : TyF Tryz.prog 22 (.slice 5 (.int .u8)) := ⟨by kernel_rfl, by kernel_rfl, ⟨by kernel_rfl, 1, by kernel_rfl, by decide, by decide, fun k hk => by cases hk; exact (by kernel_rfl : Tryz.prog.underlying 5 = some (.int .u8))⟩⟩
theorem ty24 : TyF Tryz.prog 24 (.slice 3 (.int .i64)) := ⟨by kernel_rfl, by kernel_rfl, ⟨by kernel_rfl, 8, by kernel_rfl, by decide, by decide, fun k hk => by cases hk; exact (by kernel_rfl : Tryz.prog.underlying 3 = some (.int .i64))⟩⟩
theorem ty26 : TyF Tryz.prog 26 (.pair (.slice 3 (.int .i64)) (.int .i64)) := ⟨by kernel_rfl, by kernel_rfl, (und_pair (by kernel_rfl))⟩
theorem ty28 : TyF Tryz.prog 28 TyHead := ⟨by kernel_rfl, by kernel_rfl, (und_pair (by kernel_rfl))⟩
theorem ty29 : TyF Tryz.prog 29 (.slice 77 (.pair (.int .i64) (.int .i64))) := ⟨by kernel_rfl, by kernel_rfl, ⟨by kernel_rfl, 16, by kernel_rfl, by decide, by decide, fun k hk => by cases hk⟩⟩
theorem ty31 : TyF Tryz.prog 31 TySigned := ⟨by kernel_rfl, by kernel_rfl, (und_pair (by kernel_rfl))⟩
theorem ty62 : TyF Tryz.prog 62 (.pair (.slice 5 (.int .u8)) (.pair (.int .i64) (.int .i64))) := ⟨by kernel_rfl, by kernel_rfl, (und_pair (by kernel_rfl))⟩
theorem ty72 : TyF Tryz.prog 72 (.slice 9 .str) := ⟨by kernel_rfl, by kernel_rfl, ⟨by kernel_rfl, 16, by kernel_rfl, by decide, by decide, fun k hk => by cases hk⟩⟩
theorem ty77 : TyF Tryz.prog 77 (.pair (.int .i64) (.int .i64)) := ⟨by kernel_rfl, by kernel_rfl, (und_pair (by kernel_rfl))⟩
theorem ty84 : TyF Tryz.prog 84 (.slice 100 TyEntry) := ⟨by kernel_rfl, by kernel_rfl, ⟨by kernel_rfl, 56, by kernel_rfl, by decide, by decide, fun k hk => by cases hk⟩⟩
theorem ty94 : TyF Tryz.prog 94 (.int .u64) := ⟨by kernel_rfl, by kernel_rfl, show Tryz.prog.underlying 94 = some (.int .u64) from by kernel_rfl⟩
theorem ty95 : TyF Tryz.prog 95 (.slice 24 (.slice 3 (.int .i64))) := ⟨by kernel_rfl, by kernel_rfl, ⟨by kernel_rfl, 24, by kernel_rfl, by decide, by decide, fun k hk => by cases hk⟩⟩
theorem ty100 : TyF Tryz.prog 100 TyEntry := ⟨by kernel_rfl, by kernel_rfl, (und_pair (by kernel_rfl))⟩
theorem eq2_77 : eq2F Tryz.prog 77 := by
  intro x y x' y' X Y w
  have hm : Tryz.prog.eqGuardType Tryz.prog.depth 77 = false := by kernel_rfl
  obtain ⟨f1, f2, hu, h1, h2, ⟨k1, u1⟩, ⟨k2, u2⟩⟩ : ∃ f1 f2 : Field, Tryz.prog.underlying 77 = some (.struct #[f1, f2]) ∧ (f1.name == "_") = false ∧ (f2.name == "_") = false ∧ (∃ k, Tryz.prog.underlying f1.type = some (.int k) ∧ ∀ a b (w : World), (part f1.type #[a, b] f1.offset).run Tryz.prog w = .ok a w) ∧ (∃ k, Tryz.prog.underlying f2.type = some (.int k) ∧ ∀ a b (w : World), (part f2.type #[a, b] f2.offset).run Tryz.prog w = .ok b w) :=
    ⟨((structOf Tryz.prog 77).getD #[])[0]!, ((structOf Tryz.prog 77).getD #[])[1]!, by kernel_rfl, by kernel_rfl, by kernel_rfl, ⟨.i64, by kernel_rfl, fun a b w => by kernel_rfl⟩, ⟨.i64, by kernel_rfl, fun a b w => by kernel_rfl⟩⟩
  have he : (Op.equalIn 10000 77 (.agg #[.int .i64 x, .int .i64 y]) (.agg #[.int .i64 x', .int .i64 y'])).run Tryz.prog w = .ok (x == x' && y == y') w := by
    have hf : Tryz.prog.fieldsOf 77 = #[f1, f2] := by simp [Program.fieldsOf, hu]
    have n1 : f1.name ≠ "_" := by simpa using h1
    have n2 : f2.name ≠ "_" := by simpa using h2
    rw [run_equalIn_agg w 9999 77 _ _ (by rw [hf]; exact hu) (by kernel_rfl), hf]
    show (Op.eqFields 9999 _ _ [f1, f2]).run Tryz.prog w = _
    simp only [Op.eqFields, if_pos n1, if_pos n2, Sem.run_bind, u1.2, u2.2, run_equalIn_int w 9998 _ _ _ _ _ u1.1, run_equalIn_int w 9998 _ _ _ _ _ u2.1, Result.andThen_ok]
    have r2 : ∀ w : World, (Op.equalIn 9999 f2.type (.int .i64 y) (.int .i64 y')).run Tryz.prog w = .ok (y == y') w := fun w => run_equalIn_int w 9998 _ _ _ _ _ u2.1
    cases hx : x == x'
    · simp
    · cases hy : y == y' <;> simp [u2.2, r2, hy]
  constructor
  · simp only [Sem.run_bind, run_eqGuard_agg w .eql 77 X Y _ _ hm, Result.andThen_ok, run_eql_struct, he]
  · simp only [Sem.run_bind, run_eqGuard_agg w .neq 77 X Y _ _ hm, Result.andThen_ok, run_neq_struct, he]
theorem tabOk : TabOk Tryz.prog tab := tabOk_of ⟨ty2, ⟨ty3, ⟨ty4, ⟨ty5, ⟨ty9, ⟨ty22, ⟨ty24, ⟨ty26, ⟨ty28, ⟨ty29, ⟨ty31, ⟨ty62, ⟨ty72, ⟨ty77, ⟨ty84, ⟨ty94, ⟨ty95, ⟨ty100, trivial⟩⟩⟩⟩⟩⟩⟩⟩⟩⟩⟩⟩⟩⟩⟩⟩⟩⟩ ⟨fp_at (t0 := (.pair (.slice 3 (.int .i64)) (.int .i64))) rfl (by kernel_rfl), ⟨fp_at (t0 := (.pair (.slice 3 (.int .i64)) (.int .i64))) rfl (by kernel_rfl), ⟨fp_at (t0 := TyHead) rfl (by kernel_rfl), ⟨fp_at (t0 := TyHead) rfl (by kernel_rfl), ⟨fp_at (t0 := TyHead) rfl (by kernel_rfl), ⟨fp_at (t0 := TyHead) rfl (by kernel_rfl), ⟨fp_at (t0 := TyHead) rfl (by kernel_rfl), ⟨fp_at (t0 := TyHead) rfl (by kernel_rfl), ⟨fp_at (t0 := TyHead) rfl (by kernel_rfl), ⟨fp_at (t0 := TyHead) rfl (by kernel_rfl), ⟨fp_at (t0 := TyHead) rfl (by kernel_rfl), ⟨fp_at (t0 := TyHead) rfl (by kernel_rfl), ⟨fp_at (t0 := TyHead) rfl (by kernel_rfl), ⟨fp_at (t0 := TyHead) rfl (by kernel_rfl), ⟨fp_at (t0 := TyHead) rfl (by kernel_rfl), ⟨fp_at (t0 := TySigned) rfl (by kernel_rfl), ⟨fp_at (t0 := TySigned) rfl (by kernel_rfl), ⟨fp_at (t0 := (.pair (.slice 5 (.int .u8)) (.pair (.int .i64) (.int .i64)))) rfl (by kernel_rfl), ⟨fp_at (t0 := (.pair (.slice 5 (.int .u8)) (.pair (.int .i64) (.int .i64)))) rfl (by kernel_rfl), ⟨fp_at (t0 := (.pair (.slice 5 (.int .u8)) (.pair (.int .i64) (.int .i64)))) rfl (by kernel_rfl), ⟨fp_at (t0 := (.pair (.int .i64) (.int .i64))) rfl (by kernel_rfl), ⟨fp_at (t0 := (.pair (.int .i64) (.int .i64))) rfl (by kernel_rfl), ⟨fp_at (t0 := TyEntry) rfl (by kernel_rfl), ⟨fp_at (t0 := TyEntry) rfl (by kernel_rfl), ⟨fp_at (t0 := TyEntry) rfl (by kernel_rfl), ⟨fp_at (t0 := TyEntry) rfl (by kernel_rfl), trivial⟩⟩⟩⟩⟩⟩⟩⟩⟩⟩⟩⟩⟩⟩⟩⟩⟩⟩⟩⟩⟩⟩⟩⟩⟩⟩ (by kernel_rfl) ⟨plB_ok (by kernel_rfl), ⟨plB_ok (by kernel_rfl), ⟨plB_ok (by kernel_rfl), ⟨plB_ok (by kernel_rfl), ⟨plB_ok (by kernel_rfl), ⟨plB_ok (by kernel_rfl), trivial⟩⟩⟩⟩⟩⟩ ⟨eq2_77, trivial⟩
def sigs_3 : Sig := [(.bool, .no)]
def sigs_4 : Sig := [(.bool, .no)]
def sigs_5 : Sig := [(TyHead, .no), (TySigned, .no)]
def sigs_6 : Sig := [((.int .i64), .no)]
def sigs_7 : Sig := [((.int .i64), .no)]
def sigs_8 : Sig := [(.bool, .no)]
def sigs_9 : Sig := [(.str, .no)]
def sigs_10 : Sig := [(.bool, .no)]
def sigs_11 : Sig := [((.pair (.slice 3 (.int .i64)) (.int .i64)), (.pair (.own 0) .no))]
def sigs_12 : Sig := [((.slice 3 (.int .i64)), (.own 0))]
def sigs_13 : Sig := [(.bool, .no)]
def sigs_14 : Sig := [(.bool, .no)]
def sigs_15 : Sig := [(.bool, .no)]
def sigs_16 : Sig := [(TyHead, (.pair .no (.pair .no (.pair .no (.pair .no (.pair .no (.pair .no (.pair .no (.pair .no (.pair (.pair (.own 0) .no) (.pair (.pair (.own 1) .no) (.pair .no (.pair (.pair (.own 2) .no) .no))))))))))))), ((.int .i64), .no)]
def sigs_17 : Sig := [((.int .i64), .no)]
def sigs_18 : Sig := [(.bool, .no)]
def sigs_19 : Sig := []
def sigs_20 : Sig := [(TyHead, .no), (TySigned, .no)]
def sigs_21 : Sig := [(.bool, .no)]
def sigs_22 : Sig := [(TyHead, (.pair .no (.pair .no (.pair .no (.pair .no (.pair .no (.pair .no (.pair .no (.pair .no (.pair (.pair (.own 0) .no) (.pair (.pair (.own 1) .no) (.pair .no (.pair (.pair (.own 2) .no) .no)))))))))))))]
def sigs_23 : Sig := [(.bool, .no)]
def sigs_24 : Sig := [(.bool, .no)]
def sigs_25 : Sig := [((.int .i64), .no)]
def sigs_26 : Sig := [((.int .i64), .no)]
def sigs_27 : Sig := [((.int .i64), .no)]
def sigs_28 : Sig := [(.bool, .no)]
def sigs_29 : Sig := [((.int .i64), .no)]
def sigs_30 : Sig := [((.int .i64), .no)]
def sigs_31 : Sig := [((.int .i64), .no)]
def sigs_32 : Sig := [((.int .i64), .no)]
def sigs_33 : Sig := [(.bool, .no)]
def sigs_34 : Sig := [(.str, .no)]
def sigs_35 : Sig := [(.bool, .no)]
def sigs_36 : Sig := [((.pair (.slice 3 (.int .i64)) (.int .i64)), (.pair (.own 0) .no))]
def sigs_37 : Sig := [((.slice 3 (.int .i64)), (.own 0))]
def sigs_38 : Sig := [(.bool, .no)]
def sigs_39 : Sig := [((.int .i64), .no)]
def sigs_40 : Sig := [(.bool, .no)]
def sigs_41 : Sig := [((.int .i64), .no)]
def sigs_42 : Sig := [((.int .i64), .no)]
def sigs_43 : Sig := [((.slice 3 (.int .i64)), (.own 0))]
def sigs_44 : Sig := [(.bool, .no)]
def sigs_45 : Sig := [(TySigned, .no)]
def sigs_46 : Sig := [(TySigned, .no)]
def sigs_47 : Sig := [(.bool, .no)]
def sigs_48 : Sig := [((.slice 77 (.pair (.int .i64) (.int .i64))), (.own 0))]
def sigs_49 : Sig := [(TySigned, (.pair (.pair .no (.pair .no (.pair .no (.pair .no (.pair .no (.pair .no (.pair .no (.pair .no (.pair (.pair (.own 0) .no) (.pair (.pair (.own 1) .no) (.pair .no (.pair (.pair (.own 2) .no) .no)))))))))))) (.own 3)))]
def sigs_50 : Sig := [(TyHead, (.pair .no (.pair .no (.pair .no (.pair .no (.pair .no (.pair .no (.pair .no (.pair .no (.pair (.pair (.own 0) .no) (.pair (.pair (.own 1) .no) (.pair .no (.pair (.pair (.own 2) .no) .no)))))))))))))]
def sigs_51 : Sig := [((.int .i64), .no)]
def sigs_52 : Sig := [((.pair (.slice 3 (.int .i64)) (.int .i64)), (.pair (.own 0) .no))]
def sigs_53 : Sig := [(.bool, .no)]
def sigs_54 : Sig := [(.bool, .no)]
def sigs_55 : Sig := [(.bool, .no)]
def sigs_56 : Sig := [(.bool, .no)]
def sigs_57 : Sig := [(.bool, .no)]
def sigs_58 : Sig := [(.bool, .no)]
def sigs_59 : Sig := [(.bool, .no)]
def sigs_60 : Sig := [(.bool, .no)]
def sigs_61 : Sig := [((.int .i64), .no)]
def sigs_62 : Sig := [(.bool, .no)]
def sigs_63 : Sig := [(.bool, .no)]
def sigs_64 : Sig := [((.int .i64), .no)]
def sigs_65 : Sig := [((.slice 3 (.int .i64)), (.own 0))]
def sigs_66 : Sig := [(.bool, .no)]
def sigs_67 : Sig := [(.bool, .no)]
def sigs_68 : Sig := [(.bool, .no)]
def sigs_69 : Sig := [(.bool, .no)]
def sigs_70 : Sig := [(.bool, .no)]
def sigs_71 : Sig := [((.int .i64), .no)]
def sigs_72 : Sig := [((.int .i64), .no)]
def sigs_73 : Sig := [((.slice 3 (.int .i64)), (.own 0))]
def sigs_74 : Sig := [((.slice 3 (.int .i64)), (.own 0))]
def sigs_75 : Sig := [((.int .i64), .no)]
def sigs_76 : Sig := [((.pair (.slice 3 (.int .i64)) (.int .i64)), (.pair (.own 0) .no))]
def sigs_77 : Sig := [((.slice 100 TyEntry), (.own 0))]
def sigs_78 : Sig := [(TyHead, (.pair .no (.pair .no (.pair .no (.pair .no (.pair .no (.pair .no (.pair .no (.pair .no (.pair (.pair (.own 0) .no) (.pair (.pair (.own 1) .no) (.pair .no (.pair (.pair (.own 2) .no) .no))))))))))))), (.bool, .no)]
def sigs_79 : Sig := [(TyHead, (.pair .no (.pair .no (.pair .no (.pair .no (.pair .no (.pair .no (.pair .no (.pair .no (.pair (.pair (.own 0) .no) (.pair (.pair (.own 1) .no) (.pair .no (.pair (.pair (.own 2) .no) .no)))))))))))))]
def sigs_80 : Sig := [((.pair (.slice 3 (.int .i64)) (.int .i64)), (.pair (.own 0) .no))]
def sigs_81 : Sig := [((.int .i64), .no)]
def sigs_82 : Sig := [((.slice 77 (.pair (.int .i64) (.int .i64))), (.own 0))]
def sigs_83 : Sig := [((.slice 3 (.int .i64)), (.own 0))]
def sigs_84 : Sig := [((.int .i64), .no)]
def sigs_85 : Sig := [(.bool, .no)]
def sigs_86 : Sig := [(.bool, .no)]
def sigs_87 : Sig := [((.int .i64), .no)]
def sigs_88 : Sig := [((.int .i64), .no)]
def sigs_89 : Sig := [((.slice 3 (.int .i64)), (.own 0))]
def sigs_90 : Sig := [((.slice 100 TyEntry), (.own 0)), (.bool, .no)]
def sigs_91 : Sig := [(TyEntry, (.pair .no (.pair .no (.pair .no (.own 0)))))]
def sigs_92 : Sig := [(.bool, .no)]
def sigs_93 : Sig := [((.int .i64), .no)]
def sigs_94 : Sig := [((.int .i64), .no)]
def sigs_95 : Sig := [((.int .i64), .no)]
def sigs_96 : Sig := [((.slice 3 (.int .i64)), (.own 0))]
def sigs_97 : Sig := [(.bool, .no)]
def sigs_98 : Sig := [((.int .i64), .no)]
def sigs_99 : Sig := [((.int .i64), .no)]
def sigs_100 : Sig := [((.int .i64), .no)]
def sigs_101 : Sig := [(TyEntry, (.pair .no (.pair .no (.pair .no (.own 0)))))]
def sigs_102 : Sig := [((.slice 100 TyEntry), (.own 0))]
def sigs_103 : Sig := [(.str, .no)]
def sigs_104 : Sig := [(TyEntry, (.pair .no (.pair .no (.pair .no (.own 0)))))]
def sigs_105 : Sig := [(TyEntry, (.pair .no (.pair .no (.pair .no (.own 0)))))]
def sigs_106 : Sig := [((.slice 9 .str), (.own 0))]
def sigs_107 : Sig := [(TyEntry, (.pair .no (.pair .no (.pair .no (.own 0)))))]
def sigs_108 : Sig := [(.bool, .no)]
def sigs_109 : Sig := [((.slice 3 (.int .i64)), (.own 0))]
def sigs_110 : Sig := [((.int .i64), .no)]
def sigs_111 : Sig := [((.int .i64), .no)]
def sigs_112 : Sig := [((.slice 9 .str), (.own 0))]
def sigs_113 : Sig := [(.str, .no)]
def sigs_114 : Sig := [(.bool, .no)]
def sigs_115 : Sig := [(.bool, .no)]
def sigs_116 : Sig := [((.int .i64), .no)]
def sigs_117 : Sig := [((.slice 3 (.int .i64)), (.own 0))]
def sigs_118 : Sig := [((.slice 3 (.int .i64)), (.own 0))]
def sigs_119 : Sig := [((.slice 3 (.int .i64)), (.own 0))]
def sigs : Sigs := fun n => (cond (Nat.beq n 3) (some sigs_3) (cond (Nat.beq n 4) (some sigs_4) (cond (Nat.beq n 5) (some sigs_5) (cond (Nat.beq n 6) (some sigs_6) (cond (Nat.beq n 7) (some sigs_7) (cond (Nat.beq n 8) (some sigs_8) (cond (Nat.beq n 9) (some sigs_9) (cond (Nat.beq n 10) (some sigs_10) (cond (Nat.beq n 11) (some sigs_11) (cond (Nat.beq n 12) (some sigs_12) (cond (Nat.beq n 13) (some sigs_13) (cond (Nat.beq n 14) (some sigs_14) (cond (Nat.beq n 15) (some sigs_15) (cond (Nat.beq n 16) (some sigs_16) (cond (Nat.beq n 17) (some sigs_17) (cond (Nat.beq n 18) (some sigs_18) (cond (Nat.beq n 19) (some sigs_19) (cond (Nat.beq n 20) (some sigs_20) (cond (Nat.beq n 21) (some sigs_21) (cond (Nat.beq n 22) (some sigs_22) (cond (Nat.beq n 23) (some sigs_23) (cond (Nat.beq n 24) (some sigs_24) (cond (Nat.beq n 25) (some sigs_25) (cond (Nat.beq n 26) (some sigs_26) (cond (Nat.beq n 27) (some sigs_27) (cond (Nat.beq n 28) (some sigs_28) (cond (Nat.beq n 29) (some sigs_29) (cond (Nat.beq n 30) (some sigs_30) (cond (Nat.beq n 31) (some sigs_31) (cond (Nat.beq n 32) (some sigs_32) (cond (Nat.beq n 33) (some sigs_33) (cond (Nat.beq n 34) (some sigs_34) (cond (Nat.beq n 35) (some sigs_35) (cond (Nat.beq n 36) (some sigs_36) (cond (Nat.beq n 37) (some sigs_37) (cond (Nat.beq n 38) (some sigs_38) (cond (Nat.beq n 39) (some sigs_39) (cond (Nat.beq n 40) (some sigs_40) (cond (Nat.beq n 41) (some sigs_41) (cond (Nat.beq n 42) (some sigs_42) (cond (Nat.beq n 43) (some sigs_43) (cond (Nat.beq n 44) (some sigs_44) (cond (Nat.beq n 45) (some sigs_45) (cond (Nat.beq n 46) (some sigs_46) (cond (Nat.beq n 47) (some sigs_47) (cond (Nat.beq n 48) (some sigs_48) (cond (Nat.beq n 49) (some sigs_49) (cond (Nat.beq n 50) (some sigs_50) (cond (Nat.beq n 51) (some sigs_51) (cond (Nat.beq n 52) (some sigs_52) (cond (Nat.beq n 53) (some sigs_53) (cond (Nat.beq n 54) (some sigs_54) (cond (Nat.beq n 55) (some sigs_55) (cond (Nat.beq n 56) (some sigs_56) (cond (Nat.beq n 57) (some sigs_57) (cond (Nat.beq n 58) (some sigs_58) (cond (Nat.beq n 59) (some sigs_59) (cond (Nat.beq n 60) (some sigs_60) (cond (Nat.beq n 61) (some sigs_61) (cond (Nat.beq n 62) (some sigs_62) (cond (Nat.beq n 63) (some sigs_63) (cond (Nat.beq n 64) (some sigs_64) (cond (Nat.beq n 65) (some sigs_65) (cond (Nat.beq n 66) (some sigs_66) (cond (Nat.beq n 67) (some sigs_67) (cond (Nat.beq n 68) (some sigs_68) (cond (Nat.beq n 69) (some sigs_69) (cond (Nat.beq n 70) (some sigs_70) (cond (Nat.beq n 71) (some sigs_71) (cond (Nat.beq n 72) (some sigs_72) (cond (Nat.beq n 73) (some sigs_73) (cond (Nat.beq n 74) (some sigs_74) (cond (Nat.beq n 75) (some sigs_75) (cond (Nat.beq n 76) (some sigs_76) (cond (Nat.beq n 77) (some sigs_77) (cond (Nat.beq n 78) (some sigs_78) (cond (Nat.beq n 79) (some sigs_79) (cond (Nat.beq n 80) (some sigs_80) (cond (Nat.beq n 81) (some sigs_81) (cond (Nat.beq n 82) (some sigs_82) (cond (Nat.beq n 83) (some sigs_83) (cond (Nat.beq n 84) (some sigs_84) (cond (Nat.beq n 85) (some sigs_85) (cond (Nat.beq n 86) (some sigs_86) (cond (Nat.beq n 87) (some sigs_87) (cond (Nat.beq n 88) (some sigs_88) (cond (Nat.beq n 89) (some sigs_89) (cond (Nat.beq n 90) (some sigs_90) (cond (Nat.beq n 91) (some sigs_91) (cond (Nat.beq n 92) (some sigs_92) (cond (Nat.beq n 93) (some sigs_93) (cond (Nat.beq n 94) (some sigs_94) (cond (Nat.beq n 95) (some sigs_95) (cond (Nat.beq n 96) (some sigs_96) (cond (Nat.beq n 97) (some sigs_97) (cond (Nat.beq n 98) (some sigs_98) (cond (Nat.beq n 99) (some sigs_99) (cond (Nat.beq n 100) (some sigs_100) (cond (Nat.beq n 101) (some sigs_101) (cond (Nat.beq n 102) (some sigs_102) (cond (Nat.beq n 103) (some sigs_103) (cond (Nat.beq n 104) (some sigs_104) (cond (Nat.beq n 105) (some sigs_105) (cond (Nat.beq n 106) (some sigs_106) (cond (Nat.beq n 107) (some sigs_107) (cond (Nat.beq n 108) (some sigs_108) (cond (Nat.beq n 109) (some sigs_109) (cond (Nat.beq n 110) (some sigs_110) (cond (Nat.beq n 111) (some sigs_111) (cond (Nat.beq n 112) (some sigs_112) (cond (Nat.beq n 113) (some sigs_113) (cond (Nat.beq n 114) (some sigs_114) (cond (Nat.beq n 115) (some sigs_115) (cond (Nat.beq n 116) (some sigs_116) (cond (Nat.beq n 117) (some sigs_117) (cond (Nat.beq n 118) (some sigs_118) (cond (Nat.beq n 119) (some sigs_119) none)))))))))))))))))))))))))))))))))))))))))))))))))))))))))))))))))))))))))))))))))))))))))))))))))))))))))))))))))))))
end Go.Proofs.YtmhhbnonbnkhbaaGreat.Ref
