/- The table of types and the signatures of the functions of this seat.
   Conditions: as each theorem states. -/
import Derived.Test.YthgbcbnmdioknaaGreatK3
import Derived.Test.YthgbcbnmdioknaaGreatProg
set_option linter.unusedVariables false
set_option linter.unusedSimpArgs false
set_option maxRecDepth 100000
namespace Go.Proofs.YthgbcbnmdioknaaGreat.Ref
open Go.RowKit Go.Proofs.YthgbcbnmdioknaaGreatW.PrintWords Go.Proofs.YthgbcbnmdioknaaGreatW.PrintLast
open Go.Proofs.YthgbcbnmdioknaaGreat
abbrev TyEntry : Ty := (.pair .str (.pair (.int .i64) (.pair (.int .i64) (.slice 9 .str))))
abbrev TyHead : Ty := (.pair (.int .i64) (.pair (.int .i64) (.pair (.int .i64) (.pair (.int .i64) (.pair (.int .i64) (.pair (.int .i64) (.pair (.int .i64) (.pair (.int .i64) (.pair (.pair (.slice 3 (.int .i64)) (.int .i64)) (.pair (.pair (.slice 3 (.int .i64)) (.int .i64)) (.pair (.int .i64) (.pair (.pair (.slice 3 (.int .i64)) (.int .i64)) .bool))))))))))))
abbrev TySigned : Ty := (.pair TyHead (.slice 123 (.pair (.int .i64) (.int .i64))))
def tab : Tab := ⟨[(2, (.int .i64)), (3, (.int .i64)), (4, .bool), (5, (.int .u8)), (9, .str), (22, (.slice 5 (.int .u8))), (24, (.slice 29 TyEntry)), (27, (.slice 9 .str)), (29, TyEntry), (30, (.slice 3 (.int .i64))), (44, (.pair (.slice 3 (.int .i64)) (.int .i64))), (48, TyHead), (51, (.slice 123 (.pair (.int .i64) (.int .i64)))), (53, TySigned), (108, (.pair (.slice 5 (.int .u8)) (.pair (.int .i64) (.int .i64)))), (123, (.pair (.int .i64) (.int .i64))), (136, (.int .u64)), (139, (.slice 30 (.slice 3 (.int .i64))))], [(29, 0, [false]), (29, 1, [true, false]), (29, 2, [true, true, false]), (29, 3, [true, true, true]), (44, 0, [false]), (44, 1, [true]), (48, 0, [false]), (48, 1, [true, false]), (48, 2, [true, true, false]), (48, 3, [true, true, true, false]), (48, 4, [true, true, true, true, false]), (48, 5, [true, true, true, true, true, false]), (48, 6, [true, true, true, true, true, true, false]), (48, 7, [true, true, true, true, true, true, true, false]), (48, 8, [true, true, true, true, true, true, true, true, false]), (48, 9, [true, true, true, true, true, true, true, true, true, false]), (48, 10, [true, true, true, true, true, true, true, true, true, true, false]), (48, 11, [true, true, true, true, true, true, true, true, true, true, true, false]), (48, 12, [true, true, true, true, true, true, true, true, true, true, true, true]), (53, 0, [false]), (53, 1, [true]), (108, 0, [false]), (108, 1, [true, false]), (108, 2, [true, true]), (123, 0, [false]), (123, 1, [true])], [], [49, 50, 51, 53, 58, 59, 60, 74, 79, 99, 100, 101, 102, 105, 110, 111, 131, 132, 133, 147, 151, 158, 160], [48], [53, 105]⟩
theorem ty2 : TyF Tryz.prog 2 (.int .i64) := ⟨by kernel_rfl, by kernel_rfl, show Tryz.prog.underlying 2 = some (.int .i64) from by kernel_rfl⟩
theorem ty3 : TyF Tryz.prog 3 (.int .i64) := ⟨by kernel_rfl, by kernel_rfl, show Tryz.prog.underlying 3 = some (.int .i64) from by kernel_rfl⟩
theorem ty4 : TyF Tryz.prog 4 .bool := ⟨by kernel_rfl, by kernel_rfl, show Tryz.prog.underlying 4 = some .bool from by kernel_rfl⟩
theorem ty5 : TyF Tryz.prog 5 (.int .u8) := ⟨by kernel_rfl, by kernel_rfl, show Tryz.prog.underlying 5 = some (.int .u8) from by kernel_rfl⟩
theorem ty9 : TyF Tryz.prog 9 .str := ⟨by kernel_rfl, by kernel_rfl, show Tryz.prog.underlying 9 = some .string from by kernel_rfl⟩
theorem ty22 : TyF Tryz.prog 22 (.slice 5 (.int .u8)) := ⟨by kernel_rfl, by kernel_rfl, ⟨by kernel_rfl, 1, by kernel_rfl, by decide, by decide, fun k hk => by cases hk; exact (by kernel_rfl : Tryz.prog.underlying 5 = some (.int .u8))⟩⟩
theorem ty24 : TyF Tryz.prog 24 (.slice 29 TyEntry) := ⟨by kernel_rfl, by kernel_rfl, ⟨by kernel_rfl, 56, by kernel_rfl, by decide, by decide, fun k hk => by cases hk⟩⟩
theorem ty27 : TyF Tryz.prog 27 (.slice 9 .str) := ⟨by kernel_rfl, by kernel_rfl, ⟨by kernel_rfl, 16, by kernel_rfl, by decide, by decide, fun k hk => by cases hk⟩⟩
theorem ty29 : TyF Tryz.prog 29 TyEntry := ⟨by kernel_rfl, by kernel_rfl, (und_pair (by kernel_rfl))⟩
theorem ty30 : TyF Tryz.prog 30 (.slice 3 (.int .i64)) := ⟨by kernel_rfl, by kernel_rfl, ⟨by kernel_rfl, 8, by kernel_rfl, by decide, by decide, fun k hk => by cases hk; exact (by kernel_rfl : Tryz.prog.underlying 3 = some (.int .i64))⟩⟩
theorem ty44 : TyF Tryz.prog 44 (.pair (.slice 3 (.int .i64)) (.int .i64)) := ⟨by kernel_rfl, by kernel_rfl, (und_pair (by kernel_rfl))⟩
theorem ty48 : TyF Tryz.prog 48 TyHead := ⟨by kernel_rfl, by kernel_rfl, (und_pair (by kernel_rfl))⟩
theorem ty51 : TyF Tryz.prog 51 (.slice 123 (.pair (.int .i64) (.int .i64))) := ⟨by kernel_rfl, by kernel_rfl, ⟨by kernel_rfl, 16, by kernel_rfl, by decide, by decide, fun k hk => by cases hk⟩⟩
theorem ty53 : TyF Tryz.prog 53 TySigned := ⟨by kernel_rfl, by kernel_rfl, (und_pair (by kernel_rfl))⟩
theorem ty108 : TyF Tryz.prog 108 (.pair (.slice 5 (.int .u8)) (.pair (.int .i64) (.int .i64))) := ⟨by kernel_rfl, by kernel_rfl, (und_pair (by kernel_rfl))⟩
theorem ty123 : TyF Tryz.prog 123 (.pair (.int .i64) (.int .i64)) := ⟨by kernel_rfl, by kernel_rfl, (und_pair (by kernel_rfl))⟩
theorem ty136 : TyF Tryz.prog 136 (.int .u64) := ⟨by kernel_rfl, by kernel_rfl, show Tryz.prog.underlying 136 = some (.int .u64) from by kernel_rfl⟩
theorem ty139 : TyF Tryz.prog 139 (.slice 30 (.slice 3 (.int .i64))) := ⟨by kernel_rfl, by kernel_rfl, ⟨by kernel_rfl, 24, by kernel_rfl, by decide, by decide, fun k hk => by cases hk⟩⟩
theorem eq2_123 : eq2F Tryz.prog 123 := by
  intro x y x' y' X Y w
  have hm : Tryz.prog.eqGuardType Tryz.prog.depth 123 = false := by kernel_rfl
  obtain ⟨f1, f2, hu, h1, h2, ⟨k1, u1⟩, ⟨k2, u2⟩⟩ : ∃ f1 f2 : Field, Tryz.prog.underlying 123 = some (.struct #[f1, f2]) ∧ (f1.name == "_") = false ∧ (f2.name == "_") = false ∧ (∃ k, Tryz.prog.underlying f1.type = some (.int k) ∧ ∀ a b (w : World), (part f1.type #[a, b] f1.offset).run Tryz.prog w = .ok a w) ∧ (∃ k, Tryz.prog.underlying f2.type = some (.int k) ∧ ∀ a b (w : World), (part f2.type #[a, b] f2.offset).run Tryz.prog w = .ok b w) :=
    ⟨((structOf Tryz.prog 123).getD #[])[0]!, ((structOf Tryz.prog 123).getD #[])[1]!, by kernel_rfl, by kernel_rfl, by kernel_rfl, ⟨.i64, by kernel_rfl, fun a b w => by kernel_rfl⟩, ⟨.i64, by kernel_rfl, fun a b w => by kernel_rfl⟩⟩
  have he : (Op.equalIn 10000 123 (.agg #[.int .i64 x, .int .i64 y]) (.agg #[.int .i64 x', .int .i64 y'])).run Tryz.prog w = .ok (x == x' && y == y') w := by
    have hf : Tryz.prog.fieldsOf 123 = #[f1, f2] := by simp [Program.fieldsOf, hu]
    have n1 : f1.name ≠ "_" := by simpa using h1
    have n2 : f2.name ≠ "_" := by simpa using h2
    rw [run_equalIn_agg w 9999 123 _ _ (by rw [hf]; exact hu) (by kernel_rfl), hf]
    show (Op.eqFields 9999 _ _ [f1, f2]).run Tryz.prog w = _
    simp only [Op.eqFields, if_pos n1, if_pos n2, Sem.run_bind, u1.2, u2.2, run_equalIn_int w 9998 _ _ _ _ _ u1.1, run_equalIn_int w 9998 _ _ _ _ _ u2.1, Result.andThen_ok]
    have r2 : ∀ w : World, (Op.equalIn 9999 f2.type (.int .i64 y) (.int .i64 y')).run Tryz.prog w = .ok (y == y') w := fun w => run_equalIn_int w 9998 _ _ _ _ _ u2.1
    cases hx : x == x'
    · simp
    · cases hy : y == y' <;> simp [u2.2, r2, hy]
  constructor
  · simp only [Sem.run_bind, run_eqGuard_agg w .eql 123 X Y _ _ hm, Result.andThen_ok, run_eql_struct, he]
  · simp only [Sem.run_bind, run_eqGuard_agg w .neq 123 X Y _ _ hm, Result.andThen_ok, run_neq_struct, he]
theorem tabOk : TabOk Tryz.prog tab := tabOk_of ⟨ty2, ⟨ty3, ⟨ty4, ⟨ty5, ⟨ty9, ⟨ty22, ⟨ty24, ⟨ty27, ⟨ty29, ⟨ty30, ⟨ty44, ⟨ty48, ⟨ty51, ⟨ty53, ⟨ty108, ⟨ty123, ⟨ty136, ⟨ty139, trivial⟩⟩⟩⟩⟩⟩⟩⟩⟩⟩⟩⟩⟩⟩⟩⟩⟩⟩ ⟨fp_at (t0 := TyEntry) rfl (by kernel_rfl), ⟨fp_at (t0 := TyEntry) rfl (by kernel_rfl), ⟨fp_at (t0 := TyEntry) rfl (by kernel_rfl), ⟨fp_at (t0 := TyEntry) rfl (by kernel_rfl), ⟨fp_at (t0 := (.pair (.slice 3 (.int .i64)) (.int .i64))) rfl (by kernel_rfl), ⟨fp_at (t0 := (.pair (.slice 3 (.int .i64)) (.int .i64))) rfl (by kernel_rfl), ⟨fp_at (t0 := TyHead) rfl (by kernel_rfl), ⟨fp_at (t0 := TyHead) rfl (by kernel_rfl), ⟨fp_at (t0 := TyHead) rfl (by kernel_rfl), ⟨fp_at (t0 := TyHead) rfl (by kernel_rfl), ⟨fp_at (t0 := TyHead) rfl (by kernel_rfl), ⟨fp_at (t0 := TyHead) rfl (by kernel_rfl), ⟨fp_at (t0 := TyHead) rfl (by kernel_rfl), ⟨fp_at (t0 := TyHead) rfl (by kernel_rfl), ⟨fp_at (t0 := TyHead) rfl (by kernel_rfl), ⟨fp_at (t0 := TyHead) rfl (by kernel_rfl), ⟨fp_at (t0 := TyHead) rfl (by kernel_rfl), ⟨fp_at (t0 := TyHead) rfl (by kernel_rfl), ⟨fp_at (t0 := TyHead) rfl (by kernel_rfl), ⟨fp_at (t0 := TySigned) rfl (by kernel_rfl), ⟨fp_at (t0 := TySigned) rfl (by kernel_rfl), ⟨fp_at (t0 := (.pair (.slice 5 (.int .u8)) (.pair (.int .i64) (.int .i64)))) rfl (by kernel_rfl), ⟨fp_at (t0 := (.pair (.slice 5 (.int .u8)) (.pair (.int .i64) (.int .i64)))) rfl (by kernel_rfl), ⟨fp_at (t0 := (.pair (.slice 5 (.int .u8)) (.pair (.int .i64) (.int .i64)))) rfl (by kernel_rfl), ⟨fp_at (t0 := (.pair (.int .i64) (.int .i64))) rfl (by kernel_rfl), ⟨fp_at (t0 := (.pair (.int .i64) (.int .i64))) rfl (by kernel_rfl), trivial⟩⟩⟩⟩⟩⟩⟩⟩⟩⟩⟩⟩⟩⟩⟩⟩⟩⟩⟩⟩⟩⟩⟩⟩⟩⟩ (by kernel_rfl) ⟨plB_ok (by kernel_rfl), ⟨plB_ok (by kernel_rfl), ⟨plB_ok (by kernel_rfl), ⟨plB_ok (by kernel_rfl), ⟨plB_ok (by kernel_rfl), ⟨plB_ok (by kernel_rfl), trivial⟩⟩⟩⟩⟩⟩ ⟨eq2_123, trivial⟩
def sigs_4 : Sig := [(.bool, .no)]
def sigs_5 : Sig := [(.bool, .no)]
def sigs_10 : Sig := [((.int .i64), .no)]
def sigs_15 : Sig := [((.pair (.slice 3 (.int .i64)) (.int .i64)), .no), ((.int .i64), .no), ((.slice 29 TyEntry), .no), ((.int .i64), .no), ((.int .i64), .no)]
def sigs_16 : Sig := [(TyHead, (.pair .no (.pair .no (.pair .no (.pair .no (.pair .no (.pair .no (.pair .no (.pair .no (.pair (.pair (.own 0) .no) (.pair (.pair (.own 1) .no) (.pair .no (.pair (.pair (.own 2) .no) .no))))))))))))), (.bool, .no)]
def sigs_17 : Sig := [(TyHead, (.pair .no (.pair .no (.pair .no (.pair .no (.pair .no (.pair .no (.pair .no (.pair .no (.pair (.pair (.own 0) .no) (.pair (.pair (.own 1) .no) (.pair .no (.pair (.pair (.own 2) .no) .no))))))))))))), (.bool, .no)]
def sigs_18 : Sig := [(TySigned, (.pair (.pair .no (.pair .no (.pair .no (.pair .no (.pair .no (.pair .no (.pair .no (.pair .no (.pair (.pair (.own 0) .no) (.pair (.pair (.own 1) .no) (.pair .no (.pair (.pair (.own 2) .no) .no)))))))))))) (.own 3)))]
def sigs_19 : Sig := [((.pair (.slice 3 (.int .i64)) (.int .i64)), (.pair (.own 0) .no))]
def sigs_20 : Sig := [(.bool, .no)]
def sigs_21 : Sig := [(.bool, .no)]
def sigs_22 : Sig := [((.int .i64), .no)]
def sigs_23 : Sig := [((.int .i64), .no)]
def sigs_24 : Sig := [(TySigned, .no)]
def sigs_25 : Sig := [((.pair (.slice 3 (.int .i64)) (.int .i64)), .no), ((.int .i64), .no)]
def sigs_26 : Sig := [(.bool, .no)]
def sigs_27 : Sig := [((.int .i64), .no)]
def sigs_29 : Sig := [(.bool, .no)]
def sigs_30 : Sig := [(.bool, .no)]
def sigs_34 : Sig := [(.bool, .no)]
def sigs_35 : Sig := [(.bool, .no)]
def sigs_38 : Sig := [(TyEntry, (.pair .no (.pair .no (.pair .no (.own 0)))))]
def sigs_42 : Sig := [((.int .i64), .no)]
def sigs_43 : Sig := [((.int .i64), .no)]
def sigs_44 : Sig := [((.slice 3 (.int .i64)), (.own 0))]
def sigs_45 : Sig := [(.bool, .no)]
def sigs_47 : Sig := [((.int .i64), .no)]
def sigs_48 : Sig := []
def sigs_49 : Sig := [((.slice 29 TyEntry), (.own 0))]
def sigs_50 : Sig := [(.str, .no)]
def sigs_51 : Sig := [((.int .i64), .no)]
def sigs_52 : Sig := [((.int .i64), .no)]
def sigs_54 : Sig := [(.bool, .no)]
def sigs_57 : Sig := [((.int .i64), .no)]
def sigs_58 : Sig := [((.pair (.slice 3 (.int .i64)) (.int .i64)), .no)]
def sigs_59 : Sig := [((.int .i64), .no)]
def sigs_60 : Sig := [((.slice 29 TyEntry), (.own 0))]
def sigs_61 : Sig := [((.int .i64), .no)]
def sigs_62 : Sig := [((.pair (.slice 3 (.int .i64)) (.int .i64)), (.pair (.own 0) .no))]
def sigs_63 : Sig := [(.bool, .no)]
def sigs_64 : Sig := [((.pair (.slice 3 (.int .i64)) (.int .i64)), (.pair (.own 0) .no))]
def sigs_65 : Sig := [(.bool, .no)]
def sigs_66 : Sig := [(TyHead, (.pair .no (.pair .no (.pair .no (.pair .no (.pair .no (.pair .no (.pair .no (.pair .no (.pair (.pair (.own 0) .no) (.pair (.pair (.own 1) .no) (.pair .no (.pair (.pair (.own 2) .no) .no)))))))))))))]
def sigs_67 : Sig := [((.slice 123 (.pair (.int .i64) (.int .i64))), (.own 0))]
def sigs_68 : Sig := [((.slice 3 (.int .i64)), (.own 0))]
def sigs_69 : Sig := [(.bool, .no)]
def sigs_70 : Sig := [(.bool, .no)]
def sigs_71 : Sig := [((.int .i64), .no)]
def sigs_72 : Sig := [((.slice 3 (.int .i64)), (.own 0))]
def sigs_73 : Sig := [((.int .i64), .no)]
def sigs_74 : Sig := [(TySigned, .no)]
def sigs_75 : Sig := [(.bool, .no)]
def sigs_76 : Sig := [((.slice 3 (.int .i64)), (.own 0))]
def sigs_77 : Sig := [((.int .i64), .no)]
def sigs_78 : Sig := [((.slice 3 (.int .i64)), (.own 0))]
def sigs_79 : Sig := [(.bool, .no)]
def sigs_80 : Sig := [(.bool, .no)]
def sigs_85 : Sig := [(.bool, .no)]
def sigs_86 : Sig := [((.slice 9 .str), (.own 0))]
def sigs_88 : Sig := [((.slice 3 (.int .i64)), (.own 0))]
def sigs_91 : Sig := [((.int .i64), .no)]
def sigs_92 : Sig := [((.slice 3 (.int .i64)), (.own 0))]
def sigs_93 : Sig := [((.int .i64), .no)]
def sigs_97 : Sig := [((.int .i64), .no)]
def sigs_98 : Sig := [((.slice 29 TyEntry), (.own 0)), (.bool, .no)]
def sigs_99 : Sig := [(TyEntry, (.pair .no (.pair .no (.pair .no (.own 0)))))]
def sigs_100 : Sig := [(.str, .no)]
def sigs_101 : Sig := [(.str, .no)]
def sigs_102 : Sig := [((.int .i64), .no)]
def sigs_103 : Sig := [((.int .i64), .no)]
def sigs_104 : Sig := [((.int .i64), .no)]
def sigs_109 : Sig := [((.int .i64), .no)]
def sigs_110 : Sig := [((.pair (.slice 3 (.int .i64)) (.int .i64)), (.pair (.own 0) .no))]
def sigs_111 : Sig := [(TyEntry, (.pair .no (.pair .no (.pair .no (.own 0)))))]
def sigs_112 : Sig := [(TyEntry, (.pair .no (.pair .no (.pair .no (.own 0)))))]
def sigs_113 : Sig := [((.slice 3 (.int .i64)), (.own 0))]
def sigs_114 : Sig := [(.bool, .no)]
def sigs_115 : Sig := [(.bool, .no)]
def sigs_116 : Sig := [(.bool, .no)]
def sigs_117 : Sig := [(.bool, .no)]
def sigs_118 : Sig := [(.bool, .no)]
def sigs_119 : Sig := [(.bool, .no)]
def sigs_120 : Sig := [(.bool, .no)]
def sigs_121 : Sig := [(.bool, .no)]
def sigs_122 : Sig := [(.bool, .no)]
def sigs_123 : Sig := [((.int .i64), .no)]
def sigs_124 : Sig := [((.slice 3 (.int .i64)), (.own 0))]
def sigs_125 : Sig := [((.int .i64), .no)]
def sigs_126 : Sig := [(.bool, .no)]
def sigs_127 : Sig := [((.int .i64), .no)]
def sigs_128 : Sig := [(.bool, .no)]
def sigs_129 : Sig := [(.bool, .no)]
def sigs_130 : Sig := [(.bool, .no)]
def sigs_131 : Sig := [(TySigned, .no)]
def sigs_132 : Sig := [(TyHead, .no)]
def sigs_133 : Sig := [((.slice 123 (.pair (.int .i64) (.int .i64))), (.own 0))]
def sigs_134 : Sig := [(TySigned, (.pair (.pair .no (.pair .no (.pair .no (.pair .no (.pair .no (.pair .no (.pair .no (.pair .no (.pair (.pair (.own 0) .no) (.pair (.pair (.own 1) .no) (.pair .no (.pair (.pair (.own 2) .no) .no)))))))))))) (.own 3)))]
def sigs_135 : Sig := [((.int .i64), .no)]
def sigs_136 : Sig := [((.int .i64), .no)]
def sigs_137 : Sig := [(.bool, .no)]
def sigs_138 : Sig := [(.bool, .no)]
def sigs_139 : Sig := [((.slice 3 (.int .i64)), (.own 0))]
def sigs_140 : Sig := [((.int .i64), .no)]
def sigs_141 : Sig := [((.slice 3 (.int .i64)), (.own 0))]
def sigs_143 : Sig := [((.int .i64), .no)]
def sigs_144 : Sig := [((.slice 29 TyEntry), (.own 0))]
def sigs_145 : Sig := [(TyEntry, (.pair .no (.pair .no (.pair .no (.own 0)))))]
def sigs_146 : Sig := [(TyEntry, (.pair .no (.pair .no (.pair .no (.own 0)))))]
def sigs_147 : Sig := [((.slice 9 .str), (.own 0))]
def sigs_149 : Sig := [((.int .i64), .no)]
def sigs_150 : Sig := [((.slice 3 (.int .i64)), (.own 0))]
def sigs_151 : Sig := [((.slice 9 .str), (.own 0))]
def sigs_152 : Sig := [(.bool, .no)]
def sigs_153 : Sig := [(.bool, .no)]
def sigs_154 : Sig := [((.int .i64), .no)]
def sigs_155 : Sig := [((.int .i64), .no)]
def sigs_156 : Sig := [((.slice 3 (.int .i64)), (.own 0))]
def sigs_157 : Sig := [((.int .i64), .no)]
def sigs_158 : Sig := [(TyHead, (.pair .no (.pair .no (.pair .no (.pair .no (.pair .no (.pair .no (.pair .no (.pair .no (.pair (.pair (.own 0) .no) (.pair (.pair (.own 1) .no) (.pair .no (.pair (.pair (.own 2) .no) .no)))))))))))))]
def sigs_159 : Sig := [((.slice 123 (.pair (.int .i64) (.int .i64))), (.own 0))]
def sigs_160 : Sig := [((.slice 3 (.int .i64)), (.own 0))]
def sigs_161 : Sig := [(TyHead, (.pair .no (.pair .no (.pair .no (.pair .no (.pair .no (.pair .no (.pair .no (.pair .no (.pair (.pair (.own 0) .no) (.pair (.pair (.own 1) .no) (.pair .no (.pair (.pair (.own 2) .no) .no)))))))))))))]
def sigs_162 : Sig := [(.bool, .no)]
def sigs_163 : Sig := [(.bool, .no)]
def sigs_164 : Sig := [(.bool, .no)]
def sigs_165 : Sig := [((.slice 3 (.int .i64)), (.own 0))]
def sigs_167 : Sig := [((.slice 3 (.int .i64)), (.own 0))]
def sigs_168 : Sig := [(.bool, .no)]
def sigs_169 : Sig := [((.int .i64), .no)]
def sigs_170 : Sig := [((.int .i64), .no)]
def sigs_171 : Sig := [((.slice 3 (.int .i64)), (.own 0))]
def sigs_172 : Sig := [((.slice 3 (.int .i64)), (.own 0))]
def sigs_173 : Sig := [((.int .i64), .no)]
def sigs : Sigs := fun n => (cond (Nat.beq n 4) (some sigs_4) (cond (Nat.beq n 5) (some sigs_5) (cond (Nat.beq n 10) (some sigs_10) (cond (Nat.beq n 15) (some sigs_15) (cond (Nat.beq n 16) (some sigs_16) (cond (Nat.beq n 17) (some sigs_17) (cond (Nat.beq n 18) (some sigs_18) (cond (Nat.beq n 19) (some sigs_19) (cond (Nat.beq n 20) (some sigs_20) (cond (Nat.beq n 21) (some sigs_21) (cond (Nat.beq n 22) (some sigs_22) (cond (Nat.beq n 23) (some sigs_23) (cond (Nat.beq n 24) (some sigs_24) (cond (Nat.beq n 25) (some sigs_25) (cond (Nat.beq n 26) (some sigs_26) (cond (Nat.beq n 27) (some sigs_27) (cond (Nat.beq n 29) (some sigs_29) (cond (Nat.beq n 30) (some sigs_30) (cond (Nat.beq n 34) (some sigs_34) (cond (Nat.beq n 35) (some sigs_35) (cond (Nat.beq n 38) (some sigs_38) (cond (Nat.beq n 42) (some sigs_42) (cond (Nat.beq n 43) (some sigs_43) (cond (Nat.beq n 44) (some sigs_44) (cond (Nat.beq n 45) (some sigs_45) (cond (Nat.beq n 47) (some sigs_47) (cond (Nat.beq n 48) (some sigs_48) (cond (Nat.beq n 49) (some sigs_49) (cond (Nat.beq n 50) (some sigs_50) (cond (Nat.beq n 51) (some sigs_51) (cond (Nat.beq n 52) (some sigs_52) (cond (Nat.beq n 54) (some sigs_54) (cond (Nat.beq n 57) (some sigs_57) (cond (Nat.beq n 58) (some sigs_58) (cond (Nat.beq n 59) (some sigs_59) (cond (Nat.beq n 60) (some sigs_60) (cond (Nat.beq n 61) (some sigs_61) (cond (Nat.beq n 62) (some sigs_62) (cond (Nat.beq n 63) (some sigs_63) (cond (Nat.beq n 64) (some sigs_64) (cond (Nat.beq n 65) (some sigs_65) (cond (Nat.beq n 66) (some sigs_66) (cond (Nat.beq n 67) (some sigs_67) (cond (Nat.beq n 68) (some sigs_68) (cond (Nat.beq n 69) (some sigs_69) (cond (Nat.beq n 70) (some sigs_70) (cond (Nat.beq n 71) (some sigs_71) (cond (Nat.beq n 72) (some sigs_72) (cond (Nat.beq n 73) (some sigs_73) (cond (Nat.beq n 74) (some sigs_74) (cond (Nat.beq n 75) (some sigs_75) (cond (Nat.beq n 76) (some sigs_76) (cond (Nat.beq n 77) (some sigs_77) (cond (Nat.beq n 78) (some sigs_78) (cond (Nat.beq n 79) (some sigs_79) (cond (Nat.beq n 80) (some sigs_80) (cond (Nat.beq n 85) (some sigs_85) (cond (Nat.beq n 86) (some sigs_86) (cond (Nat.beq n 88) (some sigs_88) (cond (Nat.beq n 91) (some sigs_91) (cond (Nat.beq n 92) (some sigs_92) (cond (Nat.beq n 93) (some sigs_93) (cond (Nat.beq n 97) (some sigs_97) (cond (Nat.beq n 98) (some sigs_98) (cond (Nat.beq n 99) (some sigs_99) (cond (Nat.beq n 100) (some sigs_100) (cond (Nat.beq n 101) (some sigs_101) (cond (Nat.beq n 102) (some sigs_102) (cond (Nat.beq n 103) (some sigs_103) (cond (Nat.beq n 104) (some sigs_104) (cond (Nat.beq n 109) (some sigs_109) (cond (Nat.beq n 110) (some sigs_110) (cond (Nat.beq n 111) (some sigs_111) (cond (Nat.beq n 112) (some sigs_112) (cond (Nat.beq n 113) (some sigs_113) (cond (Nat.beq n 114) (some sigs_114) (cond (Nat.beq n 115) (some sigs_115) (cond (Nat.beq n 116) (some sigs_116) (cond (Nat.beq n 117) (some sigs_117) (cond (Nat.beq n 118) (some sigs_118) (cond (Nat.beq n 119) (some sigs_119) (cond (Nat.beq n 120) (some sigs_120) (cond (Nat.beq n 121) (some sigs_121) (cond (Nat.beq n 122) (some sigs_122) (cond (Nat.beq n 123) (some sigs_123) (cond (Nat.beq n 124) (some sigs_124) (cond (Nat.beq n 125) (some sigs_125) (cond (Nat.beq n 126) (some sigs_126) (cond (Nat.beq n 127) (some sigs_127) (cond (Nat.beq n 128) (some sigs_128) (cond (Nat.beq n 129) (some sigs_129) (cond (Nat.beq n 130) (some sigs_130) (cond (Nat.beq n 131) (some sigs_131) (cond (Nat.beq n 132) (some sigs_132) (cond (Nat.beq n 133) (some sigs_133) (cond (Nat.beq n 134) (some sigs_134) (cond (Nat.beq n 135) (some sigs_135) (cond (Nat.beq n 136) (some sigs_136) (cond (Nat.beq n 137) (some sigs_137) (cond (Nat.beq n 138) (some sigs_138) (cond (Nat.beq n 139) (some sigs_139) (cond (Nat.beq n 140) (some sigs_140) (cond (Nat.beq n 141) (some sigs_141) (cond (Nat.beq n 143) (some sigs_143) (cond (Nat.beq n 144) (some sigs_144) (cond (Nat.beq n 145) (some sigs_145) (cond (Nat.beq n 146) (some sigs_146) (cond (Nat.beq n 147) (some sigs_147) (cond (Nat.beq n 149) (some sigs_149) (cond (Nat.beq n 150) (some sigs_150) (cond (Nat.beq n 151) (some sigs_151) (cond (Nat.beq n 152) (some sigs_152) (cond (Nat.beq n 153) (some sigs_153) (cond (Nat.beq n 154) (some sigs_154) (cond (Nat.beq n 155) (some sigs_155) (cond (Nat.beq n 156) (some sigs_156) (cond (Nat.beq n 157) (some sigs_157) (cond (Nat.beq n 158) (some sigs_158) (cond (Nat.beq n 159) (some sigs_159) (cond (Nat.beq n 160) (some sigs_160) (cond (Nat.beq n 161) (some sigs_161) (cond (Nat.beq n 162) (some sigs_162) (cond (Nat.beq n 163) (some sigs_163) (cond (Nat.beq n 164) (some sigs_164) (cond (Nat.beq n 165) (some sigs_165) (cond (Nat.beq n 167) (some sigs_167) (cond (Nat.beq n 168) (some sigs_168) (cond (Nat.beq n 169) (some sigs_169) (cond (Nat.beq n 170) (some sigs_170) (cond (Nat.beq n 171) (some sigs_171) (cond (Nat.beq n 172) (some sigs_172) (cond (Nat.beq n 173) (some sigs_173) none))))))))))))))))))))))))))))))))))))))))))))))))))))))))))))))))))))))))))))))))))))))))))))))))))))))))))))))))))))))))))))))))))))
end Go.Proofs.YthgbcbnmdioknaaGreat.Ref
