/- The table of types and the signatures of the functions of this seat.
   Conditions: as each theorem states. -/
import Derived.Test.YteaahdhmhbmdgaaK3
import Derived.Test.YteaahdhmhbmdgaaProg
set_option linter.unusedVariables false
set_option linter.unusedSimpArgs false
set_option maxRecDepth 100000
namespace Go.Proofs.Yteaahdhmhbmdgaa.Ref
open Go.RowKit Go.Proofs.YteaahdhmhbmdgaaW.PrintWords Go.Proofs.YteaahdhmhbmdgaaW.PrintLast
open Go.Proofs.Yteaahdhmhbmdgaa
def tab : Tab := ⟨[(3, (.int .i64)), (4, .bool), (22, (.slice 3 (.int .i64)))], [], [22]⟩
theorem ty3 : TyF Try.prog 3 (.int .i64) := ⟨by kernel_rfl, by kernel_rfl, show Try.prog.underlying 3 = some (.int .i64) from by kernel_rfl⟩
theorem ty4 : TyF Try.prog 4 .bool := ⟨by kernel_rfl, by kernel_rfl, show Try.prog.underlying 4 = some .bool from by kernel_rfl⟩
theorem ty22 : TyF Try.prog 22 (.slice 3 (.int .i64)) := ⟨by kernel_rfl, by kernel_rfl, ⟨by kernel_rfl, 8, by kernel_rfl, by decide, by decide, fun k hk => by cases hk; exact (by kernel_rfl : Try.prog.underlying 3 = some (.int .i64))⟩⟩
theorem tabOk : TabOk Try.prog tab := tabOk_of ⟨ty3, ⟨ty4, ⟨ty22, trivial⟩⟩⟩ trivial (by kernel_rfl) trivial trivial
def sigs_6 : Sig := [(.bool, .no)]
def sigs_15 : Sig := [((.slice 3 (.int .i64)), (.own 0))]
def sigs_17 : Sig := [(.bool, .no)]
def sigs_20 : Sig := [((.slice 3 (.int .i64)), (.own 0))]
def sigs_21 : Sig := [((.slice 3 (.int .i64)), (.own 0))]
def sigs_22 : Sig := [((.int .i64), .no), ((.slice 3 (.int .i64)), (.own 0))]
def sigs_23 : Sig := [((.int .i64), .no)]
def sigs_37 : Sig := [((.int .i64), .no)]
def sigs_38 : Sig := [((.slice 3 (.int .i64)), (.own 0))]
def sigs_39 : Sig := [((.int .i64), .no)]
def sigs_40 : Sig := [((.slice 3 (.int .i64)), (.own 0))]
def sigs_41 : Sig := [(.bool, .no)]
def sigs_42 : Sig := [((.int .i64), .no)]
def sigs_43 : Sig := [(.bool, .no)]
def sigs_44 : Sig := [((.int .i64), .no)]
def sigs_46 : Sig := [((.int .i64), .no)]
def sigs_48 : Sig := [((.int .i64), .no)]
def sigs_49 : Sig := [((.int .i64), .no)]
def sigs : Sigs := fun n => (cond (Nat.beq n 6) (some sigs_6) (cond (Nat.beq n 15) (some sigs_15) (cond (Nat.beq n 17) (some sigs_17) (cond (Nat.beq n 20) (some sigs_20) (cond (Nat.beq n 21) (some sigs_21) (cond (Nat.beq n 22) (some sigs_22) (cond (Nat.beq n 23) (some sigs_23) (cond (Nat.beq n 37) (some sigs_37) (cond (Nat.beq n 38) (some sigs_38) (cond (Nat.beq n 39) (some sigs_39) (cond (Nat.beq n 40) (some sigs_40) (cond (Nat.beq n 41) (some sigs_41) (cond (Nat.beq n 42) (some sigs_42) (cond (Nat.beq n 43) (some sigs_43) (cond (Nat.beq n 44) (some sigs_44) (cond (Nat.beq n 46) (some sigs_46) (cond (Nat.beq n 48) (some sigs_48) (cond (Nat.beq n 49) (some sigs_49) none))))))))))))))))))
end Go.Proofs.Yteaahdhmhbmdgaa.Ref
