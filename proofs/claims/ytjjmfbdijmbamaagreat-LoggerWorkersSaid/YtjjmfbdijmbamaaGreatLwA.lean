/- The closed calls of the statement LoggerWorkers, run: what 'known' answers, and what LoggerWorkers answers of one to four workers and one or two loggers. -/
import Derived.Test.YtjjmfbdijmbamaaGreatRows
import Derived.Test.YtjjmfbdijmbamaaGreatEngineC
namespace Go.Proofs.YtjjmfbdijmbamaaGreat
open Go.Eng

noncomputable def theEnv : Env := envOf Tryz.prog
theorem mixedOn : Tryz.prog.follows .mixedOrders = true := by kernel_rfl
theorem fits : Fit Tryz.prog := fit_of (by kernel_rfl)

def nowhere : Cfg := { fr := { fn := 0, n := 0, tm := .nil, todo := [], ds := [], mode := .run, kind := .normal, rnd := none }, cs := [], H := emptyH }
def orNo (o : Option Cfg) : Cfg := match o with
  | some c => c
  | none => nowhere
theorem orNo_some {o : Option Cfg} (h : o.isSome = true) : o = some (orNo o) := by
  cases o with
  | none => cases h
  | some c => rfl

set_option maxRecDepth 1000000

noncomputable def known0 : Cfg := orNo (startA theEnv 6 [])
theorem known_starts : (startA theEnv 6 []).isSome = true := by kernel_rfl
theorem known_runs : isTrue (answerA theEnv 6 (runA theEnv 20000 known0)) = true := by kernel_rfl
theorem known_true (W : World) : Calls Tryz.prog 6 #[] W fun e W' => e = .returned (.bool true) ∧ Stays W W' :=
  calls_of_goes (args := []) rfl (orNo_some known_starts) (Goes.run fits mixedOn 20000 known0) known_runs

noncomputable def at0 (w l : Int) : Cfg := orNo (startA theEnv 3 [.int .i64 w, .int .i64 l])
noncomputable def at1 (w l : Int) : Cfg := untilA theEnv 6 4000 (at0 w l)
noncomputable def at2 (w l : Int) : Cfg := orNo (contA (.bool true) (at1 w l))

theorem workers_true {w l : Int} (h0 : (startA theEnv 3 [.int .i64 w, .int .i64 l]).isSome = true) (h1 : enterA theEnv 6 [] .normal = some (at1 w l).fr) (h2 : (contA (.bool true) (at1 w l)).isSome = true)
    (h3 : isTrue (answerA theEnv 3 (runA theEnv 4000 (at2 w l))) = true) (W : World) : Calls Tryz.prog 3 #[.int .i64 w, .int .i64 l] W fun e W' => e = .returned (.bool true) ∧ Stays W W' :=
  calls_of_goes (args := [.int .i64 w, .int .i64 l]) ⟨_, _, rfl, rfl, _, _, rfl, rfl, rfl⟩ (orNo_some h0)
    (((Goes.until fits mixedOn 6 4000 (at0 w l)).trans (Goes.told (told_of_calls known_true) h1 (orNo_some h2))).trans (Goes.run fits mixedOn 4000 (at2 w l))) h3

theorem workers11 (W : World) : Calls Tryz.prog 3 #[.int .i64 1, .int .i64 1] W fun e W' => e = .returned (.bool true) ∧ Stays W W' := workers_true (by kernel_rfl) (by kernel_rfl) (by kernel_rfl) (by kernel_rfl) W
theorem workers21 (W : World) : Calls Tryz.prog 3 #[.int .i64 2, .int .i64 1] W fun e W' => e = .returned (.bool true) ∧ Stays W W' := workers_true (by kernel_rfl) (by kernel_rfl) (by kernel_rfl) (by kernel_rfl) W
theorem workers31 (W : World) : Calls Tryz.prog 3 #[.int .i64 3, .int .i64 1] W fun e W' => e = .returned (.bool true) ∧ Stays W W' := workers_true (by kernel_rfl) (by kernel_rfl) (by kernel_rfl) (by kernel_rfl) W
theorem workers41 (W : World) : Calls Tryz.prog 3 #[.int .i64 4, .int .i64 1] W fun e W' => e = .returned (.bool true) ∧ Stays W W' := workers_true (by kernel_rfl) (by kernel_rfl) (by kernel_rfl) (by kernel_rfl) W
theorem workers12 (W : World) : Calls Tryz.prog 3 #[.int .i64 1, .int .i64 2] W fun e W' => e = .returned (.bool true) ∧ Stays W W' := workers_true (by kernel_rfl) (by kernel_rfl) (by kernel_rfl) (by kernel_rfl) W
theorem workers22 (W : World) : Calls Tryz.prog 3 #[.int .i64 2, .int .i64 2] W fun e W' => e = .returned (.bool true) ∧ Stays W W' := workers_true (by kernel_rfl) (by kernel_rfl) (by kernel_rfl) (by kernel_rfl) W
theorem workers32 (W : World) : Calls Tryz.prog 3 #[.int .i64 3, .int .i64 2] W fun e W' => e = .returned (.bool true) ∧ Stays W W' := workers_true (by kernel_rfl) (by kernel_rfl) (by kernel_rfl) (by kernel_rfl) W
theorem workers42 (W : World) : Calls Tryz.prog 3 #[.int .i64 4, .int .i64 2] W fun e W' => e = .returned (.bool true) ∧ Stays W W' := workers_true (by kernel_rfl) (by kernel_rfl) (by kernel_rfl) (by kernel_rfl) W

end Go.Proofs.YtjjmfbdijmbamaaGreat
