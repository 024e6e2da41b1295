import Derived.Test.YthbpagcfclddeaaGreatAl
set_option linter.unusedVariables false
set_option linter.unusedSimpArgs false
set_option linter.unusedSectionVars false

set_option maxRecDepth 100000
namespace Go.Sim.Le
open Go.RowKit Go.Proofs
open Go.Sim.Pl (tkOut_ret tkBool_b tkAgg_a tkTup_t tkCons_c tkInt_i tkRow_r tkNil_n)
variable (F d : Nat)
theorem c22 : (E (F + 3000) (d + 60)).pf 22 [wellV, .int .i64 281] = some (.ret (.tup [.int .i64 1, .int .i64 0])) := by kernel_rfl
theorem c7 : (E (F + 3000) (d + 61)).pf 7 [] = some (.ret (.bool true)) := by
 rw [E_pf, t9007]
 simp only [c20, c21, c23, c25, c8, c24, c26, c22, tkOut_ret, tkAgg_a, tkTup_t, tkCons_c, tkInt_i, tkRow_r, tkNil_n, tkBool_b, decide_true, cond_true, beq_self_eq_true, Bool.and_self]
 rfl
end Go.Sim.Le


namespace Go.Sim.Pl
open Go.Sim.Le (cfg E E_pf E_hv c7)
open Go.Proofs
theorem law3xwhole (l : Sl Mach) (fw : Sl Int) (g : Gs.Gas) (s : Gs.Gst) (p : Gs.Gpt) (vo net : Int) (hl : l.len ≤ 140737488355328) (hR : ∀ i, (l.el i).rows.len ≤ 140737488355328) (hfw : fw.len ≤ 140737488355328) :
  (E 2000000000000000000 92).pf 3 [.agg (eGas g), .agg (eGst s), .agg (eGpt p), .int .i64 vo, .int .i64 net, sl eMach 10 l, sl eInt 1 fw] = some (.ret (.bool true)) :=
 law3 1999999999999999997 0 (by omega) g s p vo net l fw hl hR hfw (c7 1999999999999997000 30)
end Go.Sim.Pl
