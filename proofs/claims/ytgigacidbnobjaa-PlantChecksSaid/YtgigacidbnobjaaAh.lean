import Derived.Test.YtgigacidbnobjaaAg
import Derived.KernelRfl
import Derived.Test.YtgigacidbnobjaaRows
set_option linter.unusedVariables false
set_option linter.unusedSimpArgs false
set_option linter.unusedSectionVars false
set_option maxRecDepth 100000
namespace Go.Sim.Pl
open Go.Proofs
theorem t14 (env : Env) (F : Nat) (l : Sl Mach) (m : Mach) (x : Int) : (evFun Try.prog (cfg F) env 14 [(sl eMach 10 l), (.agg (eMach m)), (i64 x)]) = (tkOut (env.pf 15 [(sl eMach 10 l)]) none (fun v5 => (tkBool v5 none fun b6 => (bif (!b6) then (tkOut (env.pf 16 []) none (fun v7 => (tkBool v7 none fun b8 => some (.ret (.bool b8)))) (fun p7 => (tkIfc p7 none fun t8 x9 => (bif (flatP (.iface t8 x9)) then some (.pan (.iface t8 x9)) else none)))) else (bif (decide ((((Sl.len (Mach.rows m)) : Nat) : Int) > (10 : Int))) then (tkOut (env.pf 16 []) none (fun v7 => (tkBool v7 none fun b8 => some (.ret (.bool b8)))) (fun p7 => (tkIfc p7 none fun t8 x9 => (bif (flatP (.iface t8 x9)) then some (.pan (.iface t8 x9)) else none)))) else (tkOut (env.pf 46 [(sl eMach 10 l)]) none (fun v7 => (tkInt v7 none fun q8 n9 => (tkOut (env.pf 47 [(.agg (eMach m)), (i64 x)]) none (fun v10 => (tkTup v10 none fun l11 => (tkCons l11 none fun v12 r13 => (tkAgg v12 none fun l14 => (tkCons l14 none fun v15 r16 => (tkInt v15 none fun q17 n18 => (tkCons r16 none fun v19 r20 => (tkInt v19 none fun q21 n22 => (tkCons r20 none fun v23 r24 => (tkInt v23 none fun q25 n26 => (tkCons r24 none fun v27 r28 => (tkInt v27 none fun q29 n30 => (tkNil r28 none ((tkCons r13 none fun v31 r32 => (tkInt v31 none fun q33 n34 => (tkNil r32 none ((tkOut (env.pf 39 [(sl eMach 10 l)]) none (fun v35 => (tkBool v35 none fun b36 => (bif b36 then (bif (decide (q8 = .i64)) then (bif (n9 != (0 : Int)) then some (.ret (.bool false)) else (bif (!b36) then (bif (decide (q8 = .i64)) then (bif (n9 != (2 : Int)) then some (.ret (.bool false)) else (tkOut (env.pf 48 [(.agg (eMach m))]) none (fun v37 => (tkBool v37 none fun b38 => (bif (!b38) then (bif (decide (q33 = .i64)) then (bif (n34 == (2 : Int)) then (bif (decide (q17 = .i64)) then (bif (decide (q21 = .i64)) then (bif (decide (q25 = .i64)) then (bif (decide (q29 = .i64)) then (bif ((n18 == (0 : Int)) && ((n22 == (0 : Int)) && ((n26 == (0 : Int)) && ((n30 == (0 : Int)) && true)))) then (tkOut (env.pf 16 []) none (fun v39 => (tkBool v39 none fun b40 => some (.ret (.bool b40)))) (fun p39 => (tkIfc p39 none fun t40 x41 => (bif (flatP (.iface t40 x41)) then some (.pan (.iface t40 x41)) else none)))) else some (.ret (.bool false))) else none) else none) else none) else none) else some (.ret (.bool false))) else none) else (bif (decide (x < (1000 : Int))) then (bif (decide (q33 = .i64)) then (bif (n34 == (2 : Int)) then (bif (decide (q17 = .i64)) then (bif (decide (q21 = .i64)) then (bif (decide (q25 = .i64)) then (bif (decide (q29 = .i64)) then (bif ((n18 == (0 : Int)) && ((n22 == (0 : Int)) && ((n26 == (0 : Int)) && ((n30 == (0 : Int)) && true)))) then (tkOut (env.pf 16 []) none (fun v39 => (tkBool v39 none fun b40 => some (.ret (.bool b40)))) (fun p39 => (tkIfc p39 none fun t40 x41 => (bif (flatP (.iface t40 x41)) then some (.pan (.iface t40 x41)) else none)))) else some (.ret (.bool false))) else none) else none) else none) else none) else some (.ret (.bool false))) else none) else (bif (decide (x > (5000 : Int))) then (bif (decide (q33 = .i64)) then (bif (n34 == (2 : Int)) then (bif (decide (q17 = .i64)) then (bif (decide (q21 = .i64)) then (bif (decide (q25 = .i64)) then (bif (decide (q29 = .i64)) then (bif ((n18 == (0 : Int)) && ((n22 == (0 : Int)) && ((n26 == (0 : Int)) && ((n30 == (0 : Int)) && true)))) then (tkOut (env.pf 16 []) none (fun v39 => (tkBool v39 none fun b40 => some (.ret (.bool b40)))) (fun p39 => (tkIfc p39 none fun t40 x41 => (bif (flatP (.iface t40 x41)) then some (.pan (.iface t40 x41)) else none)))) else some (.ret (.bool false))) else none) else none) else none) else none) else some (.ret (.bool false))) else none) else (bif (decide (q33 = .i64)) then (bif (n34 == (0 : Int)) then (tkOut (env.pf 25 [(.agg (eMach m)), (i64 x)]) none (fun v39 => (tkAgg v39 none fun l40 => (tkCons l40 none fun v41 r42 => (tkInt v41 none fun q43 n44 => (tkCons r42 none fun v45 r46 => (tkInt v45 none fun q47 n48 => (tkCons r46 none fun v49 r50 => (tkInt v49 none fun q51 n52 => (tkCons r50 none fun v53 r54 => (tkInt v53 none fun q55 n56 => (tkNil r54 none ((bif (decide (q17 = q43)) then (bif (decide (q21 = q47)) then (bif (decide (q25 = q51)) then (bif (decide (q29 = q55)) then (bif ((n18 == n44) && ((n22 == n48) && ((n26 == n52) && ((n30 == n56) && true)))) then (tkOut (env.pf 16 []) none (fun v57 => (tkBool v57 none fun b58 => some (.ret (.bool b58)))) (fun p57 => (tkIfc p57 none fun t58 x59 => (bif (flatP (.iface t58 x59)) then some (.pan (.iface t58 x59)) else none)))) else some (.ret (.bool false))) else none) else none) else none) else none))))))))))))) (fun p39 => (tkIfc p39 none fun t40 x41 => (bif (flatP (.iface t40 x41)) then some (.pan (.iface t40 x41)) else none)))) else some (.ret (.bool false))) else none)))))) (fun p37 => (tkIfc p37 none fun t38 x39 => (bif (flatP (.iface t38 x39)) then some (.pan (.iface t38 x39)) else none))))) else none) else (tkOut (env.pf 48 [(.agg (eMach m))]) none (fun v37 => (tkBool v37 none fun b38 => (bif (!b38) then (bif (decide (q33 = .i64)) then (bif (n34 == (2 : Int)) then (bif (decide (q17 = .i64)) then (bif (decide (q21 = .i64)) then (bif (decide (q25 = .i64)) then (bif (decide (q29 = .i64)) then (bif ((n18 == (0 : Int)) && ((n22 == (0 : Int)) && ((n26 == (0 : Int)) && ((n30 == (0 : Int)) && true)))) then (tkOut (env.pf 16 []) none (fun v39 => (tkBool v39 none fun b40 => some (.ret (.bool b40)))) (fun p39 => (tkIfc p39 none fun t40 x41 => (bif (flatP (.iface t40 x41)) then some (.pan (.iface t40 x41)) else none)))) else some (.ret (.bool false))) else none) else none) else none) else none) else some (.ret (.bool false))) else none) else (bif (decide (x < (1000 : Int))) then (bif (decide (q33 = .i64)) then (bif (n34 == (2 : Int)) then (bif (decide (q17 = .i64)) then (bif (decide (q21 = .i64)) then (bif (decide (q25 = .i64)) then (bif (decide (q29 = .i64)) then (bif ((n18 == (0 : Int)) && ((n22 == (0 : Int)) && ((n26 == (0 : Int)) && ((n30 == (0 : Int)) && true)))) then (tkOut (env.pf 16 []) none (fun v39 => (tkBool v39 none fun b40 => some (.ret (.bool b40)))) (fun p39 => (tkIfc p39 none fun t40 x41 => (bif (flatP (.iface t40 x41)) then some (.pan (.iface t40 x41)) else none)))) else some (.ret (.bool false))) else none) else none) else none) else none) else some (.ret (.bool false))) else none) else (bif (decide (x > (5000 : Int))) then (bif (decide (q33 = .i64)) then (bif (n34 == (2 : Int)) then (bif (decide (q17 = .i64)) then (bif (decide (q21 = .i64)) then (bif (decide (q25 = .i64)) then (bif (decide (q29 = .i64)) then (bif ((n18 == (0 : Int)) && ((n22 == (0 : Int)) && ((n26 == (0 : Int)) && ((n30 == (0 : Int)) && true)))) then (tkOut (env.pf 16 []) none (fun v39 => (tkBool v39 none fun b40 => some (.ret (.bool b40)))) (fun p39 => (tkIfc p39 none fun t40 x41 => (bif (flatP (.iface t40 x41)) then some (.pan (.iface t40 x41)) else none)))) else some (.ret (.bool false))) else none) else none) else none) else none) else some (.ret (.bool false))) else none) else (bif (decide (q33 = .i64)) then (bif (n34 == (0 : Int)) then (tkOut (env.pf 25 [(.agg (eMach m)), (i64 x)]) none (fun v39 => (tkAgg v39 none fun l40 => (tkCons l40 none fun v41 r42 => (tkInt v41 none fun q43 n44 => (tkCons r42 none fun v45 r46 => (tkInt v45 none fun q47 n48 => (tkCons r46 none fun v49 r50 => (tkInt v49 none fun q51 n52 => (tkCons r50 none fun v53 r54 => (tkInt v53 none fun q55 n56 => (tkNil r54 none ((bif (decide (q17 = q43)) then (bif (decide (q21 = q47)) then (bif (decide (q25 = q51)) then (bif (decide (q29 = q55)) then (bif ((n18 == n44) && ((n22 == n48) && ((n26 == n52) && ((n30 == n56) && true)))) then (tkOut (env.pf 16 []) none (fun v57 => (tkBool v57 none fun b58 => some (.ret (.bool b58)))) (fun p57 => (tkIfc p57 none fun t58 x59 => (bif (flatP (.iface t58 x59)) then some (.pan (.iface t58 x59)) else none)))) else some (.ret (.bool false))) else none) else none) else none) else none))))))))))))) (fun p39 => (tkIfc p39 none fun t40 x41 => (bif (flatP (.iface t40 x41)) then some (.pan (.iface t40 x41)) else none)))) else some (.ret (.bool false))) else none)))))) (fun p37 => (tkIfc p37 none fun t38 x39 => (bif (flatP (.iface t38 x39)) then some (.pan (.iface t38 x39)) else none)))))) else none) else (bif (!b36) then (bif (decide (q8 = .i64)) then (bif (n9 != (2 : Int)) then some (.ret (.bool false)) else (tkOut (env.pf 48 [(.agg (eMach m))]) none (fun v37 => (tkBool v37 none fun b38 => (bif (!b38) then (bif (decide (q33 = .i64)) then (bif (n34 == (2 : Int)) then (bif (decide (q17 = .i64)) then (bif (decide (q21 = .i64)) then (bif (decide (q25 = .i64)) then (bif (decide (q29 = .i64)) then (bif ((n18 == (0 : Int)) && ((n22 == (0 : Int)) && ((n26 == (0 : Int)) && ((n30 == (0 : Int)) && true)))) then (tkOut (env.pf 16 []) none (fun v39 => (tkBool v39 none fun b40 => some (.ret (.bool b40)))) (fun p39 => (tkIfc p39 none fun t40 x41 => (bif (flatP (.iface t40 x41)) then some (.pan (.iface t40 x41)) else none)))) else some (.ret (.bool false))) else none) else none) else none) else none) else some (.ret (.bool false))) else none) else (bif (decide (x < (1000 : Int))) then (bif (decide (q33 = .i64)) then (bif (n34 == (2 : Int)) then (bif (decide (q17 = .i64)) then (bif (decide (q21 = .i64)) then (bif (decide (q25 = .i64)) then (bif (decide (q29 = .i64)) then (bif ((n18 == (0 : Int)) && ((n22 == (0 : Int)) && ((n26 == (0 : Int)) && ((n30 == (0 : Int)) && true)))) then (tkOut (env.pf 16 []) none (fun v39 => (tkBool v39 none fun b40 => some (.ret (.bool b40)))) (fun p39 => (tkIfc p39 none fun t40 x41 => (bif (flatP (.iface t40 x41)) then some (.pan (.iface t40 x41)) else none)))) else some (.ret (.bool false))) else none) else none) else none) else none) else some (.ret (.bool false))) else none) else (bif (decide (x > (5000 : Int))) then (bif (decide (q33 = .i64)) then (bif (n34 == (2 : Int)) then (bif (decide (q17 = .i64)) then (bif (decide (q21 = .i64)) then (bif (decide (q25 = .i64)) then (bif (decide (q29 = .i64)) then (bif ((n18 == (0 : Int)) && ((n22 == (0 : Int)) && ((n26 == (0 : Int)) && ((n30 == (0 : Int)) && true)))) then (tkOut (env.pf 16 []) none (fun v39 => (tkBool v39 none fun b40 => some (.ret (.bool b40)))) (fun p39 => (tkIfc p39 none fun t40 x41 => (bif (flatP (.iface t40 x41)) then some (.pan (.iface t40 x41)) else none)))) else some (.ret (.bool false))) else none) else none) else none) else none) else some (.ret (.bool false))) else none) else (bif (decide (q33 = .i64)) then (bif (n34 == (0 : Int)) then (tkOut (env.pf 25 [(.agg (eMach m)), (i64 x)]) none (fun v39 => (tkAgg v39 none fun l40 => (tkCons l40 none fun v41 r42 => (tkInt v41 none fun q43 n44 => (tkCons r42 none fun v45 r46 => (tkInt v45 none fun q47 n48 => (tkCons r46 none fun v49 r50 => (tkInt v49 none fun q51 n52 => (tkCons r50 none fun v53 r54 => (tkInt v53 none fun q55 n56 => (tkNil r54 none ((bif (decide (q17 = q43)) then (bif (decide (q21 = q47)) then (bif (decide (q25 = q51)) then (bif (decide (q29 = q55)) then (bif ((n18 == n44) && ((n22 == n48) && ((n26 == n52) && ((n30 == n56) && true)))) then (tkOut (env.pf 16 []) none (fun v57 => (tkBool v57 none fun b58 => some (.ret (.bool b58)))) (fun p57 => (tkIfc p57 none fun t58 x59 => (bif (flatP (.iface t58 x59)) then some (.pan (.iface t58 x59)) else none)))) else some (.ret (.bool false))) else none) else none) else none) else none))))))))))))) (fun p39 => (tkIfc p39 none fun t40 x41 => (bif (flatP (.iface t40 x41)) then some (.pan (.iface t40 x41)) else none)))) else some (.ret (.bool false))) else none)))))) (fun p37 => (tkIfc p37 none fun t38 x39 => (bif (flatP (.iface t38 x39)) then some (.pan (.iface t38 x39)) else none))))) else none) else (tkOut (env.pf 48 [(.agg (eMach m))]) none (fun v37 => (tkBool v37 none fun b38 => (bif (!b38) then (bif (decide (q33 = .i64)) then (bif (n34 == (2 : Int)) then (bif (decide (q17 = .i64)) then (bif (decide (q21 = .i64)) then (bif (decide (q25 = .i64)) then (bif (decide (q29 = .i64)) then (bif ((n18 == (0 : Int)) && ((n22 == (0 : Int)) && ((n26 == (0 : Int)) && ((n30 == (0 : Int)) && true)))) then (tkOut (env.pf 16 []) none (fun v39 => (tkBool v39 none fun b40 => some (.ret (.bool b40)))) (fun p39 => (tkIfc p39 none fun t40 x41 => (bif (flatP (.iface t40 x41)) then some (.pan (.iface t40 x41)) else none)))) else some (.ret (.bool false))) else none) else none) else none) else none) else some (.ret (.bool false))) else none) else (bif (decide (x < (1000 : Int))) then (bif (decide (q33 = .i64)) then (bif (n34 == (2 : Int)) then (bif (decide (q17 = .i64)) then (bif (decide (q21 = .i64)) then (bif (decide (q25 = .i64)) then (bif (decide (q29 = .i64)) then (bif ((n18 == (0 : Int)) && ((n22 == (0 : Int)) && ((n26 == (0 : Int)) && ((n30 == (0 : Int)) && true)))) then (tkOut (env.pf 16 []) none (fun v39 => (tkBool v39 none fun b40 => some (.ret (.bool b40)))) (fun p39 => (tkIfc p39 none fun t40 x41 => (bif (flatP (.iface t40 x41)) then some (.pan (.iface t40 x41)) else none)))) else some (.ret (.bool false))) else none) else none) else none) else none) else some (.ret (.bool false))) else none) else (bif (decide (x > (5000 : Int))) then (bif (decide (q33 = .i64)) then (bif (n34 == (2 : Int)) then (bif (decide (q17 = .i64)) then (bif (decide (q21 = .i64)) then (bif (decide (q25 = .i64)) then (bif (decide (q29 = .i64)) then (bif ((n18 == (0 : Int)) && ((n22 == (0 : Int)) && ((n26 == (0 : Int)) && ((n30 == (0 : Int)) && true)))) then (tkOut (env.pf 16 []) none (fun v39 => (tkBool v39 none fun b40 => some (.ret (.bool b40)))) (fun p39 => (tkIfc p39 none fun t40 x41 => (bif (flatP (.iface t40 x41)) then some (.pan (.iface t40 x41)) else none)))) else some (.ret (.bool false))) else none) else none) else none) else none) else some (.ret (.bool false))) else none) else (bif (decide (q33 = .i64)) then (bif (n34 == (0 : Int)) then (tkOut (env.pf 25 [(.agg (eMach m)), (i64 x)]) none (fun v39 => (tkAgg v39 none fun l40 => (tkCons l40 none fun v41 r42 => (tkInt v41 none fun q43 n44 => (tkCons r42 none fun v45 r46 => (tkInt v45 none fun q47 n48 => (tkCons r46 none fun v49 r50 => (tkInt v49 none fun q51 n52 => (tkCons r50 none fun v53 r54 => (tkInt v53 none fun q55 n56 => (tkNil r54 none ((bif (decide (q17 = q43)) then (bif (decide (q21 = q47)) then (bif (decide (q25 = q51)) then (bif (decide (q29 = q55)) then (bif ((n18 == n44) && ((n22 == n48) && ((n26 == n52) && ((n30 == n56) && true)))) then (tkOut (env.pf 16 []) none (fun v57 => (tkBool v57 none fun b58 => some (.ret (.bool b58)))) (fun p57 => (tkIfc p57 none fun t58 x59 => (bif (flatP (.iface t58 x59)) then some (.pan (.iface t58 x59)) else none)))) else some (.ret (.bool false))) else none) else none) else none) else none))))))))))))) (fun p39 => (tkIfc p39 none fun t40 x41 => (bif (flatP (.iface t40 x41)) then some (.pan (.iface t40 x41)) else none)))) else some (.ret (.bool false))) else none)))))) (fun p37 => (tkIfc p37 none fun t38 x39 => (bif (flatP (.iface t38 x39)) then some (.pan (.iface t38 x39)) else none)))))))) (fun p35 => (tkIfc p35 none fun t36 x37 => (bif (flatP (.iface t36 x37)) then some (.pan (.iface t36 x37)) else none)))))))))))))))))))))) (fun p10 => (tkIfc p10 none fun t11 x12 => (bif (flatP (.iface t11 x12)) then some (.pan (.iface t11 x12)) else none)))))) (fun p7 => (tkIfc p7 none fun t8 x9 => (bif (flatP (.iface t8 x9)) then some (.pan (.iface t8 x9)) else none)))))))) (fun p5 => (tkIfc p5 none fun t6 x7 => (bif (flatP (.iface t6 x7)) then some (.pan (.iface t6 x7)) else none)))) := by kernel_rfl
end Go.Sim.Pl


namespace Go.Sim.Pl
open Go.Proofs
theorem fitInt {k : IntKind} {c : V} (h : Fit (.int k) c) : ∃ n, c = .int k n ∧ k.min ≤ n ∧ n ≤ k.max := by
  cases h with
  | int h => exact ⟨_, rfl, h⟩
theorem fitL_nil {cs : List V} (h : FitL [] cs) : cs = [] := by
  have := h.1
  exact List.eq_nil_of_length_eq_zero this
theorem fitL_cons {s : Sh} {l : List Sh} {cs : List V} (h : FitL (s :: l) cs) : ∃ c cs', cs = c :: cs' ∧ Fit s c ∧ FitL l cs' := by
  obtain ⟨h1, h2⟩ := h
  cases cs with
  | nil => simp at h1
  | cons c cs' => exact ⟨c, cs', rfl, h2 0 s c rfl rfl, by simpa using h1, fun j s' c' g1 g2 => h2 (j + 1) s' c' (by simpa using g1) (by simpa using g2)⟩
theorem fitL_int {k : IntKind} {l : List Sh} {cs : List V} (h : FitL (.int k :: l) cs) : ∃ n cs', cs = .int k n :: cs' ∧ FitL l cs' := by
  obtain ⟨c, cs', rfl, h1, h2⟩ := fitL_cons h
  obtain ⟨n, rfl, _⟩ := fitInt h1
  exact ⟨n, cs', rfl, h2⟩
abbrev SlOk {α : Type} (s : Sl α) : Prop := s.len ≤ 140737488355328 ∧ (s.nl = true → s.len = 0)
theorem fitRow {α : Type} {e : α → List V} {P : α → Prop} {l : List Sh} (dec : ∀ cs, FitL l cs → ∃ a : α, cs = e a ∧ P a) {c : V} (h : Fit (.row l) c) : ∃ s : Sl α, c = sl e l.length s ∧ SlOk s ∧ ∀ i, P (s.el i) := by
  cases h with
  | row h hn hl hf =>
    rename_i nl len get
    have hx : ∀ i, ∃ a : α, get i = e a ∧ P a := fun i => dec _ ⟨hl i, hf i⟩
    refine ⟨⟨nl, len, fun i => (hx i).choose⟩, ?_, ⟨h, hn⟩, fun i => (hx i).choose_spec.2⟩
    show V.row nl len l.length get = V.row nl len l.length fun i => e (hx i).choose
    congr 1
    funext i
    exact (hx i).choose_spec.1
theorem fitL_row {α : Type} {e : α → List V} {P : α → Prop} {l r : List Sh} (dec : ∀ cs, FitL l cs → ∃ a : α, cs = e a ∧ P a) {cs : List V} (h : FitL (.row l :: r) cs) : ∃ (s : Sl α) (cs' : List V), cs = sl e l.length s :: cs' ∧ SlOk s ∧ (∀ i, P (s.el i)) ∧ FitL r cs' := by
  obtain ⟨c, cs', rfl, h1, h2⟩ := fitL_cons h
  obtain ⟨s, rfl, h3, h4⟩ := fitRow dec h1
  exact ⟨s, cs', rfl, h3, h4, h2⟩
theorem fitL_bool {l : List Sh} {cs : List V} (h : FitL (.bool :: l) cs) : ∃ n cs', cs = .bool n :: cs' ∧ FitL l cs' := by
  obtain ⟨c, cs', rfl, h1, h2⟩ := fitL_cons h
  cases h1 with
  | bool => exact ⟨_, cs', rfl, h2⟩
abbrev i8 : Sh := .int .i64
abbrev shRow : List Sh := [i8, i8, i8, i8]
abbrev shMach : List Sh := [i8, .row shRow, i8, i8, i8, i8, i8, i8, .bool, i8]
abbrev shHour : List Sh := [i8, i8, i8]
abbrev shSpan : List Sh := [i8, i8]
abbrev I64 (n : Int) : Prop := IntKind.i64.min ≤ n ∧ n ≤ IntKind.i64.max
theorem decRow (cs : List V) (h : FitL shRow cs) : ∃ c : Row, cs = eRow c ∧ True := by
  obtain ⟨a0, _, rfl, h1⟩ := fitL_int h
  obtain ⟨a1, _, rfl, h2⟩ := fitL_int h1
  obtain ⟨a2, _, rfl, h3⟩ := fitL_int h2
  obtain ⟨a3, _, rfl, h4⟩ := fitL_int h3
  obtain rfl := fitL_nil h4
  exact ⟨⟨a0, a1, a2, a3⟩, rfl, trivial⟩
theorem dcMach (cs : List V) (h : FitL shMach cs) : ∃ c : Mach, cs = eMach c ∧ SlOk c.rows := by
  obtain ⟨a0, _, rfl, h1⟩ := fitL_int h
  obtain ⟨rw, _, rfl, h0, _, h2⟩ := fitL_row decRow h1
  obtain ⟨a2, _, rfl, h3⟩ := fitL_int h2
  obtain ⟨a3, _, rfl, h4⟩ := fitL_int h3
  obtain ⟨a4, _, rfl, h5⟩ := fitL_int h4
  obtain ⟨a5, _, rfl, h6⟩ := fitL_int h5
  obtain ⟨a6, _, rfl, h7⟩ := fitL_int h6
  obtain ⟨a7, _, rfl, h8⟩ := fitL_int h7
  obtain ⟨a8, _, rfl, h9⟩ := fitL_bool h8
  obtain ⟨a9, _, rfl, h10⟩ := fitL_int h9
  obtain rfl := fitL_nil h10
  exact ⟨⟨a0, rw, a2, a3, a4, a5, a6, a7, a8, a9⟩, rfl, h0⟩
theorem own : ownKnob Try.prog.godebug = none := by kernel_rfl
end Go.Sim.Pl


namespace Go.Sim.Pl
open Go.Proofs
variable (F d : Nat)
theorem law14 (hF : 140737488355330 < F) (l : Sl Mach) (m : Mach) (x : Int) (hl : l.len ≤ 140737488355328) (hR : ∀ i, (l.el i).rows.len ≤ 140737488355328) (hm : m.rows.len ≤ 140737488355328) :
    (E F (d + 43)).pf 14 [sl eMach 10 l, .agg (eMach m), .int .i64 x] = some (.ret (.bool true)) := by
  have q16 := s16 F d (by omega)
  have q15 := s15 F (d + 41) l (lenB hl) (by omega)
  have hRB : RowsB l F := fun i _ => ⟨lenB (hR i), by have := hR i; omega⟩
  have q46 := s46 F (d + 34) l (lenB hl) (by omega) hRB
  have q47 := s47 F (d + 37) m x (lenB hm) (by omega)
  have q39 := s39 F (d + 39) l (lenB hl) (by omega) hRB
  have q48 := s48 F (d + 40) m (lenB hm) (by omega)
  have q25 := s25 F (d + 41) m x (lenB hm) (by omega)
  rw [E_pf, t14]
  simp only [q15, q16, q46, q47, q39, q48, q25, tkOut_ret, tkBool_b, tkInt_i, tkTup_t]
  by_cases h1 : ShortP l
  · rw [decide_eq_true h1, Bool.not_true, pF]
    by_cases h2 : (m.rows.len : Int) > 10
    · rw [decide_eq_true h2, pT]
    · rw [decide_eq_false h2, pF]
      by_cases hx : 1000 ≤ x ∧ x ≤ 5000
      · have h5 : ¬ x < 1000 := by omega
        have h6 : ¬ x > 5000 := by omega
        by_cases h3 : PlantOk l
        · by_cases h4 : MachOk m
          · rw [decide_eq_true h3, if_pos h3, decide_eq_true h4, if_pos ⟨h4, hx⟩]
            simp only [tkCons_c, tkAgg_a, tkInt_i, tkNil_n, tkBool_b, tkOut_ret, decide_true, pT, pF, Bool.not_true, Bool.not_false, bne_self_eq_false, beq_self_eq_true, Bool.and_self, show ((0 : Int) == 2) = false from rfl, show ((2 : Int) != 0) = true from rfl, row0, decide_eq_false h5, decide_eq_false h6]
          · rw [decide_eq_true h3, if_pos h3, decide_eq_false h4, if_neg (fun h => h4 h.1)]
            simp only [tkCons_c, tkAgg_a, tkInt_i, tkNil_n, tkBool_b, tkOut_ret, decide_true, pT, pF, Bool.not_true, Bool.not_false, bne_self_eq_false, beq_self_eq_true, Bool.and_self, show ((0 : Int) == 2) = false from rfl, show ((2 : Int) != 0) = true from rfl, row0]
        · by_cases h4 : MachOk m
          · rw [decide_eq_false h3, if_neg h3, decide_eq_true h4, if_pos ⟨h4, hx⟩]
            simp only [tkCons_c, tkAgg_a, tkInt_i, tkNil_n, tkBool_b, tkOut_ret, decide_true, pT, pF, Bool.not_true, Bool.not_false, bne_self_eq_false, beq_self_eq_true, Bool.and_self, show ((0 : Int) == 2) = false from rfl, show ((2 : Int) != 0) = true from rfl, row0, decide_eq_false h5, decide_eq_false h6]
          · rw [decide_eq_false h3, if_neg h3, decide_eq_false h4, if_neg (fun h => h4 h.1)]
            simp only [tkCons_c, tkAgg_a, tkInt_i, tkNil_n, tkBool_b, tkOut_ret, decide_true, pT, pF, Bool.not_true, Bool.not_false, bne_self_eq_false, beq_self_eq_true, Bool.and_self, show ((0 : Int) == 2) = false from rfl, show ((2 : Int) != 0) = true from rfl, row0]
      · by_cases h5 : x < 1000
        · by_cases h3 : PlantOk l
          · by_cases h4 : MachOk m
            · rw [decide_eq_true h3, if_pos h3, decide_eq_true h4, if_neg (fun h => hx h.2)]
              simp only [tkCons_c, tkAgg_a, tkInt_i, tkNil_n, tkBool_b, tkOut_ret, decide_true, pT, pF, Bool.not_true, Bool.not_false, bne_self_eq_false, beq_self_eq_true, Bool.and_self, show ((0 : Int) == 2) = false from rfl, show ((2 : Int) != 0) = true from rfl, row0, decide_eq_true h5]
            · rw [decide_eq_true h3, if_pos h3, decide_eq_false h4, if_neg (fun h => h4 h.1)]
              simp only [tkCons_c, tkAgg_a, tkInt_i, tkNil_n, tkBool_b, tkOut_ret, decide_true, pT, pF, Bool.not_true, Bool.not_false, bne_self_eq_false, beq_self_eq_true, Bool.and_self, show ((0 : Int) == 2) = false from rfl, show ((2 : Int) != 0) = true from rfl, row0]
          · by_cases h4 : MachOk m
            · rw [decide_eq_false h3, if_neg h3, decide_eq_true h4, if_neg (fun h => hx h.2)]
              simp only [tkCons_c, tkAgg_a, tkInt_i, tkNil_n, tkBool_b, tkOut_ret, decide_true, pT, pF, Bool.not_true, Bool.not_false, bne_self_eq_false, beq_self_eq_true, Bool.and_self, show ((0 : Int) == 2) = false from rfl, show ((2 : Int) != 0) = true from rfl, row0, decide_eq_true h5]
            · rw [decide_eq_false h3, if_neg h3, decide_eq_false h4, if_neg (fun h => h4 h.1)]
              simp only [tkCons_c, tkAgg_a, tkInt_i, tkNil_n, tkBool_b, tkOut_ret, decide_true, pT, pF, Bool.not_true, Bool.not_false, bne_self_eq_false, beq_self_eq_true, Bool.and_self, show ((0 : Int) == 2) = false from rfl, show ((2 : Int) != 0) = true from rfl, row0]
        · have h6 : x > 5000 := by omega
          by_cases h3 : PlantOk l
          · by_cases h4 : MachOk m
            · rw [decide_eq_true h3, if_pos h3, decide_eq_true h4, if_neg (fun h => hx h.2)]
              simp only [tkCons_c, tkAgg_a, tkInt_i, tkNil_n, tkBool_b, tkOut_ret, decide_true, pT, pF, Bool.not_true, Bool.not_false, bne_self_eq_false, beq_self_eq_true, Bool.and_self, show ((0 : Int) == 2) = false from rfl, show ((2 : Int) != 0) = true from rfl, row0, decide_eq_false h5, decide_eq_true h6]
            · rw [decide_eq_true h3, if_pos h3, decide_eq_false h4, if_neg (fun h => h4 h.1)]
              simp only [tkCons_c, tkAgg_a, tkInt_i, tkNil_n, tkBool_b, tkOut_ret, decide_true, pT, pF, Bool.not_true, Bool.not_false, bne_self_eq_false, beq_self_eq_true, Bool.and_self, show ((0 : Int) == 2) = false from rfl, show ((2 : Int) != 0) = true from rfl, row0]
          · by_cases h4 : MachOk m
            · rw [decide_eq_false h3, if_neg h3, decide_eq_true h4, if_neg (fun h => hx h.2)]
              simp only [tkCons_c, tkAgg_a, tkInt_i, tkNil_n, tkBool_b, tkOut_ret, decide_true, pT, pF, Bool.not_true, Bool.not_false, bne_self_eq_false, beq_self_eq_true, Bool.and_self, show ((0 : Int) == 2) = false from rfl, show ((2 : Int) != 0) = true from rfl, row0, decide_eq_false h5, decide_eq_true h6]
            · rw [decide_eq_false h3, if_neg h3, decide_eq_false h4, if_neg (fun h => h4 h.1)]
              simp only [tkCons_c, tkAgg_a, tkInt_i, tkNil_n, tkBool_b, tkOut_ret, decide_true, pT, pF, Bool.not_true, Bool.not_false, bne_self_eq_false, beq_self_eq_true, Bool.and_self, show ((0 : Int) == 2) = false from rfl, show ((2 : Int) != 0) = true from rfl, row0]
  · rw [decide_eq_false h1, Bool.not_false, pT]
end Go.Sim.Pl
