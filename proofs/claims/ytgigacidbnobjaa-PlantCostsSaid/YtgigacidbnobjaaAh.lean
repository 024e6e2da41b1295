import Derived.Test.YtgigacidbnobjaaAg
import Derived.KernelRfl
import Derived.Test.YtgigacidbnobjaaRows
set_option linter.unusedVariables false
set_option linter.unusedSimpArgs false
set_option linter.unusedSectionVars false
set_option maxRecDepth 100000
namespace Go.Sim.Pl
open Go.Proofs
noncomputable def L67x0 (env : Env) (F : Nat) (l : Sl Mach) (sc : Sl (Sl Int)) (fu : Nat) (i0 : Int) (i1 : Int) (i2 : Int) : Option Out := atLoop Try.prog (cfg F) env 67 [.r, .r, .l, .r, .d] [] fu { tm := tmL 53 0 [(0, (sl eMach 10 l)), (1, (sl eIL 1 sc)), (6, (i64 i0)), (7, (i64 i1)), (8, (i64 i2))], hp := [] }
noncomputable def L67x1 (env : Env) (F : Nat) (l : Sl Mach) (sc : Sl (Sl Int)) (m0 : Nat) (fu : Nat) (i0 : Int) (i1 : Int) (i2 : Int) (i3 : Int) : Option Out := atLoop Try.prog (cfg F) env 67 [.r, .r, .l, .r, .d, .d, .r, .l, .d, .r, .d] [m0] fu { tm := tmL 53 0 [(0, (sl eMach 10 l)), (1, (sl eIL 1 sc)), (6, (i64 i0)), (7, (i64 i1)), (8, (i64 i2)), (9, (i64 i3))], hp := [] }
theorem t67 (env : Env) (F : Nat) (l : Sl Mach) (sc : Sl (Sl Int)) : (evFun Try.prog (cfg F) env 67 [(sl eMach 10 l), (sl eIL 1 sc)]) = (L67x0 env F l sc F (0 : Int) (0 : Int) (0 : Int)) := by kernel_rfl
theorem L67x0s (env : Env) (F : Nat) (l : Sl Mach) (sc : Sl (Sl Int)) (fu : Nat) (i0 : Int) (i1 : Int) (i2 : Int) : L67x0 env F l sc (fu + 1) i0 i1 i2 = (bif (decide (i2 < (((Sl.len sc) : Nat) : Int))) then (L67x1 env F l sc fu F i0 i1 i2 (0 : Int)) else some (.ret (.tup [(i64 i0), (i64 i1)]))) := by kernel_rfl
theorem L67x1s (env : Env) (F : Nat) (l : Sl Mach) (sc : Sl (Sl Int)) (m0 : Nat) (fu : Nat) (i0 : Int) (i1 : Int) (i2 : Int) (i3 : Int) : L67x1 env F l sc m0 (fu + 1) i0 i1 i2 i3 = (bif (decide (i3 < (((Sl.len l) : Nat) : Int))) then (bif (decide ((0 : Int) ≤ i2)) then (bif (decide (i2 < (((Sl.len sc) : Nat) : Int))) then (bif (decide ((0 : Int) ≤ i3)) then (bif (decide (i3 < (((Sl.len (Sl.el sc (Int.toNat i2))) : Nat) : Int))) then (bif ((Sl.el (Sl.el sc (Int.toNat i2)) (Int.toNat i3)) == (1 : Int)) then (bif (decide ((0 : Int) ≤ i3)) then (bif (decide (i3 < (((Sl.len l) : Nat) : Int))) then (tkOut (env.pf 62 [(.agg (eMach (Sl.el l (Int.toNat i3)))), (i64 i3), (sl eIL 1 sc), (i64 (IntKind.wrap .i64 (i2 - (1 : Int))))]) none (fun v10 => (tkBool v10 none fun b11 => (bif (!b11) then (bif (decide ((0 : Int) ≤ i3)) then (bif (decide (i3 < (((Sl.len l) : Nat) : Int))) then (L67x1 env F l sc m0 fu (IntKind.wrap .i64 (i0 + (1 : Int))) (IntKind.wrap .i64 (i1 + (Mach.start (Sl.el l (Int.toNat i3))))) i2 (IntKind.wrap .i64 (i3 + (1 : Int)))) else none) else none) else (L67x1 env F l sc m0 fu i0 i1 i2 (IntKind.wrap .i64 (i3 + (1 : Int))))))) (fun p10 => (tkIfc p10 none fun t11 x12 => (bif (flatP (.iface t11 x12)) then some (.pan (.iface t11 x12)) else none)))) else none) else none) else (L67x1 env F l sc m0 fu i0 i1 i2 (IntKind.wrap .i64 (i3 + (1 : Int))))) else none) else none) else none) else none) else (L67x0 env F l sc m0 i0 i1 (IntKind.wrap .i64 (i2 + (1 : Int))))) := by kernel_rfl
noncomputable def L38x0 (env : Env) (F : Nat) (l : Sl Mach) (hs : Sl Hour) (sc : Sl (Sl Int)) (fu : Nat) (q0 : IntKind) (i1 : Int) (i2 : Int) (q3 : IntKind) (i4 : Int) (q5 : IntKind) (i6 : Int) : Option Out := atLoop Try.prog (cfg F) env 38 [.r, .r, .r, .l, .r, .d] [] fu { tm := tmL 91 0 [(0, (sl eMach 10 l)), (1, (sl eHour 3 hs)), (2, (sl eIL 1 sc)), (6, (.optr 0 0 0)), (8, (.int q0 i1)), (10, (.optr 1 0 0)), (11, (i64 i2))], hp := [(.box 48 [(i64 (0 : Int)), (i64 (0 : Int))] true), (.box 48 [(.int q3 i4), (.int q5 i6)] true)] }
noncomputable def L38x1 (env : Env) (F : Nat) (l : Sl Mach) (hs : Sl Hour) (sc : Sl (Sl Int)) (m0 : Nat) (fu : Nat) (q0 : IntKind) (i1 : Int) (i2 : Int) (b3 : Bool) (k4 : Nat) (k5 : Nat) (g6 : Nat → List V) (q7 : IntKind) (i8 : Int) (q9 : IntKind) (i10 : Int) (b11 : Bool) (k12 : Nat) (k13 : Nat) (g14 : Nat → List V) (i15 : Int) (q16 : IntKind) (i17 : Int) (q18 : IntKind) (i19 : Int) : Option Out := atLoop Try.prog (cfg F) env 38 [.r, .r, .r, .l, .r, .d, .d, .r, .l, .d, .r, .r, .r, .l, .r, .d] [m0] fu { tm := tmL 91 0 [(0, (sl eMach 10 l)), (1, (sl eHour 3 hs)), (2, (sl eIL 1 sc)), (6, (.optr 0 0 0)), (8, (.int q0 i1)), (10, (.optr 1 0 0)), (11, (i64 i2)), (12, (.row b3 k4 k5 g6)), (13, (.int q7 i8)), (14, (.int q9 i10)), (15, (.row b11 k12 k13 g14)), (16, (i64 i15))], hp := [(.box 48 [(i64 (0 : Int)), (i64 (0 : Int))] true), (.box 48 [(.int q16 i17), (.int q18 i19)] true)] }
theorem t38 (env : Env) (F : Nat) (l : Sl Mach) (hs : Sl Hour) (sc : Sl (Sl Int)) : (evFun Try.prog (cfg F) env 38 [(sl eMach 10 l), (sl eHour 3 hs), (sl eIL 1 sc)]) = (tkOut (env.pf 67 [(sl eMach 10 l), (sl eIL 1 sc)]) none (fun v5 => (tkTup v5 none fun l6 => (tkCons l6 none fun v7 r8 => (tkInt v7 none fun q9 n10 => (tkCons r8 none fun v11 r12 => (tkInt v11 none fun q13 n14 => (tkNil r12 none ((L38x0 env F l hs sc F q9 n10 (0 : Int) q13 n14 q13 n14))))))))) (fun p5 => (tkIfc p5 none fun t6 x7 => (bif (flatP (.iface t6 x7)) then some (.pan (.iface t6 x7)) else none)))) := by kernel_rfl
theorem L38x0s (env : Env) (F : Nat) (l : Sl Mach) (hs : Sl Hour) (sc : Sl (Sl Int)) (fu : Nat) (q0 : IntKind) (i1 : Int) (i2 : Int) (q3 : IntKind) (i4 : Int) (q5 : IntKind) (i6 : Int) : L38x0 env F l hs sc (fu + 1) q0 i1 i2 q3 i4 q5 i6 = (bif (decide (i2 < (((Sl.len hs) : Nat) : Int))) then (bif (decide ((0 : Int) ≤ i2)) then (bif (decide (i2 < (((Sl.len sc) : Nat) : Int))) then (tkOut (env.pf 35 [(sl eInt 1 (Sl.el sc (Int.toNat i2)))]) none (fun v13 => (tkRow v13 none fun nl14 n15 wd16 g17 => (bif (decide ((0 : Int) ≤ i2)) then (bif (decide (i2 < (((Sl.len hs) : Nat) : Int))) then (tkOut (env.pf 59 [(sl eMach 10 l), (.agg (eSpan (Hour.ratio (Sl.el hs (Int.toNat i2)))))]) none (fun v18 => (tkRow v18 none fun nl19 n20 wd21 g22 => (L38x1 env F l hs sc fu F q0 i1 i2 nl14 n15 wd16 g17 .i64 (0 : Int) .i64 (0 : Int) nl19 n20 wd21 g22 (0 : Int) q3 i4 q5 i6))) (fun p18 => (tkIfc p18 none fun t19 x20 => (bif (flatP (.iface t19 x20)) then some (.pan (.iface t19 x20)) else none)))) else none) else none))) (fun p13 => (tkIfc p13 none fun t14 x15 => (bif (flatP (.iface t14 x15)) then some (.pan (.iface t14 x15)) else none)))) else none) else none) else some (.ret (.tup [(.agg [(.int q3 i4), (.int q5 i6)]), (.int q0 i1)]))) := by kernel_rfl
theorem L38x1s (env : Env) (F : Nat) (l : Sl Mach) (hs : Sl Hour) (sc : Sl (Sl Int)) (m0 : Nat) (fu : Nat) (q0 : IntKind) (i1 : Int) (i2 : Int) (b3 : Bool) (k4 : Nat) (k5 : Nat) (g6 : Nat → List V) (q7 : IntKind) (i8 : Int) (q9 : IntKind) (i10 : Int) (b11 : Bool) (k12 : Nat) (k13 : Nat) (g14 : Nat → List V) (i15 : Int) (q16 : IntKind) (i17 : Int) (q18 : IntKind) (i19 : Int) : L38x1 env F l hs sc m0 (fu + 1) q0 i1 i2 b3 k4 k5 g6 q7 i8 q9 i10 b11 k12 k13 g14 i15 q16 i17 q18 i19 = (bif (decide (i15 < ((k12 : Nat) : Int))) then (bif (decide ((0 : Int) ≤ i2)) then (bif (decide (i2 < (((Sl.len hs) : Nat) : Int))) then (bif (k13 == 1) then (bif (decide ((0 : Int) ≤ i15)) then (bif (decide (i15 < ((k12 : Nat) : Int))) then (tkCons (g14 (Int.toNat i15)) none fun v27 r28 => (tkInt v27 none fun q29 n30 => (tkOut (env.pf 20 [(sl eMach 10 l), (.row b3 k4 k5 g6), (i64 (Hour.flow (Sl.el hs (Int.toNat i2)))), (.int q29 n30)]) none (fun v31 => (tkRow v31 none fun nl32 n33 wd34 g35 => (bif (k13 == 1) then (bif (decide ((0 : Int) ≤ i15)) then (bif (decide (i15 < ((k12 : Nat) : Int))) then (tkCons (g14 (Int.toNat i15)) none fun v36 r37 => (tkInt v36 none fun q38 n39 => (tkOut (env.pf 23 [(sl eMach 10 l), (.row b3 k4 k5 g6), (.row nl32 n33 wd34 g35), (.int q38 n39)]) none (fun v40 => (tkInt v40 none fun q41 n42 => (bif (i15 == (0 : Int)) then (L38x1 env F l hs sc m0 fu q0 i1 i2 b3 k4 k5 g6 q41 (if n42 < n42 then n42 else n42) q41 (if n42 < n42 then n42 else n42) b11 k12 k13 g14 (IntKind.wrap .i64 (i15 + (1 : Int))) q16 i17 q18 i19) else (L38x1 env F l hs sc m0 fu q0 i1 i2 b3 k4 k5 g6 q7 (if n42 < i8 then n42 else i8) q9 (if i10 < n42 then n42 else i10) b11 k12 k13 g14 (IntKind.wrap .i64 (i15 + (1 : Int))) q16 i17 q18 i19)))) (fun p40 => (tkIfc p40 none fun t41 x42 => (bif (flatP (.iface t41 x42)) then some (.pan (.iface t41 x42)) else none)))))) else none) else none) else none))) (fun p31 => (tkIfc p31 none fun t32 x33 => (bif (flatP (.iface t32 x33)) then none else none)))))) else none) else none) else none) else none) else none) else (bif (decide (q16 = q7)) then (bif (decide (q18 = q9)) then (L38x0 env F l hs sc m0 q0 i1 (IntKind.wrap .i64 (i2 + (1 : Int))) q16 (IntKind.wrap q16 (i17 + i8)) q18 (IntKind.wrap q18 (i19 + i10))) else none) else none)) := by kernel_rfl
theorem t9 (env : Env) (F : Nat) (l : Sl Mach) (hs : Sl Hour) (sc : Sl (Sl Int)) : (evFun Try.prog (cfg F) env 9 [(sl eMach 10 l), (sl eHour 3 hs), (sl eIL 1 sc)]) = (tkOut (env.pf 15 [(sl eMach 10 l)]) none (fun v5 => (tkBool v5 none fun b6 => (bif (!b6) then (tkOut (env.pf 16 []) none (fun v7 => (tkBool v7 none fun b8 => some (.ret (.bool b8)))) (fun p7 => (tkIfc p7 none fun t8 x9 => (bif (flatP (.iface t8 x9)) then some (.pan (.iface t8 x9)) else none)))) else (tkOut (env.pf 31 [(sl eHour 3 hs), (sl eIL 1 sc)]) none (fun v7 => (tkBool v7 none fun b8 => (bif (!b8) then (tkOut (env.pf 16 []) none (fun v9 => (tkBool v9 none fun b10 => some (.ret (.bool b10)))) (fun p9 => (tkIfc p9 none fun t10 x11 => (bif (flatP (.iface t10 x11)) then some (.pan (.iface t10 x11)) else none)))) else (tkOut (env.pf 37 [(sl eMach 10 l), (sl eHour 3 hs), (sl eIL 1 sc)]) none (fun v9 => (tkTup v9 none fun l10 => (tkCons l10 none fun v11 r12 => (tkAgg v11 none fun l13 => (tkCons l13 none fun v14 r15 => (tkInt v14 none fun q16 n17 => (tkCons r15 none fun v18 r19 => (tkInt v18 none fun q20 n21 => (tkNil r19 none ((tkCons r12 none fun v22 r23 => (tkInt v22 none fun q24 n25 => (tkCons r23 none fun v26 r27 => (tkInt v26 none fun q28 n29 => (tkNil r27 none ((tkOut (env.pf 33 [(sl eMach 10 l), (sl eHour 3 hs), (sl eIL 1 sc)]) none (fun v30 => (tkInt v30 none fun q31 n32 => (bif (decide (q31 = .i64)) then (bif (n32 == (0 : Int)) then (tkOut (env.pf 34 [(sl eMach 10 l), (sl eHour 3 hs), (sl eIL 1 sc)]) none (fun v33 => (tkAgg v33 none fun l34 => (tkCons l34 none fun v35 r36 => (tkInt v35 none fun q37 n38 => (tkCons r36 none fun v39 r40 => (tkInt v39 none fun q41 n42 => (tkCons r40 none fun v43 r44 => (tkInt v43 none fun q45 n46 => (tkNil r44 none ((bif (decide (q41 = .i64)) then (bif (n42 != (1 : Int)) then (bif (decide (q28 = .i64)) then (bif (n29 == (7 : Int)) then (bif (decide (q16 = .i64)) then (bif (decide (q20 = .i64)) then (bif ((n17 == (0 : Int)) && ((n21 == (0 : Int)) && true)) then (bif (decide (q24 = .i64)) then (bif (n25 == (0 : Int)) then (tkOut (env.pf 16 []) none (fun v47 => (tkBool v47 none fun b48 => some (.ret (.bool b48)))) (fun p47 => (tkIfc p47 none fun t48 x49 => (bif (flatP (.iface t48 x49)) then some (.pan (.iface t48 x49)) else none)))) else some (.ret (.bool false))) else none) else some (.ret (.bool false))) else none) else none) else some (.ret (.bool false))) else none) else (bif (decide (q31 = .i64)) then (bif (n32 != (0 : Int)) then (bif (decide (q28 = q31)) then (bif (n29 == n32) then (bif (decide (q16 = .i64)) then (bif (decide (q20 = .i64)) then (bif ((n17 == (0 : Int)) && ((n21 == (0 : Int)) && true)) then (bif (decide (q24 = .i64)) then (bif (n25 == (0 : Int)) then (tkOut (env.pf 16 []) none (fun v47 => (tkBool v47 none fun b48 => some (.ret (.bool b48)))) (fun p47 => (tkIfc p47 none fun t48 x49 => (bif (flatP (.iface t48 x49)) then some (.pan (.iface t48 x49)) else none)))) else some (.ret (.bool false))) else none) else some (.ret (.bool false))) else none) else none) else some (.ret (.bool false))) else none) else (tkOut (env.pf 38 [(sl eMach 10 l), (sl eHour 3 hs), (sl eIL 1 sc)]) none (fun v47 => (tkTup v47 none fun l48 => (tkCons l48 none fun v49 r50 => (tkAgg v49 none fun l51 => (tkCons l51 none fun v52 r53 => (tkInt v52 none fun q54 n55 => (tkCons r53 none fun v56 r57 => (tkInt v56 none fun q58 n59 => (tkNil r57 none ((tkCons r50 none fun v60 r61 => (tkInt v60 none fun q62 n63 => (tkNil r61 none ((bif (decide (q28 = .i64)) then (bif (n29 == (0 : Int)) then (bif (decide (q16 = q54)) then (bif (decide (q20 = q58)) then (bif ((n17 == n55) && ((n21 == n59) && true)) then (bif (decide (q24 = q62)) then (bif (n25 == n63) then (tkOut (env.pf 16 []) none (fun v64 => (tkBool v64 none fun b65 => some (.ret (.bool b65)))) (fun p64 => (tkIfc p64 none fun t65 x66 => (bif (flatP (.iface t65 x66)) then some (.pan (.iface t65 x66)) else none)))) else some (.ret (.bool false))) else none) else some (.ret (.bool false))) else none) else none) else some (.ret (.bool false))) else none))))))))))))))) (fun p47 => (tkIfc p47 none fun t48 x49 => (bif (flatP (.iface t48 x49)) then some (.pan (.iface t48 x49)) else none))))) else none)) else none))))))))))) (fun p33 => (tkIfc p33 none fun t34 x35 => (bif (flatP (.iface t34 x35)) then some (.pan (.iface t34 x35)) else none)))) else (bif (decide (q31 = .i64)) then (bif (n32 != (0 : Int)) then (bif (decide (q28 = q31)) then (bif (n29 == n32) then (bif (decide (q16 = .i64)) then (bif (decide (q20 = .i64)) then (bif ((n17 == (0 : Int)) && ((n21 == (0 : Int)) && true)) then (bif (decide (q24 = .i64)) then (bif (n25 == (0 : Int)) then (tkOut (env.pf 16 []) none (fun v33 => (tkBool v33 none fun b34 => some (.ret (.bool b34)))) (fun p33 => (tkIfc p33 none fun t34 x35 => (bif (flatP (.iface t34 x35)) then some (.pan (.iface t34 x35)) else none)))) else some (.ret (.bool false))) else none) else some (.ret (.bool false))) else none) else none) else some (.ret (.bool false))) else none) else (tkOut (env.pf 38 [(sl eMach 10 l), (sl eHour 3 hs), (sl eIL 1 sc)]) none (fun v33 => (tkTup v33 none fun l34 => (tkCons l34 none fun v35 r36 => (tkAgg v35 none fun l37 => (tkCons l37 none fun v38 r39 => (tkInt v38 none fun q40 n41 => (tkCons r39 none fun v42 r43 => (tkInt v42 none fun q44 n45 => (tkNil r43 none ((tkCons r36 none fun v46 r47 => (tkInt v46 none fun q48 n49 => (tkNil r47 none ((bif (decide (q28 = .i64)) then (bif (n29 == (0 : Int)) then (bif (decide (q16 = q40)) then (bif (decide (q20 = q44)) then (bif ((n17 == n41) && ((n21 == n45) && true)) then (bif (decide (q24 = q48)) then (bif (n25 == n49) then (tkOut (env.pf 16 []) none (fun v50 => (tkBool v50 none fun b51 => some (.ret (.bool b51)))) (fun p50 => (tkIfc p50 none fun t51 x52 => (bif (flatP (.iface t51 x52)) then some (.pan (.iface t51 x52)) else none)))) else some (.ret (.bool false))) else none) else some (.ret (.bool false))) else none) else none) else some (.ret (.bool false))) else none))))))))))))))) (fun p33 => (tkIfc p33 none fun t34 x35 => (bif (flatP (.iface t34 x35)) then some (.pan (.iface t34 x35)) else none))))) else none)) else none))) (fun p30 => (tkIfc p30 none fun t31 x32 => (bif (flatP (.iface t31 x32)) then some (.pan (.iface t31 x32)) else none)))))))))))))))))))) (fun p9 => (tkIfc p9 none fun t10 x11 => (bif (flatP (.iface t10 x11)) then some (.pan (.iface t10 x11)) else none))))))) (fun p7 => (tkIfc p7 none fun t8 x9 => (bif (flatP (.iface t8 x9)) then some (.pan (.iface t8 x9)) else none))))))) (fun p5 => (tkIfc p5 none fun t6 x7 => (bif (flatP (.iface t6 x7)) then some (.pan (.iface t6 x7)) else none)))) := by kernel_rfl
end Go.Sim.Pl


namespace Go.Sim.Pl
open Go.Proofs
theorem fitInt {k : IntKind} {c : V} (h : Fit (.int k) c) : ∃ n, c = .int k n ∧ k.min ≤ n ∧ n ≤ k.max := by
  cases h with
  | int h => exact ⟨_, rfl, h⟩
theorem fitL_nil {cs : List V} (h : FitL [] cs) : cs = [] := by
  have := h.1
  exact List.eq_nil_of_length_eq_zero this
theorem fitL_cons {s : Sh} {l : List Sh} {cs : List V} (h : FitL (s :: l) cs) : ∃ c cs', cs = c :: cs' ∧ Fit s c ∧ FitL l cs' := by
  obtain ⟨h1, h2⟩ := h
  cases cs with
  | nil => simp at h1
  | cons c cs' => exact ⟨c, cs', rfl, h2 0 s c rfl rfl, by simpa using h1, fun j s' c' g1 g2 => h2 (j + 1) s' c' (by simpa using g1) (by simpa using g2)⟩
theorem fitL_int {k : IntKind} {l : List Sh} {cs : List V} (h : FitL (.int k :: l) cs) : ∃ n cs', cs = .int k n :: cs' ∧ FitL l cs' := by
  obtain ⟨c, cs', rfl, h1, h2⟩ := fitL_cons h
  obtain ⟨n, rfl, _⟩ := fitInt h1
  exact ⟨n, cs', rfl, h2⟩
abbrev SlOk {α : Type} (s : Sl α) : Prop := s.len ≤ 140737488355328 ∧ (s.nl = true → s.len = 0)
theorem fitRow {α : Type} {e : α → List V} {P : α → Prop} {l : List Sh} (dec : ∀ cs, FitL l cs → ∃ a : α, cs = e a ∧ P a) {c : V} (h : Fit (.row l) c) : ∃ s : Sl α, c = sl e l.length s ∧ SlOk s ∧ ∀ i, P (s.el i) := by
  cases h with
  | row h hn hl hf =>
    rename_i nl len get
    have hx : ∀ i, ∃ a : α, get i = e a ∧ P a := fun i => dec _ ⟨hl i, hf i⟩
    refine ⟨⟨nl, len, fun i => (hx i).choose⟩, ?_, ⟨h, hn⟩, fun i => (hx i).choose_spec.2⟩
    show V.row nl len l.length get = V.row nl len l.length fun i => e (hx i).choose
    congr 1
    funext i
    exact (hx i).choose_spec.1
theorem fitL_row {α : Type} {e : α → List V} {P : α → Prop} {l r : List Sh} (dec : ∀ cs, FitL l cs → ∃ a : α, cs = e a ∧ P a) {cs : List V} (h : FitL (.row l :: r) cs) : ∃ (s : Sl α) (cs' : List V), cs = sl e l.length s :: cs' ∧ SlOk s ∧ (∀ i, P (s.el i)) ∧ FitL r cs' := by
  obtain ⟨c, cs', rfl, h1, h2⟩ := fitL_cons h
  obtain ⟨s, rfl, h3, h4⟩ := fitRow dec h1
  exact ⟨s, cs', rfl, h3, h4, h2⟩
theorem fitL_bool {l : List Sh} {cs : List V} (h : FitL (.bool :: l) cs) : ∃ n cs', cs = .bool n :: cs' ∧ FitL l cs' := by
  obtain ⟨c, cs', rfl, h1, h2⟩ := fitL_cons h
  cases h1 with
  | bool => exact ⟨_, cs', rfl, h2⟩
abbrev i8 : Sh := .int .i64
abbrev shRow : List Sh := [i8, i8, i8, i8]
abbrev shMach : List Sh := [i8, .row shRow, i8, i8, i8, i8, i8, i8, .bool, i8]
abbrev shHour : List Sh := [i8, i8, i8]
abbrev shSpan : List Sh := [i8, i8]
abbrev I64 (n : Int) : Prop := IntKind.i64.min ≤ n ∧ n ≤ IntKind.i64.max
theorem decInt (cs : List V) (h : FitL [i8] cs) : ∃ n : Int, cs = eInt n ∧ I64 n := by
  obtain ⟨c, cs', rfl, h1, h2⟩ := fitL_cons h
  obtain ⟨n, rfl, m1, m2⟩ := fitInt h1
  obtain rfl := fitL_nil h2
  refine ⟨n, rfl, ?_⟩
  exact ⟨m1, m2⟩
theorem decIL (cs : List V) (h : FitL [.row [i8]] cs) : ∃ s : Sl Int, cs = eIL s ∧ SlOk s := by
  obtain ⟨s, _, rfl, h1, _, h2⟩ := fitL_row decInt h
  obtain rfl := fitL_nil h2
  exact ⟨s, rfl, h1⟩
theorem decRow (cs : List V) (h : FitL shRow cs) : ∃ c : Row, cs = eRow c ∧ True := by
  obtain ⟨a0, _, rfl, h1⟩ := fitL_int h
  obtain ⟨a1, _, rfl, h2⟩ := fitL_int h1
  obtain ⟨a2, _, rfl, h3⟩ := fitL_int h2
  obtain ⟨a3, _, rfl, h4⟩ := fitL_int h3
  obtain rfl := fitL_nil h4
  exact ⟨⟨a0, a1, a2, a3⟩, rfl, trivial⟩
theorem decHour (cs : List V) (h : FitL shHour cs) : ∃ c : Hour, cs = eHour c ∧ True := by
  obtain ⟨a0, _, rfl, h1⟩ := fitL_int h
  obtain ⟨a1, _, rfl, h2⟩ := fitL_int h1
  obtain ⟨a2, _, rfl, h3⟩ := fitL_int h2
  obtain rfl := fitL_nil h3
  exact ⟨⟨a0, ⟨a1, a2⟩⟩, rfl, trivial⟩
theorem dcMach (cs : List V) (h : FitL shMach cs) : ∃ c : Mach, cs = eMach c ∧ SlOk c.rows := by
  obtain ⟨a0, _, rfl, h1⟩ := fitL_int h
  obtain ⟨rw, _, rfl, h0, _, h2⟩ := fitL_row decRow h1
  obtain ⟨a2, _, rfl, h3⟩ := fitL_int h2
  obtain ⟨a3, _, rfl, h4⟩ := fitL_int h3
  obtain ⟨a4, _, rfl, h5⟩ := fitL_int h4
  obtain ⟨a5, _, rfl, h6⟩ := fitL_int h5
  obtain ⟨a6, _, rfl, h7⟩ := fitL_int h6
  obtain ⟨a7, _, rfl, h8⟩ := fitL_int h7
  obtain ⟨a8, _, rfl, h9⟩ := fitL_bool h8
  obtain ⟨a9, _, rfl, h10⟩ := fitL_int h9
  obtain rfl := fitL_nil h10
  exact ⟨⟨a0, rw, a2, a3, a4, a5, a6, a7, a8, a9⟩, rfl, h0⟩
theorem own : ownKnob Try.prog.godebug = none := by kernel_rfl
end Go.Sim.Pl


namespace Go.Sim.Pl
open Go.Proofs
variable (F d : Nat)
end Go.Sim.Pl


namespace Go.Sim.Pl
open Go.Proofs
theorem dd {α : Type} [DecidableEq α] (a : α) : decide (a = a) = true := decide_eq_true rfl
variable (F d : Nat)
theorem inB_of {l : Sl Mach} {hs : Sl Hour} (hF : 140737488355330 < F) (hl : l.len ≤ 140737488355328) (hR : ∀ i, (l.el i).rows.len ≤ 140737488355328) (hh : hs.len ≤ 140737488355328) : InB l hs F :=
  ⟨⟨lenB hl, by omega⟩, fun i _ => ⟨lenB (hR i), by have := hR i; omega⟩, lenB hh, by omega⟩
theorem schB_of {sc : Sl (Sl Int)} (hF : 140737488355330 < F) (hs : sc.len ≤ 140737488355328) (hw : ∀ i, (sc.el i).len ≤ 140737488355328) : SchB sc F :=
  ⟨⟨lenB hs, by omega⟩, fun i _ => ⟨lenB (hw i), by have := hw i; omega⟩⟩
end Go.Sim.Pl


namespace Go.Sim.Pl
open Go.Proofs
def sumN (l : Sl Mach) (sc : Nat → Sl Int) : Nat → Int
  | 0 => 0
  | t + 1 => sumN l sc t + startN (sc t) (stAt l sc t) l.len
def sumE (l : Sl Mach) (sc : Nat → Sl Int) : Nat → Int
  | 0 => 0
  | t + 1 => sumE l sc t + startE l (sc t) (stAt l sc t) l.len
def sumLo (l : Sl Mach) (hs : Nat → Hour) (sc : Nat → Sl Int) : Nat → Int
  | 0 => 0
  | t + 1 => sumLo l hs sc t + (hourE l (sc t) (hs t)).1
def sumHi (l : Sl Mach) (hs : Nat → Hour) (sc : Nat → Sl Int) : Nat → Int
  | 0 => 0
  | t + 1 => sumHi l hs sc t + (hourE l (sc t) (hs t)).2
theorem play_sum {l : Sl Mach} (hs : Nat → Hour) (sc : Nat → Sl Int) : ∀ (j t : Nat) (lo hi n : Int), (playR l hs sc j t lo hi n).rule = 1 →
    (playR l hs sc j t lo hi n).lo = lo + (sumLo l hs sc (t + j) - sumLo l hs sc t) + (sumE l sc (t + j) - sumE l sc t) ∧
    (playR l hs sc j t lo hi n).hi = hi + (sumHi l hs sc (t + j) - sumHi l hs sc t) + (sumE l sc (t + j) - sumE l sc t) ∧
    (playR l hs sc j t lo hi n).many = n + (sumN l sc (t + j) - sumN l sc t) := by
  intro j
  induction j with
  | zero => intro t lo hi n h; simp only [playR, Nat.add_zero]; omega
  | succ j ih =>
    intro t lo hi n h
    simp only [playR] at h ⊢
    by_cases hr : (faultS l (stAt l sc t) (sc t) (hs t)).1 = 1
    · rw [if_neg (fun hh => hh hr)] at h ⊢
      have e := ih (t + 1) _ _ _ h
      rw [show t + (j + 1) = t + 1 + j by omega]
      simp only [sumLo, sumHi, sumE, sumN] at e ⊢
      omega
    · rw [if_pos hr] at h
      exact absurd h hr
variable (F d : Nat)
section
variable {l : Sl Mach} (hl : PlantOk l) {hs : Sl Hour} (hh : HoursOk hs) (h24 : hs.len ≤ 24) {sc : Sl (Sl Int)} (hsc : SchedOk l hs.len sc) (hF : 1000 < F)
include hl hh h24 hsc hF
theorem sums_in : ∀ t, t ≤ hs.len → (0 ≤ sumN l sc.el t ∧ sumN l sc.el t ≤ 1000 * t) ∧ (0 ≤ sumE l sc.el t ∧ sumE l sc.el t ≤ 10000000000 * t) ∧ (0 ≤ sumLo l hs.el sc.el t ∧ sumLo l hs.el sc.el t ≤ 18000000000 * t) ∧ (0 ≤ sumHi l hs.el sc.el t ∧ sumHi l hs.el sc.el t ≤ 18000000000 * t)
  | 0, _ => by simp [sumN, sumE, sumLo, sumHi]
  | t + 1, h => by
    have ih := sums_in t (by omega)
    have hho := hh t (by omega)
    have hw := (hsc.1 t (by have := hsc.2; omega)).1
    have hN := startE_in F hl (st := rowS (stAt l sc.el t) l.len) hF rfl hw hho (stAt l sc.el t) l.len (by omega)
    have hE := hourE_in hl (w := sc.el t) hho
    have := hl.2
    simp only [sumN, sumE, sumLo, sumHi]
    omega
theorem l67x1 (m0 t : Nat) (ht : t < hs.len) (A B : Int) (hA : 0 ≤ A ∧ A ≤ 1000000) (hB : 0 ≤ B ∧ B ≤ 1000000000000) (R : Option Out) (K : L67x0 (E F (d + 1)) F l sc m0 (A + startN (sc.el t) (stAt l sc.el t) l.len) (B + startE l (sc.el t) (stAt l sc.el t) l.len) ((t + 1 : Nat) : Int) = R) : ∀ j i fu, i + j = l.len → j < fu →
    L67x1 (E F (d + 1)) F l sc m0 fu (A + startN (sc.el t) (stAt l sc.el t) i) (B + startE l (sc.el t) (stAt l sc.el t) i) t i = R := by
  have hl2 := hl.2
  have hscl := hsc.2
  have hho := hh t (by omega)
  have hw := (hsc.1 t (by omega)).1
  have hT : IntKind.i64.wrap ((t : Int) + 1) = ((t + 1 : Nat) : Int) := wrS (by omega)
  have hT' : IntKind.i64.wrap ((t : Int) - 1) = (t : Int) - 1 := wr (by omega)
  intro j
  induction j with
  | zero =>
    intro i fu h hf
    obtain ⟨fu, rfl⟩ : ∃ k, fu = k + 1 := ⟨fu - 1, by omega⟩
    obtain rfl : i = l.len := by omega
    rw [L67x1s, decide_eq_false (by omega), pF, hT]
    exact K
  | succ j ih =>
    intro i fu h hf
    obtain ⟨fu, rfl⟩ : ∃ k, fu = k + 1 := ⟨fu - 1, by omega⟩
    have hS : IntKind.i64.wrap ((i : Int) + 1) = ((i + 1 : Nat) : Int) := wrS (by omega)
    have q62 := s62 F d hl h24 hsc hF (a := i) (by omega) (t := t) (by omega)
    have hN := startE_in F hl (st := rowS (stAt l sc.el t) l.len) hF rfl hw hho (stAt l sc.el t) i (by omega)
    have e := ih (i + 1) fu (by omega) (by omega)
    simp only [startN, startE] at e
    have hel : (runsS (sc.el t)).el i = ((sc.el t).el i == 1) := rowT_el (by omega)
    have hst := (hl.1 i (by omega)).2.2.2.1
    rw [L67x1s]
    simp (disch := omega) only [decide_eq_true, pT, Int.toNat_natCast, hS, hT', q62, tkOut_ret, tkBool_b]
    unfold startB at e
    rw [hel] at e
    cases h1 : ((sc.el t).el i == 1) with
    | false =>
      rw [h1] at e
      rw [pF]
      simpa using e
    | true =>
      rw [h1] at e
      rw [pT]
      cases h2 : (stAt l sc.el t i).runs with
      | true => rw [h2] at e; simpa using e
      | false =>
        rw [h2] at e
        rw [Bool.not_false, pT]
        rw [wr (by omega), wr (by omega)]
        simp only [Bool.not_false, Bool.and_self, if_true] at e
        rw [show A + startN (sc.el t) (stAt l sc.el t) i + 1 = A + (startN (sc.el t) (stAt l sc.el t) i + 1) by omega, show B + startE l (sc.el t) (stAt l sc.el t) i + (l.el i).start = B + (startE l (sc.el t) (stAt l sc.el t) i + (l.el i).start) by omega]
        exact e
theorem l67x0 : ∀ j t fu, t + j = hs.len → j < fu → L67x0 (E F (d + 1)) F l sc fu (sumN l sc.el t) (sumE l sc.el t) t = some (.ret (.tup [.int .i64 (sumN l sc.el hs.len), .int .i64 (sumE l sc.el hs.len)])) := by
  have hscl := hsc.2
  have hl2 := hl.2
  intro j
  induction j with
  | zero =>
    intro t fu h hf
    obtain ⟨fu, rfl⟩ : ∃ k, fu = k + 1 := ⟨fu - 1, by omega⟩
    obtain rfl : t = hs.len := by omega
    rw [L67x0s, decide_eq_false (by omega), pF]
  | succ j ih =>
    intro t fu h hf
    obtain ⟨fu, rfl⟩ : ∃ k, fu = k + 1 := ⟨fu - 1, by omega⟩
    have hb := sums_in F hl hh h24 hsc hF t (by omega)
    have e := l67x1 F d hl hh h24 hsc hF fu t (by omega) (sumN l sc.el t) (sumE l sc.el t) (by omega) (by omega) _ (ih (t + 1) fu (by omega) (by omega)) l.len 0 F (by omega) (by omega)
    simp only [startN, startE, Int.add_zero] at e
    rw [L67x0s, decide_eq_true (by omega), pT]
    exact e
theorem s67 : (E F (d + 2)).pf 67 [sl eMach 10 l, sl eIL 1 sc] = some (.ret (.tup [.int .i64 (sumN l sc.el hs.len), .int .i64 (sumE l sc.el hs.len)])) := by
  rw [E_pf, t67]
  exact l67x0 F d hl hh h24 hsc hF hs.len 0 F (by omega) (by omega)
end
section
variable {l : Sl Mach} (hl : PlantOk l) {hs : Sl Hour} (hh : HoursOk hs) (h24 : hs.len ≤ 24) {sc : Sl (Sl Int)} (hsc : SchedOk l hs.len sc) (hF : 2000 < F)
include hl hF
theorem ref_en {r : Sl Bool} (hr : r.len = l.len) {f : Int} (hf : FlowOk f) (x : Int) : (E F (d + 2)).pf 20 [sl eMach 10 l, sl eBool 1 r, .int .i64 f, .int .i64 x] = some (.ret (.row false l.len 1 (fun i => eInt ((shareS l r.el f x).sh i)))) ∧ (E F (d + 2)).pf 23 [sl eMach 10 l, sl eBool 1 r, .row false l.len 1 (fun i => eInt ((shareS l r.el f x).sh i)), .int .i64 x] = some (.ret (.int .i64 (enS l r.el f x))) := by
  have hF1 : 1000 < F := by omega
  have hi : ShInv l x (shareS l r.el f x) := shK_inv F hl hF1 hf 3 1 shr0 (shr0xinv F hl hF1 r hr f x hf)
  refine ⟨s20 F d hl hF r hr f x hf, ?_⟩
  have q23 := s23 F d hl hF1 r hr ⟨false, l.len, (shareS l r.el f x).sh⟩ rfl x (fun i hi' => by
      have a := (hi.sh i hi').2
      have b := (row_in (hl.1 i hi') x).2.1
      show (shareS l r.el f x).sh i ≤ 1000000
      omega)
  unfold enS
  rw [energy_eq hl r.el f x]
  exact q23
include hh h24 hsc
theorem l38x1 (m0 : Nat) (t : Nat) (ht : t < hs.len) (many lo hi : Int) (L : List Int) (hL : L.length ≤ 1000) (q : Int × Int) (R : Option Out) (K : L38x0 (E F (d + 2)) F l hs sc m0 .i64 many ((t + 1 : Nat) : Int) .i64 (IntKind.i64.wrap (lo + q.1)) .i64 (IntKind.i64.wrap (hi + q.2)) = R) : ∀ j i fu (p : Int × Int), i + j = L.length → j < fu → 0 < i → costF (enS l (runsS (sc.el t)).el (hs.el t).flow) p (L.drop i) = q →
    L38x1 (E F (d + 2)) F l hs sc m0 fu .i64 many t false (runsS (sc.el t)).len 1 (fun i => eBool ((runsS (sc.el t)).el i)) .i64 p.1 .i64 p.2 false L.length 1 (gl eInt 0 L) i .i64 lo .i64 hi = R := by
  have hscl := hsc.2
  have hho := hh t (by omega)
  have hw := (hsc.1 t (by omega)).1
  have hT : IntKind.i64.wrap ((t : Int) + 1) = ((t + 1 : Nat) : Int) := wrS (by omega)
  intro j
  induction j with
  | zero =>
    intro i fu p h hf h0 hq
    obtain ⟨fu, rfl⟩ : ∃ k, fu = k + 1 := ⟨fu - 1, by omega⟩
    rw [List.drop_eq_nil_of_le (by omega)] at hq
    have hq : p = q := hq
    subst hq
    rw [L38x1s, decide_eq_false (by omega), pF]
    simp only [decide_true, pT, hT]
    exact K
  | succ j ih =>
    intro i fu p h hf h0 hq
    obtain ⟨fu, rfl⟩ : ∃ k, fu = k + 1 := ⟨fu - 1, by omega⟩
    have hi : i < L.length := by omega
    have hg : gl eInt 0 L i = [.int .i64 L[i]] := by
      unfold gl
      rw [List.getD_eq_getElem?_getD, List.getElem?_eq_getElem hi]; rfl
    have hS : IntKind.i64.wrap ((i : Int) + 1) = ((i + 1 : Nat) : Int) := wrS (by omega)
    have hdr : L.drop i = L[i] :: L.drop (i + 1) := List.drop_eq_getElem_cons hi
    obtain ⟨q20, q23⟩ := ref_en F d hl hF (r := runsS (sc.el t)) hw hho.1 L[i]
    rw [hdr] at hq
    have e := ih (i + 1) fu (min p.1 (enS l (runsS (sc.el t)).el (hs.el t).flow L[i]), max p.2 (enS l (runsS (sc.el t)).el (hs.el t).flow L[i])) (by omega) (by omega) (by omega) hq
    rw [L38x1s]
    have q20' : (E F (d + 2)).pf 20 [sl eMach 10 l, .row false (runsS (sc.el t)).len 1 (fun i => eBool ((runsS (sc.el t)).el i)), .int .i64 (hs.el t).flow, .int .i64 L[i]] = _ := q20
    have q23' : (E F (d + 2)).pf 23 [sl eMach 10 l, .row false (runsS (sc.el t)).len 1 (fun i => eBool ((runsS (sc.el t)).el i)), .row false l.len 1 (fun j => eInt ((shareS l (runsS (sc.el t)).el (hs.el t).flow L[i]).sh j)), .int .i64 L[i]] = _ := q23
    simp (disch := omega) only [decide_eq_true, decide_true, pT, Int.toNat_natCast, show ((1 : Nat) == 1) = true from rfl, hg, tkCons_c, tkInt_i, tkRow_r, q20', q23', tkOut_ret, hS]
    rw [show ((i : Int) == 0) = false by rw [beq_eq_false_iff_ne]; omega, pF, mnE, mxE]
    exact e
theorem l38x0 (many A : Int) (hA : 0 ≤ A ∧ A ≤ 1000000000000) : ∀ j t fu, t + j = hs.len → j < fu → L38x0 (E F (d + 2)) F l hs sc fu .i64 many t .i64 (A + sumLo l hs.el sc.el t) .i64 (A + sumHi l hs.el sc.el t) = some (.ret (.tup [.agg [.int .i64 (A + sumLo l hs.el sc.el hs.len), .int .i64 (A + sumHi l hs.el sc.el hs.len)], .int .i64 many])) := by
  have hscl := hsc.2
  have hl2 := hl.2
  have hF1 : 1000 < F := by omega
  intro j
  induction j with
  | zero =>
    intro t fu h hf
    obtain ⟨fu, rfl⟩ : ∃ k, fu = k + 1 := ⟨fu - 1, by omega⟩
    obtain rfl : t = hs.len := by omega
    rw [L38x0s, decide_eq_false (by omega), pF]
  | succ j ih =>
    intro t fu h hf
    obtain ⟨fu, rfl⟩ : ∃ k, fu = k + 1 := ⟨fu - 1, by omega⟩
    have hb := sums_in F hl hh h24 hsc hF1 t (by omega)
    have hb' := sums_in F hl hh h24 hsc hF1 (t + 1) (by omega)
    simp only [sumLo, sumHi] at hb'
    have hho := hh t (by omega)
    have hw := (hsc.1 t (by omega)).1
    have q35 := s35 F (d + 1) (sc.el t) (by omega) hF1 (by omega)
    have q59 := s59 F (d + 1) hl hF1 hho.2
    have hlen := ratL_len F hl hF1 hho.2 (runsS (sc.el t)) hw
    have e0 := ih (t + 1) fu (by omega) (by omega)
    simp only [sumLo, sumHi] at e0
    have K : L38x0 (E F (d + 2)) F l hs sc fu .i64 many ((t + 1 : Nat) : Int) .i64 (IntKind.i64.wrap (A + sumLo l hs.el sc.el t + (hourE l (sc.el t) (hs.el t)).1)) .i64 (IntKind.i64.wrap (A + sumHi l hs.el sc.el t + (hourE l (sc.el t) (hs.el t)).2)) = some (.ret (.tup [.agg [.int .i64 (A + sumLo l hs.el sc.el hs.len), .int .i64 (A + sumHi l hs.el sc.el hs.len)], .int .i64 many])) := by
      rw [wr (by omega), wr (by omega), show A + sumLo l hs.el sc.el t + (hourE l (sc.el t) (hs.el t)).1 = A + (sumLo l hs.el sc.el t + (hourE l (sc.el t) (hs.el t)).1) by omega, show A + sumHi l hs.el sc.el t + (hourE l (sc.el t) (hs.el t)).2 = A + (sumHi l hs.el sc.el t + (hourE l (sc.el t) (hs.el t)).2) by omega]
      exact e0
    have e1 := l38x1 F d hl hh h24 hsc hF fu t (by omega) many (A + sumLo l hs.el sc.el t) (A + sumHi l hs.el sc.el t) (ratL l (hs.el t).ratio) (by omega) (hourE l (sc.el t) (hs.el t)) _ K
    have q59' : (E F (d + 2)).pf 59 [sl eMach 10 l, .agg [.int .i64 (hs.el t).ratio.lo, .int .i64 (hs.el t).ratio.hi]] = _ := q59
    rw [L38x0s]
    simp (disch := omega) only [decide_eq_true, decide_true, pT, Int.toNat_natCast, q35, q59', tkOut_ret, tkRow_r]
    obtain ⟨F', rfl⟩ : ∃ k, F = k + 1 := ⟨F - 1, by omega⟩
    have hg : gl eInt 0 (ratL l (hs.el t).ratio) 0 = [.int .i64 (hs.el t).ratio.lo] := rfl
    obtain ⟨q20, q23⟩ := ref_en (F' + 1) d hl hF (r := runsS (sc.el t)) hw hho.1 (hs.el t).ratio.lo
    have hp : 0 < (ratL l (hs.el t).ratio).length := by simp [ratL]
    have hS : IntKind.i64.wrap ((0 : Int) + 1) = ((1 : Nat) : Int) := by decide
    have e2 := e1 ((ratL l (hs.el t).ratio).length - 1) 1 F' (enS l (runsS (sc.el t)).el (hs.el t).flow (hs.el t).ratio.lo, enS l (runsS (sc.el t)).el (hs.el t).flow (hs.el t).ratio.lo) (by omega) (by omega) (by omega) rfl
    rw [L38x1s]
    simp (disch := omega) only [decide_eq_true, decide_true, pT, Int.toNat_natCast, Int.toNat_zero, show ((1 : Nat) == 1) = true from rfl, hg, tkCons_c, tkInt_i, tkRow_r, q20, q23, tkOut_ret, hS, beq_self_eq_true, ite_self]
    exact e2
theorem s38 : (E F (d + 3)).pf 38 [sl eMach 10 l, sl eHour 3 hs, sl eIL 1 sc] = some (.ret (.tup [.agg [.int .i64 (sumE l sc.el hs.len + sumLo l hs.el sc.el hs.len), .int .i64 (sumE l sc.el hs.len + sumHi l hs.el sc.el hs.len)], .int .i64 (sumN l sc.el hs.len)])) := by
  have hF1 : 1000 < F := by omega
  have q67 := s67 F d hl hh h24 hsc hF1
  have hb := sums_in F hl hh h24 hsc hF1 hs.len (by omega)
  have e := l38x0 F d hl hh h24 hsc hF (sumN l sc.el hs.len) (sumE l sc.el hs.len) (by omega) hs.len 0 F (by omega) (by omega)
  simp only [sumLo, sumHi, Int.add_zero] at e
  rw [E_pf, t38]
  simp only [q67, tkOut_ret, tkTup_t, tkCons_c, tkInt_i, tkNil_n]
  exact e
end
end Go.Sim.Pl


namespace Go.Sim.Pl
open Go.Proofs
theorem playS_sum {l : Sl Mach} {hs : Sl Hour} {sc : Sl (Sl Int)} (h : (playS l hs sc).rule = 1) :
    (playS l hs sc).lo = sumE l sc.el hs.len + sumLo l hs.el sc.el hs.len ∧ (playS l hs sc).hi = sumE l sc.el hs.len + sumHi l hs.el sc.el hs.len ∧ (playS l hs sc).many = sumN l sc.el hs.len := by
  have e := play_sum hs.el sc.el hs.len 0 0 0 0 h
  unfold playS
  simp only [Nat.zero_add, sumE, sumLo, sumHi, sumN] at e
  omega
variable (F d : Nat)
theorem law9 (hF : 140737488355330 < F) (l : Sl Mach) (hs : Sl Hour) (sc : Sl (Sl Int)) (hl : l.len ≤ 140737488355328) (hR : ∀ i, (l.el i).rows.len ≤ 140737488355328) (hh : hs.len ≤ 140737488355328) (hsc : sc.len ≤ 140737488355328) (hw : ∀ i, (sc.el i).len ≤ 140737488355328) :
    (E F (d + 43)).pf 9 [sl eMach 10 l, sl eHour 3 hs, sl eIL 1 sc] = some (.ret (.bool true)) := by
  have q16 := s16 F d (by omega)
  have q15 := s15 F (d + 41) l (lenB hl) (by omega)
  have hB := inB_of F hF hl hR hh
  have hS := schB_of F hF hsc hw
  have q31 := s31 F (d + 41) hs sc hS.1.1 hS.1.2
  have q37 := s37 F (d + 30) l hs sc (by omega) hB hS
  have q33 := s33 F (d + 38) l hs sc hB hS
  rw [E_pf, t9]
  simp only [q15, q16, q31, q33, tkOut_ret, tkBool_b]
  by_cases h1 : ShortP l
  case neg => rw [decide_eq_false h1, Bool.not_false, pT]
  rw [decide_eq_true h1, Bool.not_true, pF]
  by_cases h2 : BriefP hs sc
  case neg => rw [decide_eq_false h2, Bool.not_false, pT]
  rw [decide_eq_true h2, Bool.not_true, pF]
  by_cases h3 : errS l hs sc = 0
  · rw [if_pos h3] at q37
    obtain ⟨a1, a2, a3, a4⟩ := errS_0 h3
    have q34 := s34 F (d + 39) a1 a2 a3 a4 (by omega)
    rw [ref_playS a1 hs sc] at q34
    have q38 := s38 F (d + 39) a1 a2 a3 a4 (by omega)
    rw [h3]
    by_cases hr : (playS l hs sc).rule = 1
    · obtain ⟨e1, e2, e3⟩ := playS_sum hr
      rw [if_pos hr, e1, e2, e3] at q37
      simp only [q34, q37, q38, tkOut_ret, tkTup_t, tkCons_c, tkAgg_a, tkInt_i, tkBool_b, tkNil_n, Bool.not_true, Bool.not_false, pT, pF, dd, decide_true, beq_self_eq_true, show ((0 : Int) != 0) = false from rfl, Bool.and_self, hr, show ((1 : Int) != 1) = false from rfl]
    · rw [if_neg hr] at q37
      simp only [q34, q37, tkOut_ret, tkTup_t, tkCons_c, tkAgg_a, tkInt_i, tkBool_b, tkNil_n, Bool.not_true, Bool.not_false, pT, pF, dd, decide_true, beq_self_eq_true, show ((playS l hs sc).rule != 1) = true by simp [hr], Bool.and_self]
  · rw [if_neg h3] at q37
    simp only [q37, tkOut_ret, tkTup_t, tkCons_c, tkAgg_a, tkInt_i, tkBool_b, tkNil_n, Bool.not_true, Bool.not_false, pT, pF, dd, decide_true, beq_self_eq_true, show (errS l hs sc != 0) = true by simp [h3], show (errS l hs sc == 0) = false by simp [h3], Bool.and_self]
end Go.Sim.Pl
