import Derived.Test.YthbpdkcfnbiejaaAg
import Derived.KernelRfl
import Derived.Test.YthbpdkcfnbiejaaRows
set_option linter.unusedVariables false
set_option linter.unusedSimpArgs false
set_option linter.unusedSectionVars false
set_option maxRecDepth 100000
namespace Go.Sim.Le
open Go.Proofs
theorem t19 (env : Env) (F : Nat) (c : Cav) : (evFun Try.prog (cfg F) env 19 [(.agg (eCav c))]) = some (.ret (.bool (decide ((((Sl.len (Cav.slices c)) : Nat) : Int) ≤ (20 : Int))))) := by kernel_rfl
noncomputable def L52x0 (env : Env) (F : Nat) (l : Sl Stg) (w : Sl Int) (fu : Nat) : Option Out := atLoop Try.prog (cfg F) env 52 [.r, .r, .l, .r, .d] [] fu { tm := tmL 24 0 [(0, (sl eStg 4 l)), (1, (sl eInt 1 w)), (5, (.row true 0 0 (fun u5 => []))), (6, (i64 (0 : Int)))], hp := [] }
noncomputable def L52x1 (env : Env) (F : Nat) (l : Sl Stg) (w : Sl Int) (fu : Nat) (k0 : Nat) (i1 : Int) (k2 : Nat) (g3 : Nat → List V) : Option Out := atLoop Try.prog (cfg F) env 52 [.r, .r, .l, .r, .d] [] fu { tm := tmL 24 0 [(0, (sl eStg 4 l)), (1, (sl eInt 1 w)), (5, (.osl 0 0 k0)), (6, (i64 i1))], hp := [(.arr 40 4 k2 g3 true)] }
theorem t52 (env : Env) (F : Nat) (l : Sl Stg) (w : Sl Int) : (evFun Try.prog (cfg F) env 52 [(sl eStg 4 l), (sl eInt 1 w)]) = (L52x0 env F l w F) := by kernel_rfl
theorem L52x0s (env : Env) (F : Nat) (l : Sl Stg) (w : Sl Int) (fu : Nat) : L52x0 env F l w (fu + 1) = (bif (decide ((0 : Int) < (((Sl.len w) : Nat) : Int))) then (bif (decide ((0 : Int) < (((Sl.len w) : Nat) : Int))) then (bif (decide ((0 : Int) ≤ (Sl.el w 0))) then (bif (decide ((Sl.el w 0) < (((Sl.len l) : Nat) : Int))) then (L52x1 env F l w fu 1 (IntKind.wrap .i64 ((0 : Int) + (1 : Int))) 1 (fun u5 => (eStg (Sl.el l (Int.toNat (Sl.el w 0)))))) else none) else none) else none) else some (.ret (.row true 0 0 (fun u5 => [])))) := by kernel_rfl
theorem L52x1s (env : Env) (F : Nat) (l : Sl Stg) (w : Sl Int) (fu : Nat) (k0 : Nat) (i1 : Int) (k2 : Nat) (g3 : Nat → List V) : L52x1 env F l w (fu + 1) k0 i1 k2 g3 = (bif (decide (i1 < (((Sl.len w) : Nat) : Int))) then (bif (decide ((0 : Int) ≤ i1)) then (bif (decide (i1 < (((Sl.len w) : Nat) : Int))) then (bif (decide ((0 : Int) ≤ (Sl.el w (Int.toNat i1)))) then (bif (decide ((Sl.el w (Int.toNat i1)) < (((Sl.len l) : Nat) : Int))) then (bif (decide (((k0 + 1) * 32) ≤ 140737488355328)) then (L52x1 env F l w fu (k0 + 1) (IntKind.wrap .i64 (i1 + (1 : Int))) (k0 + 1) (appGet k0 g3 (fun u9 => (eStg (Sl.el l (Int.toNat (Sl.el w (Int.toNat i1)))))))) else none) else none) else none) else none) else none) else some (.ret (.row false k0 4 (fun u9 => (g3 u9))))) := by kernel_rfl
noncomputable def L53x0 (env : Env) (F : Nat) (l : Sl Stg) (a : Sl Int) (b : Sl Int) (fu : Nat) (i0 : Int) : Option Out := atLoop Try.prog (cfg F) env 53 [.r, .r, .r, .l, .r, .d] [] fu { tm := tmL 56 0 [(1, (sl eInt 1 a)), (2, (sl eInt 1 b)), (9, (i64 i0))], hp := [] }
theorem t53 (env : Env) (F : Nat) (l : Sl Stg) (a : Sl Int) (b : Sl Int) : (evFun Try.prog (cfg F) env 53 [(sl eStg 4 l), (sl eInt 1 a), (sl eInt 1 b)]) = (bif ((((Sl.len a) : Nat) : Int) != (((Sl.len b) : Nat) : Int)) then some (.ret (.bool (decide ((((Sl.len a) : Nat) : Int) < (((Sl.len b) : Nat) : Int))))) else (tkOut (env.pf 89 [(sl eStg 4 l), (sl eInt 1 a)]) none (fun v5 => (tkInt v5 none fun q6 n7 => (tkOut (env.pf 89 [(sl eStg 4 l), (sl eInt 1 b)]) none (fun v8 => (tkInt v8 none fun q9 n10 => (bif (decide (q6 = q9)) then (bif (n7 != n10) then (bif (decide (q6 = q9)) then some (.ret (.bool (decide (n7 < n10)))) else none) else (L53x0 env F l a b F (0 : Int))) else none))) (fun p8 => (tkIfc p8 none fun t9 x10 => (bif (flatP (.iface t9 x10)) then some (.pan (.iface t9 x10)) else none)))))) (fun p5 => (tkIfc p5 none fun t6 x7 => (bif (flatP (.iface t6 x7)) then some (.pan (.iface t6 x7)) else none))))) := by kernel_rfl
theorem L53x0s (env : Env) (F : Nat) (l : Sl Stg) (a : Sl Int) (b : Sl Int) (fu : Nat) (i0 : Int) : L53x0 env F l a b (fu + 1) i0 = (bif (decide (i0 < (((Sl.len a) : Nat) : Int))) then (bif (decide ((0 : Int) ≤ i0)) then (bif (decide (i0 < (((Sl.len a) : Nat) : Int))) then (bif (decide ((0 : Int) ≤ i0)) then (bif (decide (i0 < (((Sl.len b) : Nat) : Int))) then (bif ((Sl.el a (Int.toNat i0)) != (Sl.el b (Int.toNat i0))) then (bif (decide ((0 : Int) ≤ i0)) then (bif (decide (i0 < (((Sl.len a) : Nat) : Int))) then (bif (decide ((0 : Int) ≤ i0)) then (bif (decide (i0 < (((Sl.len b) : Nat) : Int))) then some (.ret (.bool (decide ((Sl.el a (Int.toNat i0)) < (Sl.el b (Int.toNat i0)))))) else none) else none) else none) else none) else (L53x0 env F l a b fu (IntKind.wrap .i64 (i0 + (1 : Int))))) else none) else none) else none) else none) else some (.ret (.bool false))) := by kernel_rfl
noncomputable def L74x0 (env : Env) (F : Nat) (c : Cav) (l : Sl Stg) (n : Int) (fu : Nat) (i0 : Int) (g1 : Nat → List V) : Option Out := atLoop Try.prog (cfg F) env 74 [.r, .r, .l, .r, .d] [] fu { tm := tmL 26 0 [(1, (sl eStg 4 l)), (2, (i64 n)), (3, (.optr 0 0 0)), (7, (.osl 1 0 (Int.toNat (((Sl.len (Cav.slices c)) : Nat) : Int)))), (8, (i64 i0))], hp := [(.box 24 (eCav c) true), (.arr 3 1 (Int.toNat (((Sl.len (Cav.slices c)) : Nat) : Int)) g1 true)] }
theorem t74 (env : Env) (F : Nat) (c : Cav) (l : Sl Stg) (n : Int) : (evFun Try.prog (cfg F) env 74 [(.agg (eCav c)), (sl eStg 4 l), (i64 n)]) = (bif (decide ((0 : Int) ≤ (((Sl.len (Cav.slices c)) : Nat) : Int))) then (bif (decide ((((Sl.len (Cav.slices c)) : Nat) : Int) ≤ (((Sl.len (Cav.slices c)) : Nat) : Int))) then (bif (decide ((((8 : Nat) : Int) * (((Sl.len (Cav.slices c)) : Nat) : Int)) ≤ (281474976710656 : Int))) then (bif (decide ((((Sl.len (Cav.slices c)) : Nat) : Int) ≤ (9223372036854775807 : Int))) then (L74x0 env F c l n F (0 : Int) (fun u5 => [(i64 (0 : Int))])) else none) else none) else none) else none) := by kernel_rfl
theorem L74x0s (env : Env) (F : Nat) (c : Cav) (l : Sl Stg) (n : Int) (fu : Nat) (i0 : Int) (g1 : Nat → List V) : L74x0 env F c l n (fu + 1) i0 g1 = (bif (decide (i0 ≤ n)) then (bif (decide ((0 : Int) ≤ i0)) then (bif (decide (i0 < (((Int.toNat (((Sl.len (Cav.slices c)) : Nat) : Int)) : Nat) : Int))) then (L74x0 env F c l n fu (IntKind.wrap .i64 (i0 + (1 : Int))) (updGet g1 (Int.toNat i0) 0 [(i64 (-(1 : Int)))])) else none) else none) else (tkOut (env.pf 65 [(.agg (eCav c)), (sl eStg 4 l), (.row false (Int.toNat (((Sl.len (Cav.slices c)) : Nat) : Int)) 1 (fun u8 => (g1 u8))), (i64 (1 : Int))]) none (fun v8 => (tkInt v8 none fun q9 n10 => (bif (decide (q9 = .i64)) then some (.ret (.bool (decide (n10 > (0 : Int))))) else none))) (fun p8 => (tkIfc p8 none fun t9 x10 => (bif (flatP (.iface t9 x10)) then some (.pan (.iface t9 x10)) else none))))) := by kernel_rfl
theorem t75 (env : Env) (F : Nat) (c : Cav) (n : Int) : (evFun Try.prog (cfg F) env 75 [(.agg (eCav c)), (i64 n)]) = (bif (decide ((0 : Int) ≤ (((Sl.len (Cav.slices c)) : Nat) : Int))) then (bif (decide ((((Sl.len (Cav.slices c)) : Nat) : Int) ≤ (((Sl.len (Cav.slices c)) : Nat) : Int))) then (bif (decide ((((8 : Nat) : Int) * (((Sl.len (Cav.slices c)) : Nat) : Int)) ≤ (281474976710656 : Int))) then (bif (decide ((((Sl.len (Cav.slices c)) : Nat) : Int) ≤ (9223372036854775807 : Int))) then (bif (decide ((0 : Int) ≤ n)) then (bif (decide (n < (((Int.toNat (((Sl.len (Cav.slices c)) : Nat) : Int)) : Nat) : Int))) then some (.ret (.row false (Int.toNat (((Sl.len (Cav.slices c)) : Nat) : Int)) 1 (fun u4 => (updGet (fun u5 => [(i64 (0 : Int))]) (Int.toNat n) 0 [(i64 (1 : Int))] u4)))) else none) else none) else none) else none) else none) else none) := by kernel_rfl
noncomputable def L89x0 (env : Env) (F : Nat) (l : Sl Stg) (w : Sl Int) (fu : Nat) (i0 : Int) (i1 : Int) : Option Out := atLoop Try.prog (cfg F) env 89 [.r, .r, .l, .r, .d] [] fu { tm := tmL 24 0 [(0, (sl eStg 4 l)), (1, (sl eInt 1 w)), (5, (i64 i0)), (6, (i64 i1))], hp := [] }
theorem t89 (env : Env) (F : Nat) (l : Sl Stg) (w : Sl Int) : (evFun Try.prog (cfg F) env 89 [(sl eStg 4 l), (sl eInt 1 w)]) = (L89x0 env F l w F (0 : Int) (0 : Int)) := by kernel_rfl
theorem L89x0s (env : Env) (F : Nat) (l : Sl Stg) (w : Sl Int) (fu : Nat) (i0 : Int) (i1 : Int) : L89x0 env F l w (fu + 1) i0 i1 = (bif (decide (i1 < (((Sl.len w) : Nat) : Int))) then (bif (decide ((0 : Int) ≤ i1)) then (bif (decide (i1 < (((Sl.len w) : Nat) : Int))) then (bif (decide ((0 : Int) ≤ (Sl.el w (Int.toNat i1)))) then (bif (decide ((Sl.el w (Int.toNat i1)) < (((Sl.len l) : Nat) : Int))) then (L89x0 env F l w fu (IntKind.wrap .i64 (i0 + (Stg.water (Sl.el l (Int.toNat (Sl.el w (Int.toNat i1))))))) (IntKind.wrap .i64 (i1 + (1 : Int)))) else none) else none) else none) else none) else some (.ret (i64 i0))) := by kernel_rfl
noncomputable def L31x0 (env : Env) (F : Nat) (c : Cav) (l : Sl Stg) (fu : Nat) (i0 : Int) : Option Out := atLoop Try.prog (cfg F) env 31 [.r, .l, .r, .d] [] fu { tm := tmL 111 0 [(1, (sl eStg 4 l)), (2, (.optr 0 0 0)), (7, (i64 i0))], hp := [(.box 24 (eCav c) true)] }
noncomputable def L31x1 (env : Env) (F : Nat) (c : Cav) (l : Sl Stg) (m0 : Nat) (fu : Nat) (i0 : Int) (i1 : Int) (i2 : Int) (i3 : Int) (i4 : Int) (i5 : Int) (g6 : Nat → List V) : Option Out := atLoop Try.prog (cfg F) env 31 [.r, .l, .r, .d, .d, .r, .l, .d, .r, .r, .r, .r, .l, .r, .d] [m0] fu { tm := tmL 111 0 [(1, (sl eStg 4 l)), (2, (.optr 0 0 0)), (7, (i64 i0)), (8, (.optr 1 0 0)), (10, (.osl 2 0 (Int.toNat (((Sl.len (Cav.slices c)) : Nat) : Int)))), (11, (i64 i1))], hp := [(.box 24 (eCav c) true), (.box 40 [(i64 i2), (i64 i3), (i64 i4), (i64 i5)] true), (.arr 3 1 (Int.toNat (((Sl.len (Cav.slices c)) : Nat) : Int)) g6 true)] }
noncomputable def L31x2 (env : Env) (F : Nat) (c : Cav) (l : Sl Stg) (m0 : Nat) (fu : Nat) (i0 : Int) (i1 : Int) : Option Out := atLoop Try.prog (cfg F) env 31 [.r, .l, .r, .d, .d, .r, .l, .d, .r, .r, .r, .r, .r, .r, .r, .d] [m0] fu { tm := tmL 111 0 [(1, (sl eStg 4 l)), (2, (.optr 0 0 0)), (7, (i64 i0)), (12, (i64 i1))], hp := [(.box 24 (eCav c) true)] }
theorem t31 (env : Env) (F : Nat) (c : Cav) (l : Sl Stg) : (evFun Try.prog (cfg F) env 31 [(.agg (eCav c)), (sl eStg 4 l)]) = (L31x0 env F c l F (0 : Int)) := by kernel_rfl
theorem L31x0s (env : Env) (F : Nat) (c : Cav) (l : Sl Stg) (fu : Nat) (i0 : Int) : L31x0 env F c l (fu + 1) i0 = (bif (decide (i0 < (((Sl.len l) : Nat) : Int))) then (bif (decide ((0 : Int) ≤ i0)) then (bif (decide (i0 < (((Sl.len l) : Nat) : Int))) then (bif (decide ((if (Stg.into (Sl.el l (Int.toNat i0))) < (Stg.out (Sl.el l (Int.toNat i0))) then (Stg.out (Sl.el l (Int.toNat i0))) else (Stg.into (Sl.el l (Int.toNat i0)))) ≥ (Stg.blanket (Sl.el l (Int.toNat i0))))) then some (.ret (.tup [(i64 i0), (i64 (2 : Int)), (i64 (if (Stg.into (Sl.el l (Int.toNat i0))) < (Stg.out (Sl.el l (Int.toNat i0))) then (Stg.out (Sl.el l (Int.toNat i0))) else (Stg.into (Sl.el l (Int.toNat i0)))))])) else (bif (true || (Sl.nl l)) then (bif (decide ((0 : Int) ≤ i0)) then (bif (decide (0 ≤ (Int.toNat i0))) then (bif (decide ((Int.toNat i0) ≤ (Sl.len l))) then (tkOut (env.pf 74 [(.agg (eCav c)), (.row (Sl.nl l) ((Int.toNat i0) - 0) 4 (fun u6 => (eStg (Sl.el l u6)))), (i64 (if (Stg.out (Sl.el l (Int.toNat i0))) < (Stg.into (Sl.el l (Int.toNat i0))) then (Stg.out (Sl.el l (Int.toNat i0))) else (Stg.into (Sl.el l (Int.toNat i0)))))]) none (fun v6 => (tkBool v6 none fun b7 => (bif b7 then some (.ret (.tup [(i64 i0), (i64 (3 : Int)), (i64 (if (Stg.out (Sl.el l (Int.toNat i0))) < (Stg.into (Sl.el l (Int.toNat i0))) then (Stg.out (Sl.el l (Int.toNat i0))) else (Stg.into (Sl.el l (Int.toNat i0)))))])) else (bif (true || (Sl.nl l)) then (bif (decide ((0 : Int) ≤ (IntKind.wrap .i64 (i0 + (1 : Int))))) then (bif (decide (0 ≤ (Int.toNat (IntKind.wrap .i64 (i0 + (1 : Int)))))) then (bif (decide ((Int.toNat (IntKind.wrap .i64 (i0 + (1 : Int)))) ≤ (Sl.len l))) then (tkOut (env.pf 74 [(.agg (eCav c)), (.row (Sl.nl l) ((Int.toNat (IntKind.wrap .i64 (i0 + (1 : Int)))) - 0) 4 (fun u8 => (eStg (Sl.el l u8)))), (i64 (if (Stg.out (Sl.el l (Int.toNat i0))) < (Stg.into (Sl.el l (Int.toNat i0))) then (Stg.out (Sl.el l (Int.toNat i0))) else (Stg.into (Sl.el l (Int.toNat i0)))))]) none (fun v8 => (tkBool v8 none fun b9 => (bif b9 then some (.ret (.tup [(i64 i0), (i64 (3 : Int)), (i64 (if (Stg.out (Sl.el l (Int.toNat i0))) < (Stg.into (Sl.el l (Int.toNat i0))) then (Stg.out (Sl.el l (Int.toNat i0))) else (Stg.into (Sl.el l (Int.toNat i0)))))])) else (bif (decide ((0 : Int) ≤ (((Sl.len (Cav.slices c)) : Nat) : Int))) then (bif (decide ((((Sl.len (Cav.slices c)) : Nat) : Int) ≤ (((Sl.len (Cav.slices c)) : Nat) : Int))) then (bif (decide ((((8 : Nat) : Int) * (((Sl.len (Cav.slices c)) : Nat) : Int)) ≤ (281474976710656 : Int))) then (bif (decide ((((Sl.len (Cav.slices c)) : Nat) : Int) ≤ (9223372036854775807 : Int))) then (L31x1 env F c l fu F i0 (Stg.blanket (Sl.el l (Int.toNat i0))) (Stg.water (Sl.el l (Int.toNat i0))) (Stg.into (Sl.el l (Int.toNat i0))) (Stg.out (Sl.el l (Int.toNat i0))) (Stg.blanket (Sl.el l (Int.toNat i0))) (fun u10 => [(i64 (0 : Int))])) else none) else none) else none) else none)))) (fun p8 => (tkIfc p8 none fun t9 x10 => (bif (flatP (.iface t9 x10)) then some (.pan (.iface t9 x10)) else none)))) else none) else none) else none) else none)))) (fun p6 => (tkIfc p6 none fun t7 x8 => (bif (flatP (.iface t7 x8)) then some (.pan (.iface t7 x8)) else none)))) else none) else none) else none) else none)) else none) else none) else some (.ret (.tup [(i64 (-(1 : Int))), (i64 (1 : Int)), (i64 (0 : Int))]))) := by kernel_rfl
theorem L31x1s (env : Env) (F : Nat) (c : Cav) (l : Sl Stg) (m0 : Nat) (fu : Nat) (i0 : Int) (i1 : Int) (i2 : Int) (i3 : Int) (i4 : Int) (i5 : Int) (g6 : Nat → List V) : L31x1 env F c l m0 (fu + 1) i0 i1 i2 i3 i4 i5 g6 = (bif (decide (i1 < (((Int.toNat (((Sl.len (Cav.slices c)) : Nat) : Int)) : Nat) : Int))) then (bif (decide ((0 : Int) ≤ i1)) then (bif (decide (i1 < (((Int.toNat (((Sl.len (Cav.slices c)) : Nat) : Int)) : Nat) : Int))) then (L31x1 env F c l m0 fu i0 (IntKind.wrap .i64 (i1 + (1 : Int))) i2 i3 i4 i5 (updGet g6 (Int.toNat i1) 0 [(i64 (1 : Int))])) else none) else none) else (bif (true || (Sl.nl l)) then (bif (decide ((0 : Int) ≤ i0)) then (bif (decide (0 ≤ (Int.toNat i0))) then (bif (decide ((Int.toNat i0) ≤ (Sl.len l))) then (tkOut (env.pf 65 [(.agg (eCav c)), (.row (Sl.nl l) ((Int.toNat i0) - 0) 4 (fun u13 => (eStg (Sl.el l u13)))), (.row false (Int.toNat (((Sl.len (Cav.slices c)) : Nat) : Int)) 1 (fun u13 => (g6 u13))), (i64 (0 : Int))]) none (fun v13 => (tkInt v13 none fun q14 n15 => (bif (decide (q14 = .i64)) then (bif (decide (n15 > (Cav.oil c))) then some (.ret (.tup [(i64 i0), (i64 (4 : Int)), (i64 i5)])) else (L31x2 env F c l m0 F i0 (0 : Int))) else none))) (fun p13 => (tkIfc p13 none fun t14 x15 => (bif (flatP (.iface t14 x15)) then none else none)))) else none) else none) else none) else none)) := by kernel_rfl
theorem L31x2s (env : Env) (F : Nat) (c : Cav) (l : Sl Stg) (m0 : Nat) (fu : Nat) (i0 : Int) (i1 : Int) : L31x2 env F c l m0 (fu + 1) i0 i1 = (bif (decide (i1 < (((Sl.len (Cav.slices c)) : Nat) : Int))) then (bif (true || (Sl.nl l)) then (bif (decide ((0 : Int) ≤ (IntKind.wrap .i64 (i0 + (1 : Int))))) then (bif (decide (0 ≤ (Int.toNat (IntKind.wrap .i64 (i0 + (1 : Int)))))) then (bif (decide ((Int.toNat (IntKind.wrap .i64 (i0 + (1 : Int)))) ≤ (Sl.len l))) then (tkOut (env.pf 75 [(.agg (eCav c)), (i64 i1)]) none (fun v8 => (tkRow v8 none fun nl9 n10 wd11 g12 => (tkOut (env.pf 65 [(.agg (eCav c)), (.row (Sl.nl l) ((Int.toNat (IntKind.wrap .i64 (i0 + (1 : Int)))) - 0) 4 (fun u13 => (eStg (Sl.el l u13)))), (.row nl9 n10 wd11 g12), (i64 (0 : Int))]) none (fun v13 => (tkInt v13 none fun q14 n15 => (bif (decide ((0 : Int) ≤ i1)) then (bif (decide (i1 < (((Sl.len (Cav.slices c)) : Nat) : Int))) then (bif (decide (q14 = .i64)) then (bif (decide (n15 > (Slc.most (Sl.el (Cav.slices c) (Int.toNat i1))))) then some (.ret (.tup [(i64 i0), (i64 (5 : Int)), (i64 i1)])) else (L31x2 env F c l m0 fu i0 (IntKind.wrap .i64 (i1 + (1 : Int))))) else none) else none) else none))) (fun p13 => (tkIfc p13 none fun t14 x15 => (bif (flatP (.iface t14 x15)) then none else none)))))) (fun p8 => (tkIfc p8 none fun t9 x10 => (bif (flatP (.iface t9 x10)) then none else none)))) else none) else none) else none) else none) else (L31x0 env F c l m0 (IntKind.wrap .i64 (i0 + (1 : Int))))) := by kernel_rfl
noncomputable def L34x0 (env : Env) (F : Nat) (c : Cav) (l : Sl Stg) (w : Sl Int) (fu : Nat) (i0 : Int) : Option Out := atLoop Try.prog (cfg F) env 34 [.r, .l, .r, .d] [] fu { tm := tmL 54 0 [(1, (sl eStg 4 l)), (2, (sl eInt 1 w)), (3, (.optr 0 0 0)), (8, (i64 i0))], hp := [(.box 24 (eCav c) true)] }
noncomputable def L34x1 (env : Env) (F : Nat) (c : Cav) (l : Sl Stg) (w : Sl Int) (m0 : Nat) (fu : Nat) (i0 : Int) (b1 : Bool) (k2 : Nat) (k3 : Nat) (g4 : Nat → List V) (b5 : Bool) (k6 : Nat) (k7 : Nat) (g8 : Nat → List V) (b9 : Bool) (i10 : Int) : Option Out := atLoop Try.prog (cfg F) env 34 [.r, .l, .r, .d, .d, .r, .l, .d, .r, .r, .r, .l, .r, .d] [m0] fu { tm := tmL 54 0 [(1, (sl eStg 4 l)), (2, (sl eInt 1 w)), (3, (.optr 0 0 0)), (8, (i64 i0)), (9, (.row b1 k2 k3 g4)), (10, (.row b5 k6 k7 g8)), (11, (.bool b9)), (12, (i64 i10))], hp := [(.box 24 (eCav c) true)] }
theorem t34 (env : Env) (F : Nat) (c : Cav) (l : Sl Stg) (w : Sl Int) : (evFun Try.prog (cfg F) env 34 [(.agg (eCav c)), (sl eStg 4 l), (sl eInt 1 w)]) = (L34x0 env F c l w F (0 : Int)) := by kernel_rfl
theorem L34x0s (env : Env) (F : Nat) (c : Cav) (l : Sl Stg) (w : Sl Int) (fu : Nat) (i0 : Int) : L34x0 env F c l w (fu + 1) i0 = (bif (decide (i0 ≤ (5 : Int))) then (tkOut (env.pf 80 [(sl eStg 4 l), (i64 i0)]) none (fun v7 => (tkRow v7 none fun nl8 n9 wd10 g11 => (L34x1 env F c l w fu F i0 nl8 n9 wd10 g11 true 0 0 (fun u12 => []) false (0 : Int)))) (fun p7 => (tkIfc p7 none fun t8 x9 => (bif (flatP (.iface t8 x9)) then some (.pan (.iface t8 x9)) else none)))) else some (.ret (.tup [(.row true 0 0 (fun u7 => [])), (.bool false)]))) := by kernel_rfl
theorem L34x1s (env : Env) (F : Nat) (c : Cav) (l : Sl Stg) (w : Sl Int) (m0 : Nat) (fu : Nat) (i0 : Int) (b1 : Bool) (k2 : Nat) (k3 : Nat) (g4 : Nat → List V) (b5 : Bool) (k6 : Nat) (k7 : Nat) (g8 : Nat → List V) (b9 : Bool) (i10 : Int) : L34x1 env F c l w m0 (fu + 1) i0 b1 k2 k3 g4 b5 k6 k7 g8 b9 i10 = (bif (decide (i10 < ((k2 : Nat) : Int))) then (bif (k3 == 1) then (bif (decide ((0 : Int) ≤ i10)) then (bif (decide (i10 < ((k2 : Nat) : Int))) then (tkCons (g4 (Int.toNat i10)) none fun v18 r19 => (tkRow v18 none fun nl20 n21 wd22 g23 => (tkOut (env.pf 52 [(sl eStg 4 l), (.row nl20 n21 wd22 g23)]) none (fun v24 => (tkRow v24 none fun nl25 n26 wd27 g28 => (tkOut (env.pf 81 [(.agg (eCav c)), (.row nl25 n26 wd27 g28), (sl eInt 1 w)]) none (fun v29 => (tkBool v29 none fun b30 => (bif b30 then (bif (!b9) then (bif (k3 == 1) then (bif (decide ((0 : Int) ≤ i10)) then (bif (decide (i10 < ((k2 : Nat) : Int))) then (tkCons (g4 (Int.toNat i10)) none fun v31 r32 => (tkRow v31 none fun nl33 n34 wd35 g36 => (L34x1 env F c l w m0 fu i0 b1 k2 k3 g4 nl33 n34 wd35 g36 true (IntKind.wrap .i64 (i10 + (1 : Int)))))) else none) else none) else none) else (bif (k3 == 1) then (bif (decide ((0 : Int) ≤ i10)) then (bif (decide (i10 < ((k2 : Nat) : Int))) then (tkCons (g4 (Int.toNat i10)) none fun v31 r32 => (tkRow v31 none fun nl33 n34 wd35 g36 => (tkOut (env.pf 53 [(sl eStg 4 l), (.row nl33 n34 wd35 g36), (.row b5 k6 k7 g8)]) none (fun v37 => (tkBool v37 none fun b38 => (bif b38 then (bif (k3 == 1) then (bif (decide ((0 : Int) ≤ i10)) then (bif (decide (i10 < ((k2 : Nat) : Int))) then (tkCons (g4 (Int.toNat i10)) none fun v39 r40 => (tkRow v39 none fun nl41 n42 wd43 g44 => (L34x1 env F c l w m0 fu i0 b1 k2 k3 g4 nl41 n42 wd43 g44 true (IntKind.wrap .i64 (i10 + (1 : Int)))))) else none) else none) else none) else (L34x1 env F c l w m0 fu i0 b1 k2 k3 g4 b5 k6 k7 g8 b9 (IntKind.wrap .i64 (i10 + (1 : Int))))))) (fun p37 => (tkIfc p37 none fun t38 x39 => (bif (flatP (.iface t38 x39)) then some (.pan (.iface t38 x39)) else none)))))) else none) else none) else none)) else (L34x1 env F c l w m0 fu i0 b1 k2 k3 g4 b5 k6 k7 g8 b9 (IntKind.wrap .i64 (i10 + (1 : Int))))))) (fun p29 => (tkIfc p29 none fun t30 x31 => (bif (flatP (.iface t30 x31)) then some (.pan (.iface t30 x31)) else none)))))) (fun p24 => (tkIfc p24 none fun t25 x26 => (bif (flatP (.iface t25 x26)) then none else none)))))) else none) else none) else none) else (bif b9 then some (.ret (.tup [(.row b5 k6 k7 g8), (.bool true)])) else (L34x0 env F c l w m0 (IntKind.wrap .i64 (i0 + (1 : Int)))))) := by kernel_rfl
noncomputable def L80x0 (env : Env) (F : Nat) (l : Sl Stg) (n : Int) (fu : Nat) (k0 : Nat) (i1 : Int) (k2 : Nat) (g3 : Nat → List V) : Option Out := atLoop Try.prog (cfg F) env 80 [.r, .r, .l, .r, .d] [] fu { tm := tmL 41 0 [(0, (sl eStg 4 l)), (1, (i64 n)), (5, (.osl 0 0 k0)), (6, (i64 i1))], hp := [(.arr 26 1 k2 g3 true)] }
noncomputable def L80x1 (env : Env) (F : Nat) (l : Sl Stg) (n : Int) (m0 : Nat) (fu : Nat) (k0 : Nat) (i1 : Int) (i2 : Int) (k3 : Nat) (g4 : Nat → List V) : Option Out := atLoop Try.prog (cfg F) env 80 [.r, .r, .l, .r, .d, .d, .r, .l, .d, .r, .l, .r, .d] [m0] fu { tm := tmL 41 0 [(0, (sl eStg 4 l)), (1, (i64 n)), (5, (.osl 0 0 k0)), (6, (i64 i1)), (7, (.row true 0 0 (fun u11 => []))), (8, (i64 i2))], hp := [(.arr 26 1 k3 g4 true)] }
noncomputable def L80x2 (env : Env) (F : Nat) (l : Sl Stg) (n : Int) (m0 : Nat) (m1 : Nat) (fu : Nat) (k0 : Nat) (i1 : Int) (i2 : Int) (k3 : Nat) (g4 : Nat → List V) : Option Out := atLoop Try.prog (cfg F) env 80 [.r, .r, .l, .r, .d, .d, .r, .l, .d, .r, .l, .r, .d, .d, .r, .l, .d, .r, .d] [m0, m1] fu { tm := tmL 41 0 [(0, (sl eStg 4 l)), (1, (i64 n)), (5, (.osl 0 0 k0)), (6, (i64 i1)), (7, (.row true 0 0 (fun u12 => []))), (8, (i64 i2)), (9, (i64 (0 : Int)))], hp := [(.arr 26 1 k3 g4 true)] }
noncomputable def L80x3 (env : Env) (F : Nat) (l : Sl Stg) (n : Int) (m0 : Nat) (m1 : Nat) (fu : Nat) (k0 : Nat) (i1 : Int) (k2 : Nat) (i3 : Int) (i4 : Int) (k5 : Nat) (g6 : Nat → List V) (k7 : Nat) (g8 : Nat → List V) : Option Out := atLoop Try.prog (cfg F) env 80 [.r, .r, .l, .r, .d, .d, .r, .l, .d, .r, .l, .r, .d, .d, .r, .l, .d, .r, .d] [m0, m1] fu { tm := tmL 41 0 [(0, (sl eStg 4 l)), (1, (i64 n)), (5, (.osl 0 0 k0)), (6, (i64 i1)), (7, (.osl 1 0 k2)), (8, (i64 i3)), (9, (i64 i4))], hp := [(.arr 26 1 k5 g6 true), (.arr 26 1 k7 g8 true)] }
noncomputable def L80x4 (env : Env) (F : Nat) (l : Sl Stg) (n : Int) (m0 : Nat) (fu : Nat) (k0 : Nat) (i1 : Int) (k2 : Nat) (i3 : Int) (k4 : Nat) (g5 : Nat → List V) (k6 : Nat) (g7 : Nat → List V) : Option Out := atLoop Try.prog (cfg F) env 80 [.r, .r, .l, .r, .d, .d, .r, .l, .d, .r, .l, .r, .d] [m0] fu { tm := tmL 41 0 [(0, (sl eStg 4 l)), (1, (i64 n)), (5, (.osl 0 0 k0)), (6, (i64 i1)), (7, (.osl 1 0 k2)), (8, (i64 i3))], hp := [(.arr 26 1 k4 g5 true), (.arr 26 1 k6 g7 true)] }
noncomputable def L80x5 (env : Env) (F : Nat) (l : Sl Stg) (n : Int) (fu : Nat) (i0 : Int) : Option Out := atLoop Try.prog (cfg F) env 80 [.r, .r, .l, .r, .d] [] fu { tm := tmL 41 0 [(0, (sl eStg 4 l)), (1, (i64 n)), (5, (.row true 0 0 (fun u6 => []))), (6, (i64 i0))], hp := [] }
noncomputable def L80x6 (env : Env) (F : Nat) (l : Sl Stg) (n : Int) (m0 : Nat) (fu : Nat) (i0 : Int) : Option Out := atLoop Try.prog (cfg F) env 80 [.r, .r, .l, .r, .d, .d, .r, .l, .d, .r, .l, .r, .d] [m0] fu { tm := tmL 41 0 [(0, (sl eStg 4 l)), (1, (i64 n)), (5, (.row true 0 0 (fun u7 => []))), (6, (i64 i0)), (7, (.row true 0 0 (fun u7 => []))), (8, (i64 (0 : Int)))], hp := [] }
theorem t80 (env : Env) (F : Nat) (l : Sl Stg) (n : Int) : (evFun Try.prog (cfg F) env 80 [(sl eStg 4 l), (i64 n)]) = (L80x0 env F l n F 1 (0 : Int) 1 (fun u4 => [(.row true 0 0 (fun u5 => []))])) := by kernel_rfl
theorem L80x0s (env : Env) (F : Nat) (l : Sl Stg) (n : Int) (fu : Nat) (k0 : Nat) (i1 : Int) (k2 : Nat) (g3 : Nat → List V) : L80x0 env F l n (fu + 1) k0 i1 k2 g3 = (bif (decide (i1 < n)) then (L80x1 env F l n fu F k0 i1 (0 : Int) k2 g3) else some (.ret (.row false k0 1 (fun u9 => (g3 u9))))) := by kernel_rfl
theorem L80x1s (env : Env) (F : Nat) (l : Sl Stg) (n : Int) (m0 : Nat) (fu : Nat) (k0 : Nat) (i1 : Int) (i2 : Int) (k3 : Nat) (g4 : Nat → List V) : L80x1 env F l n m0 (fu + 1) k0 i1 i2 k3 g4 = (bif (decide (i2 < ((k0 : Nat) : Int))) then (L80x2 env F l n m0 fu F k0 i1 i2 k3 g4) else (L80x5 env F l n m0 (IntKind.wrap .i64 (i1 + (1 : Int))))) := by kernel_rfl
theorem L80x2s (env : Env) (F : Nat) (l : Sl Stg) (n : Int) (m0 : Nat) (m1 : Nat) (fu : Nat) (k0 : Nat) (i1 : Int) (i2 : Int) (k3 : Nat) (g4 : Nat → List V) : L80x2 env F l n m0 m1 (fu + 1) k0 i1 i2 k3 g4 = (bif (decide ((0 : Int) < (((Sl.len l) : Nat) : Int))) then (bif (decide ((0 : Int) ≤ i2)) then (bif (decide (i2 < ((k0 : Nat) : Int))) then (tkCons (g4 (Int.toNat i2)) none fun v12 r13 => (tkRow v12 none fun nl14 n15 wd16 g17 => (bif nl14 then (L80x3 env F l n m0 m1 fu k0 i1 1 i2 (IntKind.wrap .i64 ((0 : Int) + (1 : Int))) k3 g4 1 (fun u18 => [(.row false 1 1 (fun u19 => [(i64 (0 : Int))]))])) else (bif (wd16 == 1) then (bif (n15 == 0) then (L80x3 env F l n m0 m1 fu k0 i1 1 i2 (IntKind.wrap .i64 ((0 : Int) + (1 : Int))) k3 g4 1 (fun u18 => [(.row false 1 1 (fun u19 => [(i64 (0 : Int))]))])) else (bif (decide ((n15 * 8) ≤ 140737488355328)) then (bif (decide (((n15 + 1) * 8) ≤ 140737488355328)) then (L80x3 env F l n m0 m1 fu k0 i1 1 i2 (IntKind.wrap .i64 ((0 : Int) + (1 : Int))) k3 g4 1 (fun u18 => [(.row false (n15 + 1) 1 (fun u19 => (appGet n15 g17 (fun u20 => [(i64 (0 : Int))]) u19)))])) else none) else none)) else none)))) else none) else none) else (L80x1 env F l n m0 m1 k0 i1 (IntKind.wrap .i64 (i2 + (1 : Int))) k3 g4)) := by kernel_rfl
theorem L80x3s (env : Env) (F : Nat) (l : Sl Stg) (n : Int) (m0 : Nat) (m1 : Nat) (fu : Nat) (k0 : Nat) (i1 : Int) (k2 : Nat) (i3 : Int) (i4 : Int) (k5 : Nat) (g6 : Nat → List V) (k7 : Nat) (g8 : Nat → List V) : L80x3 env F l n m0 m1 (fu + 1) k0 i1 k2 i3 i4 k5 g6 k7 g8 = (bif (decide (i4 < (((Sl.len l) : Nat) : Int))) then (bif (decide ((0 : Int) ≤ i3)) then (bif (decide (i3 < ((k0 : Nat) : Int))) then (tkCons (g6 (Int.toNat i3)) none fun v16 r17 => (tkRow v16 none fun nl18 n19 wd20 g21 => (bif nl18 then (bif (decide (((k2 + 1) * 24) ≤ 140737488355328)) then (L80x3 env F l n m0 m1 fu k0 i1 (k2 + 1) i3 (IntKind.wrap .i64 (i4 + (1 : Int))) k5 g6 (k2 + 1) (appGet k2 g8 (fun u22 => [(.row false 1 1 (fun u23 => [(i64 i4)]))]))) else none) else (bif (wd20 == 1) then (bif (n19 == 0) then (bif (decide (((k2 + 1) * 24) ≤ 140737488355328)) then (L80x3 env F l n m0 m1 fu k0 i1 (k2 + 1) i3 (IntKind.wrap .i64 (i4 + (1 : Int))) k5 g6 (k2 + 1) (appGet k2 g8 (fun u22 => [(.row false 1 1 (fun u23 => [(i64 i4)]))]))) else none) else (bif (decide ((n19 * 8) ≤ 140737488355328)) then (bif (decide (((n19 + 1) * 8) ≤ 140737488355328)) then (bif (decide (((k2 + 1) * 24) ≤ 140737488355328)) then (L80x3 env F l n m0 m1 fu k0 i1 (k2 + 1) i3 (IntKind.wrap .i64 (i4 + (1 : Int))) k5 g6 (k2 + 1) (appGet k2 g8 (fun u22 => [(.row false (n19 + 1) 1 (fun u23 => (appGet n19 g21 (fun u24 => [(i64 i4)]) u23)))]))) else none) else none) else none)) else none)))) else none) else none) else (L80x4 env F l n m0 m1 k0 i1 k2 (IntKind.wrap .i64 (i3 + (1 : Int))) k5 g6 k7 g8)) := by kernel_rfl
theorem L80x4s (env : Env) (F : Nat) (l : Sl Stg) (n : Int) (m0 : Nat) (fu : Nat) (k0 : Nat) (i1 : Int) (k2 : Nat) (i3 : Int) (k4 : Nat) (g5 : Nat → List V) (k6 : Nat) (g7 : Nat → List V) : L80x4 env F l n m0 (fu + 1) k0 i1 k2 i3 k4 g5 k6 g7 = (bif (decide (i3 < ((k0 : Nat) : Int))) then (L80x3 env F l n m0 fu F k0 i1 k2 i3 (0 : Int) k4 g5 k6 g7) else (L80x0 env F l n m0 k2 (IntKind.wrap .i64 (i1 + (1 : Int))) k6 g7)) := by kernel_rfl
theorem L80x5s (env : Env) (F : Nat) (l : Sl Stg) (n : Int) (fu : Nat) (i0 : Int) : L80x5 env F l n (fu + 1) i0 = (bif (decide (i0 < n)) then (L80x6 env F l n fu F i0) else some (.ret (.row true 0 0 (fun u6 => [])))) := by kernel_rfl
theorem L80x6s (env : Env) (F : Nat) (l : Sl Stg) (n : Int) (m0 : Nat) (fu : Nat) (i0 : Int) : L80x6 env F l n m0 (fu + 1) i0 = (L80x5 env F l n m0 (IntKind.wrap .i64 (i0 + (1 : Int)))) := by kernel_rfl
noncomputable def L81x0 (env : Env) (F : Nat) (c : Cav) (l : Sl Stg) (w : Sl Int) (fu : Nat) (i0 : Int) : Option Out := atLoop Try.prog (cfg F) env 81 [.r, .r, .l, .r, .d] [] fu { tm := tmL 38 0 [(1, (sl eStg 4 l)), (2, (sl eInt 1 w)), (3, (.optr 0 0 0)), (10, (i64 i0))], hp := [(.box 24 (eCav c) true)] }
theorem t81 (env : Env) (F : Nat) (c : Cav) (l : Sl Stg) (w : Sl Int) : (evFun Try.prog (cfg F) env 81 [(.agg (eCav c)), (sl eStg 4 l), (sl eInt 1 w)]) = (tkOut (env.pf 31 [(.agg (eCav c)), (sl eStg 4 l)]) none (fun v5 => (tkTup v5 none fun l6 => (tkCons l6 none fun v7 r8 => (tkInt v7 none fun q9 n10 => (tkCons r8 none fun v11 r12 => (tkInt v11 none fun q13 n14 => (tkCons r12 none fun v15 r16 => (tkInt v15 none fun q17 n18 => (tkNil r16 none ((bif (decide (q13 = .i64)) then (bif (n14 != (1 : Int)) then some (.ret (.bool false)) else (L81x0 env F c l w F (0 : Int))) else none))))))))))) (fun p5 => (tkIfc p5 none fun t6 x7 => (bif (flatP (.iface t6 x7)) then some (.pan (.iface t6 x7)) else none)))) := by kernel_rfl
theorem L81x0s (env : Env) (F : Nat) (c : Cav) (l : Sl Stg) (w : Sl Int) (fu : Nat) (i0 : Int) : L81x0 env F c l w (fu + 1) i0 = (bif (decide (i0 < (((Sl.len w) : Nat) : Int))) then (tkOut (env.pf 75 [(.agg (eCav c)), (i64 i0)]) none (fun v7 => (tkRow v7 none fun nl8 n9 wd10 g11 => (tkOut (env.pf 25 [(.agg (eCav c)), (sl eStg 4 l), (.row nl8 n9 wd10 g11), (i64 (0 : Int))]) none (fun v12 => (tkAgg v12 none fun l13 => (tkCons l13 none fun v14 r15 => (tkInt v14 none fun q16 n17 => (tkCons r15 none fun v18 r19 => (tkInt v18 none fun q20 n21 => (tkNil r19 none ((bif (decide ((0 : Int) ≤ i0)) then (bif (decide (i0 < (((Sl.len w) : Nat) : Int))) then (bif (decide (q16 = .i64)) then (bif (decide (n17 < (Sl.el w (Int.toNat i0)))) then some (.ret (.bool false)) else (L81x0 env F c l w fu (IntKind.wrap .i64 (i0 + (1 : Int))))) else none) else none) else none))))))))) (fun p12 => (tkIfc p12 none fun t13 x14 => (bif (flatP (.iface t13 x14)) then none else none)))))) (fun p7 => (tkIfc p7 none fun t8 x9 => (bif (flatP (.iface t8 x9)) then none else none)))) else some (.ret (.bool true))) := by kernel_rfl
noncomputable def L310x0 (env : Env) (F : Nat) (c : Cav) (fu : Nat) : Option Out := atLoop Try.prog (cfg F) env 31 [.r, .l, .r, .d] [] fu { tm := tmL 111 0 [(1, (.row true 0 0 (fun u4 => []))), (2, (.optr 0 0 0)), (7, (i64 (0 : Int)))], hp := [(.box 24 (eCav c) true)] }
theorem t310 (env : Env) (F : Nat) (c : Cav) : (evFun Try.prog (cfg F) env 31 [(.agg (eCav c)), (.row true 0 0 (fun u3 => []))]) = (L310x0 env F c F) := by kernel_rfl
theorem L310x0s (env : Env) (F : Nat) (c : Cav) (fu : Nat) : L310x0 env F c (fu + 1) = some (.ret (.tup [(i64 (-(1 : Int))), (i64 (1 : Int)), (i64 (0 : Int))])) := by kernel_rfl
noncomputable def L810x0 (env : Env) (F : Nat) (c : Cav) (w : Sl Int) (fu : Nat) (i0 : Int) : Option Out := atLoop Try.prog (cfg F) env 81 [.r, .r, .l, .r, .d] [] fu { tm := tmL 38 0 [(1, (.row true 0 0 (fun u6 => []))), (2, (sl eInt 1 w)), (3, (.optr 0 0 0)), (10, (i64 i0))], hp := [(.box 24 (eCav c) true)] }
theorem t810 (env : Env) (F : Nat) (c : Cav) (w : Sl Int) : (evFun Try.prog (cfg F) env 81 [(.agg (eCav c)), (.row true 0 0 (fun u4 => [])), (sl eInt 1 w)]) = (tkOut (env.pf 31 [(.agg (eCav c)), (.row true 0 0 (fun u4 => []))]) none (fun v4 => (tkTup v4 none fun l5 => (tkCons l5 none fun v6 r7 => (tkInt v6 none fun q8 n9 => (tkCons r7 none fun v10 r11 => (tkInt v10 none fun q12 n13 => (tkCons r11 none fun v14 r15 => (tkInt v14 none fun q16 n17 => (tkNil r15 none ((bif (decide (q12 = .i64)) then (bif (n13 != (1 : Int)) then some (.ret (.bool false)) else (L810x0 env F c w F (0 : Int))) else none))))))))))) (fun p4 => (tkIfc p4 none fun t5 x6 => (bif (flatP (.iface t5 x6)) then some (.pan (.iface t5 x6)) else none)))) := by kernel_rfl
theorem L810x0s (env : Env) (F : Nat) (c : Cav) (w : Sl Int) (fu : Nat) (i0 : Int) : L810x0 env F c w (fu + 1) i0 = (bif (decide (i0 < (((Sl.len w) : Nat) : Int))) then (tkOut (env.pf 75 [(.agg (eCav c)), (i64 i0)]) none (fun v6 => (tkRow v6 none fun nl7 n8 wd9 g10 => (tkOut (env.pf 25 [(.agg (eCav c)), (.row true 0 0 (fun u11 => [])), (.row nl7 n8 wd9 g10), (i64 (0 : Int))]) none (fun v11 => (tkAgg v11 none fun l12 => (tkCons l12 none fun v13 r14 => (tkInt v13 none fun q15 n16 => (tkCons r14 none fun v17 r18 => (tkInt v17 none fun q19 n20 => (tkNil r18 none ((bif (decide ((0 : Int) ≤ i0)) then (bif (decide (i0 < (((Sl.len w) : Nat) : Int))) then (bif (decide (q15 = .i64)) then (bif (decide (n16 < (Sl.el w (Int.toNat i0)))) then some (.ret (.bool false)) else (L810x0 env F c w fu (IntKind.wrap .i64 (i0 + (1 : Int))))) else none) else none) else none))))))))) (fun p11 => (tkIfc p11 none fun t12 x13 => (bif (flatP (.iface t12 x13)) then none else none)))))) (fun p6 => (tkIfc p6 none fun t7 x8 => (bif (flatP (.iface t7 x8)) then none else none)))) else some (.ret (.bool true))) := by kernel_rfl
noncomputable def L250x0 (env : Env) (F : Nat) (c : Cav) (w : Sl Int) (n : Int) (fu : Nat) (i0 : Int) (g1 : Nat → List V) : Option Out := atLoop Try.prog (cfg F) env 25 [.r, .r, .l, .r, .d] [] fu { tm := tmL 41 0 [(1, (.row true 0 0 (fun u8 => []))), (2, (sl eInt 1 w)), (3, (i64 n)), (4, (.optr 0 0 0)), (8, (.optr 1 0 0)), (9, (.osl 2 0 (Int.toNat (((Sl.len w) : Nat) : Int)))), (10, (i64 i0))], hp := [(.box 24 (eCav c) true), (.box 31 [(i64 (0 : Int)), (i64 (0 : Int))] true), (.arr 3 1 (Int.toNat (((Sl.len w) : Nat) : Int)) g1 true)] }
theorem t250 (env : Env) (F : Nat) (c : Cav) (w : Sl Int) (n : Int) : (evFun Try.prog (cfg F) env 25 [(.agg (eCav c)), (.row true 0 0 (fun u5 => [])), (sl eInt 1 w), (i64 n)]) = (bif (decide ((0 : Int) ≤ (((Sl.len w) : Nat) : Int))) then (bif (decide ((((Sl.len w) : Nat) : Int) ≤ (((Sl.len w) : Nat) : Int))) then (bif (decide ((((8 : Nat) : Int) * (((Sl.len w) : Nat) : Int)) ≤ (281474976710656 : Int))) then (bif (decide ((((Sl.len w) : Nat) : Int) ≤ (9223372036854775807 : Int))) then (L250x0 env F c w n F (0 : Int) (fun u5 => [(i64 (0 : Int))])) else none) else none) else none) else none) := by kernel_rfl
theorem L250x0s (env : Env) (F : Nat) (c : Cav) (w : Sl Int) (n : Int) (fu : Nat) (i0 : Int) (g1 : Nat → List V) : L250x0 env F c w n (fu + 1) i0 g1 = (bif (decide (i0 < (((Sl.len w) : Nat) : Int))) then (bif (decide ((0 : Int) ≤ i0)) then (bif (decide (i0 < (((Sl.len w) : Nat) : Int))) then (bif (decide ((0 : Int) ≤ i0)) then (bif (decide (i0 < (((Int.toNat (((Sl.len w) : Nat) : Int)) : Nat) : Int))) then (L250x0 env F c w n fu (IntKind.wrap .i64 (i0 + (1 : Int))) (updGet g1 (Int.toNat i0) 0 [(i64 (IntKind.wrap .i64 ((0 : Int) - (Sl.el w (Int.toNat i0)))))])) else none) else none) else none) else none) else (tkOut (env.pf 65 [(.agg (eCav c)), (.row true 0 0 (fun u8 => [])), (.row false (Int.toNat (((Sl.len w) : Nat) : Int)) 1 (fun u8 => (g1 u8))), (i64 (IntKind.wrap .i64 ((0 : Int) - n)))]) none (fun v8 => (tkInt v8 none fun q9 n10 => (tkOut (env.pf 65 [(.agg (eCav c)), (.row true 0 0 (fun u11 => [])), (sl eInt 1 w), (i64 n)]) none (fun v11 => (tkInt v11 none fun q12 n13 => some (.ret (.agg [(.int q9 (IntKind.wrap q9 ((0 : Int) - n10))), (.int q12 n13)])))) (fun p11 => (tkIfc p11 none fun t12 x13 => (bif (flatP (.iface t12 x13)) then some (.pan (.iface t12 x13)) else none)))))) (fun p8 => (tkIfc p8 none fun t9 x10 => (bif (flatP (.iface t9 x10)) then none else none))))) := by kernel_rfl
noncomputable def L650x0 (env : Env) (F : Nat) (c : Cav) (w : Sl Int) (n : Int) (fu : Nat) (i0 : Int) (i1 : Int) : Option Out := atLoop Try.prog (cfg F) env 65 [.r, .r, .l, .r, .d] [] fu { tm := tmL 68 0 [(1, (.row true 0 0 (fun u8 => []))), (2, (sl eInt 1 w)), (3, (i64 n)), (4, (.optr 0 0 0)), (9, (i64 i0)), (10, (i64 i1))], hp := [(.box 24 (eCav c) true)] }
noncomputable def L650x1 (env : Env) (F : Nat) (c : Cav) (w : Sl Int) (n : Int) (fu : Nat) (i0 : Int) : Option Out := atLoop Try.prog (cfg F) env 65 [.r, .r, .r, .l, .r, .d] [] fu { tm := tmL 68 0 [(1, (.row true 0 0 (fun u7 => []))), (2, (sl eInt 1 w)), (3, (i64 n)), (4, (.optr 0 0 0)), (9, (i64 i0)), (12, (i64 (0 : Int)))], hp := [(.box 24 (eCav c) true)] }
theorem t650 (env : Env) (F : Nat) (c : Cav) (w : Sl Int) (n : Int) : (evFun Try.prog (cfg F) env 65 [(.agg (eCav c)), (.row true 0 0 (fun u5 => [])), (sl eInt 1 w), (i64 n)]) = (L650x0 env F c w n F (0 : Int) (0 : Int)) := by kernel_rfl
theorem L650x0s (env : Env) (F : Nat) (c : Cav) (w : Sl Int) (n : Int) (fu : Nat) (i0 : Int) (i1 : Int) : L650x0 env F c w n (fu + 1) i0 i1 = (bif (decide (i1 < (((Sl.len (Cav.slices c)) : Nat) : Int))) then (bif (decide ((0 : Int) ≤ i1)) then (bif (decide (i1 < (((Sl.len (Cav.slices c)) : Nat) : Int))) then (bif (decide ((0 : Int) ≤ i1)) then (bif (decide (i1 < (((Sl.len w) : Nat) : Int))) then (bif (decide ((0 : Int) ≤ i1)) then (bif (decide (i1 < (((Sl.len w) : Nat) : Int))) then (L650x0 env F c w n fu (IntKind.wrap .i64 (i0 + (if (IntKind.wrap .i64 ((Sl.el w (Int.toNat i1)) * (Span.lo (Slc.vol (Sl.el (Cav.slices c) (Int.toNat i1)))))) < (IntKind.wrap .i64 ((Sl.el w (Int.toNat i1)) * (Span.hi (Slc.vol (Sl.el (Cav.slices c) (Int.toNat i1)))))) then (IntKind.wrap .i64 ((Sl.el w (Int.toNat i1)) * (Span.hi (Slc.vol (Sl.el (Cav.slices c) (Int.toNat i1)))))) else (IntKind.wrap .i64 ((Sl.el w (Int.toNat i1)) * (Span.lo (Slc.vol (Sl.el (Cav.slices c) (Int.toNat i1))))))))) (IntKind.wrap .i64 (i1 + (1 : Int)))) else none) else none) else none) else none) else none) else none) else (L650x1 env F c w n F i0)) := by kernel_rfl
theorem L650x1s (env : Env) (F : Nat) (c : Cav) (w : Sl Int) (n : Int) (fu : Nat) (i0 : Int) : L650x1 env F c w n (fu + 1) i0 = some (.ret (i64 i0)) := by kernel_rfl
theorem t6 (env : Env) (F : Nat) (c : Cav) (l : Sl Stg) (w : Sl Int) : (evFun Try.prog (cfg F) env 6 [(.agg (eCav c)), (sl eStg 4 l), (sl eInt 1 w)]) = (tkOut (env.pf 19 [(.agg (eCav c))]) none (fun v5 => (tkBool v5 none fun b6 => (bif (!b6) then (tkOut (env.pf 21 []) none (fun v7 => (tkBool v7 none fun b8 => some (.ret (.bool b8)))) (fun p7 => (tkIfc p7 none fun t8 x9 => (bif (flatP (.iface t8 x9)) then some (.pan (.iface t8 x9)) else none)))) else (bif (decide ((((Sl.len l) : Nat) : Int) > (20 : Int))) then (tkOut (env.pf 21 []) none (fun v7 => (tkBool v7 none fun b8 => some (.ret (.bool b8)))) (fun p7 => (tkIfc p7 none fun t8 x9 => (bif (flatP (.iface t8 x9)) then some (.pan (.iface t8 x9)) else none)))) else (bif (decide ((((Sl.len w) : Nat) : Int) > (20 : Int))) then (tkOut (env.pf 21 []) none (fun v7 => (tkBool v7 none fun b8 => some (.ret (.bool b8)))) (fun p7 => (tkIfc p7 none fun t8 x9 => (bif (flatP (.iface t8 x9)) then some (.pan (.iface t8 x9)) else none)))) else (tkOut (env.pf 32 [(.agg (eCav c)), (sl eStg 4 l), (sl eInt 1 w)]) none (fun v7 => (tkInt v7 none fun q8 n9 => (bif (decide (q8 = .i64)) then (bif (n9 == (0 : Int)) then (bif (decide ((((Sl.len (Cav.slices c)) : Nat) : Int) > (3 : Int))) then (tkOut (env.pf 21 []) none (fun v10 => (tkBool v10 none fun b11 => some (.ret (.bool b11)))) (fun p10 => (tkIfc p10 none fun t11 x12 => (bif (flatP (.iface t11 x12)) then some (.pan (.iface t11 x12)) else none)))) else (bif (decide ((Cav.hold c) > (20 : Int))) then (tkOut (env.pf 21 []) none (fun v10 => (tkBool v10 none fun b11 => some (.ret (.bool b11)))) (fun p10 => (tkIfc p10 none fun t11 x12 => (bif (flatP (.iface t11 x12)) then some (.pan (.iface t11 x12)) else none)))) else (bif (decide ((((Sl.len l) : Nat) : Int) > (2 : Int))) then (tkOut (env.pf 21 []) none (fun v10 => (tkBool v10 none fun b11 => some (.ret (.bool b11)))) (fun p10 => (tkIfc p10 none fun t11 x12 => (bif (flatP (.iface t11 x12)) then some (.pan (.iface t11 x12)) else none)))) else (tkOut (env.pf 33 [(.agg (eCav c)), (sl eStg 4 l), (sl eInt 1 w)]) none (fun v10 => (tkTup v10 none fun l11 => (tkCons l11 none fun v12 r13 => (tkRow v12 none fun nl14 n15 wd16 g17 => (tkCons r13 none fun v18 r19 => (tkInt v18 none fun q20 n21 => (tkNil r19 none ((bif (decide (q8 = .i64)) then (bif (n9 != (0 : Int)) then (bif (decide (q20 = q8)) then (bif (n21 == n9) then (bif (((n15 : Nat) : Int) == (0 : Int)) then (tkOut (env.pf 21 []) none (fun v22 => (tkBool v22 none fun b23 => some (.ret (.bool b23)))) (fun p22 => (tkIfc p22 none fun t23 x24 => (bif (flatP (.iface t23 x24)) then some (.pan (.iface t23 x24)) else none)))) else some (.ret (.bool false))) else some (.ret (.bool false))) else none) else (tkOut (env.pf 34 [(.agg (eCav c)), (sl eStg 4 l), (sl eInt 1 w)]) none (fun v22 => (tkTup v22 none fun l23 => (tkCons l23 none fun v24 r25 => (tkRow v24 none fun nl26 n27 wd28 g29 => (tkCons r25 none fun v30 r31 => (tkBool v30 none fun b32 => (tkNil r31 none ((bif (!b32) then (bif (decide (q20 = .i64)) then (bif (n21 == (5 : Int)) then (bif (((n15 : Nat) : Int) == (0 : Int)) then (tkOut (env.pf 21 []) none (fun v33 => (tkBool v33 none fun b34 => some (.ret (.bool b34)))) (fun p33 => (tkIfc p33 none fun t34 x35 => (bif (flatP (.iface t34 x35)) then some (.pan (.iface t34 x35)) else none)))) else some (.ret (.bool false))) else some (.ret (.bool false))) else none) else (bif (decide (q20 = .i64)) then (bif (n21 == (0 : Int)) then (tkOut (env.pf 35 [(.row nl14 n15 wd16 g17), (.row nl26 n27 wd28 g29)]) none (fun v33 => (tkBool v33 none fun b34 => (bif b34 then (tkOut (env.pf 21 []) none (fun v35 => (tkBool v35 none fun b36 => some (.ret (.bool b36)))) (fun p35 => (tkIfc p35 none fun t36 x37 => (bif (flatP (.iface t36 x37)) then some (.pan (.iface t36 x37)) else none)))) else some (.ret (.bool false))))) (fun p33 => (tkIfc p33 none fun t34 x35 => (bif (flatP (.iface t34 x35)) then some (.pan (.iface t34 x35)) else none)))) else some (.ret (.bool false))) else none)))))))))) (fun p22 => (tkIfc p22 none fun t23 x24 => (bif (flatP (.iface t23 x24)) then some (.pan (.iface t23 x24)) else none))))) else none))))))))) (fun p10 => (tkIfc p10 none fun t11 x12 => (bif (flatP (.iface t11 x12)) then some (.pan (.iface t11 x12)) else none))))))) else (tkOut (env.pf 33 [(.agg (eCav c)), (sl eStg 4 l), (sl eInt 1 w)]) none (fun v10 => (tkTup v10 none fun l11 => (tkCons l11 none fun v12 r13 => (tkRow v12 none fun nl14 n15 wd16 g17 => (tkCons r13 none fun v18 r19 => (tkInt v18 none fun q20 n21 => (tkNil r19 none ((bif (decide (q8 = .i64)) then (bif (n9 != (0 : Int)) then (bif (decide (q20 = q8)) then (bif (n21 == n9) then (bif (((n15 : Nat) : Int) == (0 : Int)) then (tkOut (env.pf 21 []) none (fun v22 => (tkBool v22 none fun b23 => some (.ret (.bool b23)))) (fun p22 => (tkIfc p22 none fun t23 x24 => (bif (flatP (.iface t23 x24)) then some (.pan (.iface t23 x24)) else none)))) else some (.ret (.bool false))) else some (.ret (.bool false))) else none) else (tkOut (env.pf 34 [(.agg (eCav c)), (sl eStg 4 l), (sl eInt 1 w)]) none (fun v22 => (tkTup v22 none fun l23 => (tkCons l23 none fun v24 r25 => (tkRow v24 none fun nl26 n27 wd28 g29 => (tkCons r25 none fun v30 r31 => (tkBool v30 none fun b32 => (tkNil r31 none ((bif (!b32) then (bif (decide (q20 = .i64)) then (bif (n21 == (5 : Int)) then (bif (((n15 : Nat) : Int) == (0 : Int)) then (tkOut (env.pf 21 []) none (fun v33 => (tkBool v33 none fun b34 => some (.ret (.bool b34)))) (fun p33 => (tkIfc p33 none fun t34 x35 => (bif (flatP (.iface t34 x35)) then some (.pan (.iface t34 x35)) else none)))) else some (.ret (.bool false))) else some (.ret (.bool false))) else none) else (bif (decide (q20 = .i64)) then (bif (n21 == (0 : Int)) then (tkOut (env.pf 35 [(.row nl14 n15 wd16 g17), (.row nl26 n27 wd28 g29)]) none (fun v33 => (tkBool v33 none fun b34 => (bif b34 then (tkOut (env.pf 21 []) none (fun v35 => (tkBool v35 none fun b36 => some (.ret (.bool b36)))) (fun p35 => (tkIfc p35 none fun t36 x37 => (bif (flatP (.iface t36 x37)) then some (.pan (.iface t36 x37)) else none)))) else some (.ret (.bool false))))) (fun p33 => (tkIfc p33 none fun t34 x35 => (bif (flatP (.iface t34 x35)) then some (.pan (.iface t34 x35)) else none)))) else some (.ret (.bool false))) else none)))))))))) (fun p22 => (tkIfc p22 none fun t23 x24 => (bif (flatP (.iface t23 x24)) then some (.pan (.iface t23 x24)) else none))))) else none))))))))) (fun p10 => (tkIfc p10 none fun t11 x12 => (bif (flatP (.iface t11 x12)) then some (.pan (.iface t11 x12)) else none))))) else none))) (fun p7 => (tkIfc p7 none fun t8 x9 => (bif (flatP (.iface t8 x9)) then some (.pan (.iface t8 x9)) else none))))))))) (fun p5 => (tkIfc p5 none fun t6 x7 => (bif (flatP (.iface t6 x7)) then some (.pan (.iface t6 x7)) else none)))) := by kernel_rfl
end Go.Sim.Le


namespace Go.Sim.Le
open Go.Proofs
theorem fitInt {k : IntKind} {c : V} (h : Fit (.int k) c) : ∃ n, c = .int k n ∧ k.min ≤ n ∧ n ≤ k.max := by
  cases h with
  | int h => exact ⟨_, rfl, h⟩
theorem fitL_nil {cs : List V} (h : FitL [] cs) : cs = [] := by
  have := h.1
  exact List.eq_nil_of_length_eq_zero this
theorem fitL_cons {s : Sh} {l : List Sh} {cs : List V} (h : FitL (s :: l) cs) : ∃ c cs', cs = c :: cs' ∧ Fit s c ∧ FitL l cs' := by
  obtain ⟨h1, h2⟩ := h
  cases cs with
  | nil => simp at h1
  | cons c cs' => exact ⟨c, cs', rfl, h2 0 s c rfl rfl, by simpa using h1, fun j s' c' g1 g2 => h2 (j + 1) s' c' (by simpa using g1) (by simpa using g2)⟩
theorem fitL_int {k : IntKind} {l : List Sh} {cs : List V} (h : FitL (.int k :: l) cs) : ∃ n cs', cs = .int k n :: cs' ∧ FitL l cs' := by
  obtain ⟨c, cs', rfl, h1, h2⟩ := fitL_cons h
  obtain ⟨n, rfl, _⟩ := fitInt h1
  exact ⟨n, cs', rfl, h2⟩
abbrev SlOk {α : Type} (s : Sl α) : Prop := s.len ≤ 140737488355328 ∧ (s.nl = true → s.len = 0)
theorem fitRow {α : Type} {e : α → List V} {P : α → Prop} {l : List Sh} (dec : ∀ cs, FitL l cs → ∃ a : α, cs = e a ∧ P a) {c : V} (h : Fit (.row l) c) : ∃ s : Sl α, c = sl e l.length s ∧ SlOk s ∧ ∀ i, P (s.el i) := by
  cases h with
  | row h hn hl hf =>
    rename_i nl len get
    have hx : ∀ i, ∃ a : α, get i = e a ∧ P a := fun i => dec _ ⟨hl i, hf i⟩
    refine ⟨⟨nl, len, fun i => (hx i).choose⟩, ?_, ⟨h, hn⟩, fun i => (hx i).choose_spec.2⟩
    show V.row nl len l.length get = V.row nl len l.length fun i => e (hx i).choose
    congr 1
    funext i
    exact (hx i).choose_spec.1
theorem fitL_row {α : Type} {e : α → List V} {P : α → Prop} {l r : List Sh} (dec : ∀ cs, FitL l cs → ∃ a : α, cs = e a ∧ P a) {cs : List V} (h : FitL (.row l :: r) cs) : ∃ (s : Sl α) (cs' : List V), cs = sl e l.length s :: cs' ∧ SlOk s ∧ (∀ i, P (s.el i)) ∧ FitL r cs' := by
  obtain ⟨c, cs', rfl, h1, h2⟩ := fitL_cons h
  obtain ⟨s, rfl, h3, h4⟩ := fitRow dec h1
  exact ⟨s, cs', rfl, h3, h4, h2⟩
abbrev i8 : Sh := .int .i64
abbrev shSlc : List Sh := [i8, i8, i8, i8, i8, i8, i8]
abbrev shCav : List Sh := [.row shSlc, i8, i8]
abbrev shStg : List Sh := [i8, i8, i8, i8]
abbrev shTruth : List Sh := [.row [i8], .row [.row [i8]]]
theorem decInt (cs : List V) (h : FitL [i8] cs) : ∃ n : Int, cs = eInt n ∧ I64 n := by
  obtain ⟨c, cs', rfl, h1, h2⟩ := fitL_cons h
  obtain ⟨n, rfl, m1, m2⟩ := fitInt h1
  obtain rfl := fitL_nil h2
  refine ⟨n, rfl, ?_⟩
  exact ⟨m1, m2⟩
theorem decSlc (cs : List V) (h : FitL shSlc cs) : ∃ c : Slc, cs = eSlc c ∧ True := by
  obtain ⟨a0, _, rfl, h1⟩ := fitL_int h
  obtain ⟨a1, _, rfl, h2⟩ := fitL_int h1
  obtain ⟨a2, _, rfl, h3⟩ := fitL_int h2
  obtain ⟨a3, _, rfl, h4⟩ := fitL_int h3
  obtain ⟨a4, _, rfl, h5⟩ := fitL_int h4
  obtain ⟨a5, _, rfl, h6⟩ := fitL_int h5
  obtain ⟨a6, _, rfl, h7⟩ := fitL_int h6
  obtain rfl := fitL_nil h7
  exact ⟨⟨⟨a0, a1⟩, a2, a3, ⟨a4, a5⟩, a6⟩, rfl, trivial⟩
theorem decStg (cs : List V) (h : FitL shStg cs) : ∃ c : Stg, cs = eStg c ∧ True := by
  obtain ⟨a0, _, rfl, h1⟩ := fitL_int h
  obtain ⟨a1, _, rfl, h2⟩ := fitL_int h1
  obtain ⟨a2, _, rfl, h3⟩ := fitL_int h2
  obtain ⟨a3, _, rfl, h4⟩ := fitL_int h3
  obtain rfl := fitL_nil h4
  exact ⟨⟨a0, a1, a2, a3⟩, rfl, trivial⟩
theorem decCav (cs : List V) (h : FitL shCav cs) : ∃ c : Cav, cs = eCav c ∧ SlOk c.slices := by
  obtain ⟨a, _, rfl, h0, _, h1⟩ := fitL_row decSlc h
  obtain ⟨b, _, rfl, h2⟩ := fitL_int h1
  obtain ⟨d, _, rfl, h3⟩ := fitL_int h2
  obtain rfl := fitL_nil h3
  exact ⟨⟨a, b, d⟩, rfl, h0⟩
theorem own : ownKnob Try.prog.godebug = none := by kernel_rfl
end Go.Sim.Le


namespace Go.Sim.Le
open Go.Proofs
variable (F d : Nat)
theorem s19 (c : Cav) : (E F (d + 1)).pf 19 [.agg (eCav c)] = some (.ret (.bool (decide (c.slices.len ≤ 20)))) := by
  rw [E_pf, t19]
  refine b3 (b2 ?_)
  simp only [decide_eq_true_iff]
  omega
theorem z0' {α : Type} (a b : α) : (bif ((0 : Int) != 0) then a else b) = b := rfl
theorem lenB {n : Nat} (h : n ≤ 140737488355328) : n < Big := by show n < 4611686018427387904; omega
end Go.Sim.Le


namespace Go.Sim.Le
open Go.Proofs
variable (F d : Nat)
end Go.Sim.Le


namespace Go.Sim.Le
open Go.Proofs
variable (F d : Nat)
theorem wv0 (y : Int) (u : Nat) : wv 0 y u = if (u : Int) ≤ y then -1 else 0 := by
  unfold wv
  by_cases h : (u : Int) ≤ y
  · rw [if_pos ⟨rfl, h⟩, if_pos h]
  · rw [if_neg (fun hh => h hh.2), if_neg (by omega), if_neg h]
theorem wv1 (y : Int) (u : Nat) : wv 1 y u = if y ≤ (u : Int) then 1 else 0 := by
  unfold wv
  rw [if_neg (by omega)]
  by_cases h : y ≤ (u : Int)
  · rw [if_pos (.inl ⟨rfl, h⟩), if_pos h]
  · rw [if_neg (by omega), if_neg h]
theorem wv2 (y : Int) (u : Nat) : wv 2 y u = if (u : Int) = y then 1 else 0 := by
  unfold wv
  rw [if_neg (by omega)]
  by_cases h : (u : Int) = y
  · rw [if_pos (.inr ⟨rfl, h⟩), if_pos h]
  · rw [if_neg (by omega), if_neg h]
def oneW (n u : Nat) : Int := if u = n then 1 else 0
theorem s75 (c : Cav) (hl : c.slices.len ≤ 300) (n : Nat) (hn : n < c.slices.len) : (E F (d + 1)).pf 75 [.agg (eCav c), .int .i64 n] = some (.ret (sl eInt 1 ⟨false, c.slices.len, oneW n⟩)) := by
  rw [E_pf, t75]
  simp (disch := omega) only [decide_eq_true, decide_true, pT, Int.toNat_natCast]
  have e := upd_int (fun _ => 0) n 1
  rw [e]
  rfl
def negW (q u : Nat) : Int := if u < q then -1 else 0
theorem l74 {c : Cav} (hc : CavOk c) (l : Sl Stg) (hL : l.len ≤ 300) (hs : ∀ i, i < l.len → StgOk c.slices.len (l.el i)) (n : Nat) (hn : n < c.slices.len) (hF : 400 < F) : ∀ j q fu, q + j = n + 1 → j < fu →
    L74x0 (E F (d + 4)) F c l n fu q (fun u => eInt (negW q u)) = some (.ret (.bool (decide ((boundS c l.el (meaS c 0 n) l.len).hi > 0)))) := by
  have hcl := hc.1
  intro j
  induction j with
  | zero =>
    intro q fu h hf
    obtain ⟨fu, rfl⟩ : ∃ k, fu = k + 1 := ⟨fu - 1, by omega⟩
    have hq : q = n + 1 := by omega
    subst hq
    have hm : MeaOk c ⟨⟨false, c.slices.len, negW (n + 1)⟩, 1⟩ := ⟨rfl, fun i hi => by show -1000 ≤ negW (n + 1) i ∧ negW (n + 1) i ≤ 1000; unfold negW; split <;> omega, by show -1000 ≤ (1 : Int); omega, by show (1 : Int) ≤ 1000; omega⟩
    have e := s65 F d hc hm l hL hs hF
    have e2 := bound_cong hc (m := meaS c 0 n) (m' := ⟨⟨false, c.slices.len, negW (n + 1)⟩, 1⟩) hs (fun i hi => by
      show negW (n + 1) i = meaW 0 n c.slices.len i
      unfold meaW negW
      rw [if_pos hi, wv0]
      split <;> split <;> omega) rfl l.len (Nat.le_refl _)
    rw [e2] at e
    rw [L74x0s, decide_eq_false (by omega), pF, Int.toNat_natCast]
    simp only [sl] at e ⊢
    rw [e]
    simp only [tkOut_ret, tkInt_i, decide_true, pT]
  | succ j ih =>
    intro q fu h hf
    obtain ⟨fu, rfl⟩ : ∃ k, fu = k + 1 := ⟨fu - 1, by omega⟩
    have e3 := upd_int (negW q) q (-1)
    have e4 : (fun u => eInt (if u = q then -1 else negW q u)) = fun u => eInt (negW (q + 1) u) := by
      funext u
      refine congrArg eInt ?_
      unfold negW
      by_cases h1 : u = q
      · rw [if_pos h1, if_pos (by omega)]
      · rw [if_neg h1]
        by_cases h2 : u < q
        · rw [if_pos h2, if_pos (by omega)]
        · rw [if_neg h2, if_neg (by omega)]
    rw [e4] at e3
    rw [L74x0s]
    simp (disch := omega) only [decide_eq_true, decide_true, pT, Int.toNat_natCast]
    rw [e3, wrS (by omega)]
    exact ih (q + 1) fu (by omega) (by omega)
theorem s74 {c : Cav} (hc : CavOk c) (l : Sl Stg) (hL : l.len ≤ 300) (hs : ∀ i, i < l.len → StgOk c.slices.len (l.el i)) (n : Int) (hn0 : 0 ≤ n) (hn : n < c.slices.len) (hF : 400 < F) : (E F (d + 5)).pf 74 [.agg (eCav c), sl eStg 4 l, .int .i64 n] = some (.ret (.bool (decide ((boundS c l.el (meaS c 0 n) l.len).hi > 0)))) := by
  have hcl := hc.1
  obtain ⟨n, rfl⟩ : ∃ k : Nat, n = k := ⟨n.toNat, by omega⟩
  have e := l74 F d hc l hL hs n (by omega) hF (n + 1) 0 F (by omega) (by omega)
  have e0 : (fun u => eInt (negW 0 u)) = fun _ => [V.int .i64 0] := by
    funext u
    simp only [negW, Nat.not_lt_zero, if_false]
  rw [e0] at e
  rw [E_pf, t74]
  simp (disch := omega) only [decide_eq_true, decide_true, pT]
  exact e
section
variable {c : Cav} (hc : CavOk c) (l : Sl Stg) (hL : l.len ≤ 300) (hs : ∀ i, i < l.len → StgOk c.slices.len (l.el i)) (hF : 400 < F)
include hc hL hs hF
theorem l31x2 (m0 k : Nat) (hk : k < l.len) (R : Option Out) : ∀ j i fu, i + j = c.slices.len → j < fu →
    (bif (wideR c l.el k j i).2 then some (.ret (.tup [.int .i64 k, .int .i64 5, .int .i64 (wideR c l.el k j i).1])) else L31x0 (E F (d + 5)) F c l m0 ((k + 1 : Nat) : Int)) = R →
    L31x2 (E F (d + 5)) F c l m0 fu k i = R := by
  have hcl := hc.1
  intro j
  induction j with
  | zero =>
    intro i fu h hf K
    obtain ⟨fu, rfl⟩ : ∃ k, fu = k + 1 := ⟨fu - 1, by omega⟩
    rw [L31x2s, decide_eq_false (by omega), pF, wrS (by omega)]
    simp only [wideR, cond_false] at K
    exact K
  | succ j ih =>
    intro i fu h hf K
    obtain ⟨fu, rfl⟩ : ∃ k, fu = k + 1 := ⟨fu - 1, by omega⟩
    have hm : MeaOk c ⟨⟨false, c.slices.len, oneW i⟩, 0⟩ := ⟨rfl, fun u hu => by show -1000 ≤ oneW i u ∧ oneW i u ≤ 1000; unfold oneW; split <;> omega, by show -1000 ≤ (0 : Int); omega, by show (0 : Int) ≤ 1000; omega⟩
    have e := s65 F (d + 1) hc hm ⟨l.nl, k + 1, l.el⟩ (show k + 1 ≤ 300 by omega) (fun i hi => hs i (by have : i < k + 1 := hi; omega)) hF
    have e2 := bound_cong hc (m := meaS c 2 i) (m' := ⟨⟨false, c.slices.len, oneW i⟩, 0⟩) (n := k + 1) (l := l.el) (fun i hi => hs i (by omega)) (fun u hu => by
      show oneW i u = meaW 2 i c.slices.len u
      unfold meaW oneW
      rw [if_pos hu, wv2]
      split <;> split <;> omega) rfl (k + 1) (Nat.le_refl _)
    rw [e2] at e
    have e75 : (E F (d + 5)).pf 75 [.agg (eCav c), .int .i64 i] = _ := s75 F (d + 4) c (by omega) i (by omega)
    have hS : IntKind.i64.wrap ((k : Int) + 1) = ((k + 1 : Nat) : Int) := wrS (by omega)
    rw [L31x2s]
    simp (disch := omega) only [decide_eq_true, decide_true, pT, Int.toNat_natCast, hS, Bool.true_or, Nat.sub_zero, e75, tkOut_ret, tkRow_r]
    simp only [sl] at e ⊢
    rw [show (E F (d + 5)).pf 65 [.agg [.row c.slices.nl c.slices.len 7 fun i => eSlc (c.slices.el i), .int .i64 c.hold, .int .i64 c.oil], .row l.nl (k + 1) 4 (fun u => eStg (l.el u)), .row false c.slices.len 1 (fun u => eInt (oneW i u)), .int .i64 0] = _ from e]
    simp (disch := omega) only [tkOut_ret, tkInt_i, decide_eq_true, decide_true, pT]
    by_cases hw : (boundS c l.el (meaS c 2 i) (k + 1)).hi > (c.slices.el i).most
    · simp only [wideR, decide_eq_true hw, cond_true] at K
      rw [decide_eq_true hw, pT]
      exact K
    · simp only [wideR, decide_eq_false hw, cond_false] at K
      rw [decide_eq_false hw, pF, wrS (by omega)]
      exact ih (i + 1) fu (by omega) (by omega) K
def upW (b q u : Nat) : Int := if b ≤ u ∧ u < q then 1 else 0
omit hF in
theorem l31x1 (hF : 400 < F) (m0 k : Nat) (hk : k < l.len) (b : Nat) (hb : (l.el k).blanket = b) (x1 x2 x3 : Int) (R : Option Out)
    (K : (bif oiledB c l.el k then some (.ret (.tup [.int .i64 k, .int .i64 4, .int .i64 b])) else L31x2 (E F (d + 5)) F c l m0 F k 0) = R) : ∀ j q fu, q + j = c.slices.len → b ≤ q → j < fu →
    L31x1 (E F (d + 5)) F c l m0 fu k q x1 x2 x3 b (fun u => eInt (upW b q u)) = R := by
  have hcl := hc.1
  intro j
  induction j with
  | zero =>
    intro q fu h hbq hf
    obtain ⟨fu, rfl⟩ : ∃ k, fu = k + 1 := ⟨fu - 1, by omega⟩
    have hq : q = c.slices.len := by omega
    subst hq
    have hm : MeaOk c ⟨⟨false, c.slices.len, upW b c.slices.len⟩, 0⟩ := ⟨rfl, fun u hu => by show -1000 ≤ upW b c.slices.len u ∧ upW b c.slices.len u ≤ 1000; unfold upW; split <;> omega, by show -1000 ≤ (0 : Int); omega, by show (0 : Int) ≤ 1000; omega⟩
    have e := s65 F (d + 1) hc hm ⟨l.nl, k, l.el⟩ (show k ≤ 300 by omega) (fun i hi => hs i (by have : i < k := hi; omega)) hF
    have e2 := bound_cong hc (m := meaS c 1 b) (m' := ⟨⟨false, c.slices.len, upW b c.slices.len⟩, 0⟩) (n := k) (l := l.el) (fun i hi => hs i (by omega)) (fun u hu => by
      show upW b c.slices.len u = meaW 1 b c.slices.len u
      unfold meaW upW
      rw [if_pos hu, wv1]
      split <;> split <;> omega) rfl k (Nat.le_refl _)
    rw [e2] at e
    rw [L31x1s, Int.toNat_natCast, decide_eq_false (by omega), pF]
    simp (disch := omega) only [decide_eq_true, decide_true, pT, Int.toNat_natCast, Bool.true_or, Nat.sub_zero]
    simp only [sl] at e ⊢
    rw [show (E F (d + 5)).pf 65 [.agg [.row c.slices.nl c.slices.len 7 fun i => eSlc (c.slices.el i), .int .i64 c.hold, .int .i64 c.oil], .row l.nl k 4 (fun u => eStg (l.el u)), .row false c.slices.len 1 (fun u => eInt (upW b c.slices.len u)), .int .i64 0] = _ from e]
    simp only [tkOut_ret, tkInt_i, decide_true, pT]
    unfold oiledB at K
    rw [hb] at K
    by_cases ho : (boundS c l.el (meaS c 1 b) k).hi > c.oil
    · rw [decide_eq_true ho, cond_true] at K
      rw [decide_eq_true ho, pT]; exact K
    · rw [decide_eq_false ho, cond_false] at K
      rw [decide_eq_false ho, pF]; exact K
  | succ j ih =>
    intro q fu h hbq hf
    obtain ⟨fu, rfl⟩ : ∃ k, fu = k + 1 := ⟨fu - 1, by omega⟩
    have e3 := upd_int (upW b q) q 1
    have e4 : (fun u => eInt (if u = q then 1 else upW b q u)) = fun u => eInt (upW b (q + 1) u) := by
      funext u
      refine congrArg eInt ?_
      unfold upW
      by_cases h1 : u = q
      · rw [if_pos h1, if_pos (by omega)]
      · rw [if_neg h1]
        by_cases h2 : b ≤ u ∧ u < q
        · rw [if_pos h2, if_pos (by omega)]
        · rw [if_neg h2, if_neg (by omega)]
    rw [e4] at e3
    rw [L31x1s, Int.toNat_natCast]
    simp (disch := omega) only [decide_eq_true, decide_true, pT, Int.toNat_natCast]
    rw [e3, wrS (by omega)]
    exact ih (q + 1) fu (by omega) (by omega) (by omega)
theorem l31x0 : ∀ j k fu, k + j = l.len → j < fu → L31x0 (E F (d + 5)) F c l fu k = some (.ret (.tup [.int .i64 (faultR c l.el j k).1, .int .i64 (faultR c l.el j k).2.1, .int .i64 (faultR c l.el j k).2.2])) := by
  have hcl := hc.1
  intro j
  induction j with
  | zero =>
    intro k fu h hf
    obtain ⟨fu, rfl⟩ : ∃ k, fu = k + 1 := ⟨fu - 1, by omega⟩
    rw [L31x0s, decide_eq_false (by omega), pF]
    rfl
  | succ j ih =>
    intro k fu h hf
    obtain ⟨fu, rfl⟩ : ∃ k, fu = k + 1 := ⟨fu - 1, by omega⟩
    have hlk := hs k (by omega)
    obtain ⟨hw1, hw2, hw3, hw4, hw5⟩ := hlk
    have e1 := s74 F d hc ⟨l.nl, k, l.el⟩ (show k ≤ 300 by omega) (fun i hi => hs i (by have : i < k := hi; omega)) (min (l.el k).into (l.el k).out) (by omega) (by omega) hF
    have e2 := s74 F d hc ⟨l.nl, k + 1, l.el⟩ (show k + 1 ≤ 300 by omega) (fun i hi => hs i (by have : i < k + 1 := hi; omega)) (min (l.el k).into (l.el k).out) (by omega) (by omega) hF
    have hS : IntKind.i64.wrap ((k : Int) + 1) = ((k + 1 : Nat) : Int) := wrS (by omega)
    simp only [sl] at e1 e2
    rw [L31x0s]
    simp (disch := omega) only [decide_eq_true (show (k : Int) < (l.len : Int) by omega), decide_eq_true (show (0 : Int) ≤ k by omega), pT, Int.toNat_natCast, mxE, mnE]
    by_cases h1 : topOf (l.el k) ≥ (l.el k).blanket
    · rw [decide_eq_true (show max (l.el k).into (l.el k).out ≥ (l.el k).blanket from h1), pT]
      simp only [faultR, decide_eq_true h1, cond_true]
      rfl
    · rw [decide_eq_false (show ¬ max (l.el k).into (l.el k).out ≥ (l.el k).blanket from h1), pF]
      simp (disch := omega) only [Bool.true_or, decide_eq_true, decide_true, pT, Nat.sub_zero, hS, Int.toNat_natCast]
      rw [e1]
      simp only [tkOut_ret, tkBool_b]
      by_cases hb1 : (boundS c l.el (meaS c 0 (min (l.el k).into (l.el k).out)) k).hi > 0
      · have hb : buriedB c l.el k = true := decide_eq_true (by omega)
        rw [decide_eq_true hb1, pT]
        simp only [faultR, decide_eq_false h1, cond_false, hb, cond_true]
        rfl
      · rw [decide_eq_false hb1, pF, e2]
        simp only [tkOut_ret, tkBool_b]
        by_cases hb2 : (boundS c l.el (meaS c 0 (min (l.el k).into (l.el k).out)) (k + 1)).hi > 0
        · have hb : buriedB c l.el k = true := decide_eq_true (by omega)
          rw [decide_eq_true hb2, pT]
          simp only [faultR, decide_eq_false h1, cond_false, hb, cond_true]
          rfl
        · have hb : buriedB c l.el k = false := decide_eq_false (by omega)
          rw [decide_eq_false hb2, pF]
          obtain ⟨b, hbb⟩ : ∃ b : Nat, (l.el k).blanket = b := ⟨(l.el k).blanket.toNat, by omega⟩
          have e0 : (fun u => eInt (upW b b u)) = fun _ => [V.int .i64 0] := by
            funext u
            simp only [upW, if_neg (show ¬ (b ≤ u ∧ u < b) by omega)]
          rw [← e0, hbb]
          refine l31x1 F d hc l hL hs hF fu k (by omega) b hbb _ _ _ _ ?_ (c.slices.len - b) b F (by omega) (Nat.le_refl _) (by omega)
          have h1' : ¬ topOf (l.el k) ≥ (b : Int) := by rw [← hbb]; exact h1
          simp only [faultR, hbb, decide_eq_false h1', cond_false, hb]
          cases ho : oiledB c l.el k with
          | true => simp only [cond_true]
          | false =>
            simp only [cond_false]
            refine l31x2 F d hc l hL hs hF fu k (by omega) _ c.slices.len 0 F (by omega) (by omega) ?_
            cases hwd : (wideR c l.el k c.slices.len 0).2 with
            | true => simp only [cond_true]
            | false => simp only [cond_false]; exact ih (k + 1) fu (by omega) (by omega)
theorem s31 : (E F (d + 6)).pf 31 [.agg (eCav c), sl eStg 4 l] = some (.ret (.tup [.int .i64 (faultR c l.el l.len 0).1, .int .i64 (faultR c l.el l.len 0).2.1, .int .i64 (faultR c l.el l.len 0).2.2])) := by
  rw [E_pf, t31]
  exact l31x0 F d hc l hL hs hF l.len 0 F (by omega) (by omega)
end
end Go.Sim.Le


namespace Go.Sim.Le
open Go.Proofs
abbrev TruthOk (c : Cav) (n : Nat) (t : Truth) : Prop := t.vols.len = c.slices.len ∧ t.rates.len = n ∧ (∀ i, i < t.vols.len → (c.slices.el i).vol.lo ≤ t.vols.el i ∧ t.vols.el i ≤ (c.slices.el i).vol.hi) ∧
  ∀ k, k < t.rates.len → (t.rates.el k).len = c.slices.len ∧ ∀ i, i < c.slices.len → (c.slices.el i).rate.lo ≤ (t.rates.el k).el i ∧ (t.rates.el k).el i ≤ (c.slices.el i).rate.hi
variable (F d : Nat)
section
variable (c : Cav) (l : Sl Stg) (t : Truth) (hcl : c.slices.len < Big) (htl : t.rates.len < Big) (hCF : c.slices.len < F) (hTF : t.rates.len < F)
def rateB (k i : Nat) : Bool := decide ((c.slices.el i).rate.lo ≤ (t.rates.el k).el i ∧ (t.rates.el k).el i ≤ (c.slices.el i).rate.hi)
def rowB (k : Nat) : Bool := decide ((t.rates.el k).len = c.slices.len) && allF (rateB c t k) c.slices.len 0
include hcl htl hCF hTF
end
end Go.Sim.Le


namespace Go.Sim.Le
open Go.Proofs
abbrev wK (t : Truth) (j : Nat) : Nat → Int := (t.rates.el j).el
abbrev opnF (c : Cav) (i : Nat) : Int := (c.slices.el i).opn
abbrev fallF (c : Cav) (i : Nat) : Int := (c.slices.el i).fall
def volS (c : Cav) (l : Nat → Stg) (t : Truth) : Nat → Nat → Int
  | 0 => t.vols.el
  | j + 1 => fun i => volS c l t j i + opnF c i * (takeRow c (l j) (wK t j) (pathN (l j)) i * (l j).water)
def tkE (c : Cav) (l : Nat → Stg) (t : Truth) (j : Nat) : Int × Int := tkT c (l j) (wK t j) (pathN (l j))
def saltP (c : Cav) (l : Nat → Stg) (t : Truth) : Nat → Int
  | 0 => 0
  | j + 1 => saltP c l t j + (l j).water * (tkE c l t j).1
def sumpS (c : Cav) (l : Nat → Stg) (t : Truth) : Nat → Int
  | 0 => 0
  | j + 1 => sumpS c l t j + (l j).water * pathSum c (l j) (wK t j) (fallF c) (pathN (l j))
def brineS (c : Cav) (l : Nat → Stg) (t : Truth) : Nat → Int
  | 0 => 0
  | j + 1 => brineS c l t j + (1000000 * (l j).water - (l j).water * (tkE c l t j).2)
def outS (c : Cav) (l : Nat → Stg) (t : Truth) : Nat → Int
  | 0 => 0
  | j + 1 => outS c l t j + (1000000 * ((l j).water * (tkE c l t j).1) - c.hold * ((l j).water * (tkE c l t j).2))
def endV (c : Cav) (l : Nat → Stg) (t : Truth) (n : Nat) : List V := [sl eInt 1 ⟨false, c.slices.len, volS c l t n⟩, .int .i64 (sumpS c l t n), .int .i64 (saltP c l t n), .int .i64 (brineS c l t n), .int .i64 (outS c l t n)]
section
variable {c : Cav} (hc : CavOk c) {s : Stg} (hs : StgOk c.slices.len s) (w : Nat → Int) (hw : RatesOk c w)
include hc hs hw
end
section
variable {c : Cav} (hc : CavOk c) {n : Nat} {l : Nat → Stg} (hl : ∀ i, i < n → StgOk c.slices.len (l i)) {t : Truth} (ht : TruthOk c n t)
include hc hl ht
end
variable (F d : Nat)
section
variable {c : Cav} (hc : CavOk c) {l : Sl Stg} (hL : l.len ≤ 300) (hl : ∀ i, i < l.len → StgOk c.slices.len (l.el i)) {t : Truth} (ht : TruthOk c l.len t) (hF : 400 < F)
include hc hL hl ht hF
end
end Go.Sim.Le


namespace Go.Sim.Le
open Go.Proofs
variable (F d : Nat)
section
variable {c : Cav} (hc : CavOk c) {l : Sl Stg} (hL : l.len ≤ 300) (hl : ∀ i, i < l.len → StgOk c.slices.len (l.el i)) {t : Truth} (ht : TruthOk c l.len t) (hF : 400 < F)
include hc hL hl ht hF
end
end Go.Sim.Le


namespace Go.Sim.Le
open Go.Proofs
variable (F d : Nat)
end Go.Sim.Le


namespace Go.Sim.Le
open Go.Proofs
def watT (l : Nat → Stg) : Nat → Int
  | 0 => 0
  | j + 1 => watT l j + (l j).water
def roomS (c : Cav) (l : Nat → Stg) (t : Truth) : Nat → Int
  | 0 => 0
  | j + 1 => roomS c l t j + (l j).water * (tkE c l t j).2
section
variable {c : Cav} (hc : CavOk c) {n : Nat} {l : Nat → Stg} (hl : ∀ i, i < n → StgOk c.slices.len (l i)) {t : Truth} (ht : TruthOk c n t)
include hc hl ht
end
variable (F d : Nat)
section
variable {c : Cav} (hc : CavOk c) {l : Sl Stg} (hL : l.len ≤ 8) (hl : ∀ i, i < l.len → StgOk c.slices.len (l.el i)) {t : Truth} (ht : TruthOk c l.len t) (hF : 1000000000 < F)
include hc hL hl ht hF
end
end Go.Sim.Le


namespace Go.Sim.Le
open Go.Proofs
variable (F d : Nat)
end Go.Sim.Le


namespace Go.Sim.Le
open Go.Proofs
def saltS (c : Cav) (l : Nat → Stg) : Nat → Nat → Span
  | 0, _ => ⟨0, 0⟩
  | j + 1, k => addS (saltS c l j k) (timesS (rtRow c (l j) (pathN (l j)) k) (l j).water)
def volK (c : Cav) (l : Nat → Stg) (n k : Nat) : Span := addS (c.slices.el k).vol (timesS (saltS c l n k) (c.slices.el k).opn)
section
variable {c : Cav} (hc : CavOk c) {l : Nat → Stg} {n : Nat} (hl : ∀ i, i < n → StgOk c.slices.len (l i))
include hc hl
end
def saltSl (c : Cav) (l : Nat → Stg) (n : Nat) : Sl Span := ⟨false, c.slices.len, saltS c l n⟩
variable (F d : Nat)
section
variable {c : Cav} (hc : CavOk c) {l : Sl Stg} (h8 : l.len ≤ 8) (hl : ∀ i, i < l.len → StgOk c.slices.len (l.el i)) (hF : 400 < F)
include hc h8 hl hF
end
end Go.Sim.Le


namespace Go.Sim.Le
open Go.Proofs
def sumpM (c : Cav) : Mea := ⟨⟨false, c.slices.len, fun _ => 0⟩, 1⟩
def afterV (c : Cav) (l : Nat → Stg) (n : Nat) : List V := [sl eSpan 2 (saltSl c l n), sl eSpan 2 (tabP (volK c l n) c.slices.len), .int .i64 (boundS c l (sumpM c) n).lo, .int .i64 (boundS c l (sumpM c) n).hi]
def after0 : List V := [.row true 0 0 fun _ => [], .row true 0 0 fun _ => [], .int .i64 0, .int .i64 0]
variable (F d : Nat)
end Go.Sim.Le


namespace Go.Sim.Le
open Go.Proofs
def oneM (c : Cav) (u : Nat) : Mea := ⟨⟨false, c.slices.len, oneW u⟩, 0⟩
theorem oneM_ok (c : Cav) (u : Nat) : MeaOk c (oneM c u) := ⟨rfl, fun i _ => by show -1000 ≤ oneW u i ∧ oneW u i ≤ 1000; unfold oneW; split <;> omega, by show -1000 ≤ (0 : Int); omega, by show (0 : Int) ≤ 1000; omega⟩
section
variable {c : Cav} (hc : CavOk c) {s : Stg} (hs : StgOk c.slices.len s)
include hc hs
end
end Go.Sim.Le


namespace Go.Sim.Le
open Go.Proofs
section
variable {c : Cav} (hc : CavOk c)
include hc
end
variable (F d : Nat)
section
variable {c : Cav} (hc : CavOk c) {l : Sl Stg} (h8 : l.len ≤ 8) (hl : ∀ i, i < l.len → StgOk c.slices.len (l.el i)) (hF : 1000000000 < F)
include hc h8 hl hF
def afterR (c : Cav) (l : Nat → Stg) (n : Nat) : List V := [sl eSpan 2 (tabP (saltS c l n) c.slices.len), sl eSpan 2 (tabP (volK c l n) c.slices.len), .int .i64 (boundS c l (sumpM c) n).lo, .int .i64 (boundS c l (sumpM c) n).hi]
end
end Go.Sim.Le


namespace Go.Sim.Le
open Go.Proofs
variable (F d : Nat)
end Go.Sim.Le


namespace Go.Sim.Le
open Go.Proofs
def rotF {α : Type} (l : Nat → α) (n q u : Nat) : α := if u < n - q then l (u + q) else l (u - (n - q))
def narrow (d : Int) (x : Slc) : Slc := { x with vol := ⟨x.vol.lo, x.vol.hi - min d (x.vol.hi - x.vol.lo)⟩, rate := ⟨x.rate.lo + min d (x.rate.hi - x.rate.lo), x.rate.hi⟩ }
def narrowC (d : Int) (c : Cav) : Cav := { c with slices := ⟨false, c.slices.len, fun u => if u < c.slices.len then narrow d (c.slices.el u) else c.slices.el u⟩ }
section
variable {d : Int} (hd : 0 ≤ d) {c : Cav} (hc : CavOk c) {s : Stg} (hs : StgOk c.slices.len s)
include hd hc hs
end
section
variable {d : Int} (hd : 0 ≤ d) {c : Cav} (hc : CavOk c) {l : Nat → Stg} {n : Nat} (hl : ∀ i, i < n → StgOk c.slices.len (l i))
include hd hc hl
end
def moreL (d : Int) (q : Nat) (l : Nat → Stg) (u : Nat) : Stg := if u = q then { l u with water := min 1000000 ((l u).water + d) } else l u
section
variable {d : Int} (hd : 0 ≤ d) {c : Cav} (hc : CavOk c) {l : Nat → Stg} {n : Nat} (hl : ∀ i, i < n → StgOk c.slices.len (l i)) (q : Nat)
include hd hl
include hc
end
end Go.Sim.Le


namespace Go.Sim.Le
open Go.Proofs
section
variable {d : Int} (hd : 0 ≤ d) {c : Cav} (hc : CavOk c) {s : Stg} (hs : StgOk c.slices.len s)
include hd hc hs
end
variable (F d : Nat)
section
variable {c : Cav} (hc : CavOk c) {l : Sl Stg} (h8 : l.len ≤ 8) (hl : ∀ i, i < l.len → StgOk c.slices.len (l.el i)) (hF : 1000000000 < F)
include hc h8 hl hF
end
end Go.Sim.Le


namespace Go.Sim.Le
open Go.Proofs
variable (F d : Nat)
end Go.Sim.Le


namespace Go.Sim.Le
open Go.Proofs
def trueM (c : Cav) (l : Nat → Stg) (t : Truth) (m : Mea) (j : Nat) : Int := sumF (fun i => m.weights.el i * volS c l t j i) c.slices.len + m.sump * sumpS c l t j
section
variable {c : Cav} (hc : CavOk c) {s : Stg} (hs : StgOk c.slices.len s) (w : Nat → Int) (hw : RatesOk c w)
include hc hs hw
end
section
variable {c : Cav} (hc : CavOk c) {n : Nat} {l : Nat → Stg} (hl : ∀ i, i < n → StgOk c.slices.len (l i)) {t : Truth} (ht : TruthOk c n t)
include hc hl ht
end
section
variable {c : Cav} (hc : CavOk c) {n : Nat} {l : Nat → Stg} (hl : ∀ i, i < n → StgOk c.slices.len (l i)) {t : Truth} (ht : TruthOk c n t)
include hc hl ht
def takenS (l : Nat → Stg) (t : Truth) (c : Cav) (u : Nat) : Nat → Int
  | 0 => 0
  | j + 1 => takenS l t c u j + (l j).water * takeRow c (l j) (wK t j) (pathN (l j)) u
end
end Go.Sim.Le


namespace Go.Sim.Le
open Go.Proofs
variable (F d : Nat)
section
variable {c : Cav} (hc : CavOk c) {l : Sl Stg} (h8 : l.len ≤ 8) (hl : ∀ i, i < l.len → StgOk c.slices.len (l.el i)) {t : Truth} (ht : TruthOk c l.len t)
include hc h8 hl ht
end
end Go.Sim.Le


namespace Go.Sim.Le
open Go.Proofs
theorem fault_rule {c : Cav} {l : Nat → Stg} : ∀ j k, ((faultR c l j k).1 = -1 ∧ (faultR c l j k).2.1 = 1) ∨ ((k : Int) ≤ (faultR c l j k).1 ∧ (faultR c l j k).1 < ((k + j : Nat) : Int) ∧ (faultR c l j k).2.1 ≠ 1)
  | 0, k => .inl ⟨rfl, rfl⟩
  | j + 1, k => by
    have i := fault_rule (c := c) (l := l) j (k + 1)
    simp only [faultR]
    cases decide (topOf (l k) ≥ (l k).blanket) with
    | true => right; simp only [cond_true]; omega
    | false =>
      simp only [cond_false]
      cases buriedB c l k with
      | true => right; simp only [cond_true]; omega
      | false =>
        simp only [cond_false]
        cases oiledB c l k with
        | true => right; simp only [cond_true]; omega
        | false =>
          simp only [cond_false]
          cases (wideR c l k c.slices.len 0).2 with
          | true => right; simp only [cond_true]; omega
          | false => simp only [cond_false]; omega
def tP (t : Truth) (k : Nat) : Truth := ⟨t.vols, ⟨t.rates.nl, k, t.rates.el⟩⟩
def deepF (x y : Int) (v : Nat → Int) (u : Nat) : Int := if (u : Int) ≤ x ∧ (u : Int) ≤ y then v u else 0
def highF' (b : Int) (v : Nat → Int) (u : Nat) : Int := if (u : Int) ≥ b then v u else 0
variable (F d : Nat)
end Go.Sim.Le


namespace Go.Sim.Le
open Go.Proofs
variable (F d : Nat)
section
variable {c : Cav} (hc : CavOk c) {l : Sl Stg} (h8 : l.len ≤ 8) (hl : ∀ i, i < l.len → StgOk c.slices.len (l.el i)) {t : Truth} (ht : TruthOk c l.len t) (hF : 1000000000 < F) (hnl : t.vols.nl = true → t.vols.len = 0)
include hc h8 hl ht hF hnl
end
end Go.Sim.Le


namespace Go.Sim.Le
open Go.Proofs
section
variable {c : Cav} (hc : CavOk c) {s : Stg} (hs : StgOk c.slices.len s)
include hc hs
end
end Go.Sim.Le


namespace Go.Sim.Le
open Go.Proofs
abbrev slK (k : Nat) (r : List Int) : Sl Int := ⟨false, k, fun j => r.getD j (r.getLastD 0)⟩
abbrev slI (r : List Int) : Sl Int := slK r.length r
theorem slI_el {r : List Int} {j : Nat} (h : j < r.length) : (slI r).el j = r.getD j 0 := by
  simp only [List.getD_eq_getElem?_getD, List.getElem?_eq_getElem h, Option.getD_some]
def radW (c : Cav) (i : Nat) : Int := (c.slices.el i).rate.hi - (c.slices.el i).rate.lo + 1
def xd (c : Cav) (x : Int) : Nat → Int
  | 0 => x
  | i + 1 => xd c x i / radW c i
def dg (c : Cav) (x : Int) (i : Nat) : Int := (c.slices.el i).rate.lo + xd c x i % radW c i
def manyW (c : Cav) : Nat → Int
  | 0 => 1
  | i + 1 => manyW c i * radW c i
def numW (c : Cav) (w : Nat → Int) : Nat → Nat → Int
  | 0, _ => 0
  | j + 1, i => (w i - (c.slices.el i).rate.lo) + radW c i * numW c w j (i + 1)
section
variable {c : Cav} (hc : CavOk c)
include hc
end
def truthX (k : Nat) (vs rs : List Int) : Truth := ⟨slK k vs, ⟨false, 1, fun _ => slK k rs⟩⟩
def rts (c : Cav) (x : Int) (k : Nat) : List Int := (List.range k).map (dg c x)
def lowV (c : Cav) (w : Nat → Int) (i : Nat) : Int := if w i < 0 then (c.slices.el i).vol.hi else (c.slices.el i).vol.lo
def highV (c : Cav) (w : Nat → Int) (i : Nat) : Int := if w i < 0 then (c.slices.el i).vol.lo else (c.slices.el i).vol.hi
def vls (f : Nat → Int) (k : Nat) : List Int := (List.range k).map f
section
variable {c : Cav} (hc : CavOk c)
include hc
end
def mnR (f : Nat → Int) : Nat → Int
  | 0 => 0
  | k + 1 => if k = 0 then f 0 else if f k < mnR f k then f k else mnR f k
def mxR (f : Nat → Int) : Nat → Int
  | 0 => 0
  | k + 1 => if k = 0 then f 0 else if f k > mxR f k then f k else mxR f k
end Go.Sim.Le


namespace Go.Sim.Le
open Go.Proofs
variable (F d : Nat)
def pickS (l : Nat → Stg) (w : Sl Int) (k : Nat) : List Stg := (List.range k).map fun j => l (w.el j).toNat
theorem pickS_succ (l : Nat → Stg) (w : Sl Int) (k : Nat) : pickS l w (k + 1) = pickS l w k ++ [l (w.el k).toNat] := by simp [pickS, List.range_succ]
theorem pickS_len (l : Nat → Stg) (w : Sl Int) (k : Nat) : (pickS l w k).length = k := by simp [pickS]
theorem pickS_I (l : Nat → Stg) (r : List Int) : pickS l (slI r) r.length = msOf l r := by
  refine List.ext_getElem (by simp [pickS, msOf]) fun i h1 h2 => ?_
  have h : i < r.length := by simpa [pickS] using h1
  simp only [pickS, msOf, List.getElem_map, List.getElem_range]
  rw [show r.getD i (r.getLastD 0) = r[i] by rw [List.getD_eq_getElem?_getD, List.getElem?_eq_getElem h]; rfl]
abbrev PlOk (l : Sl Stg) (w : Sl Int) : Prop := ∀ i, i < w.len → 0 ≤ w.el i ∧ w.el i < l.len
theorem l52x1 (l : Sl Stg) (w : Sl Int) (hw : PlOk l w) (hn : w.len ≤ 1000) : ∀ j i fu, i + j = w.len → 1 ≤ i → j < fu →
    L52x1 (E F d) F l w fu i i i (gl eStg z0 (pickS l.el w i)) = some (.ret (.row false w.len 4 (gl eStg z0 (pickS l.el w w.len)))) := by
  intro j
  induction j with
  | zero =>
    intro i fu h h1 hf
    obtain ⟨fu, rfl⟩ : ∃ k, fu = k + 1 := ⟨fu - 1, by omega⟩
    have hi : i = w.len := by omega
    subst hi
    rw [L52x1s, decide_eq_false (by omega), pF]
  | succ j ih =>
    intro i fu h h1 hf
    obtain ⟨fu, rfl⟩ : ∃ k, fu = k + 1 := ⟨fu - 1, by omega⟩
    have h2 := hw i (by omega)
    have e := ih (i + 1) fu (by omega) (by omega) (by omega)
    have hS2 : IntKind.i64.wrap ((i : Int) + 1) = ((i + 1 : Nat) : Int) := wrS (by omega)
    rw [pickS_succ, ← gl_snoc (e := eStg) (z := z0) (m := l.el (w.el i).toNat) (ms := pickS l.el w i) (k := i) (pickS_len ..) rfl] at e
    rw [L52x1s]
    simp (disch := omega) only [decide_eq_true, decide_true, pT, Int.toNat_natCast, hS2]
    exact e
theorem s52 (l : Sl Stg) (w : Sl Int) (hw : PlOk l w) (h0 : 0 < w.len) (hn : w.len ≤ 1000) (hF : 1000 < F) :
    (E F (d + 1)).pf 52 [sl eStg 4 l, sl eInt 1 w] = some (.ret (sl eStg 4 ⟨false, w.len, stgF (pickS l.el w w.len)⟩)) := by
  obtain ⟨F, rfl⟩ : ∃ k, F = k + 1 := ⟨F - 1, by omega⟩
  have h2 := hw 0 h0
  have e := l52x1 (F + 1) d l w hw hn (w.len - 1) 1 F (by omega) (by omega) (by omega)
  rw [show pickS l.el w 1 = [l.el (w.el 0).toNat] from rfl, ← gl_one rfl] at e
  rw [E_pf, t52, L52x0s]
  simp (disch := omega) only [decide_eq_true, decide_true, pT, wr (n := 0 + 1), Int.zero_add]
  exact e
theorem s52n (l : Sl Stg) (hF : 1000 < F) : (E F (d + 1)).pf 52 [sl eStg 4 l, .row true 0 0 fun _ => []] = some (.ret (.row true 0 0 fun _ => [])) := by
  obtain ⟨F, rfl⟩ : ∃ k, F = k + 1 := ⟨F - 1, by omega⟩
  rw [E_pf]
  kernel_rfl
def watW (l : Nat → Stg) (w : Sl Int) : Nat → Int
  | 0 => 0
  | k + 1 => watW l w k + (l (w.el k).toNat).water
theorem watW_in {n : Nat} {l : Sl Stg} (hl : ∀ i, i < l.len → StgOk n (l.el i)) {w : Sl Int} (hw : PlOk l w) : ∀ k, k ≤ w.len → 0 ≤ watW l.el w k ∧ watW l.el w k ≤ 1000000 * k := by
  intro k
  induction k with
  | zero => intro _; simp [watW]
  | succ k ih =>
    intro h
    have h1 := ih (by omega)
    have h2 := hw k (by omega)
    have h3 := (hl (w.el k).toNat (by omega)).1
    simp only [watW]
    omega
theorem watS_eq (l : Nat → Stg) (r : List Int) : watS l r = watW l (slI r) r.length := by
  have h : ∀ k, k ≤ r.length → watS l (r.take k) = watW l (slI r) k := by
    intro k
    induction k with
    | zero => intro _; rfl
    | succ k ih =>
      intro hk
      have hk' : k < r.length := by omega
      have htk : r.take (k + 1) = r.take k ++ [r.getD k 0] := by
        rw [List.take_add_one, List.getElem?_eq_getElem hk', List.getD_eq_getElem?_getD, List.getElem?_eq_getElem hk']; rfl
      rw [htk, watS_snoc, ih (by omega)]
      simp only [watW]
      have : r.getD k (r.getLastD 0) = r.getD k 0 := slI_el hk'
      rw [this]
  have := h r.length (Nat.le_refl _)
  rwa [List.take_length] at this
theorem l89 {n : Nat} (l : Sl Stg) (hl : ∀ i, i < l.len → StgOk n (l.el i)) (w : Sl Int) (hw : PlOk l w) (hn : w.len ≤ 1000) : ∀ j i fu, i + j = w.len → j < fu →
    L89x0 (E F d) F l w fu (watW l.el w i) i = some (.ret (.int .i64 (watW l.el w w.len))) := by
  intro j
  induction j with
  | zero =>
    intro i fu h hf
    obtain ⟨fu, rfl⟩ : ∃ k, fu = k + 1 := ⟨fu - 1, by omega⟩
    have hi : i = w.len := by omega
    subst hi
    rw [L89x0s, decide_eq_false (by omega), pF]
  | succ j ih =>
    intro i fu h hf
    obtain ⟨fu, rfl⟩ : ∃ k, fu = k + 1 := ⟨fu - 1, by omega⟩
    have h2 := hw i (by omega)
    have h3 := (hl (w.el i).toNat (by omega)).1
    have h4 := watW_in hl hw i (by omega)
    have hS2 : IntKind.i64.wrap ((i : Int) + 1) = ((i + 1 : Nat) : Int) := wrS (by omega)
    rw [L89x0s]
    simp (disch := omega) only [decide_eq_true, decide_true, pT, Int.toNat_natCast, hS2, wr (n := watW l.el w i + (l.el (w.el i).toNat).water)]
    exact ih (i + 1) fu (by omega) (by omega)
theorem s89 {n : Nat} (l : Sl Stg) (hl : ∀ i, i < l.len → StgOk n (l.el i)) (w : Sl Int) (hw : PlOk l w) (hn : w.len ≤ 1000) (hF : 1000 < F) :
    (E F (d + 1)).pf 89 [sl eStg 4 l, sl eInt 1 w] = some (.ret (.int .i64 (watW l.el w w.len))) := by
  rw [E_pf, t89]
  exact l89 F d l hl w hw hn w.len 0 F (by omega) (by omega)
def lexR (a b : Nat → Int) : Nat → Nat → Bool
  | 0, _ => false
  | j + 1, i => if a i = b i then lexR a b j (i + 1) else decide (a i < b i)
def lessB (l : Nat → Stg) (a b : Sl Int) : Bool := if a.len ≠ b.len then decide (a.len < b.len) else if watW l a a.len ≠ watW l b b.len then decide (watW l a a.len < watW l b b.len) else lexR a.el b.el a.len 0
theorem l53 (l : Sl Stg) (a b : Sl Int) (hab : a.len = b.len) (hn : a.len ≤ 1000) : ∀ j i fu, i + j = a.len → j < fu → L53x0 (E F d) F l a b fu i = some (.ret (.bool (lexR a.el b.el j i))) := by
  intro j
  induction j with
  | zero =>
    intro i fu h hf
    obtain ⟨fu, rfl⟩ : ∃ k, fu = k + 1 := ⟨fu - 1, by omega⟩
    rw [L53x0s, decide_eq_false (by omega), pF]; rfl
  | succ j ih =>
    intro i fu h hf
    obtain ⟨fu, rfl⟩ : ∃ k, fu = k + 1 := ⟨fu - 1, by omega⟩
    have hS2 : IntKind.i64.wrap ((i : Int) + 1) = ((i + 1 : Nat) : Int) := wrS (by omega)
    rw [L53x0s]
    simp (disch := omega) only [decide_eq_true, decide_true, pT, Int.toNat_natCast, hS2]
    by_cases he : a.el i = b.el i
    · rw [show (a.el i != b.el i) = false by simp [he], pF, ih (i + 1) fu (by omega) (by omega)]
      simp only [lexR, if_pos he]
    · rw [show (a.el i != b.el i) = true by simp [he], pT]
      simp only [lexR, if_neg he]
theorem s53 {n : Nat} (l : Sl Stg) (hl : ∀ i, i < l.len → StgOk n (l.el i)) (a b : Sl Int) (ha : PlOk l a) (hb : PlOk l b) (han : a.len ≤ 1000) (hbn : b.len ≤ 1000) (hF : 1000 < F) :
    (E F (d + 2)).pf 53 [sl eStg 4 l, sl eInt 1 a, sl eInt 1 b] = some (.ret (.bool (lessB l.el a b))) := by
  have e1 := s89 F d l hl a ha han hF
  have e2 := s89 F d l hl b hb hbn hF
  rw [E_pf, t53]
  unfold lessB
  by_cases h0 : a.len = b.len
  · rw [show (((a.len : Nat) : Int) != ((b.len : Nat) : Int)) = false by simp [h0], pF, if_neg (fun h => h h0)]
    simp only [e1, e2, tkOut_ret, tkInt_i, decide_true, pT]
    by_cases h1 : watW l.el a a.len = watW l.el b b.len
    · rw [show (watW l.el a a.len != watW l.el b b.len) = false by simp [h1], pF, if_neg (fun h => h h1)]
      exact l53 F (d + 1) l a b h0 han a.len 0 F (by omega) (by omega)
    · rw [show (watW l.el a a.len != watW l.el b b.len) = true by simp [h1], pT, if_pos h1]
  · rw [show (((a.len : Nat) : Int) != ((b.len : Nat) : Int)) = true by simp; omega, pT, if_pos h0]
    refine b3 (b2 ?_)
    simp only [decide_eq_true_iff]
    omega
def extS (r : List Int) : Nat → Nat → List (List Int)
  | 0, _ => []
  | j + 1, i => (r ++ [(i : Int)]) :: extS r j (i + 1)
def plansS (m : Nat) : Nat → List (List Int)
  | 0 => [[]]
  | n + 1 => (plansS m n).flatMap fun r => extS r m 0
theorem extS_len (r : List Int) : ∀ j i, (extS r j i).length = j := by
  intro j
  induction j with
  | zero => intro i; rfl
  | succ j ih => intro i; simp [extS, ih]
theorem flat_len (m : Nat) : ∀ PL : List (List Int), (PL.flatMap fun r => extS r m 0).length = PL.length * m := by
  intro PL
  induction PL with
  | nil => simp
  | cons r PL ih => rw [List.flatMap_cons, List.length_append, extS_len, ih, List.length_cons, Nat.add_mul]; omega
theorem plansS_len (m : Nat) : ∀ n, (plansS m n).length = m ^ n := by
  intro n
  induction n with
  | zero => rfl
  | succ n ih => rw [plansS, flat_len, ih, Nat.pow_succ]
theorem extS_ok {l : Sl Stg} {n : Nat} {r : List Int} (hr : RowOk l n r) : ∀ j i, i + j = l.len → ∀ q ∈ extS r j i, RowOk l (n + 1) q := by
  intro j
  induction j with
  | zero => intro i _ q hq; simp [extS] at hq
  | succ j ih =>
    intro i h q hq
    rcases List.mem_cons.1 hq with rfl | hq
    · refine ⟨by simp [hr.1], fun x hx => ?_⟩
      rcases List.mem_append.1 hx with hx | hx
      · exact hr.2 x hx
      · rw [List.mem_singleton] at hx; omega
    · exact ih (i + 1) (by omega) q hq
theorem plansS_ok {l : Sl Stg} : ∀ n, ∀ r ∈ plansS l.len n, RowOk l n r := by
  intro n
  induction n with
  | zero => intro r hr; rw [plansS, List.mem_singleton] at hr; subst hr; exact ⟨rfl, by simp⟩
  | succ n ih =>
    intro q hq
    obtain ⟨r, h1, h2⟩ := List.mem_flatMap.1 hq
    exact extS_ok (ih r h1) _ _ (by omega) q h2
section
variable (l : Sl Stg) (hL0 : 1 ≤ l.len) (hL : l.len ≤ 6) (n : Nat)
include hL0 hL
theorem l80x3 (m0 m1 t : Nat) (ht : t ≤ 100) (PL pre rest : List (List Int)) (r : List Int) (hPL : PL = pre ++ r :: rest) (hr : RowOk l t r) (hPLl : PL.length ≤ 10000) (R : Option Out) :
    ∀ j i fu NP, i + j = l.len → j < fu → NP ≠ [] → NP.length + j ≤ 100000 →
    (L80x4 (E F d) F l n m0 m1 PL.length t (NP ++ extS r j i).length ((pre.length + 1 : Nat) : Int) PL.length (rowG PL) (NP ++ extS r j i).length (rowG (NP ++ extS r j i)) = R) →
    L80x3 (E F d) F l n m0 m1 fu PL.length t NP.length pre.length i PL.length (rowG PL) NP.length (rowG NP) = R := by
  intro j
  induction j with
  | zero =>
    intro i fu NP h hf hN hNl K
    obtain ⟨fu, rfl⟩ : ∃ k, fu = k + 1 := ⟨fu - 1, by omega⟩
    have hpl : PL.length = pre.length + (rest.length + 1) := by rw [hPL]; simp
    have hS2 : IntKind.i64.wrap ((pre.length : Int) + 1) = ((pre.length + 1 : Nat) : Int) := wrS (by omega)
    simp only [extS, List.append_nil] at K
    rw [L80x3s, decide_eq_false (by omega), pF, hS2]
    exact K
  | succ j ih =>
    intro i fu NP h hf hN hNl K
    obtain ⟨fu, rfl⟩ : ∃ k, fu = k + 1 := ⟨fu - 1, by omega⟩
    have hpl : PL.length = pre.length + (rest.length + 1) := by rw [hPL]; simp
    have hrow := rowG_at hPL
    have hS2 : IntKind.i64.wrap ((i : Int) + 1) = ((i + 1 : Nat) : Int) := wrS (by omega)
    have e := ih (i + 1) fu (NP ++ [r ++ [(i : Int)]]) (by omega) (by omega) (by simp) (by simp; omega) (by
      rw [extS] at K
      rw [List.append_assoc]
      exact K)
    rw [← rowG_snoc NP (r ++ [(i : Int)]) (by simp), List.length_append, List.length_singleton] at e
    rw [L80x3s]
    simp (disch := omega) only [decide_eq_true, decide_true, pT, Int.toNat_natCast, hS2, hrow, rowE, tkCons_c, tkRow_r]
    cases hr0 : r with
    | nil =>
      rw [hr0] at e
      simp only [rb, pT]
      rw [show gl eInt 0 ([] ++ [(i : Int)]) = fun _ => [V.int .i64 (i : Int)] from (gl_one rfl).symm] at e
      exact e
    | cons b r0 =>
      have hne : r ≠ [] := by rw [hr0]; simp
      have hr1 := hr.1
      rw [← hr0, rb_own hne, rw_own hne, rg_own hne, pF]
      rw [← gl_snoc (e := eInt) (z := 0) (m := (i : Int)) (ms := r) (k := r.length) rfl rfl, List.length_append, List.length_singleton] at e
      have hrl : 0 < r.length := List.length_pos_iff.2 hne
      rw [show ((1 : Nat) == 1) = true from rfl, pT, show (r.length == 0) = false by rw [beq_eq_false_iff_ne]; omega, pF]
      exact e
theorem l80x4 (m0 t : Nat) (ht : t < n) (hn : n ≤ 100) (PL : List (List Int)) (hPL : ∀ r ∈ PL, RowOk l t r) (hPLl : PL.length ≤ 10000) (R : Option Out) :
    ∀ rest pre fu NP, PL = pre ++ rest → rest.length < fu → NP ≠ [] → NP.length + rest.length * 6 ≤ 100000 → 100 < F →
    (L80x0 (E F d) F l n m0 (NP ++ (rest.flatMap fun r => extS r l.len 0)).length ((t + 1 : Nat) : Int) (NP ++ (rest.flatMap fun r => extS r l.len 0)).length (rowG (NP ++ (rest.flatMap fun r => extS r l.len 0))) = R) →
    L80x4 (E F d) F l n m0 fu PL.length t NP.length pre.length PL.length (rowG PL) NP.length (rowG NP) = R := by
  intro rest
  induction rest with
  | nil =>
    intro pre fu NP h hf hN hNl hF K
    obtain ⟨fu, rfl⟩ : ∃ k, fu = k + 1 := ⟨fu - 1, by omega⟩
    rw [List.append_nil] at h
    subst h
    have hS2 : IntKind.i64.wrap ((t : Int) + 1) = ((t + 1 : Nat) : Int) := wrS (by omega)
    simp only [List.flatMap_nil, List.append_nil] at K
    rw [L80x4s, decide_eq_false (by omega), pF, hS2]
    exact K
  | cons r rest ih =>
    intro pre fu NP h hf hN hNl hF K
    obtain ⟨fu, rfl⟩ : ∃ k, fu = k + 1 := ⟨fu - 1, by omega⟩
    have hpl : PL.length = pre.length + (rest.length + 1) := by rw [h]; simp
    rw [List.length_cons] at hNl hf
    rw [L80x4s, decide_eq_true (by omega), pT]
    refine l80x3 F d l hL0 hL n m0 fu t (by omega) PL pre rest r h (hPL r (by rw [h]; simp)) hPLl R l.len 0 F NP (by omega) (by omega) hN (by omega) ?_
    have e := ih (pre ++ [r]) fu (NP ++ extS r l.len 0) (by rw [h]; simp) (by omega) (by simp [hN]) (by rw [List.length_append, extS_len]; omega) hF (by
      rw [List.flatMap_cons] at K
      rw [List.append_assoc]
      exact K)
    rw [show (pre ++ [r]).length = pre.length + 1 by simp] at e
    exact e
theorem l80x0 (hn : n ≤ 5) (hF : 100000 < F) : ∀ j t fu, t + j = n → j < fu →
    L80x0 (E F d) F l n fu (plansS l.len t).length t (plansS l.len t).length (rowG (plansS l.len t)) = some (.ret (.row false (plansS l.len n).length 1 (rowG (plansS l.len n)))) := by
  intro j
  induction j with
  | zero =>
    intro t fu h hf
    obtain ⟨fu, rfl⟩ : ∃ k, fu = k + 1 := ⟨fu - 1, by omega⟩
    have hi : t = n := by omega
    subst hi
    rw [L80x0s, decide_eq_false (by omega), pF]
  | succ j ih =>
    intro t fu h hf
    obtain ⟨fu, rfl⟩ : ∃ k, fu = k + 1 := ⟨fu - 1, by omega⟩
    have hpos : 1 ≤ (plansS l.len t).length := by rw [plansS_len]; exact Nat.one_le_pow _ _ (by omega)
    have hle : (plansS l.len t).length ≤ 10000 := by
      rw [plansS_len]
      have h1 : l.len ^ t ≤ 6 ^ t := Nat.pow_le_pow_left hL t
      have h2 : 6 ^ t ≤ 6 ^ 5 := Nat.pow_le_pow_right (by omega) (by omega)
      have h3 : (6 : Nat) ^ 5 = 7776 := rfl
      omega
    have e := ih (t + 1) fu (by omega) (by omega)
    rw [plansS] at e
    have hok := plansS_ok (l := l) t
    obtain ⟨r, rest, hPL⟩ : ∃ r rest, plansS l.len t = r :: rest := by
      cases hp : plansS l.len t with
      | nil => rw [hp] at hpos; simp at hpos
      | cons r rest => exact ⟨r, rest, rfl⟩
    generalize plansS l.len t = PL at *
    obtain ⟨F, rfl⟩ : ∃ k, F = k + 1 := ⟨F - 1, by omega⟩
    obtain ⟨F, rfl⟩ : ∃ k, F = k + 1 := ⟨F - 1, by omega⟩
    have hr := hok r (by rw [hPL]; simp)
    have hrow : rowG PL 0 = rowE r := rowG_at (pre := []) hPL
    have hS1 : IntKind.i64.wrap ((0 : Int) + 1) = ((1 : Nat) : Int) := by decide
    obtain ⟨m, hm⟩ : ∃ m, l.len = m + 1 := ⟨l.len - 1, by omega⟩
    have hxs : extS r l.len 0 = [r ++ [((0 : Nat) : Int)]] ++ extS r m 1 := by rw [hm]; rfl
    have hpl : PL.length = rest.length + 1 := by rw [hPL]; simp
    have hxl : ([r ++ [((0 : Nat) : Int)]] ++ extS r m 1).length = l.len := by rw [← hxs, extS_len]
    have e4 := l80x4 (F + 1 + 1) d l hL0 hL n fu t (by omega) (by omega) PL hok hle (some (.ret (.row false (plansS l.len n).length 1 (rowG (plansS l.len n))))) rest [r] (F + 1) ([r ++ [((0 : Nat) : Int)]] ++ extS r m 1) hPL (by omega) (by simp) (by rw [hxl]; omega) (by omega) (by
      rw [← hxs]
      rw [hPL] at e
      rw [List.flatMap_cons] at e
      exact e)
    have e3 := l80x3 (F + 1 + 1) d l hL0 hL n fu (F + 1) t (by omega) PL [] rest r hPL hr hle (some (.ret (.row false (plansS l.len n).length 1 (rowG (plansS l.len n))))) m 1 (F + 1) [r ++ [((0 : Nat) : Int)]] (by omega) (by omega) (by simp) (by simp; omega) e4
    rw [← rowG_one _ (by simp), List.length_append, List.length_singleton, List.length_singleton] at e3
    rw [L80x0s, decide_eq_true (by omega), pT, L80x1s, decide_eq_true (by omega), pT, L80x2s]
    simp (disch := omega) only [decide_eq_true, decide_true, pT, hrow, rowE, tkCons_c, tkRow_r, hS1, show Int.toNat 0 = 0 from rfl]
    cases hr0 : r with
    | nil =>
      rw [hr0] at e3
      simp only [rb, pT]
      rw [show gl eInt 0 ([] ++ [((0 : Nat) : Int)]) = fun _ => [V.int .i64 ((0 : Nat) : Int)] from (gl_one rfl).symm] at e3
      exact e3
    | cons b r0 =>
      have hne : r ≠ [] := by rw [hr0]; simp
      have hr1 := hr.1
      rw [← hr0, rb_own hne, rw_own hne, rg_own hne, pF]
      rw [← gl_snoc (e := eInt) (z := 0) (m := ((0 : Nat) : Int)) (ms := r) (k := r.length) rfl rfl] at e3
      have hrl : 0 < r.length := List.length_pos_iff.2 hne
      rw [show ((1 : Nat) == 1) = true from rfl, pT, show (r.length == 0) = false by rw [beq_eq_false_iff_ne]; omega, pF]
      exact e3
theorem s80 (hn : n ≤ 5) (hF : 100000 < F) : (E F (d + 1)).pf 80 [sl eStg 4 l, .int .i64 n] = some (.ret (.row false (plansS l.len n).length 1 (rowG (plansS l.len n)))) := by
  have e := l80x0 F d l hL0 hL n hn hF n 0 F (by omega) (by omega)
  rw [E_pf, t80]
  rw [show plansS l.len 0 = [[]] from rfl, show rowG [[]] = fun _ => [V.row true 0 0 fun _ => []] from (gl_one rfl).symm] at e
  exact e
end
end Go.Sim.Le


namespace Go.Sim.Le
open Go.Proofs
variable (F d : Nat)
theorem l650 {c : Cav} (hc : CavOk c) {m : Mea} (hm : MeaOk c m) (hF : 400 < F) : ∀ j k fu, k + j = c.slices.len → j < fu →
    L650x0 (E F (d + 3)) F c m.weights m.sump fu (firstS c m k).hi k = some (.ret (.int .i64 (firstS c m c.slices.len).hi)) := by
  have hcl := hc.1
  have hml := hm.1
  intro j
  induction j with
  | zero =>
    intro k fu h hf
    obtain ⟨fu, rfl⟩ : ∃ k, fu = k + 1 := ⟨fu - 1, by omega⟩
    obtain ⟨F, rfl⟩ : ∃ k, F = k + 1 := ⟨F - 1, by omega⟩
    rw [L650x0s, decide_eq_false (by omega), pF, show k = c.slices.len by omega, L650x1s]
  | succ j ih =>
    intro k fu h hf
    obtain ⟨fu, rfl⟩ : ∃ k, fu = k + 1 := ⟨fu - 1, by omega⟩
    have h1 := vol_in hc hm (k := k) (by omega)
    have h2 := first_in hc hm k (by omega)
    have h3 := first_in hc hm (k + 1) (by omega)
    have h4 := (hc.2.2.2 k (by omega)).1.2.1
    simp only [firstS, addS] at h3
    rw [L650x0s]
    simp (disch := omega) only [wr, decide_eq_true, decide_true, pT, Int.toNat_natCast, mxE, times_hi h4]
    have e := ih (k + 1) fu (by omega) (by omega)
    exact e
theorem s650 {c : Cav} (hc : CavOk c) {m : Mea} (hm : MeaOk c m) (hF : 400 < F) :
    (E F (d + 4)).pf 65 [.agg (eCav c), .row true 0 0 (fun _ => []), sl eInt 1 m.weights, .int .i64 m.sump] = some (.ret (.int .i64 (firstS c m c.slices.len).hi)) := by
  have hcl := hc.1
  rw [E_pf, t650]
  exact l650 F d hc hm hF c.slices.len 0 F (by omega) (by omega)
theorem l250 {c : Cav} (hc : CavOk c) {m : Mea} (hm : MeaOk c m) (hF : 400 < F) : ∀ j k fu, k + j = m.weights.len → j < fu →
    L250x0 (E F (d + 4)) F c m.weights m.sump fu k (fun u => eInt (negR m.weights k u)) = some (.ret (.agg (eSpan (firstS c m c.slices.len)))) := by
  have hcl := hc.1
  have hml := hm.1
  intro j
  induction j with
  | zero =>
    intro k fu h hf
    obtain ⟨fu, rfl⟩ : ∃ k, fu = k + 1 := ⟨fu - 1, by omega⟩
    have hk : k = m.weights.len := by omega
    have hm' : MeaOk c ⟨⟨false, m.weights.len, negR m.weights m.weights.len⟩, -m.sump⟩ := ⟨hm.1, fun i hi => by
      have := hm.2.1 i hi
      simp only [negR]
      rw [if_pos (by omega)]; omega, by have := hm.2.2; show -1000 ≤ -m.sump; omega, by have := hm.2.2; show -m.sump ≤ 1000; omega⟩
    have e1 := s650 F d hc hm' hF
    have e2 := s650 F d hc hm hF
    have e3 := bound_neg hc (m := m) (m' := ⟨⟨false, m.weights.len, negR m.weights m.weights.len⟩, -m.sump⟩) (n := 0) (l := fun _ => z0) (fun i hi => by omega) (fun i hi => by simp only [negR]; rw [if_pos (by omega)]) rfl 0 (Nat.le_refl _)
    simp only [boundS] at e3
    have h2 := first_in hc hm c.slices.len (Nat.le_refl _)
    have h3 := hm.2.2
    rw [L250x0s, hk]
    simp only [sl] at e1
    simp (disch := omega) only [decide_eq_false, pF, wr, Int.toNat_natCast, Int.zero_sub]
    rw [e1, e2, e3]
    simp (disch := omega) only [tkOut_ret, tkInt_i, wr, Int.neg_neg]
  | succ j ih =>
    intro k fu h hf
    obtain ⟨fu, rfl⟩ : ∃ k, fu = k + 1 := ⟨fu - 1, by omega⟩
    have h1 := hm.2.1 k (by omega)
    have e3 := upd_int (negR m.weights k) k (-m.weights.el k)
    have e4 : (fun u => eInt (if u = k then -m.weights.el k else negR m.weights k u)) = fun u => eInt (negR m.weights (k + 1) u) := by
      funext u
      refine congrArg eInt ?_
      unfold negR
      by_cases h2 : u = k
      · subst h2; rw [if_pos rfl, if_pos (by omega)]
      · rw [if_neg h2]
        by_cases h3 : u < k
        · rw [if_pos h3, if_pos (by omega)]
        · rw [if_neg h3, if_neg (by omega)]
    rw [e4] at e3
    rw [L250x0s]
    simp (disch := omega) only [decide_eq_true, decide_true, pT, wr, Int.toNat_natCast, Int.zero_sub]
    rw [e3]
    exact ih (k + 1) fu (by omega) (by omega)
theorem s250 {c : Cav} (hc : CavOk c) {m : Mea} (hm : MeaOk c m) (hF : 400 < F) :
    (E F (d + 5)).pf 25 [.agg (eCav c), .row true 0 0 (fun _ => []), sl eInt 1 m.weights, .int .i64 m.sump] = some (.ret (.agg (eSpan (firstS c m c.slices.len)))) := by
  have hcl := hc.1
  have hml := hm.1
  have e := l250 F d hc hm hF m.weights.len 0 F (by omega) (by omega)
  rw [E_pf, t250]
  simp (disch := omega) only [decide_eq_true, decide_true, pT]
  exact e
theorem s310 (c : Cav) (hF : 400 < F) : (E F (d + 1)).pf 31 [.agg (eCav c), .row true 0 0 (fun _ => [])] = some (.ret (.tup [.int .i64 (-1), .int .i64 1, .int .i64 0])) := by
  obtain ⟨F, rfl⟩ : ∃ k, F = k + 1 := ⟨F - 1, by omega⟩
  rw [E_pf, t310, L310x0s]
theorem bound_one2 {c : Cav} (hc : CavOk c) {n : Nat} {l : Nat → Stg} (hl : ∀ i, i < n → StgOk c.slices.len (l i)) (i : Nat) : boundS c l (oneM c i) n = boundS c l (meaS c 2 i) n :=
  bound_cong hc (m := meaS c 2 i) (m' := oneM c i) hl (fun u hu => by
    show oneW i u = meaW 2 i c.slices.len u
    unfold meaW oneW
    rw [if_pos hu, wv2]
    split <;> split <;> omega) rfl n (Nat.le_refl _)
theorem l810 {c : Cav} (hc : CavOk c) (l : Nat → Stg) (w : Sl Int) (hw : w.len ≤ c.slices.len) (hF : 400 < F) : ∀ j i fu, i + j = w.len → j < fu →
    L810x0 (E F (d + 6)) F c w fu i = some (.ret (.bool (allF (fun i => decide (w.el i ≤ (boundS c l (meaS c 2 i) 0).lo)) j i))) := by
  have hcl := hc.1
  intro j
  induction j with
  | zero =>
    intro i fu h hf
    obtain ⟨fu, rfl⟩ : ∃ k, fu = k + 1 := ⟨fu - 1, by omega⟩
    rw [L810x0s, decide_eq_false (by omega), pF]; rfl
  | succ j ih =>
    intro i fu h hf
    obtain ⟨fu, rfl⟩ : ∃ k, fu = k + 1 := ⟨fu - 1, by omega⟩
    have e75 : (E F (d + 6)).pf 75 [.agg (eCav c), .int .i64 i] = _ := s75 F (d + 5) c (by omega) i (by omega)
    have e25 := s250 F (d + 1) hc (oneM_ok c i) hF
    have eb := bound_one2 hc (n := 0) (l := l) (fun _ h => by omega) i
    simp only [boundS] at eb
    rw [eb] at e25
    simp only [sl] at e25 e75
    have e25' : (E F (d + 6)).pf 25 [.agg (eCav c), .row true 0 0 (fun _ => []), .row false c.slices.len 1 (fun u => eInt (oneW i u)), .int .i64 0] = some (.ret (.agg (eSpan (boundS c l (meaS c 2 i) 0)))) := e25
    have hS2 : IntKind.i64.wrap ((i : Int) + 1) = ((i + 1 : Nat) : Int) := wrS (by omega)
    rw [L810x0s]
    simp (disch := omega) only [decide_eq_true, decide_true, pT, Int.toNat_natCast, hS2, e75, e25', tkOut_ret, tkRow_r, tkAgg_a, tkCons_c, tkInt_i, tkNil_n]
    by_cases hlt : (boundS c l (meaS c 2 i) 0).lo < w.el i
    · rw [decide_eq_true hlt, pT]
      simp only [allF]
      rw [decide_eq_false (show ¬ w.el i ≤ _ from Int.not_le.2 hlt), Bool.false_and]
    · rw [decide_eq_false hlt, pF, ih (i + 1) fu (by omega) (by omega)]
      simp only [allF]
      rw [decide_eq_true (Int.not_lt.1 hlt), Bool.true_and]
theorem l81 {c : Cav} (hc : CavOk c) (l : Sl Stg) (hL : l.len ≤ 300) (hl : ∀ i, i < l.len → StgOk c.slices.len (l.el i)) (w : Sl Int) (hw : w.len ≤ c.slices.len) (hF : 400 < F) : ∀ j i fu, i + j = w.len → j < fu →
    L81x0 (E F (d + 6)) F c l w fu i = some (.ret (.bool (allF (fun i => decide (w.el i ≤ (boundS c l.el (meaS c 2 i) l.len).lo)) j i))) := by
  have hcl := hc.1
  intro j
  induction j with
  | zero =>
    intro i fu h hf
    obtain ⟨fu, rfl⟩ : ∃ k, fu = k + 1 := ⟨fu - 1, by omega⟩
    rw [L81x0s, decide_eq_false (by omega), pF]; rfl
  | succ j ih =>
    intro i fu h hf
    obtain ⟨fu, rfl⟩ : ∃ k, fu = k + 1 := ⟨fu - 1, by omega⟩
    have e75 : (E F (d + 6)).pf 75 [.agg (eCav c), .int .i64 i] = _ := s75 F (d + 5) c (by omega) i (by omega)
    have e25 := s25 F (d + 1) hc (oneM_ok c i) l hL hl hF
    rw [bound_one2 hc hl i] at e25
    simp only [sl] at e75
    have e25' : (E F (d + 6)).pf 25 [.agg (eCav c), sl eStg 4 l, .row false c.slices.len 1 (fun u => eInt (oneW i u)), .int .i64 0] = some (.ret (.agg (eSpan (boundS c l.el (meaS c 2 i) l.len)))) := e25
    have hS2 : IntKind.i64.wrap ((i : Int) + 1) = ((i + 1 : Nat) : Int) := wrS (by omega)
    rw [L81x0s]
    simp (disch := omega) only [decide_eq_true, decide_true, pT, Int.toNat_natCast, hS2, e75, e25', tkOut_ret, tkRow_r, tkAgg_a, tkCons_c, tkInt_i, tkNil_n]
    by_cases hlt : (boundS c l.el (meaS c 2 i) l.len).lo < w.el i
    · rw [decide_eq_true hlt, pT]
      simp only [allF]
      rw [decide_eq_false (show ¬ w.el i ≤ _ from Int.not_le.2 hlt), Bool.false_and]
    · rw [decide_eq_false hlt, pF, ih (i + 1) fu (by omega) (by omega)]
      simp only [allF]
      rw [decide_eq_true (Int.not_lt.1 hlt), Bool.true_and]
def fineA (c : Cav) (l : Nat → Stg) (r : List Int) : Bool := decide ((faultR c (stgF (msOf l r)) r.length 0).2.1 = 1)
section
variable {c : Cav} (hc : CavOk c) {l : Sl Stg} (hl : ∀ i, i < l.len → StgOk c.slices.len (l.el i)) (hF : 1000 < F) (w : Sl Int) (hw : w.len ≤ c.slices.len)
include hc hl hF hw
theorem s81 (r : List Int) (hr : ∀ i ∈ r, 0 ≤ i ∧ i < (l.len : Int)) (hn : r.length ≤ 300) :
    (E F (d + 7)).pf 81 [.agg (eCav c), .row false r.length 4 (gl eStg z0 (msOf l.el r)), sl eInt 1 w] = some (.ret (.bool (fineA c l.el r && makesB c l.el w r))) := by
  have hcl := hc.1
  have hs : ∀ i, i < r.length → StgOk c.slices.len (stgF (msOf l.el r) i) := fun i hi => (stgF_ok hl hr hi).1
  have e31 := s31 F d hc ⟨false, r.length, stgF (msOf l.el r)⟩ hn hs (by omega)
  have e := l81 F d hc ⟨false, r.length, stgF (msOf l.el r)⟩ hn hs w hw (by omega) w.len 0 F (by omega) (by omega)
  rw [E_pf]
  refine (t81 _ _ c ⟨false, r.length, stgF (msOf l.el r)⟩ w).trans ?_
  simp only [e31, tkOut_ret, tkTup_t, tkCons_c, tkInt_i, tkNil_n, decide_true, pT]
  unfold fineA
  by_cases h0 : (faultR c (stgF (msOf l.el r)) r.length 0).2.1 = 1
  · rw [show ((faultR c (stgF (msOf l.el r)) r.length 0).2.1 != 1) = false by simp [h0], pF, decide_eq_true h0, Bool.true_and]
    exact e
  · rw [show ((faultR c (stgF (msOf l.el r)) r.length 0).2.1 != 1) = true by simp [h0], pT, decide_eq_false h0, Bool.false_and]
theorem s81n : (E F (d + 7)).pf 81 [.agg (eCav c), .row true 0 0 (fun _ => []), sl eInt 1 w] = some (.ret (.bool (fineA c l.el [] && makesB c l.el w []))) := by
  have hcl := hc.1
  have e31 := s310 F (d + 5) c (by omega)
  have e := l810 F d hc (stgF (msOf l.el [])) w hw (by omega) w.len 0 F (by omega) (by omega)
  rw [E_pf, t810]
  simp only [e31, tkOut_ret, tkTup_t, tkCons_c, tkInt_i, tkNil_n, decide_true, pT]
  rw [show ((1 : Int) != 1) = false from rfl, pF, show fineA c l.el [] = true from rfl, Bool.true_and]
  exact e
def stepA (c : Cav) (l : Nat → Stg) (w : Sl Int) (acc : Option (List Int)) (r : List Int) : Option (List Int) :=
  bif fineA c l r && makesB c l w r then (match acc with | none => some r | some b => bif lessB l (slI r) (slI b) then some r else some b) else acc
def aO (acc : Option (List Int)) : List Int := match acc with | none => [] | some b => b
theorem plOk_I {n : Nat} {r : List Int} (h : RowOk l n r) : PlOk l (slI r) := fun i hi => by
  rw [slI_el hi]
  exact rowOk_at h hi
theorem l34x1 (m0 n : Nat) (hn : n ≤ 5) (PL : List (List Int)) (hPL : ∀ r ∈ PL, RowOk l n r) (hPLl : PL.length ≤ 10000) (h0 : n = 0 → PL.length ≤ 1) :
    ∀ rest pre acc fu R, PL = pre ++ rest → rest.length < fu → (∀ b, acc = some b → RowOk l n b ∧ pre ≠ []) →
    (match rest.foldl (stepA c l.el w) acc with | some b => some (.ret (.tup [.row (rb b) b.length (rwd b) (rg b), .bool true])) | none => L34x0 (E F (d + 7)) F c l w m0 ((n + 1 : Nat) : Int)) = R →
    L34x1 (E F (d + 7)) F c l w m0 fu n false PL.length 1 (rowG PL) (rb (aO acc)) (aO acc).length (rwd (aO acc)) (rg (aO acc)) acc.isSome pre.length = R := by
  intro rest
  induction rest with
  | nil =>
    intro pre acc fu R h hf hacc K
    obtain ⟨fu, rfl⟩ : ∃ k, fu = k + 1 := ⟨fu - 1, by omega⟩
    rw [List.append_nil] at h
    subst h
    have hS2 : IntKind.i64.wrap ((n : Int) + 1) = ((n + 1 : Nat) : Int) := wrS (by omega)
    rw [L34x1s, decide_eq_false (by omega), pF, hS2]
    cases acc with
    | none => rw [show (none : Option (List Int)).isSome = false from rfl, pF]; exact K
    | some b => rw [show (some b : Option (List Int)).isSome = true from rfl, pT]; exact K
  | cons r rest ih =>
    intro pre acc fu R h hf hacc K
    obtain ⟨fu, rfl⟩ : ∃ k, fu = k + 1 := ⟨fu - 1, by omega⟩
    have hrow := rowG_at h
    have hr : RowOk l n r := hPL r (by rw [h]; simp)
    have hpl : PL.length = pre.length + (rest.length + 1) := by rw [h]; simp
    have hS2 : IntKind.i64.wrap ((pre.length : Int) + 1) = ((pre.length + 1 : Nat) : Int) := wrS (by omega)
    have hr1 := hr.1
    rw [List.foldl_cons] at K
    have e := fun acc hacc K => ih (pre ++ [r]) acc fu R (by rw [h]; simp) (by simpa using hf) hacc K
    rw [show (pre ++ [r]).length = pre.length + 1 by simp] at e
    have e52 : ∃ x, (E F (d + 7)).pf 52 [sl eStg 4 l, .row (rb r) r.length (rwd r) (rg r)] = some (.ret x) ∧ ∃ a b k g, x = .row a b k g ∧ (E F (d + 7)).pf 81 [.agg (eCav c), .row a b k g, sl eInt 1 w] = some (.ret (.bool (fineA c l.el r && makesB c l.el w r))) := by
      cases hr0 : r with
      | nil => exact ⟨_, s52n F (d + 6) l hF, _, _, _, _, rfl, s81n F d hc hl hF w hw⟩
      | cons b r0 =>
        have hne : r ≠ [] := by rw [hr0]; simp
        have hlp : 0 < r.length := List.length_pos_iff.2 hne
        rw [← hr0, rb_own hne, rw_own hne, rg_own hne]
        have e1 := s52 F (d + 6) l (slI r) (plOk_I F hc hl hF w hw hr) hlp (by show r.length ≤ 1000; omega) hF
        have e2 := s81 F d hc hl hF w hw r hr.2 (by omega)
        rw [← pickS_I] at e2
        exact ⟨_, e1, _, _, _, _, rfl, e2⟩
    obtain ⟨x, e52, a1, a2, a3, a4, rfl, e81⟩ := e52
    rw [L34x1s]
    simp (disch := omega) only [decide_eq_true, decide_true, pT, Int.toNat_natCast, show ((1 : Nat) == 1) = true from rfl, hrow, rowE, tkCons_c, tkRow_r, hS2, e52, e81, tkOut_ret, tkBool_b]
    unfold stepA at K
    cases hgd : fineA c l.el r && makesB c l.el w r with
    | false =>
      rw [hgd, cond_false] at K
      rw [pF]
      exact e acc (fun b hb => ⟨(hacc b hb).1, by simp⟩) K
    | true =>
      rw [hgd, cond_true] at K
      rw [pT]
      cases hac : acc with
      | none =>
        rw [hac] at K
        rw [show (none : Option (List Int)).isSome = false from rfl, Bool.not_false, pT]
        exact e (some r) (fun b hb => by injection hb with hb; subst hb; exact ⟨hr, by simp⟩) K
      | some b =>
        obtain ⟨hb, hpre⟩ := hacc b hac
        have hb1 := hb.1
        rw [hac] at K
        rw [show (some b : Option (List Int)).isSome = true from rfl, Bool.not_true, pF]
        have hn0 : 0 < n := by
          rcases Nat.eq_zero_or_pos n with hz | hz
          · have h1 := h0 hz
            have h2 : 0 < pre.length := List.length_pos_iff.2 hpre
            omega
          · exact hz
        have hne : r ≠ [] := fun hh => by rw [hh] at hr1; simp at hr1; omega
        have hnb : b ≠ [] := fun hh => by rw [hh] at hb1; simp at hb1; omega
        have e53 := s53 F (d + 5) l hl (slI r) (slI b) (plOk_I F hc hl hF w hw hr) (plOk_I F hc hl hF w hw hb) (by show r.length ≤ 1000; omega) (by show b.length ≤ 1000; omega) hF
        have e53' : (E F (d + 7)).pf 53 [sl eStg 4 l, .row (rb r) r.length (rwd r) (rg r), .row (rb (aO (some b))) (aO (some b)).length (rwd (aO (some b))) (rg (aO (some b)))] = some (.ret (.bool (lessB l.el (slI r) (slI b)))) := by
          rw [rb_own hne, rw_own hne, rg_own hne, show aO (some b) = b from rfl, rb_own hnb, rw_own hnb, rg_own hnb]
          exact e53
        rw [e53', tkOut_ret, tkBool_b]
        have K' : (match rest.foldl (stepA c l.el w) (bif lessB l.el (slI r) (slI b) then some r else some b) with | some b => some (.ret (.tup [.row (rb b) b.length (rwd b) (rg b), .bool true])) | none => L34x0 (E F (d + 7)) F c l w m0 ((n + 1 : Nat) : Int)) = R := K
        cases hls : lessB l.el (slI r) (slI b) with
        | true =>
          rw [hls, cond_true] at K'
          rw [pT]
          exact e (some r) (fun b hb => by injection hb with hb; subst hb; exact ⟨hr, by simp⟩) K'
        | false =>
          rw [hls, cond_false] at K'
          rw [pF]
          exact e (some b) (fun b' hb' => by injection hb' with hb'; subst hb'; exact ⟨hb, by simp⟩) K'
end
def planA (c : Cav) (l : Sl Stg) (w : Sl Int) : Nat → Nat → Option (List Int)
  | 0, _ => none
  | t + 1, n => match (plansS l.len n).foldl (stepA c l.el w) none with | some b => some b | none => planA c l w t (n + 1)
def planAout : Option (List Int) → Out
  | none => .ret (.tup [.row true 0 0 (fun _ => []), .bool false])
  | some r => .ret (.tup [.row (rb r) r.length (rwd r) (rg r), .bool true])
section
variable {c : Cav} (hc : CavOk c) {l : Sl Stg} (hL0 : 1 ≤ l.len) (hL : l.len ≤ 6) (hl : ∀ i, i < l.len → StgOk c.slices.len (l.el i)) (hF : 100000 < F) (w : Sl Int) (hw : w.len ≤ c.slices.len)
include hc hl hF hw hL0 hL
theorem l34x0 : ∀ (t n fu : Nat), n + t = 6 → t < fu → L34x0 (E F (d + 7)) F c l w fu n = some (planAout (planA c l w t n)) := by
  intro t
  induction t with
  | zero =>
    intro n fu h hf
    obtain ⟨fu, rfl⟩ : ∃ k, fu = k + 1 := ⟨fu - 1, by omega⟩
    rw [L34x0s, decide_eq_false (by omega), pF]
    rfl
  | succ t ih =>
    intro n fu h hf
    obtain ⟨fu, rfl⟩ : ∃ k, fu = k + 1 := ⟨fu - 1, by omega⟩
    have hle : (plansS l.len n).length ≤ 10000 := by
      rw [plansS_len]
      have h1 : l.len ^ n ≤ 6 ^ n := Nat.pow_le_pow_left hL n
      have h2 : 6 ^ n ≤ 6 ^ 5 := Nat.pow_le_pow_right (by omega) (by omega)
      have h3 : (6 : Nat) ^ 5 = 7776 := rfl
      omega
    have e80 : (E F (d + 7)).pf 80 [sl eStg 4 l, .int .i64 n] = _ := s80 F (d + 6) l hL0 hL n (by omega) hF
    rw [L34x0s, decide_eq_true (by omega), pT]
    simp only [e80, tkOut_ret, tkRow_r]
    refine l34x1 F d hc hl (by omega) w hw fu n (by omega) (plansS l.len n) (plansS_ok n) hle (fun h => by subst h; simp [plansS]) (plansS l.len n) [] none F _ rfl (by omega) (fun b hb => by cases hb) ?_
    simp only [planA]
    cases (plansS l.len n).foldl (stepA c l.el w) none with
    | some b => rfl
    | none => exact ih (n + 1) fu (by omega) (by omega)
theorem s34 : (E F (d + 8)).pf 34 [.agg (eCav c), sl eStg 4 l, sl eInt 1 w] = some (planAout (planA c l w 6 0)) := by
  rw [E_pf, t34]
  exact l34x0 F d hc hL0 hL hl hF w hw 6 0 F (by omega) (by omega)
end
end Go.Sim.Le


namespace Go.Sim.Le
open Go.Proofs
theorem bound_l {c : Cav} {l l' : Nat → Stg} (m : Mea) : ∀ k, (∀ i, i < k → l i = l' i) → boundS c l m k = boundS c l' m k
  | 0, _ => rfl
  | k + 1, h => by
    simp only [boundS]
    rw [bound_l m k fun i hi => h i (by omega), h k (by omega)]
theorem wide_l {c : Cav} {l l' : Nat → Stg} {k : Nat} (h : ∀ i, i < k + 1 → l i = l' i) : ∀ j i, wideR c l k j i = wideR c l' k j i
  | 0, _ => rfl
  | j + 1, i => by
    simp only [wideR]
    rw [bound_l _ (k + 1) h, wide_l h j (i + 1)]
theorem fault_cong {c : Cav} {l l' : Nat → Stg} : ∀ j k, (∀ i, i < k + j → l i = l' i) → faultR c l j k = faultR c l' j k
  | 0, _, _ => rfl
  | j + 1, k, h => by
    have e1 : buriedB c l k = buriedB c l' k := by
      unfold buriedB
      rw [h k (by omega), bound_l _ k fun i hi => h i (by omega), bound_l _ (k + 1) fun i hi => h i (by omega)]
    have e2 : oiledB c l k = oiledB c l' k := by
      unfold oiledB
      rw [h k (by omega), bound_l _ k fun i hi => h i (by omega)]
    simp only [faultR]
    rw [e1, e2, wide_l (fun i hi => h i (by omega)), fault_cong j (k + 1) fun i hi => h i (by omega), h k (by omega)]
theorem fault_add {c : Cav} {l : Nat → Stg} : ∀ j k, (faultR c l (j + 1) k).2.1 = 1 ↔ (faultR c l j k).2.1 = 1 ∧ (faultR c l 1 (k + j)).2.1 = 1
  | 0, k => by simp [faultR]
  | j + 1, k => by
    have i := fault_add (c := c) (l := l) j (k + 1)
    rw [show k + 1 + j = k + (j + 1) by omega] at i
    rw [show faultR c l (j + 1 + 1) k = (bif decide (topOf (l k) ≥ (l k).blanket) then ((k : Int), 2, topOf (l k)) else bif buriedB c l k then ((k : Int), 3, lowOf (l k)) else
      bif oiledB c l k then ((k : Int), 4, (l k).blanket) else bif (wideR c l k c.slices.len 0).2 then ((k : Int), 5, (wideR c l k c.slices.len 0).1) else faultR c l (j + 1) (k + 1)) from rfl,
      show faultR c l (j + 1) k = (bif decide (topOf (l k) ≥ (l k).blanket) then ((k : Int), 2, topOf (l k)) else bif buriedB c l k then ((k : Int), 3, lowOf (l k)) else
      bif oiledB c l k then ((k : Int), 4, (l k).blanket) else bif (wideR c l k c.slices.len 0).2 then ((k : Int), 5, (wideR c l k c.slices.len 0).1) else faultR c l j (k + 1)) from rfl]
    cases decide (topOf (l k) ≥ (l k).blanket) with
    | true => simp
    | false =>
      cases buriedB c l k with
      | true => simp
      | false =>
        cases oiledB c l k with
        | true => simp
        | false =>
          cases (wideR c l k c.slices.len 0).2 with
          | true => simp
          | false => exact i
theorem stgF_app (l : Nat → Stg) (r : List Int) (x : Int) {j : Nat} (h : j < r.length) : stgF (msOf l (r ++ [x])) j = stgF (msOf l r) j := by
  unfold stgF
  rw [msOf_snoc, List.getD_eq_getElem?_getD, List.getD_eq_getElem?_getD, List.getElem?_append_left (by rw [msOf_len]; exact h), List.getElem?_eq_getElem (by rw [msOf_len]; exact h)]
  rfl
theorem fine_ext (c : Cav) (l : Nat → Stg) (r : List Int) (x : Int) : fineA c l (r ++ [x]) = (fineA c l r && fineB c l r.length (r ++ [x])) := by
  unfold fineA fineB
  refine b2 ?_
  rw [List.length_append, List.length_singleton, show r.length + 1 - r.length = 1 by omega]
  simp only [Bool.and_eq_true, decide_eq_true_iff]
  rw [fault_add, Nat.zero_add, fault_cong (l := stgF (msOf l (r ++ [x]))) (l' := stgF (msOf l r)) r.length 0 fun i hi => stgF_app l r x (by omega)]
  have h := fault_rule (c := c) (l := stgF (msOf l (r ++ [x]))) 1 r.length
  constructor
  · rintro ⟨h1, h2⟩
    exact ⟨h1, by omega⟩
  · rintro ⟨h1, h2⟩
    exact ⟨h1, by omega⟩
theorem ext_fine {c : Cav} {l : Nat → Stg} {r : List Int} (h : fineA c l r = true) : ∀ j i, (extS r j i).filter (fineA c l) = nxtE c l r.length r j i
  | 0, _ => rfl
  | j + 1, i => by
    simp only [extS, nxtE]
    rw [List.filter_cons, fine_ext, h, Bool.true_and, ext_fine h j (i + 1)]
    cases fineB c l r.length (r ++ [(i : Int)]) <;> simp
theorem ext_bad {c : Cav} {l : Nat → Stg} {r : List Int} (h : fineA c l r = false) : ∀ j i, (extS r j i).filter (fineA c l) = []
  | 0, _ => rfl
  | j + 1, i => by
    simp only [extS]
    rw [List.filter_cons, fine_ext, h, Bool.false_and, ext_bad h j (i + 1)]
    simp
theorem next_fine {c : Cav} {l : Sl Stg} {n : Nat} : ∀ PL : List (List Int), (∀ r ∈ PL, RowOk l n r) → nextP c l n (PL.filter (fineA c l.el)) = (PL.flatMap fun r => extS r l.len 0).filter (fineA c l.el)
  | [], _ => rfl
  | r :: PL, h => by
    have i := next_fine (c := c) PL fun q hq => h q (List.mem_cons_of_mem _ hq)
    have hr := (h r (List.mem_cons_self ..)).1
    rw [List.flatMap_cons, List.filter_append, List.filter_cons, ← i]
    cases hf : fineA c l.el r with
    | true =>
      rw [ext_fine hf, hr]
      simp [nextP]
    | false =>
      rw [ext_bad hf]
      simp
theorem lex_cong {a b a' b' : Nat → Int} : ∀ j i, (∀ k, i ≤ k → k < i + j → a k = a' k ∧ b k = b' k) → lexR a b j i = lexR a' b' j i
  | 0, _, _ => rfl
  | j + 1, i, h => by
    have h1 := h i (by omega) (by omega)
    simp only [lexR]
    rw [h1.1, h1.2, lex_cong j (i + 1) fun k h2 h3 => h k (by omega) (by omega)]
theorem lex_more {a b : Nat → Int} : ∀ j i, lexR a b j i = true → lexR a b (j + 1) i = true
  | 0, _, h => by simp [lexR] at h
  | j + 1, i, h => by
    have e : lexR a b (j + 1) i = if a i = b i then lexR a b j (i + 1) else decide (a i < b i) := rfl
    rw [e] at h
    show (if a i = b i then lexR a b (j + 1) (i + 1) else decide (a i < b i)) = true
    by_cases h1 : a i = b i
    · rw [if_pos h1] at h ⊢
      exact lex_more j (i + 1) h
    · rw [if_neg h1] at h ⊢
      exact h
theorem lex_last {a b : Nat → Int} : ∀ j i, (∀ k, i ≤ k → k < i + j → a k = b k) → a (i + j) < b (i + j) → lexR a b (j + 1) i = true
  | 0, i, _, h => by
    show (if a i = b i then false else decide (a i < b i)) = true
    rw [Nat.add_zero] at h
    rw [if_neg (by omega), decide_eq_true h]
  | j + 1, i, h, h1 => by
    show (if a i = b i then lexR a b (j + 1) (i + 1) else decide (a i < b i)) = true
    rw [if_pos (h i (by omega) (by omega))]
    exact lex_last j (i + 1) (fun k h2 h3 => h k (by omega) (by omega)) (by rw [show i + 1 + j = i + (j + 1) by omega]; exact h1)
theorem lex_asym {a b : Nat → Int} : ∀ j i, lexR a b j i = true → lexR b a j i = false
  | 0, _, _ => rfl
  | j + 1, i, h => by
    simp only [lexR] at h ⊢
    by_cases h1 : a i = b i
    · rw [if_pos h1] at h
      rw [if_pos h1.symm]
      exact lex_asym j (i + 1) h
    · rw [if_neg h1] at h
      rw [if_neg (fun e => h1 e.symm)]
      have := of_decide_eq_true h
      exact decide_eq_false (by omega)
abbrev LtL (n : Nat) (a b : List Int) : Prop := lexR (slI a).el (slI b).el n 0 = true
theorem slI_app {r : List Int} {x : Int} {j : Nat} (h : j < r.length) : (slI (r ++ [x])).el j = (slI r).el j := by
  rw [slI_el h, slI_el (by simp; omega), List.getD_eq_getElem?_getD, List.getD_eq_getElem?_getD, List.getElem?_append_left h]
theorem slI_end (r : List Int) (x : Int) : (slI (r ++ [x])).el r.length = x := by
  rw [slI_el (by simp), List.getD_eq_getElem?_getD]
  simp
theorem lt_same {n : Nat} {r : List Int} (hr : r.length = n) {x y : Int} (h : x < y) : LtL (n + 1) (r ++ [x]) (r ++ [y]) := by
  refine lex_last n 0 (fun k _ hk => ?_) ?_
  · rw [slI_app (by omega), slI_app (by omega)]
  · have e1 := slI_end r x
    have e2 := slI_end r y
    rw [Nat.zero_add, ← hr, e1, e2]
    exact h
theorem lt_ext {n : Nat} {r q : List Int} (hr : r.length = n) (hq : q.length = n) (x y : Int) (h : LtL n r q) : LtL (n + 1) (r ++ [x]) (q ++ [y]) := by
  refine lex_more n 0 ?_
  rw [lex_cong (a' := (slI r).el) (b' := (slI q).el) n 0 fun k _ hk => ⟨slI_app (by omega), slI_app (by omega)⟩]
  exact h
theorem ext_mem {r : List Int} : ∀ j i q, q ∈ extS r j i → ∃ x : Int, (i : Int) ≤ x ∧ q = r ++ [x]
  | 0, _, _, h => by simp [extS] at h
  | j + 1, i, q, h => by
    rcases List.mem_cons.1 h with rfl | h
    · exact ⟨i, Int.le_refl _, rfl⟩
    · obtain ⟨x, h1, h2⟩ := ext_mem j (i + 1) q h
      exact ⟨x, by omega, h2⟩
theorem ext_lt {n : Nat} {r : List Int} (hr : r.length = n) : ∀ j i, (extS r j i).Pairwise (LtL (n + 1))
  | 0, _ => List.Pairwise.nil
  | j + 1, i => by
    refine List.Pairwise.cons (fun q hq => ?_) (ext_lt hr j (i + 1))
    obtain ⟨x, h1, rfl⟩ := ext_mem j (i + 1) q hq
    exact lt_same hr (by omega)
theorem plans_lt (l : Sl Stg) : ∀ n, (plansS l.len n).Pairwise (LtL n)
  | 0 => List.pairwise_singleton _ _
  | n + 1 => by
    have hok := plansS_ok (l := l) n
    have i := plans_lt l n
    rw [plansS, List.pairwise_flatMap]
    refine ⟨fun r hr => ext_lt (hok r hr).1 _ _, ?_⟩
    refine List.Pairwise.imp_of_mem ?_ i
    intro r q hr hq hlt x hx y hy
    obtain ⟨u, _, rfl⟩ := ext_mem _ _ _ hx
    obtain ⟨v, _, rfl⟩ := ext_mem _ _ _ hy
    exact lt_ext (hok r hr).1 (hok q hq).1 u v hlt
theorem less_later {l : Nat → Stg} {n : Nat} {r b : List Int} (hr : r.length = n) (hb : b.length = n) (h : LtL n b r) : lessB l (slI r) (slI b) = decide (watS l r < watS l b) := by
  unfold lessB
  rw [if_neg (fun hh => hh (by show r.length = b.length; omega)), watS_eq, watS_eq]
  by_cases h1 : watW l (slI r) r.length = watW l (slI b) b.length
  · rw [if_neg (fun hh => hh h1), decide_eq_false (by omega)]
    show lexR _ _ r.length 0 = false
    rw [hr]
    exact lex_asym n 0 h
  · rw [if_pos h1]
theorem fold_same {c : Cav} {l : Sl Stg} {w : Sl Int} {n : Nat} (PL : List (List Int)) (hPL : ∀ r ∈ PL, RowOk l n r) (hlt : PL.Pairwise (LtL n)) :
    ∀ (rest pre : List (List Int)) (acc : Option (List Int)), PL = pre ++ rest → (∀ b, acc = some b → b ∈ pre) →
    (rest.filter (fineA c l.el)).foldl (bestA c l.el w) (acc.map fun b => (b, watS l.el b)) = (rest.foldl (stepA c l.el w) acc).map fun b => (b, watS l.el b)
  | [], _, _, _, _ => rfl
  | r :: rest, pre, acc, h, hacc => by
    have i := fold_same (c := c) (w := w) PL hPL hlt rest (pre ++ [r])
    rw [List.filter_cons, List.foldl_cons]
    have hmem : ∀ acc', (acc' = acc ∨ acc' = some r) → ∀ b, acc' = some b → b ∈ pre ++ [r] := by
      rintro acc' (rfl | rfl) b hb
      · exact List.mem_append_left _ (hacc b hb)
      · injection hb with hb; subst hb; simp
    cases hf : fineA c l.el r with
    | false =>
      rw [if_neg (by simp)]
      have e : stepA c l.el w acc r = acc := by unfold stepA; rw [hf, Bool.false_and, cond_false]
      rw [e]
      exact i acc (by rw [h]; simp) (hmem acc (.inl rfl))
    | true =>
      rw [if_pos rfl, List.foldl_cons]
      have e : bestA c l.el w (acc.map fun b => (b, watS l.el b)) r = (stepA c l.el w acc r).map fun b => (b, watS l.el b) := by
        unfold bestA stepA
        rw [hf, Bool.true_and]
        cases makesB c l.el w r with
        | false => rfl
        | true =>
          simp only [cond_true]
          cases hac : acc with
          | none => rfl
          | some b =>
            have hb := hacc b hac
            have hbl : LtL n b r := by
              rw [h, List.pairwise_append] at hlt
              exact hlt.2.2 b hb r (List.mem_cons_self ..)
            have e2 := less_later (l := l.el) (hPL r (by rw [h]; simp)).1 (hPL b (by rw [h]; exact List.mem_append_left _ hb)).1 hbl
            simp only [Option.map_some, e2]
            cases decide (watS l.el r < watS l.el b) <;> rfl
      rw [e]
      refine i _ (by rw [h]; simp) (hmem _ ?_)
      unfold stepA
      rw [hf, Bool.true_and]
      cases makesB c l.el w r with
      | false => exact .inl rfl
      | true =>
        simp only [cond_true]
        cases acc with
        | none => exact .inr rfl
        | some b =>
          show (bif lessB l.el (slI r) (slI b) then some r else some b) = some b ∨ (bif lessB l.el (slI r) (slI b) then some r else some b) = some r
          cases lessB l.el (slI r) (slI b) with
          | true => exact .inr rfl
          | false => exact .inl rfl
theorem plan_same (c : Cav) (l : Sl Stg) (w : Sl Int) : ∀ t n, planF c l w t n ((plansS l.len n).filter (fineA c l.el)) = planA c l w (t + 1) n := by
  have hf : ∀ n, ((plansS l.len n).filter (fineA c l.el)).foldl (bestA c l.el w) none = ((plansS l.len n).foldl (stepA c l.el w) none).map fun b => (b, watS l.el b) := fun n =>
    fold_same (plansS l.len n) (plansS_ok n) (plans_lt l n) (plansS l.len n) [] none rfl (fun b hb => by cases hb)
  intro t
  induction t with
  | zero =>
    intro n
    unfold planF planA
    rw [hf n]
    cases (plansS l.len n).foldl (stepA c l.el w) none with
    | none => rfl
    | some b => rfl
  | succ t ih =>
    intro n
    rw [show planF c l w (t + 1) n ((plansS l.len n).filter (fineA c l.el)) = (match ((plansS l.len n).filter (fineA c l.el)).foldl (bestA c l.el w) none with | some (b, _) => some b | none => planF c l w t (n + 1) (nextP c l n ((plansS l.len n).filter (fineA c l.el)))) from rfl,
      show planA c l w (t + 1 + 1) n = (match (plansS l.len n).foldl (stepA c l.el w) none with | some b => some b | none => planA c l w (t + 1) (n + 1)) from rfl, hf n, next_fine _ (plansS_ok n)]
    rw [show (List.flatMap (fun r => extS r l.len 0) (plansS l.len n)) = plansS l.len (n + 1) from rfl, ih (n + 1)]
    cases (plansS l.len n).foldl (stepA c l.el w) none with
    | none => rfl
    | some b => rfl
theorem planX_A (c : Cav) (l : Sl Stg) (w : Sl Int) : planX c l w = planA c l w 6 0 := by
  rw [← plan_same c l w 5 0]
  rfl
variable (F d : Nat)
theorem s35n (hF : 400 < F) : (E F (d + 1)).pf 35 [.row true 0 0 (fun _ => []), .row true 0 0 (fun _ => [])] = some (.ret (.bool true)) := by
  obtain ⟨F, rfl⟩ : ∃ k, F = k + 1 := ⟨F - 1, by omega⟩
  rw [E_pf]
  kernel_rfl
theorem s35r (r : List Int) (hB : r.length < Big) (hrF : r.length < F) (hF : 400 < F) : (E F (d + 1)).pf 35 [.row (rb r) r.length (rwd r) (rg r), .row (rb r) r.length (rwd r) (rg r)] = some (.ret (.bool true)) := by
  cases hr0 : r with
  | nil => exact s35n F d hF
  | cons b r0 =>
    have hne : r ≠ [] := by rw [hr0]; simp
    rw [← hr0, rb_own hne, rw_own hne, rg_own hne]
    have e := s35 F d (slI r) (slI r) hB hrF
    rw [decide_eq_true (show SameI (slI r) (slI r) from ⟨rfl, fun _ _ => rfl⟩)] at e
    exact e
theorem planF_ok {c : Cav} {l : Sl Stg} {w : Sl Int} : ∀ t n r, planA c l w t n = some r → ∃ k, n ≤ k ∧ k < n + t ∧ r ∈ plansS l.len k := by
  intro t
  induction t with
  | zero => intro n r h; cases h
  | succ t ih =>
    intro n r h
    have hm : ∀ (rest : List (List Int)) (acc : Option (List Int)) (b : List Int), rest.foldl (stepA c l.el w) acc = some b → b ∈ rest ∨ acc = some b := by
      intro rest
      induction rest with
      | nil => intro acc b hb; exact .inr hb
      | cons q rest ih2 =>
        intro acc b hb
        rw [List.foldl_cons] at hb
        rcases ih2 _ b hb with h1 | h1
        · exact .inl (List.mem_cons_of_mem _ h1)
        · unfold stepA at h1
          cases hfm : fineA c l.el q && makesB c l.el w q with
          | false => rw [hfm, cond_false] at h1; exact .inr h1
          | true =>
            rw [hfm, cond_true] at h1
            cases acc with
            | none => injection h1 with h1; subst h1; exact .inl (List.mem_cons_self ..)
            | some a =>
              have h1' : (bif lessB l.el (slI q) (slI a) then some q else some a) = some b := h1
              cases hls : lessB l.el (slI q) (slI a) with
              | true => rw [hls, cond_true] at h1'; injection h1' with h1'; subst h1'; exact .inl (List.mem_cons_self ..)
              | false => rw [hls, cond_false] at h1'; exact .inr h1'
    rw [show planA c l w (t + 1) n = (match (plansS l.len n).foldl (stepA c l.el w) none with | some b => some b | none => planA c l w t (n + 1)) from rfl] at h
    cases hfo : (plansS l.len n).foldl (stepA c l.el w) none with
    | some b =>
      rw [hfo] at h
      injection h with h
      subst h
      rcases hm _ _ _ hfo with h1 | h1
      · exact ⟨n, by omega, by omega, h1⟩
      · cases h1
    | none =>
      rw [hfo] at h
      obtain ⟨k, h1, h2, h3⟩ := ih (n + 1) r h
      exact ⟨k, by omega, by omega, h3⟩
theorem s6 (c : Cav) (l : Sl Stg) (w : Sl Int) (hC : c.slices.len < Big) (hCF : c.slices.len < F) (hB : l.len < Big) (hLF : l.len < F) (hW : w.len < Big) (hWF : w.len < F) (hF : 1000000000 < F) : (E F (d + 20)).pf 6 [.agg (eCav c), sl eStg 4 l, sl eInt 1 w] = some (.ret (.bool true)) := by
  have q19 : (E F (d + 19)).pf 19 [.agg (eCav c)] = _ := s19 F (d + 18) c
  have q21 : (E F (d + 19)).pf 21 [] = _ := s21 F d hF
  have q33 : (E F (d + 19)).pf 33 [.agg (eCav c), sl eStg 4 l, sl eInt 1 w] = _ := s33 F (d + 1) c l w hC hCF hB hLF hW hWF (by omega)
  have q32 : (E F (d + 19)).pf 32 [.agg (eCav c), sl eStg 4 l, sl eInt 1 w] = _ := s32 F (d + 15) c l w hC hCF hB hLF hW hWF
  rw [E_pf, t6]
  by_cases h0 : c.slices.len ≤ 20
  · rw [decide_eq_true h0] at q19
    by_cases h1 : (l.len : Int) > 20
    · simp only [q19, q21, tkOut_ret, tkBool_b, Bool.not_true, pF, decide_eq_true h1, pT]
    by_cases h2 : (w.len : Int) > 20
    · simp only [q19, q21, tkOut_ret, tkBool_b, Bool.not_true, pF, decide_eq_false h1, decide_eq_true h2, pT]
    simp only [q19, q32, tkOut_ret, tkBool_b, tkInt_i, Bool.not_true, pF, decide_eq_false h1, decide_eq_false h2, decide_true, pT]
    by_cases h3 : errM c l w = 0
    · obtain ⟨h6, hc, h1', hl, hw⟩ := errM_0.1 h3
      rw [if_pos h3, planX_A] at q33
      rw [h3, show ((0 : Int) == 0) = true from rfl, pT]
      by_cases g1 : (c.slices.len : Int) > 3
      · simp only [decide_eq_true g1, pT, q21, tkOut_ret, tkBool_b]
      by_cases g2 : c.hold > 20
      · simp only [decide_eq_false g1, pF, decide_eq_true g2, pT, q21, tkOut_ret, tkBool_b]
      by_cases g3 : (l.len : Int) > 2
      · simp only [decide_eq_false g1, pF, decide_eq_false g2, decide_eq_true g3, pT, q21, tkOut_ret, tkBool_b]
      have q34 : (E F (d + 19)).pf 34 [.agg (eCav c), sl eStg 4 l, sl eInt 1 w] = _ := s34 F (d + 11) hc h1' h6 hl (by omega) w (by rw [hw.2]; exact Nat.le_refl _)
      cases hx : planA c l w 6 0 with
      | none =>
        rw [hx] at q33 q34
        simp only [planOut, planAout] at q33 q34
        simp only [decide_eq_false g1, pF, decide_eq_false g2, decide_eq_false g3, q33, q34, tkOut_ret, tkBool_b, tkTup_t, tkCons_c, tkInt_i, tkRow_r, tkNil_n, z0', Bool.not_false, pT, decide_true, beq_self_eq_true, q21, Int.natCast_zero]
      | some r =>
        rw [hx] at q33 q34
        simp only [planOut, planAout] at q33 q34
        obtain ⟨k, _, hk, hr⟩ := planF_ok 6 0 r hx
        have hr1 := (plansS_ok k r hr).1
        have q35 : (E F (d + 19)).pf 35 [.row (rb r) r.length (rwd r) (rg r), .row (rb r) r.length (rwd r) (rg r)] = _ := s35r F (d + 18) r (lenB (by omega)) (by omega) (by omega)
        simp only [decide_eq_false g1, pF, decide_eq_false g2, decide_eq_false g3, q33, q34, tkOut_ret, tkBool_b, tkTup_t, tkCons_c, tkInt_i, tkRow_r, tkNil_n, z0', Bool.not_true, pT, decide_true, beq_self_eq_true, q35, q21]
    · rw [if_neg h3] at q33
      have e1 : (errM c l w != 0) = true := by simpa using h3
      have e2 : (errM c l w == 0) = false := by simpa using h3
      simp only [e2, pF, q33, tkOut_ret, tkBool_b, tkTup_t, tkCons_c, tkInt_i, tkRow_r, tkNil_n, decide_true, pT, e1, beq_self_eq_true, q21, Int.natCast_zero]
  · rw [decide_eq_false h0] at q19
    simp only [q19, q21, tkOut_ret, tkBool_b, Bool.not_false, pT]
end Go.Sim.Le
