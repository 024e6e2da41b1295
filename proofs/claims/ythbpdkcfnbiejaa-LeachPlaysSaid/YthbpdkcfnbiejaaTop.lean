/-
  LeachPlays holds for every input: called with any cavern, stages and truth, the law returns true, and its arguments read behind the call as before. No condition.
-/
import Derived.Test.YthbpdkcfnbiejaaAg
import Derived.KernelRfl
import Derived.Test.YthbpdkcfnbiejaaRows
set_option linter.unusedVariables false
set_option linter.unusedSimpArgs false
set_option linter.unusedSectionVars false
set_option maxRecDepth 100000
namespace Go.Sim.Le
open Go.Proofs
theorem t19 (env : Env) (F : Nat) (c : Cav) : (evFun Try.prog (cfg F) env 19 [(.agg (eCav c))]) = some (.ret (.bool (decide ((((Sl.len (Cav.slices c)) : Nat) : Int) ≤ (20 : Int))))) := by kernel_rfl
theorem t20 (env : Env) (F : Nat) (c : Cav) (l : Sl Stg) (x : Int) (y : Int) (z : Int) : (evFun Try.prog (cfg F) env 20 [(.agg (eCav c)), (sl eStg 4 l), (i64 x), (i64 y), (i64 z)]) = (tkOut (env.pf 23 [(.agg (eCav c)), (sl eStg 4 l), (.bool true)]) none (fun v7 => (tkInt v7 none fun q8 n9 => (bif (decide (q8 = .i64)) then (bif (n9 != (0 : Int)) then some (.ret (.bool true)) else (bif (decide ((((Sl.len (Cav.slices c)) : Nat) : Int) ≤ x)) then (bif (decide ((Cav.hold c) ≤ y)) then some (.ret (.bool (decide ((((Sl.len l) : Nat) : Int) ≤ z)))) else some (.ret (.bool false))) else some (.ret (.bool false)))) else none))) (fun p7 => (tkIfc p7 none fun t8 x9 => (bif (flatP (.iface t8 x9)) then some (.pan (.iface t8 x9)) else none)))) := by kernel_rfl
noncomputable def L74x0 (env : Env) (F : Nat) (c : Cav) (l : Sl Stg) (n : Int) (fu : Nat) (i0 : Int) (g1 : Nat → List V) : Option Out := atLoop Try.prog (cfg F) env 74 [.r, .r, .l, .r, .d] [] fu { tm := tmL 26 0 [(1, (sl eStg 4 l)), (2, (i64 n)), (3, (.optr 0 0 0)), (7, (.osl 1 0 (Int.toNat (((Sl.len (Cav.slices c)) : Nat) : Int)))), (8, (i64 i0))], hp := [(.box 24 (eCav c) true), (.arr 3 1 (Int.toNat (((Sl.len (Cav.slices c)) : Nat) : Int)) g1 true)] }
theorem t74 (env : Env) (F : Nat) (c : Cav) (l : Sl Stg) (n : Int) : (evFun Try.prog (cfg F) env 74 [(.agg (eCav c)), (sl eStg 4 l), (i64 n)]) = (bif (decide ((0 : Int) ≤ (((Sl.len (Cav.slices c)) : Nat) : Int))) then (bif (decide ((((Sl.len (Cav.slices c)) : Nat) : Int) ≤ (((Sl.len (Cav.slices c)) : Nat) : Int))) then (bif (decide ((((8 : Nat) : Int) * (((Sl.len (Cav.slices c)) : Nat) : Int)) ≤ (281474976710656 : Int))) then (bif (decide ((((Sl.len (Cav.slices c)) : Nat) : Int) ≤ (9223372036854775807 : Int))) then (L74x0 env F c l n F (0 : Int) (fun u5 => [(i64 (0 : Int))])) else none) else none) else none) else none) := by kernel_rfl
theorem L74x0s (env : Env) (F : Nat) (c : Cav) (l : Sl Stg) (n : Int) (fu : Nat) (i0 : Int) (g1 : Nat → List V) : L74x0 env F c l n (fu + 1) i0 g1 = (bif (decide (i0 ≤ n)) then (bif (decide ((0 : Int) ≤ i0)) then (bif (decide (i0 < (((Int.toNat (((Sl.len (Cav.slices c)) : Nat) : Int)) : Nat) : Int))) then (L74x0 env F c l n fu (IntKind.wrap .i64 (i0 + (1 : Int))) (updGet g1 (Int.toNat i0) 0 [(i64 (-(1 : Int)))])) else none) else none) else (tkOut (env.pf 65 [(.agg (eCav c)), (sl eStg 4 l), (.row false (Int.toNat (((Sl.len (Cav.slices c)) : Nat) : Int)) 1 (fun u8 => (g1 u8))), (i64 (1 : Int))]) none (fun v8 => (tkInt v8 none fun q9 n10 => (bif (decide (q9 = .i64)) then some (.ret (.bool (decide (n10 > (0 : Int))))) else none))) (fun p8 => (tkIfc p8 none fun t9 x10 => (bif (flatP (.iface t9 x10)) then some (.pan (.iface t9 x10)) else none))))) := by kernel_rfl
theorem t75 (env : Env) (F : Nat) (c : Cav) (n : Int) : (evFun Try.prog (cfg F) env 75 [(.agg (eCav c)), (i64 n)]) = (bif (decide ((0 : Int) ≤ (((Sl.len (Cav.slices c)) : Nat) : Int))) then (bif (decide ((((Sl.len (Cav.slices c)) : Nat) : Int) ≤ (((Sl.len (Cav.slices c)) : Nat) : Int))) then (bif (decide ((((8 : Nat) : Int) * (((Sl.len (Cav.slices c)) : Nat) : Int)) ≤ (281474976710656 : Int))) then (bif (decide ((((Sl.len (Cav.slices c)) : Nat) : Int) ≤ (9223372036854775807 : Int))) then (bif (decide ((0 : Int) ≤ n)) then (bif (decide (n < (((Int.toNat (((Sl.len (Cav.slices c)) : Nat) : Int)) : Nat) : Int))) then some (.ret (.row false (Int.toNat (((Sl.len (Cav.slices c)) : Nat) : Int)) 1 (fun u4 => (updGet (fun u5 => [(i64 (0 : Int))]) (Int.toNat n) 0 [(i64 (1 : Int))] u4)))) else none) else none) else none) else none) else none) else none) := by kernel_rfl
noncomputable def L31x0 (env : Env) (F : Nat) (c : Cav) (l : Sl Stg) (fu : Nat) (i0 : Int) : Option Out := atLoop Try.prog (cfg F) env 31 [.r, .l, .r, .d] [] fu { tm := tmL 111 0 [(1, (sl eStg 4 l)), (2, (.optr 0 0 0)), (7, (i64 i0))], hp := [(.box 24 (eCav c) true)] }
noncomputable def L31x1 (env : Env) (F : Nat) (c : Cav) (l : Sl Stg) (m0 : Nat) (fu : Nat) (i0 : Int) (i1 : Int) (i2 : Int) (i3 : Int) (i4 : Int) (i5 : Int) (g6 : Nat → List V) : Option Out := atLoop Try.prog (cfg F) env 31 [.r, .l, .r, .d, .d, .r, .l, .d, .r, .r, .r, .r, .l, .r, .d] [m0] fu { tm := tmL 111 0 [(1, (sl eStg 4 l)), (2, (.optr 0 0 0)), (7, (i64 i0)), (8, (.optr 1 0 0)), (10, (.osl 2 0 (Int.toNat (((Sl.len (Cav.slices c)) : Nat) : Int)))), (11, (i64 i1))], hp := [(.box 24 (eCav c) true), (.box 40 [(i64 i2), (i64 i3), (i64 i4), (i64 i5)] true), (.arr 3 1 (Int.toNat (((Sl.len (Cav.slices c)) : Nat) : Int)) g6 true)] }
noncomputable def L31x2 (env : Env) (F : Nat) (c : Cav) (l : Sl Stg) (m0 : Nat) (fu : Nat) (i0 : Int) (i1 : Int) : Option Out := atLoop Try.prog (cfg F) env 31 [.r, .l, .r, .d, .d, .r, .l, .d, .r, .r, .r, .r, .r, .r, .r, .d] [m0] fu { tm := tmL 111 0 [(1, (sl eStg 4 l)), (2, (.optr 0 0 0)), (7, (i64 i0)), (12, (i64 i1))], hp := [(.box 24 (eCav c) true)] }
theorem t31 (env : Env) (F : Nat) (c : Cav) (l : Sl Stg) : (evFun Try.prog (cfg F) env 31 [(.agg (eCav c)), (sl eStg 4 l)]) = (L31x0 env F c l F (0 : Int)) := by kernel_rfl
theorem L31x0s (env : Env) (F : Nat) (c : Cav) (l : Sl Stg) (fu : Nat) (i0 : Int) : L31x0 env F c l (fu + 1) i0 = (bif (decide (i0 < (((Sl.len l) : Nat) : Int))) then (bif (decide ((0 : Int) ≤ i0)) then (bif (decide (i0 < (((Sl.len l) : Nat) : Int))) then (bif (decide ((if (Stg.into (Sl.el l (Int.toNat i0))) < (Stg.out (Sl.el l (Int.toNat i0))) then (Stg.out (Sl.el l (Int.toNat i0))) else (Stg.into (Sl.el l (Int.toNat i0)))) ≥ (Stg.blanket (Sl.el l (Int.toNat i0))))) then some (.ret (.tup [(i64 i0), (i64 (2 : Int)), (i64 (if (Stg.into (Sl.el l (Int.toNat i0))) < (Stg.out (Sl.el l (Int.toNat i0))) then (Stg.out (Sl.el l (Int.toNat i0))) else (Stg.into (Sl.el l (Int.toNat i0)))))])) else (bif (true || (Sl.nl l)) then (bif (decide ((0 : Int) ≤ i0)) then (bif (decide (0 ≤ (Int.toNat i0))) then (bif (decide ((Int.toNat i0) ≤ (Sl.len l))) then (tkOut (env.pf 74 [(.agg (eCav c)), (.row (Sl.nl l) ((Int.toNat i0) - 0) 4 (fun u6 => (eStg (Sl.el l u6)))), (i64 (if (Stg.out (Sl.el l (Int.toNat i0))) < (Stg.into (Sl.el l (Int.toNat i0))) then (Stg.out (Sl.el l (Int.toNat i0))) else (Stg.into (Sl.el l (Int.toNat i0)))))]) none (fun v6 => (tkBool v6 none fun b7 => (bif b7 then some (.ret (.tup [(i64 i0), (i64 (3 : Int)), (i64 (if (Stg.out (Sl.el l (Int.toNat i0))) < (Stg.into (Sl.el l (Int.toNat i0))) then (Stg.out (Sl.el l (Int.toNat i0))) else (Stg.into (Sl.el l (Int.toNat i0)))))])) else (bif (true || (Sl.nl l)) then (bif (decide ((0 : Int) ≤ (IntKind.wrap .i64 (i0 + (1 : Int))))) then (bif (decide (0 ≤ (Int.toNat (IntKind.wrap .i64 (i0 + (1 : Int)))))) then (bif (decide ((Int.toNat (IntKind.wrap .i64 (i0 + (1 : Int)))) ≤ (Sl.len l))) then (tkOut (env.pf 74 [(.agg (eCav c)), (.row (Sl.nl l) ((Int.toNat (IntKind.wrap .i64 (i0 + (1 : Int)))) - 0) 4 (fun u8 => (eStg (Sl.el l u8)))), (i64 (if (Stg.out (Sl.el l (Int.toNat i0))) < (Stg.into (Sl.el l (Int.toNat i0))) then (Stg.out (Sl.el l (Int.toNat i0))) else (Stg.into (Sl.el l (Int.toNat i0)))))]) none (fun v8 => (tkBool v8 none fun b9 => (bif b9 then some (.ret (.tup [(i64 i0), (i64 (3 : Int)), (i64 (if (Stg.out (Sl.el l (Int.toNat i0))) < (Stg.into (Sl.el l (Int.toNat i0))) then (Stg.out (Sl.el l (Int.toNat i0))) else (Stg.into (Sl.el l (Int.toNat i0)))))])) else (bif (decide ((0 : Int) ≤ (((Sl.len (Cav.slices c)) : Nat) : Int))) then (bif (decide ((((Sl.len (Cav.slices c)) : Nat) : Int) ≤ (((Sl.len (Cav.slices c)) : Nat) : Int))) then (bif (decide ((((8 : Nat) : Int) * (((Sl.len (Cav.slices c)) : Nat) : Int)) ≤ (281474976710656 : Int))) then (bif (decide ((((Sl.len (Cav.slices c)) : Nat) : Int) ≤ (9223372036854775807 : Int))) then (L31x1 env F c l fu F i0 (Stg.blanket (Sl.el l (Int.toNat i0))) (Stg.water (Sl.el l (Int.toNat i0))) (Stg.into (Sl.el l (Int.toNat i0))) (Stg.out (Sl.el l (Int.toNat i0))) (Stg.blanket (Sl.el l (Int.toNat i0))) (fun u10 => [(i64 (0 : Int))])) else none) else none) else none) else none)))) (fun p8 => (tkIfc p8 none fun t9 x10 => (bif (flatP (.iface t9 x10)) then some (.pan (.iface t9 x10)) else none)))) else none) else none) else none) else none)))) (fun p6 => (tkIfc p6 none fun t7 x8 => (bif (flatP (.iface t7 x8)) then some (.pan (.iface t7 x8)) else none)))) else none) else none) else none) else none)) else none) else none) else some (.ret (.tup [(i64 (-(1 : Int))), (i64 (1 : Int)), (i64 (0 : Int))]))) := by kernel_rfl
theorem L31x1s (env : Env) (F : Nat) (c : Cav) (l : Sl Stg) (m0 : Nat) (fu : Nat) (i0 : Int) (i1 : Int) (i2 : Int) (i3 : Int) (i4 : Int) (i5 : Int) (g6 : Nat → List V) : L31x1 env F c l m0 (fu + 1) i0 i1 i2 i3 i4 i5 g6 = (bif (decide (i1 < (((Int.toNat (((Sl.len (Cav.slices c)) : Nat) : Int)) : Nat) : Int))) then (bif (decide ((0 : Int) ≤ i1)) then (bif (decide (i1 < (((Int.toNat (((Sl.len (Cav.slices c)) : Nat) : Int)) : Nat) : Int))) then (L31x1 env F c l m0 fu i0 (IntKind.wrap .i64 (i1 + (1 : Int))) i2 i3 i4 i5 (updGet g6 (Int.toNat i1) 0 [(i64 (1 : Int))])) else none) else none) else (bif (true || (Sl.nl l)) then (bif (decide ((0 : Int) ≤ i0)) then (bif (decide (0 ≤ (Int.toNat i0))) then (bif (decide ((Int.toNat i0) ≤ (Sl.len l))) then (tkOut (env.pf 65 [(.agg (eCav c)), (.row (Sl.nl l) ((Int.toNat i0) - 0) 4 (fun u13 => (eStg (Sl.el l u13)))), (.row false (Int.toNat (((Sl.len (Cav.slices c)) : Nat) : Int)) 1 (fun u13 => (g6 u13))), (i64 (0 : Int))]) none (fun v13 => (tkInt v13 none fun q14 n15 => (bif (decide (q14 = .i64)) then (bif (decide (n15 > (Cav.oil c))) then some (.ret (.tup [(i64 i0), (i64 (4 : Int)), (i64 i5)])) else (L31x2 env F c l m0 F i0 (0 : Int))) else none))) (fun p13 => (tkIfc p13 none fun t14 x15 => (bif (flatP (.iface t14 x15)) then none else none)))) else none) else none) else none) else none)) := by kernel_rfl
theorem L31x2s (env : Env) (F : Nat) (c : Cav) (l : Sl Stg) (m0 : Nat) (fu : Nat) (i0 : Int) (i1 : Int) : L31x2 env F c l m0 (fu + 1) i0 i1 = (bif (decide (i1 < (((Sl.len (Cav.slices c)) : Nat) : Int))) then (bif (true || (Sl.nl l)) then (bif (decide ((0 : Int) ≤ (IntKind.wrap .i64 (i0 + (1 : Int))))) then (bif (decide (0 ≤ (Int.toNat (IntKind.wrap .i64 (i0 + (1 : Int)))))) then (bif (decide ((Int.toNat (IntKind.wrap .i64 (i0 + (1 : Int)))) ≤ (Sl.len l))) then (tkOut (env.pf 75 [(.agg (eCav c)), (i64 i1)]) none (fun v8 => (tkRow v8 none fun nl9 n10 wd11 g12 => (tkOut (env.pf 65 [(.agg (eCav c)), (.row (Sl.nl l) ((Int.toNat (IntKind.wrap .i64 (i0 + (1 : Int)))) - 0) 4 (fun u13 => (eStg (Sl.el l u13)))), (.row nl9 n10 wd11 g12), (i64 (0 : Int))]) none (fun v13 => (tkInt v13 none fun q14 n15 => (bif (decide ((0 : Int) ≤ i1)) then (bif (decide (i1 < (((Sl.len (Cav.slices c)) : Nat) : Int))) then (bif (decide (q14 = .i64)) then (bif (decide (n15 > (Slc.most (Sl.el (Cav.slices c) (Int.toNat i1))))) then some (.ret (.tup [(i64 i0), (i64 (5 : Int)), (i64 i1)])) else (L31x2 env F c l m0 fu i0 (IntKind.wrap .i64 (i1 + (1 : Int))))) else none) else none) else none))) (fun p13 => (tkIfc p13 none fun t14 x15 => (bif (flatP (.iface t14 x15)) then none else none)))))) (fun p8 => (tkIfc p8 none fun t9 x10 => (bif (flatP (.iface t9 x10)) then none else none)))) else none) else none) else none) else none) else (L31x0 env F c l m0 (IntKind.wrap .i64 (i0 + (1 : Int))))) := by kernel_rfl
noncomputable def L47x0 (env : Env) (F : Nat) (c : Cav) (l : Sl Stg) (t : Truth) (fu : Nat) (i0 : Int) : Option Out := atLoop Try.prog (cfg F) env 47 [.r, .r, .l, .r, .d] [] fu { tm := tmL 101 0 [(3, (.optr 0 0 0)), (5, (.optr 1 0 0)), (7, (i64 i0))], hp := [(.box 24 (eCav c) true), (.box 82 (eTruth t) true)] }
noncomputable def L47x1 (env : Env) (F : Nat) (c : Cav) (l : Sl Stg) (t : Truth) (fu : Nat) (i0 : Int) : Option Out := atLoop Try.prog (cfg F) env 47 [.r, .r, .r, .l, .r, .d] [] fu { tm := tmL 101 0 [(3, (.optr 0 0 0)), (5, (.optr 1 0 0)), (8, (i64 i0))], hp := [(.box 24 (eCav c) true), (.box 82 (eTruth t) true)] }
noncomputable def L47x2 (env : Env) (F : Nat) (c : Cav) (l : Sl Stg) (t : Truth) (m0 : Nat) (fu : Nat) (i0 : Int) (i1 : Int) : Option Out := atLoop Try.prog (cfg F) env 47 [.r, .r, .r, .l, .r, .d, .d, .r, .l, .d, .r, .r, .d] [m0] fu { tm := tmL 101 0 [(3, (.optr 0 0 0)), (5, (.optr 1 0 0)), (8, (i64 i0)), (9, (i64 i1))], hp := [(.box 24 (eCav c) true), (.box 82 (eTruth t) true)] }
theorem t47 (env : Env) (F : Nat) (c : Cav) (l : Sl Stg) (t : Truth) : (evFun Try.prog (cfg F) env 47 [(.agg (eCav c)), (sl eStg 4 l), (.agg (eTruth t))]) = (bif ((((Sl.len (Truth.vols t)) : Nat) : Int) != (((Sl.len (Cav.slices c)) : Nat) : Int)) then some (.ret (.bool false)) else (bif ((((Sl.len (Truth.rates t)) : Nat) : Int) != (((Sl.len l) : Nat) : Int)) then some (.ret (.bool false)) else (L47x0 env F c l t F (0 : Int)))) := by kernel_rfl
theorem L47x0s (env : Env) (F : Nat) (c : Cav) (l : Sl Stg) (t : Truth) (fu : Nat) (i0 : Int) : L47x0 env F c l t (fu + 1) i0 = (bif (decide (i0 < (((Sl.len (Truth.vols t)) : Nat) : Int))) then (bif (decide ((0 : Int) ≤ i0)) then (bif (decide (i0 < (((Sl.len (Truth.vols t)) : Nat) : Int))) then (bif (decide ((0 : Int) ≤ i0)) then (bif (decide (i0 < (((Sl.len (Cav.slices c)) : Nat) : Int))) then (bif (decide ((0 : Int) ≤ i0)) then (bif (decide (i0 < (((Sl.len (Cav.slices c)) : Nat) : Int))) then (tkOut (env.pf 64 [(i64 (Sl.el (Truth.vols t) (Int.toNat i0))), (i64 (Span.lo (Slc.vol (Sl.el (Cav.slices c) (Int.toNat i0))))), (i64 (Span.hi (Slc.vol (Sl.el (Cav.slices c) (Int.toNat i0)))))]) none (fun v7 => (tkBool v7 none fun b8 => (bif (!b8) then some (.ret (.bool false)) else (L47x0 env F c l t fu (IntKind.wrap .i64 (i0 + (1 : Int))))))) (fun p7 => (tkIfc p7 none fun t8 x9 => (bif (flatP (.iface t8 x9)) then some (.pan (.iface t8 x9)) else none)))) else none) else none) else none) else none) else none) else none) else (L47x1 env F c l t F (0 : Int))) := by kernel_rfl
theorem L47x1s (env : Env) (F : Nat) (c : Cav) (l : Sl Stg) (t : Truth) (fu : Nat) (i0 : Int) : L47x1 env F c l t (fu + 1) i0 = (bif (decide (i0 < (((Sl.len (Truth.rates t)) : Nat) : Int))) then (bif (decide ((0 : Int) ≤ i0)) then (bif (decide (i0 < (((Sl.len (Truth.rates t)) : Nat) : Int))) then (bif ((((Sl.len (Sl.el (Truth.rates t) (Int.toNat i0))) : Nat) : Int) != (((Sl.len (Cav.slices c)) : Nat) : Int)) then some (.ret (.bool false)) else (L47x2 env F c l t fu F i0 (0 : Int))) else none) else none) else some (.ret (.bool true))) := by kernel_rfl
theorem L47x2s (env : Env) (F : Nat) (c : Cav) (l : Sl Stg) (t : Truth) (m0 : Nat) (fu : Nat) (i0 : Int) (i1 : Int) : L47x2 env F c l t m0 (fu + 1) i0 i1 = (bif (decide (i1 < (((Sl.len (Cav.slices c)) : Nat) : Int))) then (bif (decide ((0 : Int) ≤ i0)) then (bif (decide (i0 < (((Sl.len (Truth.rates t)) : Nat) : Int))) then (bif (decide ((0 : Int) ≤ i1)) then (bif (decide (i1 < (((Sl.len (Sl.el (Truth.rates t) (Int.toNat i0))) : Nat) : Int))) then (bif (decide ((0 : Int) ≤ i1)) then (bif (decide (i1 < (((Sl.len (Cav.slices c)) : Nat) : Int))) then (bif (decide ((0 : Int) ≤ i1)) then (bif (decide (i1 < (((Sl.len (Cav.slices c)) : Nat) : Int))) then (tkOut (env.pf 64 [(i64 (Sl.el (Sl.el (Truth.rates t) (Int.toNat i0)) (Int.toNat i1))), (i64 (Span.lo (Slc.rate (Sl.el (Cav.slices c) (Int.toNat i1))))), (i64 (Span.hi (Slc.rate (Sl.el (Cav.slices c) (Int.toNat i1)))))]) none (fun v9 => (tkBool v9 none fun b10 => (bif (!b10) then some (.ret (.bool false)) else (L47x2 env F c l t m0 fu i0 (IntKind.wrap .i64 (i1 + (1 : Int))))))) (fun p9 => (tkIfc p9 none fun t10 x11 => (bif (flatP (.iface t10 x11)) then some (.pan (.iface t10 x11)) else none)))) else none) else none) else none) else none) else none) else none) else none) else none) else (L47x1 env F c l t m0 (IntKind.wrap .i64 (i0 + (1 : Int))))) := by kernel_rfl
noncomputable def L48x0 (env : Env) (F : Nat) (c : Cav) (l : Sl Stg) (t : Truth) (fu : Nat) (i0 : Int) (i1 : Int) (i2 : Int) (i3 : Int) : Option Out := atLoop Try.prog (cfg F) env 48 [.r, .r, .l, .r, .d] [] fu { tm := tmL 130 0 [(1, (sl eStg 4 l)), (3, (.optr 0 0 0)), (5, (.optr 1 0 0)), (6, (.optr 2 0 0)), (7, (.optr 3 0 0)), (8, (i64 i0))], hp := [(.box 24 (eCav c) true), (.box 82 (eTruth t) true), (.box 84 [(.row true 0 0 (fun u10 => [])), (i64 (0 : Int)), (i64 (0 : Int)), (i64 (0 : Int)), (i64 (0 : Int))] true), (.box 84 [(.row true 0 0 (fun u10 => [])), (i64 (0 : Int)), (i64 i1), (i64 i2), (i64 i3)] true)] }
noncomputable def L48x1 (env : Env) (F : Nat) (c : Cav) (l : Sl Stg) (t : Truth) (fu : Nat) (i0 : Int) (i1 : Int) (i2 : Int) (i3 : Int) (i4 : Int) (g5 : Nat → List V) : Option Out := atLoop Try.prog (cfg F) env 48 [.r, .r, .l, .r, .d] [] fu { tm := tmL 130 0 [(1, (sl eStg 4 l)), (3, (.optr 0 0 0)), (5, (.optr 1 0 0)), (6, (.optr 2 0 0)), (7, (.optr 3 0 0)), (8, (i64 i0))], hp := [(.box 24 (eCav c) true), (.box 82 (eTruth t) true), (.box 84 [(.row true 0 0 (fun u12 => [])), (i64 (0 : Int)), (i64 (0 : Int)), (i64 (0 : Int)), (i64 (0 : Int))] true), (.box 84 [(.osl 4 0 (Sl.len (Truth.vols t))), (i64 i1), (i64 i2), (i64 i3), (i64 i4)] true), (.arr 3 1 (Sl.len (Truth.vols t)) g5 true)] }
noncomputable def L48x2 (env : Env) (F : Nat) (c : Cav) (l : Sl Stg) (t : Truth) (m0 : Nat) (fu : Nat) (i0 : Int) (b1 : Bool) (k2 : Nat) (k3 : Nat) (g4 : Nat → List V) (i5 : Int) (i6 : Int) (i7 : Int) : Option Out := atLoop Try.prog (cfg F) env 48 [.r, .r, .l, .r, .d, .d, .r, .l, .d, .r, .r, .l, .r, .d] [m0] fu { tm := tmL 130 0 [(1, (sl eStg 4 l)), (3, (.optr 0 0 0)), (5, (.optr 1 0 0)), (6, (.optr 2 0 0)), (7, (.optr 3 0 0)), (8, (i64 i0)), (9, (.row b1 k2 k3 g4)), (10, (i64 (0 : Int))), (11, (i64 (0 : Int))), (12, (i64 (0 : Int)))], hp := [(.box 24 (eCav c) true), (.box 82 (eTruth t) true), (.box 84 [(.row true 0 0 (fun u15 => [])), (i64 (0 : Int)), (i64 (0 : Int)), (i64 (0 : Int)), (i64 (0 : Int))] true), (.box 84 [(.row true 0 0 (fun u15 => [])), (i64 (0 : Int)), (i64 i5), (i64 i6), (i64 i7)] true)] }
noncomputable def L48x3 (env : Env) (F : Nat) (c : Cav) (l : Sl Stg) (t : Truth) (m0 : Nat) (fu : Nat) (i0 : Int) (b1 : Bool) (k2 : Nat) (k3 : Nat) (g4 : Nat → List V) (i5 : Int) (i6 : Int) (i7 : Int) (i8 : Int) (i9 : Int) (i10 : Int) (i11 : Int) (g12 : Nat → List V) : Option Out := atLoop Try.prog (cfg F) env 48 [.r, .r, .l, .r, .d, .d, .r, .l, .d, .r, .r, .l, .r, .d] [m0] fu { tm := tmL 130 0 [(1, (sl eStg 4 l)), (3, (.optr 0 0 0)), (5, (.optr 1 0 0)), (6, (.optr 2 0 0)), (7, (.optr 3 0 0)), (8, (i64 i0)), (9, (.row b1 k2 k3 g4)), (10, (i64 i5)), (11, (i64 i6)), (12, (i64 i7))], hp := [(.box 24 (eCav c) true), (.box 82 (eTruth t) true), (.box 84 [(.row true 0 0 (fun u20 => [])), (i64 (0 : Int)), (i64 (0 : Int)), (i64 (0 : Int)), (i64 (0 : Int))] true), (.box 84 [(.osl 4 0 (Sl.len (Truth.vols t))), (i64 i8), (i64 i9), (i64 i10), (i64 i11)] true), (.arr 3 1 (Sl.len (Truth.vols t)) g12 true)] }
theorem t48 (env : Env) (F : Nat) (c : Cav) (l : Sl Stg) (t : Truth) : (evFun Try.prog (cfg F) env 48 [(.agg (eCav c)), (sl eStg 4 l), (.agg (eTruth t))]) = (bif (Sl.nl (Truth.vols t)) then (L48x0 env F c l t F (0 : Int) (0 : Int) (0 : Int) (0 : Int)) else (bif ((Sl.len (Truth.vols t)) == 0) then (L48x0 env F c l t F (0 : Int) (0 : Int) (0 : Int) (0 : Int)) else (bif (decide (((Sl.len (Truth.vols t)) * 8) ≤ 140737488355328)) then (L48x1 env F c l t F (0 : Int) (0 : Int) (0 : Int) (0 : Int) (0 : Int) (fun u5 => [(i64 (Sl.el (Truth.vols t) u5))])) else none))) := by kernel_rfl
theorem L48x0s (env : Env) (F : Nat) (c : Cav) (l : Sl Stg) (t : Truth) (fu : Nat) (i0 : Int) (i1 : Int) (i2 : Int) (i3 : Int) : L48x0 env F c l t (fu + 1) i0 i1 i2 i3 = (bif (decide (i0 < (((Sl.len l) : Nat) : Int))) then (bif (decide ((0 : Int) ≤ i0)) then (bif (decide (i0 < (((Sl.len l) : Nat) : Int))) then (bif (decide ((0 : Int) ≤ i0)) then (bif (decide (i0 < (((Sl.len (Truth.rates t)) : Nat) : Int))) then (tkOut (env.pf 50 [(.agg (eCav c)), (.agg (eStg (Sl.el l (Int.toNat i0)))), (sl eInt 1 (Sl.el (Truth.rates t) (Int.toNat i0)))]) none (fun v10 => (tkRow v10 none fun nl11 n12 wd13 g14 => (L48x2 env F c l t fu F i0 nl11 n12 wd13 g14 i1 i2 i3))) (fun p10 => (tkIfc p10 none fun t11 x12 => (bif (flatP (.iface t11 x12)) then some (.pan (.iface t11 x12)) else none)))) else none) else none) else none) else none) else some (.ret (.agg [(.row true 0 0 (fun u10 => [])), (i64 (0 : Int)), (i64 i1), (i64 i2), (i64 i3)]))) := by kernel_rfl
theorem L48x1s (env : Env) (F : Nat) (c : Cav) (l : Sl Stg) (t : Truth) (fu : Nat) (i0 : Int) (i1 : Int) (i2 : Int) (i3 : Int) (i4 : Int) (g5 : Nat → List V) : L48x1 env F c l t (fu + 1) i0 i1 i2 i3 i4 g5 = (bif (decide (i0 < (((Sl.len l) : Nat) : Int))) then (bif (decide ((0 : Int) ≤ i0)) then (bif (decide (i0 < (((Sl.len l) : Nat) : Int))) then (bif (decide ((0 : Int) ≤ i0)) then (bif (decide (i0 < (((Sl.len (Truth.rates t)) : Nat) : Int))) then (tkOut (env.pf 50 [(.agg (eCav c)), (.agg (eStg (Sl.el l (Int.toNat i0)))), (sl eInt 1 (Sl.el (Truth.rates t) (Int.toNat i0)))]) none (fun v12 => (tkRow v12 none fun nl13 n14 wd15 g16 => (L48x3 env F c l t fu F i0 nl13 n14 wd15 g16 (0 : Int) (0 : Int) (0 : Int) i1 i2 i3 i4 g5))) (fun p12 => (tkIfc p12 none fun t13 x14 => (bif (flatP (.iface t13 x14)) then some (.pan (.iface t13 x14)) else none)))) else none) else none) else none) else none) else some (.ret (.agg [(.row false (Sl.len (Truth.vols t)) 1 (fun u12 => (g5 u12))), (i64 i1), (i64 i2), (i64 i3), (i64 i4)]))) := by kernel_rfl
theorem L48x2s (env : Env) (F : Nat) (c : Cav) (l : Sl Stg) (t : Truth) (m0 : Nat) (fu : Nat) (i0 : Int) (b1 : Bool) (k2 : Nat) (k3 : Nat) (g4 : Nat → List V) (i5 : Int) (i6 : Int) (i7 : Int) : L48x2 env F c l t m0 (fu + 1) i0 b1 k2 k3 g4 i5 i6 i7 = (bif (decide ((0 : Int) < ((k2 : Nat) : Int))) then (bif (k3 == 1) then (bif (decide ((0 : Int) < ((k2 : Nat) : Int))) then (tkCons (g4 0) none fun v15 r16 => (tkInt v15 none fun q17 n18 => (bif (decide ((0 : Int) ≤ i0)) then (bif (decide (i0 < (((Sl.len l) : Nat) : Int))) then (bif (decide (q17 = .i64)) then (bif (decide (.i64 = q17)) then (bif (decide ((0 : Int) < (((Sl.len (Cav.slices c)) : Nat) : Int))) then (bif (decide ((0 : Int) < (((Sl.len (Cav.slices c)) : Nat) : Int))) then (bif (decide (.i64 = q17)) then none else none) else none) else none) else none) else none) else none) else none))) else none) else none) else (bif (decide ((0 : Int) ≤ i0)) then (bif (decide (i0 < (((Sl.len l) : Nat) : Int))) then (L48x0 env F c l t m0 (IntKind.wrap .i64 (i0 + (1 : Int))) (IntKind.wrap .i64 (i5 + (0 : Int))) (IntKind.wrap .i64 ((IntKind.wrap .i64 (i6 + (IntKind.wrap .i64 ((1000000 : Int) * (Stg.water (Sl.el l (Int.toNat i0))))))) - (0 : Int))) (IntKind.wrap .i64 ((IntKind.wrap .i64 (i7 + (IntKind.wrap .i64 ((1000000 : Int) * (0 : Int))))) - (IntKind.wrap .i64 ((Cav.hold c) * (0 : Int)))))) else none) else none)) := by kernel_rfl
theorem L48x3s (env : Env) (F : Nat) (c : Cav) (l : Sl Stg) (t : Truth) (m0 : Nat) (fu : Nat) (i0 : Int) (b1 : Bool) (k2 : Nat) (k3 : Nat) (g4 : Nat → List V) (i5 : Int) (i6 : Int) (i7 : Int) (i8 : Int) (i9 : Int) (i10 : Int) (i11 : Int) (g12 : Nat → List V) : L48x3 env F c l t m0 (fu + 1) i0 b1 k2 k3 g4 i5 i6 i7 i8 i9 i10 i11 g12 = (bif (decide (i7 < ((k2 : Nat) : Int))) then (bif (k3 == 1) then (bif (decide ((0 : Int) ≤ i7)) then (bif (decide (i7 < ((k2 : Nat) : Int))) then (tkCons (g4 (Int.toNat i7)) none fun v20 r21 => (tkInt v20 none fun q22 n23 => (bif (decide ((0 : Int) ≤ i0)) then (bif (decide (i0 < (((Sl.len l) : Nat) : Int))) then (bif (decide (q22 = .i64)) then (bif (decide (.i64 = q22)) then (bif (decide ((0 : Int) ≤ i7)) then (bif (decide (i7 < (((Sl.len (Cav.slices c)) : Nat) : Int))) then (bif (decide ((0 : Int) ≤ i7)) then (bif (decide (i7 < (((Sl.len (Cav.slices c)) : Nat) : Int))) then (bif (decide (.i64 = q22)) then (bif (decide ((0 : Int) ≤ i7)) then (bif (decide (i7 < (((Sl.len (Truth.vols t)) : Nat) : Int))) then (tkCons (g12 (Int.toNat i7)) none fun v24 r25 => (tkInt v24 none fun q26 n27 => (bif (decide ((0 : Int) ≤ i7)) then (bif (decide (i7 < (((Sl.len (Cav.slices c)) : Nat) : Int))) then (bif (decide (.i64 = q22)) then (bif (decide (q26 = .i64)) then (bif (decide ((0 : Int) ≤ i7)) then (bif (decide (i7 < (((Sl.len (Truth.vols t)) : Nat) : Int))) then (bif (decide ((0 : Int) ≤ i7)) then (bif (decide (i7 < (((Sl.len (Cav.slices c)) : Nat) : Int))) then (bif (decide (.i64 = q22)) then (L48x3 env F c l t m0 fu i0 b1 k2 k3 g4 (IntKind.wrap .i64 (i5 + (IntKind.wrap q22 (n23 * (Stg.water (Sl.el l (Int.toNat i0))))))) (IntKind.wrap .i64 (i6 + (IntKind.wrap .i64 ((IntKind.wrap .i64 ((Slc.opn (Sl.el (Cav.slices c) (Int.toNat i7))) - (Slc.fall (Sl.el (Cav.slices c) (Int.toNat i7))))) * (IntKind.wrap q22 (n23 * (Stg.water (Sl.el l (Int.toNat i0))))))))) (IntKind.wrap .i64 (i7 + (1 : Int))) (IntKind.wrap .i64 (i8 + (IntKind.wrap .i64 ((Slc.fall (Sl.el (Cav.slices c) (Int.toNat i7))) * (IntKind.wrap q22 (n23 * (Stg.water (Sl.el l (Int.toNat i0))))))))) i9 i10 i11 (updGet g12 (Int.toNat i7) 0 [(.int q26 (IntKind.wrap q26 (n27 + (IntKind.wrap .i64 ((Slc.opn (Sl.el (Cav.slices c) (Int.toNat i7))) * (IntKind.wrap q22 (n23 * (Stg.water (Sl.el l (Int.toNat i0))))))))))])) else none) else none) else none) else none) else none) else none) else none) else none) else none))) else none) else none) else none) else none) else none) else none) else none) else none) else none) else none) else none))) else none) else none) else none) else (bif (decide ((0 : Int) ≤ i0)) then (bif (decide (i0 < (((Sl.len l) : Nat) : Int))) then (L48x1 env F c l t m0 (IntKind.wrap .i64 (i0 + (1 : Int))) i8 (IntKind.wrap .i64 (i9 + i5)) (IntKind.wrap .i64 ((IntKind.wrap .i64 (i10 + (IntKind.wrap .i64 ((1000000 : Int) * (Stg.water (Sl.el l (Int.toNat i0))))))) - i6)) (IntKind.wrap .i64 ((IntKind.wrap .i64 (i11 + (IntKind.wrap .i64 ((1000000 : Int) * i5)))) - (IntKind.wrap .i64 ((Cav.hold c) * i6)))) g12) else none) else none)) := by kernel_rfl
noncomputable def L87x0 (env : Env) (F : Nat) (c : Cav) (l : Sl Stg) (t : Truth) (fu : Nat) (i0 : Int) : Option Out := atLoop Try.prog (cfg F) env 87 [.r, .r, .l, .r, .d] [] fu { tm := tmL 91 0 [(3, (.optr 0 0 0)), (5, (.optr 1 0 0)), (32, (sl eInt 1 (Truth.vols t))), (33, (i64 (((Sl.len (Truth.vols t)) : Nat) : Int))), (34, (i64 i0))], hp := [(.box 103 (eCav c) true), (.box 82 (eTruth t) true)] }
noncomputable def L87x1 (env : Env) (F : Nat) (c : Cav) (l : Sl Stg) (t : Truth) (fu : Nat) (i0 : Int) : Option Out := atLoop Try.prog (cfg F) env 87 [.r, .r, .r, .l, .r, .d] [] fu { tm := tmL 91 0 [(3, (.optr 0 0 0)), (55, (sl eIL 1 (Truth.rates t))), (56, (i64 (((Sl.len (Truth.rates t)) : Nat) : Int))), (57, (i64 i0))], hp := [(.box 103 (eCav c) true)] }
noncomputable def L87x2 (env : Env) (F : Nat) (c : Cav) (l : Sl Stg) (t : Truth) (m0 : Nat) (fu : Nat) (i0 : Int) (b1 : Bool) (k2 : Nat) (g3 : Nat → List V) (i4 : Int) (i5 : Int) : Option Out := atLoop Try.prog (cfg F) env 87 [.r, .r, .r, .l, .r, .d, .d, .r, .r, .l, .d, .r, .r, .r, .d] [m0] fu { tm := tmL 91 0 [(3, (.optr 0 0 0)), (55, (sl eIL 1 (Truth.rates t))), (56, (i64 (((Sl.len (Truth.rates t)) : Nat) : Int))), (57, (i64 i0)), (68, (.row b1 k2 1 g3)), (69, (i64 i4)), (70, (i64 i5))], hp := [(.box 103 (eCav c) true)] }
theorem t87 (env : Env) (F : Nat) (c : Cav) (l : Sl Stg) (t : Truth) : (evFun Try.prog (cfg F) env 87 [(.agg (eCav c)), (sl eStg 4 l), (.agg (eTruth t))]) = (bif ((((Sl.len (Truth.vols t)) : Nat) : Int) != (((Sl.len (Cav.slices c)) : Nat) : Int)) then some (.ret (.bool false)) else (bif ((((Sl.len (Truth.rates t)) : Nat) : Int) != (((Sl.len l) : Nat) : Int)) then some (.ret (.bool false)) else (L87x0 env F c l t F (0 : Int)))) := by kernel_rfl
theorem L87x0s (env : Env) (F : Nat) (c : Cav) (l : Sl Stg) (t : Truth) (fu : Nat) (i0 : Int) : L87x0 env F c l t (fu + 1) i0 = (bif (decide (i0 < (((Sl.len (Truth.vols t)) : Nat) : Int))) then (bif (decide ((0 : Int) ≤ i0)) then (bif (decide (i0 < (((Sl.len (Truth.vols t)) : Nat) : Int))) then (bif (decide ((0 : Int) ≤ i0)) then (bif (decide (i0 < (((Sl.len (Cav.slices c)) : Nat) : Int))) then (tkOut (env.pf 59 [(i64 (Sl.el (Truth.vols t) (Int.toNat i0))), (i64 (Span.lo (Slc.vol (Sl.el (Cav.slices c) (Int.toNat i0))))), (i64 (Span.hi (Slc.vol (Sl.el (Cav.slices c) (Int.toNat i0)))))]) none (fun v7 => (tkBool v7 none fun b8 => (bif (!b8) then some (.ret (.bool false)) else (L87x0 env F c l t fu (IntKind.wrap .i64 (i0 + (1 : Int))))))) (fun p7 => (tkIfc p7 none fun t8 x9 => (bif (flatP (.iface t8 x9)) then some (.pan (.iface t8 x9)) else none)))) else none) else none) else none) else none) else (L87x1 env F c l t F (0 : Int))) := by kernel_rfl
theorem L87x1s (env : Env) (F : Nat) (c : Cav) (l : Sl Stg) (t : Truth) (fu : Nat) (i0 : Int) : L87x1 env F c l t (fu + 1) i0 = (bif (decide (i0 < (((Sl.len (Truth.rates t)) : Nat) : Int))) then (bif (decide ((0 : Int) ≤ i0)) then (bif (decide (i0 < (((Sl.len (Truth.rates t)) : Nat) : Int))) then (bif ((((Sl.len (Sl.el (Truth.rates t) (Int.toNat i0))) : Nat) : Int) != (((Sl.len (Cav.slices c)) : Nat) : Int)) then some (.ret (.bool false)) else (L87x2 env F c l t fu F i0 (Sl.nl (Sl.el (Truth.rates t) (Int.toNat i0))) (Sl.len (Sl.el (Truth.rates t) (Int.toNat i0))) (fun u7 => [(i64 (Sl.el (Sl.el (Truth.rates t) (Int.toNat i0)) u7))]) (((Sl.len (Sl.el (Truth.rates t) (Int.toNat i0))) : Nat) : Int) (0 : Int))) else none) else none) else some (.ret (.bool true))) := by kernel_rfl
theorem L87x2s (env : Env) (F : Nat) (c : Cav) (l : Sl Stg) (t : Truth) (m0 : Nat) (fu : Nat) (i0 : Int) (b1 : Bool) (k2 : Nat) (g3 : Nat → List V) (i4 : Int) (i5 : Int) : L87x2 env F c l t m0 (fu + 1) i0 b1 k2 g3 i4 i5 = (bif (decide (i5 < i4)) then (bif (decide ((0 : Int) ≤ i5)) then (bif (decide (i5 < ((k2 : Nat) : Int))) then (tkCons (g3 (Int.toNat i5)) none fun v13 r14 => (tkInt v13 none fun q15 n16 => (bif (decide ((0 : Int) ≤ i5)) then (bif (decide (i5 < (((Sl.len (Cav.slices c)) : Nat) : Int))) then (tkOut (env.pf 59 [(.int q15 n16), (i64 (Span.lo (Slc.rate (Sl.el (Cav.slices c) (Int.toNat i5))))), (i64 (Span.hi (Slc.rate (Sl.el (Cav.slices c) (Int.toNat i5)))))]) none (fun v17 => (tkBool v17 none fun b18 => (bif (!b18) then some (.ret (.bool false)) else (L87x2 env F c l t m0 fu i0 b1 k2 g3 i4 (IntKind.wrap .i64 (i5 + (1 : Int))))))) (fun p17 => (tkIfc p17 none fun t18 x19 => (bif (flatP (.iface t18 x19)) then some (.pan (.iface t18 x19)) else none)))) else none) else none))) else none) else none) else (L87x1 env F c l t m0 (IntKind.wrap .i64 (i0 + (1 : Int))))) := by kernel_rfl
noncomputable def L44x0 (env : Env) (F : Nat) (c : Cav) (l : Sl Stg) (t : Truth) (fu : Nat) (k0 : Nat) (g1 : Nat → List V) : Option Out := atLoop Try.prog (cfg F) env 44 [.r, .r, .r, .r, .r, .l, .r, .d] [] fu { tm := tmL 145 0 [(3, (.optr 0 0 0)), (5, (.optr 1 0 0)), (6, (.optr 2 0 0)), (10, (.optr 3 0 0)), (39, (sl eStg 4 l)), (40, (i64 (((Sl.len l) : Nat) : Int))), (41, (i64 (0 : Int)))], hp := [(.box 24 (eCav c) true), (.box 82 (eTruth t) true), (.box 84 [(.row true 0 0 (fun u8 => [])), (i64 (0 : Int)), (i64 (0 : Int)), (i64 (0 : Int)), (i64 (0 : Int))] true), (.box 84 [(.row true 0 k0 g1), (i64 (0 : Int)), (i64 (0 : Int)), (i64 (0 : Int)), (i64 (0 : Int))] true)] }
noncomputable def L44x1 (env : Env) (F : Nat) (c : Cav) (l : Sl Stg) (t : Truth) (fu : Nat) (i0 : Int) (k1 : Nat) (i2 : Int) (i3 : Int) (i4 : Int) (i5 : Int) (k6 : Nat) (g7 : Nat → List V) : Option Out := atLoop Try.prog (cfg F) env 44 [.r, .r, .r, .r, .r, .l, .r, .d] [] fu { tm := tmL 145 0 [(3, (.optr 0 0 0)), (5, (.optr 1 0 0)), (6, (.optr 2 0 0)), (10, (.optr 3 0 0)), (39, (sl eStg 4 l)), (40, (i64 (((Sl.len l) : Nat) : Int))), (41, (i64 i0))], hp := [(.box 24 (eCav c) true), (.box 82 (eTruth t) true), (.box 84 [(.row true 0 0 (fun u14 => [])), (i64 (0 : Int)), (i64 (0 : Int)), (i64 (0 : Int)), (i64 (0 : Int))] true), (.box 84 [(.osl 4 0 k1), (i64 i2), (i64 i3), (i64 i4), (i64 i5)] true), (.arr 3 1 k6 g7 true)] }
noncomputable def L44x2 (env : Env) (F : Nat) (c : Cav) (l : Sl Stg) (t : Truth) (m0 : Nat) (fu : Nat) (g0 : Nat → List V) (i1 : Int) (q2 : IntKind) (i3 : Int) (k4 : Nat) (g5 : Nat → List V) (g6 : Nat → List V) : Option Out := atLoop Try.prog (cfg F) env 44 [.r, .r, .r, .r, .r, .l, .r, .d, .d, .r, .r, .l, .d, .r, .r, .l, .r, .d, .g 99, .r, .r, .r, .d] [m0] fu { tm := tmL 24 0 [(0, (.yld 0)), (1, (.rptr 1 4 g0 0 0)), (3, (i64 i1)), (4, (.int q2 i3))], hp := [.lp, (.box 24 (eCav c) true), (.box 82 (eTruth t) true), (.box 84 [(.row true 0 0 (fun u14 => [])), (i64 (0 : Int)), (i64 (0 : Int)), (i64 (0 : Int)), (i64 (0 : Int))] true), (.box 84 [(.row true 0 k4 g5), (i64 (0 : Int)), (i64 (0 : Int)), (i64 (0 : Int)), (i64 (0 : Int))] true), (.box 3 [(i64 (0 : Int))] true), (.box 40 (eStg (Sl.el l 0)) true), (.box 3 [(i64 (Cav.hold c))] true), (.box 3 [(i64 (0 : Int))] true), (.box 3 [(i64 (0 : Int))] true), (.box 3 [(i64 (0 : Int))] true)], ext := [(.yld 0), .top, .top, .top, (.optr 1 0 0), .top, (.optr 2 0 0), (.optr 3 0 0), .top, .top, .top, (.optr 4 0 0), (.optr 5 0 0), (.optr 6 0 0), (.optr 7 0 0), (.optr 8 0 0), (.optr 9 0 0), (.optr 10 0 0), .top, .top, .top, .top, .top, .top, .top, .top, .top, .top, .top, .top, .top, .top, .top, .top, .top, .top, .top, .top, .top, .top, (sl eStg 4 l), (i64 (((Sl.len l) : Nat) : Int)), (i64 (0 : Int)), (.bool (decide ((0 : Int) < (((Sl.len l) : Nat) : Int)))), (i64 (0 : Int)), (.rptr (Sl.len l) 4 (fun u14 => (eStg (Sl.el l u14))) 0 0), (.agg (eStg (Sl.el l 0))), (.optr 1 0 1), (i64 (Cav.hold c)), (.agg (eStg (Sl.el l 0))), (.fn (.func 99) [] [(.rptr 1 4 g6 0 0)]), .top, .top, .top, .top, .top, .top, .top, .top, .top, .top, .top, .top, .top, .top, .top, .top, .top, .top, .top, .top, .top, .top, .top, .top, .top, .top, .top, .top, .top, .top, .top, .top, .top, .top, .top, .top, .top, .top, .top, .top, .top, .top, .top, .top, .top, .top, .top, .top, .top, .top, .top, .top, .top, .top, .top, .top, .top, .top, .top, .top, .top, .top, .top, .top, .top, .top, .top, .top, .top, .top, .top, .top, .top, .top, .top, .top, .top, .top, .top, .top, .top, .top, .top, .top, .top, .top, .top, .top, .top, .top, .top, .top, .top, .top, .top] }
noncomputable def L44x3 (env : Env) (F : Nat) (c : Cav) (l : Sl Stg) (t : Truth) (m0 : Nat) (fu : Nat) (g0 : Nat → List V) (i1 : Int) (q2 : IntKind) (i3 : Int) (k4 : Nat) (i5 : Int) (i6 : Int) (i7 : Int) (i8 : Int) (i9 : Int) (i10 : Int) (i11 : Int) (i12 : Int) (i13 : Int) (i14 : Int) (q15 : IntKind) (i16 : Int) (q17 : IntKind) (i18 : Int) (q19 : IntKind) (i20 : Int) (k21 : Nat) (g22 : Nat → List V) (i23 : Int) (b24 : Bool) (i25 : Int) (k26 : Nat) (i27 : Int) (i28 : Int) (i29 : Int) (i30 : Int) (i31 : Int) (i32 : Int) (i33 : Int) (i34 : Int) (g35 : Nat → List V) : Option Out := atLoop Try.prog (cfg F) env 44 [.r, .r, .r, .r, .r, .l, .r, .d, .d, .r, .r, .l, .d, .r, .r, .l, .r, .d, .g 99, .r, .r, .r, .d] [m0] fu { tm := tmL 24 0 [(0, (.yld 0)), (1, (.rptr 1 4 g0 0 0)), (3, (i64 i1)), (4, (.int q2 i3))], hp := [.lp, (.box 24 (eCav c) true), (.box 82 (eTruth t) true), (.box 84 [(.row true 0 0 (fun u43 => [])), (i64 (0 : Int)), (i64 (0 : Int)), (i64 (0 : Int)), (i64 (0 : Int))] true), (.box 84 [(.osl 11 0 k4), (i64 i5), (i64 i6), (i64 i7), (i64 i8)] true), (.box 3 [(i64 i9)] true), (.box 40 [(i64 i10), (i64 i11), (i64 i12), (i64 i13)] true), (.box 3 [(i64 i14)] true), (.box 3 [(.int q15 i16)] true), (.box 3 [(.int q17 i18)] true), (.box 3 [(.int q19 i20)] true), (.arr 3 1 k21 g22 true)], ext := [(.yld 0), .top, .top, .top, (.optr 1 0 0), .top, (.optr 2 0 0), (.optr 3 0 0), .top, .top, .top, (.optr 4 0 0), (.optr 5 0 0), (.optr 6 0 0), (.optr 7 0 0), (.optr 8 0 0), (.optr 9 0 0), (.optr 10 0 0), .top, .top, .top, .top, .top, .top, .top, .top, .top, .top, .top, .top, .top, .top, .top, .top, .top, .top, .top, .top, .top, .top, (sl eStg 4 l), (i64 (((Sl.len l) : Nat) : Int)), (i64 i23), (.bool b24), (i64 i25), (.rptr (Sl.len l) 4 (fun u43 => (eStg (Sl.el l u43))) k26 0), (.agg [(i64 i27), (i64 i28), (i64 i29), (i64 i30)]), (.optr 1 0 1), (i64 (Cav.hold c)), (.agg [(i64 i31), (i64 i32), (i64 i33), (i64 i34)]), (.fn (.func 99) [] [(.rptr 1 4 g35 0 0)]), .top, .top, .top, .top, .top, .top, .top, .top, .top, .top, .top, .top, .top, .top, .top, .top, .top, .top, .top, .top, .top, .top, .top, .top, .top, .top, .top, .top, .top, .top, .top, .top, .top, .top, .top, .top, .top, .top, .top, .top, .top, .top, .top, .top, .top, .top, .top, .top, .top, .top, .top, .top, .top, .top, .top, .top, .top, .top, .top, .top, .top, .top, .top, .top, .top, .top, .top, .top, .top, .top, .top, .top, .top, .top, .top, .top, .top, .top, .top, .top, .top, .top, .top, .top, .top, .top, .top, .top, .top, .top, .top, .top, .top, .top, .top] }
theorem t44 (env : Env) (F : Nat) (c : Cav) (l : Sl Stg) (t : Truth) : (evFun Try.prog (cfg F) env 44 [(.agg (eCav c)), (sl eStg 4 l), (.agg (eTruth t))]) = (tkOut (env.pf 57 [(.agg (eCav c)), (sl eStg 4 l)]) none (fun v5 => (tkInt v5 none fun q6 n7 => (bif (decide (q6 = .i64)) then (bif (n7 != (0 : Int)) then some (.ret (.tup [(.agg [(.row true 0 0 (fun u8 => [])), (i64 (0 : Int)), (i64 (0 : Int)), (i64 (0 : Int)), (i64 (0 : Int))]), (.int q6 n7)])) else (tkOut (env.pf 87 [(.agg (eCav c)), (sl eStg 4 l), (.agg (eTruth t))]) none (fun v8 => (tkBool v8 none fun b9 => (bif (!b9) then some (.ret (.tup [(.agg [(.row true 0 0 (fun u10 => [])), (i64 (0 : Int)), (i64 (0 : Int)), (i64 (0 : Int)), (i64 (0 : Int))]), (i64 (2 : Int))])) else (tkHv (env.hv 79 [(sl eInt 1 (Truth.vols t))] []) none fun v10 h11 => (tkSl v10 none (fun nl12 n13 wd14 g15 => (bif (nl12 && (Nat.beq n13 0)) then (tkSNil h11 none ((L44x0 env F c l t F wd14 g15))) else none)) (fun b12 lo13 n14 => (bif ((Nat.beq b12 0) && (Nat.beq lo13 0)) then (tkSCons h11 none fun s15 r16 => (tkSNil r16 none ((tkArr s15 none fun e17 wd18 n19 g20 wr21 => (bif (((Nat.beq e17 3) && (Nat.beq wd18 1)) && (wr21 == true)) then (L44x1 env F c l t F (0 : Int) n14 (0 : Int) (0 : Int) (0 : Int) (0 : Int) n19 g20) else none))))) else none))))))) (fun p8 => (tkIfc p8 none fun t9 x10 => (bif (flatP (.iface t9 x10)) then some (.pan (.iface t9 x10)) else none))))) else none))) (fun p5 => (tkIfc p5 none fun t6 x7 => (bif (flatP (.iface t6 x7)) then some (.pan (.iface t6 x7)) else none)))) := by kernel_rfl
theorem L44x0s (env : Env) (F : Nat) (c : Cav) (l : Sl Stg) (t : Truth) (fu : Nat) (k0 : Nat) (g1 : Nat → List V) : L44x0 env F c l t (fu + 1) k0 g1 = (bif (decide ((0 : Int) < (((Sl.len l) : Nat) : Int))) then (bif (decide ((0 : Int) < (((Sl.len l) : Nat) : Int))) then (tkOut (env.pf 68 [(.agg (eStg (Sl.el l 0)))]) none (fun v8 => (tkFn v8 none fun f9 a10 c11 => (bif (Nat.beq f9 99) then (tkNil a10 none ((tkCons c11 none fun v12 r13 => (tkPtr v12 none fun n14 wd15 g16 i17 off18 => (bif (((Nat.beq n14 1) && (Nat.beq wd15 4)) && ((Nat.beq i17 0) && (Nat.beq off18 0))) then (tkCons (g16 0) none fun v19 r20 => (tkInt v19 none fun q21 n22 => (tkCons r20 none fun v23 r24 => (tkInt v23 none fun q25 n26 => (tkCons r24 none fun v27 r28 => (tkInt v27 none fun q29 n30 => (tkCons r28 none fun v31 r32 => (tkInt v31 none fun q33 n34 => (tkNil r32 none ((tkNil r13 none ((bif (decide (q29 = q25)) then (bif (decide (n30 < n26)) then (L44x2 env F c l t fu F (fun u35 => [(.int q21 n22), (.int q25 n26), (.int q29 n30), (.int q33 n34)]) (-(1 : Int)) q25 n26 k0 g1 (fun u35 => [(.int q21 n22), (.int q25 n26), (.int q29 n30), (.int q33 n34)])) else (L44x2 env F c l t fu F (fun u35 => [(.int q21 n22), (.int q25 n26), (.int q29 n30), (.int q33 n34)]) (1 : Int) q25 n26 k0 g1 (fun u35 => [(.int q21 n22), (.int q25 n26), (.int q29 n30), (.int q33 n34)]))) else none))))))))))))) else none))))) else none))) (fun p8 => (tkIfc p8 none fun t9 x10 => (bif (flatP (.iface t9 x10)) then some (.pan (.iface t9 x10)) else none)))) else none) else some (.ret (.tup [(.agg [(.row true 0 k0 g1), (i64 (0 : Int)), (i64 (0 : Int)), (i64 (0 : Int)), (i64 (0 : Int))]), (i64 (0 : Int))]))) := by kernel_rfl
theorem L44x1s (env : Env) (F : Nat) (c : Cav) (l : Sl Stg) (t : Truth) (fu : Nat) (i0 : Int) (k1 : Nat) (i2 : Int) (i3 : Int) (i4 : Int) (i5 : Int) (k6 : Nat) (g7 : Nat → List V) : L44x1 env F c l t (fu + 1) i0 k1 i2 i3 i4 i5 k6 g7 = (bif (decide (i0 < (((Sl.len l) : Nat) : Int))) then (bif (decide ((0 : Int) ≤ i0)) then (bif (decide (i0 < (((Sl.len l) : Nat) : Int))) then (tkOut (env.pf 68 [(.agg (eStg (Sl.el l (Int.toNat i0))))]) none (fun v14 => (tkFn v14 none fun f15 a16 c17 => (bif (Nat.beq f15 99) then (tkNil a16 none ((tkCons c17 none fun v18 r19 => (tkPtr v18 none fun n20 wd21 g22 i23 off24 => (bif (((Nat.beq n20 1) && (Nat.beq wd21 4)) && ((Nat.beq i23 0) && (Nat.beq off24 0))) then (tkCons (g22 0) none fun v25 r26 => (tkInt v25 none fun q27 n28 => (tkCons r26 none fun v29 r30 => (tkInt v29 none fun q31 n32 => (tkCons r30 none fun v33 r34 => (tkInt v33 none fun q35 n36 => (tkCons r34 none fun v37 r38 => (tkInt v37 none fun q39 n40 => (tkNil r38 none ((tkNil r19 none ((bif (decide (q35 = q31)) then (bif (decide (n36 < n32)) then (L44x3 env F c l t fu F (fun u41 => [(.int q27 n28), (.int q31 n32), (.int q35 n36), (.int q39 n40)]) (-(1 : Int)) q31 n32 k1 i2 i3 i4 i5 i0 (Stg.water (Sl.el l (Int.toNat i0))) (Stg.into (Sl.el l (Int.toNat i0))) (Stg.out (Sl.el l (Int.toNat i0))) (Stg.blanket (Sl.el l (Int.toNat i0))) (Cav.hold c) .i64 (0 : Int) .i64 (0 : Int) .i64 (0 : Int) k6 g7 i0 (decide (i0 < (((Sl.len l) : Nat) : Int))) i0 (Int.toNat i0) (Stg.water (Sl.el l (Int.toNat i0))) (Stg.into (Sl.el l (Int.toNat i0))) (Stg.out (Sl.el l (Int.toNat i0))) (Stg.blanket (Sl.el l (Int.toNat i0))) (Stg.water (Sl.el l (Int.toNat i0))) (Stg.into (Sl.el l (Int.toNat i0))) (Stg.out (Sl.el l (Int.toNat i0))) (Stg.blanket (Sl.el l (Int.toNat i0))) (fun u41 => [(.int q27 n28), (.int q31 n32), (.int q35 n36), (.int q39 n40)])) else (L44x3 env F c l t fu F (fun u41 => [(.int q27 n28), (.int q31 n32), (.int q35 n36), (.int q39 n40)]) (1 : Int) q31 n32 k1 i2 i3 i4 i5 i0 (Stg.water (Sl.el l (Int.toNat i0))) (Stg.into (Sl.el l (Int.toNat i0))) (Stg.out (Sl.el l (Int.toNat i0))) (Stg.blanket (Sl.el l (Int.toNat i0))) (Cav.hold c) .i64 (0 : Int) .i64 (0 : Int) .i64 (0 : Int) k6 g7 i0 (decide (i0 < (((Sl.len l) : Nat) : Int))) i0 (Int.toNat i0) (Stg.water (Sl.el l (Int.toNat i0))) (Stg.into (Sl.el l (Int.toNat i0))) (Stg.out (Sl.el l (Int.toNat i0))) (Stg.blanket (Sl.el l (Int.toNat i0))) (Stg.water (Sl.el l (Int.toNat i0))) (Stg.into (Sl.el l (Int.toNat i0))) (Stg.out (Sl.el l (Int.toNat i0))) (Stg.blanket (Sl.el l (Int.toNat i0))) (fun u41 => [(.int q27 n28), (.int q31 n32), (.int q35 n36), (.int q39 n40)]))) else none))))))))))))) else none))))) else none))) (fun p14 => (tkIfc p14 none fun t15 x16 => (bif (flatP (.iface t15 x16)) then some (.pan (.iface t15 x16)) else none)))) else none) else none) else some (.ret (.tup [(.agg [(.row false k1 1 (fun u14 => (g7 u14))), (i64 i2), (i64 i3), (i64 i4), (i64 i5)]), (i64 (0 : Int))]))) := by kernel_rfl
theorem L44x2s (env : Env) (F : Nat) (c : Cav) (l : Sl Stg) (t : Truth) (m0 : Nat) (fu : Nat) (g0 : Nat → List V) (i1 : Int) (q2 : IntKind) (i3 : Int) (k4 : Nat) (g5 : Nat → List V) (g6 : Nat → List V) : L44x2 env F c l t m0 (fu + 1) g0 i1 q2 i3 k4 g5 g6 = (bif (decide ((0 : Int) < (((Sl.len (Truth.rates t)) : Nat) : Int))) then (bif (decide ((0 : Int) ≤ i3)) then (bif (decide (i3 < (((Sl.len (Sl.el (Truth.rates t) 0)) : Nat) : Int))) then (tkOut (env.pf 88 [(.row false 2 1 (fun u14 => (List.take 1 (List.drop ((Min.min u14 1) * 1) [(i64 (0 : Int)), (i64 (IntKind.wrap .i64 ((if (Cav.hold c) < (Sl.el (Sl.el (Truth.rates t) 0) (Int.toNat i3)) then (Cav.hold c) else (Sl.el (Sl.el (Truth.rates t) 0) (Int.toNat i3))) * (Stg.water (Sl.el l 0)))))]))))]) none (fun v14 => (tkInt v14 none fun q15 n16 => (bif (k4 == 1) then (bif (decide ((0 : Int) ≤ i3)) then (bif (decide (i3 < ((0 : Nat) : Int))) then (tkCons (g5 (Int.toNat i3)) none fun v17 r18 => (tkInt v17 none fun q19 n20 => (bif (decide ((0 : Int) ≤ i3)) then (bif (decide (i3 < (((Sl.len (Cav.slices c)) : Nat) : Int))) then (bif (decide (q19 = .i64)) then (bif (k4 == 1) then (bif (decide ((0 : Int) ≤ i3)) then (bif (decide (i3 < ((0 : Nat) : Int))) then none else none) else none) else none) else none) else none) else none))) else none) else none) else none))) (fun p14 => (tkIfc p14 none fun t15 x16 => (bif (flatP (.iface t15 x16)) then none else none)))) else none) else none) else none) := by kernel_rfl
theorem L44x3s (env : Env) (F : Nat) (c : Cav) (l : Sl Stg) (t : Truth) (m0 : Nat) (fu : Nat) (g0 : Nat → List V) (i1 : Int) (q2 : IntKind) (i3 : Int) (k4 : Nat) (i5 : Int) (i6 : Int) (i7 : Int) (i8 : Int) (i9 : Int) (i10 : Int) (i11 : Int) (i12 : Int) (i13 : Int) (i14 : Int) (q15 : IntKind) (i16 : Int) (q17 : IntKind) (i18 : Int) (q19 : IntKind) (i20 : Int) (k21 : Nat) (g22 : Nat → List V) (i23 : Int) (b24 : Bool) (i25 : Int) (k26 : Nat) (i27 : Int) (i28 : Int) (i29 : Int) (i30 : Int) (i31 : Int) (i32 : Int) (i33 : Int) (i34 : Int) (g35 : Nat → List V) : L44x3 env F c l t m0 (fu + 1) g0 i1 q2 i3 k4 i5 i6 i7 i8 i9 i10 i11 i12 i13 i14 q15 i16 q17 i18 q19 i20 k21 g22 i23 b24 i25 k26 i27 i28 i29 i30 i31 i32 i33 i34 g35 = (bif (decide ((0 : Int) ≤ i9)) then (bif (decide (i9 < (((Sl.len (Truth.rates t)) : Nat) : Int))) then (bif (decide ((0 : Int) ≤ i3)) then (bif (decide (i3 < (((Sl.len (Sl.el (Truth.rates t) (Int.toNat i9))) : Nat) : Int))) then (tkOut (env.pf 88 [(.row false 2 1 (fun u43 => (List.take 1 (List.drop ((Min.min u43 1) * 1) [(.int q19 i20), (i64 (IntKind.wrap .i64 ((if i14 < (Sl.el (Sl.el (Truth.rates t) (Int.toNat i9)) (Int.toNat i3)) then i14 else (Sl.el (Sl.el (Truth.rates t) (Int.toNat i9)) (Int.toNat i3))) * i10)))]))))]) none (fun v43 => (tkInt v43 none fun q44 n45 => (bif (decide ((0 : Int) ≤ i3)) then (bif (decide (i3 < ((k4 : Nat) : Int))) then (tkCons (g22 (Int.toNat i3)) none fun v46 r47 => (tkInt v46 none fun q48 n49 => (bif (decide ((0 : Int) ≤ i3)) then (bif (decide (i3 < (((Sl.len (Cav.slices c)) : Nat) : Int))) then (bif (decide (q48 = .i64)) then (bif (decide ((0 : Int) ≤ i3)) then (bif (decide (i3 < ((k4 : Nat) : Int))) then (bif (decide ((0 : Int) ≤ i3)) then (bif (decide (i3 < (((Sl.len (Cav.slices c)) : Nat) : Int))) then (tkOut (env.pf 88 [(.row false 2 1 (fun u50 => (List.take 1 (List.drop ((Min.min u50 1) * 1) [(.int q15 i16), (i64 (IntKind.wrap .i64 ((IntKind.wrap .i64 ((if i14 < (Sl.el (Sl.el (Truth.rates t) (Int.toNat i9)) (Int.toNat i3)) then i14 else (Sl.el (Sl.el (Truth.rates t) (Int.toNat i9)) (Int.toNat i3))) * i10)) * (Slc.opn (Sl.el (Cav.slices c) (Int.toNat i3))))))]))))]) none (fun v50 => (tkInt v50 none fun q51 n52 => (bif (decide ((0 : Int) ≤ i3)) then (bif (decide (i3 < (((Sl.len (Cav.slices c)) : Nat) : Int))) then (tkOut (env.pf 88 [(.row false 2 1 (fun u53 => (List.take 1 (List.drop ((Min.min u53 1) * 1) [(.int q17 i18), (i64 (IntKind.wrap .i64 ((IntKind.wrap .i64 ((if i14 < (Sl.el (Sl.el (Truth.rates t) (Int.toNat i9)) (Int.toNat i3)) then i14 else (Sl.el (Sl.el (Truth.rates t) (Int.toNat i9)) (Int.toNat i3))) * i10)) * (Slc.fall (Sl.el (Cav.slices c) (Int.toNat i3))))))]))))]) none (fun v53 => (tkInt v53 none fun q54 n55 => (tkCons (List.drop 2 (g0 0)) none fun v56 r57 => (tkInt v56 none fun q58 n59 => (bif (decide (q2 = q58)) then (bif (i3 != n59) then (bif (decide (q2 = .i64)) then (L44x3 env F c l t m0 fu g0 i1 q2 (IntKind.wrap q2 (i3 + i1)) k4 i5 i6 i7 i8 i9 i10 i11 i12 i13 (IntKind.wrap .i64 (i14 - (if i14 < (Sl.el (Sl.el (Truth.rates t) (Int.toNat i9)) (Int.toNat i3)) then i14 else (Sl.el (Sl.el (Truth.rates t) (Int.toNat i9)) (Int.toNat i3))))) q51 n52 q54 n55 q44 n45 k21 (updGet g22 (Int.toNat i3) 0 [(.int q48 (IntKind.wrap q48 (n49 + (IntKind.wrap .i64 ((IntKind.wrap .i64 ((if i14 < (Sl.el (Sl.el (Truth.rates t) (Int.toNat i9)) (Int.toNat i3)) then i14 else (Sl.el (Sl.el (Truth.rates t) (Int.toNat i9)) (Int.toNat i3))) * i10)) * (Slc.opn (Sl.el (Cav.slices c) (Int.toNat i3))))))))]) i23 b24 i25 k26 i27 i28 i29 i30 i31 i32 i33 i34 g35) else none) else (bif (decide (.i64 = q54)) then (bif (decide (.i64 = q44)) then (bif (decide (.i64 = q51)) then (bif (decide (.i64 = q54)) then (bif (decide (.i64 = q44)) then (bif (decide (q51 = q54)) then (bif (decide (.i64 = q51)) then (L44x1 env F c l t m0 (IntKind.wrap .i64 (i23 + (1 : Int))) k4 (IntKind.wrap .i64 (i5 + n55)) (IntKind.wrap .i64 (i6 + n45)) (IntKind.wrap .i64 (i7 + (IntKind.wrap .i64 ((IntKind.wrap .i64 ((IntKind.wrap .i64 ((1000000 : Int) * i10)) - n52)) + n55)))) (IntKind.wrap .i64 (i8 + (IntKind.wrap .i64 ((IntKind.wrap .i64 ((1000000 : Int) * n45)) - (IntKind.wrap .i64 ((Cav.hold c) * (IntKind.wrap q51 (n52 - n55)))))))) k21 (updGet g22 (Int.toNat i3) 0 [(.int q48 (IntKind.wrap q48 (n49 + (IntKind.wrap .i64 ((IntKind.wrap .i64 ((if i14 < (Sl.el (Sl.el (Truth.rates t) (Int.toNat i9)) (Int.toNat i3)) then i14 else (Sl.el (Sl.el (Truth.rates t) (Int.toNat i9)) (Int.toNat i3))) * i10)) * (Slc.opn (Sl.el (Cav.slices c) (Int.toNat i3))))))))])) else none) else none) else none) else none) else none) else none) else none)) else none))))) (fun p53 => (tkIfc p53 none fun t54 x55 => (bif (flatP (.iface t54 x55)) then none else none)))) else none) else none))) (fun p50 => (tkIfc p50 none fun t51 x52 => (bif (flatP (.iface t51 x52)) then none else none)))) else none) else none) else none) else none) else none) else none) else none))) else none) else none))) (fun p43 => (tkIfc p43 none fun t44 x45 => (bif (flatP (.iface t44 x45)) then none else none)))) else none) else none) else none) else none) := by kernel_rfl
theorem t8 (env : Env) (F : Nat) (c : Cav) (s : Stg) : (evFun Try.prog (cfg F) env 8 [(.agg (eCav c)), (.agg (eStg s))]) = (tkOut (env.pf 19 [(.agg (eCav c))]) none (fun v4 => (tkBool v4 none fun b5 => (bif (!b5) then (tkOut (env.pf 21 []) none (fun v6 => (tkBool v6 none fun b7 => some (.ret (.bool b7)))) (fun p6 => (tkIfc p6 none fun t7 x8 => (bif (flatP (.iface t7 x8)) then some (.pan (.iface t7 x8)) else none)))) else (tkOut (env.pf 38 [(.agg (eCav c))]) none (fun v6 => (tkInt v6 none fun q7 n8 => (tkOut (env.pf 39 [(.agg (eCav c)), (.agg (eStg s))]) none (fun v9 => (tkTup v9 none fun l10 => (tkCons l10 none fun v11 r12 => (tkRow v11 none fun nl13 n14 wd15 g16 => (tkCons r12 none fun v17 r18 => (tkInt v17 none fun q19 n20 => (tkNil r18 none ((tkOut (env.pf 27 [(.agg (eCav c))]) none (fun v21 => (tkBool v21 none fun b22 => (bif (!b22) then (bif (decide (q7 = .i64)) then (bif (n8 == (2 : Int)) then (bif (decide (q19 = .i64)) then (bif (n20 == (2 : Int)) then (bif (((n14 : Nat) : Int) == (0 : Int)) then (tkOut (env.pf 21 []) none (fun v23 => (tkBool v23 none fun b24 => some (.ret (.bool b24)))) (fun p23 => (tkIfc p23 none fun t24 x25 => (bif (flatP (.iface t24 x25)) then some (.pan (.iface t24 x25)) else none)))) else some (.ret (.bool false))) else some (.ret (.bool false))) else none) else some (.ret (.bool false))) else none) else (bif (decide (q7 = .i64)) then (bif (n8 != (0 : Int)) then some (.ret (.bool false)) else (tkOut (env.pf 28 [(.agg (eCav c)), (.agg (eStg s))]) none (fun v23 => (tkBool v23 none fun b24 => (bif (!b24) then (bif (decide (q19 = .i64)) then (bif (n20 == (2 : Int)) then (bif (((n14 : Nat) : Int) == (0 : Int)) then (tkOut (env.pf 21 []) none (fun v25 => (tkBool v25 none fun b26 => some (.ret (.bool b26)))) (fun p25 => (tkIfc p25 none fun t26 x27 => (bif (flatP (.iface t26 x27)) then some (.pan (.iface t26 x27)) else none)))) else some (.ret (.bool false))) else some (.ret (.bool false))) else none) else (bif (decide (q19 = .i64)) then (bif (n20 == (0 : Int)) then (tkOut (env.pf 41 [(.agg (eCav c)), (.agg (eStg s))]) none (fun v25 => (tkRow v25 none fun nl26 n27 wd28 g29 => (tkOut (env.pf 40 [(.row nl13 n14 wd15 g16), (.row nl26 n27 wd28 g29)]) none (fun v30 => (tkBool v30 none fun b31 => (bif b31 then (tkOut (env.pf 21 []) none (fun v32 => (tkBool v32 none fun b33 => some (.ret (.bool b33)))) (fun p32 => (tkIfc p32 none fun t33 x34 => (bif (flatP (.iface t33 x34)) then some (.pan (.iface t33 x34)) else none)))) else some (.ret (.bool false))))) (fun p30 => (tkIfc p30 none fun t31 x32 => (bif (flatP (.iface t31 x32)) then some (.pan (.iface t31 x32)) else none)))))) (fun p25 => (tkIfc p25 none fun t26 x27 => (bif (flatP (.iface t26 x27)) then some (.pan (.iface t26 x27)) else none)))) else some (.ret (.bool false))) else none)))) (fun p23 => (tkIfc p23 none fun t24 x25 => (bif (flatP (.iface t24 x25)) then some (.pan (.iface t24 x25)) else none))))) else none)))) (fun p21 => (tkIfc p21 none fun t22 x23 => (bif (flatP (.iface t22 x23)) then some (.pan (.iface t22 x23)) else none)))))))))))) (fun p9 => (tkIfc p9 none fun t10 x11 => (bif (flatP (.iface t10 x11)) then some (.pan (.iface t10 x11)) else none)))))) (fun p6 => (tkIfc p6 none fun t7 x8 => (bif (flatP (.iface t7 x8)) then some (.pan (.iface t7 x8)) else none))))))) (fun p4 => (tkIfc p4 none fun t5 x6 => (bif (flatP (.iface t5 x6)) then some (.pan (.iface t5 x6)) else none)))) := by kernel_rfl
theorem t4 (env : Env) (F : Nat) (c : Cav) (s : Stg) : (evFun Try.prog (cfg F) env 4 [(.agg (eCav c)), (.agg (eStg s))]) = (tkOut (env.pf 19 [(.agg (eCav c))]) none (fun v4 => (tkBool v4 none fun b5 => (bif (!b5) then (tkOut (env.pf 21 []) none (fun v6 => (tkBool v6 none fun b7 => some (.ret (.bool b7)))) (fun p6 => (tkIfc p6 none fun t7 x8 => (bif (flatP (.iface t7 x8)) then some (.pan (.iface t7 x8)) else none)))) else (tkOut (env.pf 26 [(.agg (eCav c)), (.agg (eStg s))]) none (fun v6 => (tkTup v6 none fun l7 => (tkCons l7 none fun v8 r9 => (tkAgg v8 none fun l10 => (tkCons l10 none fun v11 r12 => (tkInt v11 none fun q13 n14 => (tkCons r12 none fun v15 r16 => (tkInt v15 none fun q17 n18 => (tkNil r16 none ((tkCons r9 none fun v19 r20 => (tkAgg v19 none fun l21 => (tkCons l21 none fun v22 r23 => (tkInt v22 none fun q24 n25 => (tkCons r23 none fun v26 r27 => (tkInt v26 none fun q28 n29 => (tkNil r27 none ((tkCons r20 none fun v30 r31 => (tkInt v30 none fun q32 n33 => (tkNil r31 none ((tkOut (env.pf 27 [(.agg (eCav c))]) none (fun v34 => (tkBool v34 none fun b35 => (bif (!b35) then (bif (decide (q32 = .i64)) then (bif (n33 == (2 : Int)) then (bif (decide (q13 = .i64)) then (bif (decide (q17 = .i64)) then (bif ((n14 == (0 : Int)) && ((n18 == (0 : Int)) && true)) then (bif (decide (q24 = .i64)) then (bif (decide (q28 = .i64)) then (bif ((n25 == (0 : Int)) && ((n29 == (0 : Int)) && true)) then (tkOut (env.pf 21 []) none (fun v36 => (tkBool v36 none fun b37 => some (.ret (.bool b37)))) (fun p36 => (tkIfc p36 none fun t37 x38 => (bif (flatP (.iface t37 x38)) then some (.pan (.iface t37 x38)) else none)))) else some (.ret (.bool false))) else none) else none) else some (.ret (.bool false))) else none) else none) else some (.ret (.bool false))) else none) else (tkOut (env.pf 28 [(.agg (eCav c)), (.agg (eStg s))]) none (fun v36 => (tkBool v36 none fun b37 => (bif (!b37) then (bif (decide (q32 = .i64)) then (bif (n33 == (2 : Int)) then (bif (decide (q13 = .i64)) then (bif (decide (q17 = .i64)) then (bif ((n14 == (0 : Int)) && ((n18 == (0 : Int)) && true)) then (bif (decide (q24 = .i64)) then (bif (decide (q28 = .i64)) then (bif ((n25 == (0 : Int)) && ((n29 == (0 : Int)) && true)) then (tkOut (env.pf 21 []) none (fun v38 => (tkBool v38 none fun b39 => some (.ret (.bool b39)))) (fun p38 => (tkIfc p38 none fun t39 x40 => (bif (flatP (.iface t39 x40)) then some (.pan (.iface t39 x40)) else none)))) else some (.ret (.bool false))) else none) else none) else some (.ret (.bool false))) else none) else none) else some (.ret (.bool false))) else none) else (tkOut (env.pf 29 [(.agg (eCav c)), (.agg (eStg s))]) none (fun v38 => (tkTup v38 none fun l39 => (tkCons l39 none fun v40 r41 => (tkAgg v40 none fun l42 => (tkCons l42 none fun v43 r44 => (tkInt v43 none fun q45 n46 => (tkCons r44 none fun v47 r48 => (tkInt v47 none fun q49 n50 => (tkNil r48 none ((tkCons r41 none fun v51 r52 => (tkAgg v51 none fun l53 => (tkCons l53 none fun v54 r55 => (tkInt v54 none fun q56 n57 => (tkCons r55 none fun v58 r59 => (tkInt v58 none fun q60 n61 => (tkNil r59 none ((tkNil r52 none ((bif (decide (q32 = .i64)) then (bif (n33 == (0 : Int)) then (bif (decide (q13 = q45)) then (bif (decide (q17 = q49)) then (bif ((n14 == n46) && ((n18 == n50) && true)) then (bif (decide (q24 = q56)) then (bif (decide (q28 = q60)) then (bif ((n25 == n57) && ((n29 == n61) && true)) then (tkOut (env.pf 21 []) none (fun v62 => (tkBool v62 none fun b63 => some (.ret (.bool b63)))) (fun p62 => (tkIfc p62 none fun t63 x64 => (bif (flatP (.iface t63 x64)) then some (.pan (.iface t63 x64)) else none)))) else some (.ret (.bool false))) else none) else none) else some (.ret (.bool false))) else none) else none) else some (.ret (.bool false))) else none))))))))))))))))))))) (fun p38 => (tkIfc p38 none fun t39 x40 => (bif (flatP (.iface t39 x40)) then some (.pan (.iface t39 x40)) else none))))))) (fun p36 => (tkIfc p36 none fun t37 x38 => (bif (flatP (.iface t37 x38)) then some (.pan (.iface t37 x38)) else none))))))) (fun p34 => (tkIfc p34 none fun t35 x36 => (bif (flatP (.iface t35 x36)) then some (.pan (.iface t35 x36)) else none)))))))))))))))))))))))))) (fun p6 => (tkIfc p6 none fun t7 x8 => (bif (flatP (.iface t7 x8)) then some (.pan (.iface t7 x8)) else none))))))) (fun p4 => (tkIfc p4 none fun t5 x6 => (bif (flatP (.iface t5 x6)) then some (.pan (.iface t5 x6)) else none)))) := by kernel_rfl
theorem t7 (env : Env) (F : Nat) (c : Cav) (l : Sl Stg) (w : Sl Int) : (evFun Try.prog (cfg F) env 7 [(.agg (eCav c)), (sl eStg 4 l), (sl eInt 1 w)]) = (tkOut (env.pf 19 [(.agg (eCav c))]) none (fun v5 => (tkBool v5 none fun b6 => (bif (!b6) then (tkOut (env.pf 21 []) none (fun v7 => (tkBool v7 none fun b8 => some (.ret (.bool b8)))) (fun p7 => (tkIfc p7 none fun t8 x9 => (bif (flatP (.iface t8 x9)) then some (.pan (.iface t8 x9)) else none)))) else (bif (decide ((((Sl.len l) : Nat) : Int) > (20 : Int))) then (tkOut (env.pf 21 []) none (fun v7 => (tkBool v7 none fun b8 => some (.ret (.bool b8)))) (fun p7 => (tkIfc p7 none fun t8 x9 => (bif (flatP (.iface t8 x9)) then some (.pan (.iface t8 x9)) else none)))) else (bif (decide ((((Sl.len w) : Nat) : Int) > (20 : Int))) then (tkOut (env.pf 21 []) none (fun v7 => (tkBool v7 none fun b8 => some (.ret (.bool b8)))) (fun p7 => (tkIfc p7 none fun t8 x9 => (bif (flatP (.iface t8 x9)) then some (.pan (.iface t8 x9)) else none)))) else (tkOut (env.pf 36 [(.agg (eCav c)), (sl eStg 4 l), (sl eInt 1 w)]) none (fun v7 => (tkTup v7 none fun l8 => (tkCons l8 none fun v9 r10 => (tkInt v9 none fun q11 n12 => (tkCons r10 none fun v13 r14 => (tkInt v13 none fun q15 n16 => (tkNil r14 none ((tkOut (env.pf 32 [(.agg (eCav c)), (sl eStg 4 l), (sl eInt 1 w)]) none (fun v17 => (tkInt v17 none fun q18 n19 => (bif (decide (q18 = .i64)) then (bif (n19 != (0 : Int)) then (bif (decide (q15 = q18)) then (bif (n16 == n19) then (bif (decide (q11 = .i64)) then (bif (n12 == (0 : Int)) then (tkOut (env.pf 21 []) none (fun v20 => (tkBool v20 none fun b21 => some (.ret (.bool b21)))) (fun p20 => (tkIfc p20 none fun t21 x22 => (bif (flatP (.iface t21 x22)) then some (.pan (.iface t21 x22)) else none)))) else some (.ret (.bool false))) else none) else some (.ret (.bool false))) else none) else (tkOut (env.pf 37 [(.agg (eCav c)), (sl eStg 4 l), (sl eInt 1 w)]) none (fun v20 => (tkTup v20 none fun l21 => (tkCons l21 none fun v22 r23 => (tkInt v22 none fun q24 n25 => (tkCons r23 none fun v26 r27 => (tkBool v26 none fun b28 => (tkNil r27 none ((bif (!b28) then (bif (decide (q15 = .i64)) then (bif (n16 == (5 : Int)) then (bif (decide (q11 = .i64)) then (bif (n12 == (0 : Int)) then (tkOut (env.pf 21 []) none (fun v29 => (tkBool v29 none fun b30 => some (.ret (.bool b30)))) (fun p29 => (tkIfc p29 none fun t30 x31 => (bif (flatP (.iface t30 x31)) then some (.pan (.iface t30 x31)) else none)))) else some (.ret (.bool false))) else none) else some (.ret (.bool false))) else none) else (bif (decide (q15 = .i64)) then (bif (n16 == (0 : Int)) then (bif (decide (q11 = q24)) then (bif (n12 == n25) then (tkOut (env.pf 21 []) none (fun v29 => (tkBool v29 none fun b30 => some (.ret (.bool b30)))) (fun p29 => (tkIfc p29 none fun t30 x31 => (bif (flatP (.iface t30 x31)) then some (.pan (.iface t30 x31)) else none)))) else some (.ret (.bool false))) else none) else some (.ret (.bool false))) else none)))))))))) (fun p20 => (tkIfc p20 none fun t21 x22 => (bif (flatP (.iface t21 x22)) then some (.pan (.iface t21 x22)) else none))))) else none))) (fun p17 => (tkIfc p17 none fun t18 x19 => (bif (flatP (.iface t18 x19)) then some (.pan (.iface t18 x19)) else none)))))))))))) (fun p7 => (tkIfc p7 none fun t8 x9 => (bif (flatP (.iface t8 x9)) then some (.pan (.iface t8 x9)) else none))))))))) (fun p5 => (tkIfc p5 none fun t6 x7 => (bif (flatP (.iface t6 x7)) then some (.pan (.iface t6 x7)) else none)))) := by kernel_rfl
theorem t3 (env : Env) (F : Nat) (c : Cav) (l : Sl Stg) (w : Sl Int) (n : Int) : (evFun Try.prog (cfg F) env 3 [(.agg (eCav c)), (sl eStg 4 l), (sl eInt 1 w), (i64 n)]) = (tkOut (env.pf 19 [(.agg (eCav c))]) none (fun v6 => (tkBool v6 none fun b7 => (bif (!b7) then (tkOut (env.pf 21 []) none (fun v8 => (tkBool v8 none fun b9 => some (.ret (.bool b9)))) (fun p8 => (tkIfc p8 none fun t9 x10 => (bif (flatP (.iface t9 x10)) then some (.pan (.iface t9 x10)) else none)))) else (bif (decide ((((Sl.len l) : Nat) : Int) > (20 : Int))) then (tkOut (env.pf 21 []) none (fun v8 => (tkBool v8 none fun b9 => some (.ret (.bool b9)))) (fun p8 => (tkIfc p8 none fun t9 x10 => (bif (flatP (.iface t9 x10)) then some (.pan (.iface t9 x10)) else none)))) else (bif (decide ((((Sl.len w) : Nat) : Int) > (20 : Int))) then (tkOut (env.pf 21 []) none (fun v8 => (tkBool v8 none fun b9 => some (.ret (.bool b9)))) (fun p8 => (tkIfc p8 none fun t9 x10 => (bif (flatP (.iface t9 x10)) then some (.pan (.iface t9 x10)) else none)))) else (tkOut (env.pf 20 [(.agg (eCav c)), (sl eStg 4 l), (i64 (5 : Int)), (i64 (60 : Int)), (i64 (4 : Int))]) none (fun v8 => (tkBool v8 none fun b9 => (bif (!b9) then (tkOut (env.pf 21 []) none (fun v10 => (tkBool v10 none fun b11 => some (.ret (.bool b11)))) (fun p10 => (tkIfc p10 none fun t11 x12 => (bif (flatP (.iface t11 x12)) then some (.pan (.iface t11 x12)) else none)))) else (tkOut (env.pf 22 [(.agg (eCav c)), (sl eStg 4 l), (sl eInt 1 w), (i64 n)]) none (fun v10 => (tkTup v10 none fun l11 => (tkCons l11 none fun v12 r13 => (tkAgg v12 none fun l14 => (tkCons l14 none fun v15 r16 => (tkInt v15 none fun q17 n18 => (tkCons r16 none fun v19 r20 => (tkInt v19 none fun q21 n22 => (tkNil r20 none ((tkCons r13 none fun v23 r24 => (tkInt v23 none fun q25 n26 => (tkNil r24 none ((tkOut (env.pf 24 [(.agg (eCav c)), (sl eInt 1 w), (i64 n)]) none (fun v27 => (tkBool v27 none fun b28 => (tkOut (env.pf 23 [(.agg (eCav c)), (sl eStg 4 l), (.bool b28)]) none (fun v29 => (tkInt v29 none fun q30 n31 => (bif (decide (q30 = .i64)) then (bif (n31 != (0 : Int)) then (bif (decide (q25 = q30)) then (bif (n26 == n31) then (bif (decide (q17 = .i64)) then (bif (decide (q21 = .i64)) then (bif ((n18 == (0 : Int)) && ((n22 == (0 : Int)) && true)) then (tkOut (env.pf 21 []) none (fun v32 => (tkBool v32 none fun b33 => some (.ret (.bool b33)))) (fun p32 => (tkIfc p32 none fun t33 x34 => (bif (flatP (.iface t33 x34)) then some (.pan (.iface t33 x34)) else none)))) else some (.ret (.bool false))) else none) else none) else some (.ret (.bool false))) else none) else (bif (decide (q25 = .i64)) then (bif (n26 == (0 : Int)) then (tkOut (env.pf 25 [(.agg (eCav c)), (sl eStg 4 l), (sl eInt 1 w), (i64 n)]) none (fun v32 => (tkAgg v32 none fun l33 => (tkCons l33 none fun v34 r35 => (tkInt v34 none fun q36 n37 => (tkCons r35 none fun v38 r39 => (tkInt v38 none fun q40 n41 => (tkNil r39 none ((bif (decide (q17 = q36)) then (bif (decide (q21 = q40)) then (bif ((n18 == n37) && ((n22 == n41) && true)) then (tkOut (env.pf 21 []) none (fun v42 => (tkBool v42 none fun b43 => some (.ret (.bool b43)))) (fun p42 => (tkIfc p42 none fun t43 x44 => (bif (flatP (.iface t43 x44)) then some (.pan (.iface t43 x44)) else none)))) else some (.ret (.bool false))) else none) else none))))))))) (fun p32 => (tkIfc p32 none fun t33 x34 => (bif (flatP (.iface t33 x34)) then some (.pan (.iface t33 x34)) else none)))) else some (.ret (.bool false))) else none)) else none))) (fun p29 => (tkIfc p29 none fun t30 x31 => (bif (flatP (.iface t30 x31)) then some (.pan (.iface t30 x31)) else none)))))) (fun p27 => (tkIfc p27 none fun t28 x29 => (bif (flatP (.iface t28 x29)) then some (.pan (.iface t28 x29)) else none)))))))))))))))))) (fun p10 => (tkIfc p10 none fun t11 x12 => (bif (flatP (.iface t11 x12)) then some (.pan (.iface t11 x12)) else none))))))) (fun p8 => (tkIfc p8 none fun t9 x10 => (bif (flatP (.iface t9 x10)) then some (.pan (.iface t9 x10)) else none))))))))) (fun p6 => (tkIfc p6 none fun t7 x8 => (bif (flatP (.iface t7 x8)) then some (.pan (.iface t7 x8)) else none)))) := by kernel_rfl
theorem t5 (env : Env) (F : Nat) (c : Cav) (l : Sl Stg) : (evFun Try.prog (cfg F) env 5 [(.agg (eCav c)), (sl eStg 4 l)]) = (tkOut (env.pf 19 [(.agg (eCav c))]) none (fun v4 => (tkBool v4 none fun b5 => (bif (!b5) then (tkOut (env.pf 21 []) none (fun v6 => (tkBool v6 none fun b7 => some (.ret (.bool b7)))) (fun p6 => (tkIfc p6 none fun t7 x8 => (bif (flatP (.iface t7 x8)) then some (.pan (.iface t7 x8)) else none)))) else (bif (decide ((((Sl.len l) : Nat) : Int) > (20 : Int))) then (tkOut (env.pf 21 []) none (fun v6 => (tkBool v6 none fun b7 => some (.ret (.bool b7)))) (fun p6 => (tkIfc p6 none fun t7 x8 => (bif (flatP (.iface t7 x8)) then some (.pan (.iface t7 x8)) else none)))) else (tkOut (env.pf 20 [(.agg (eCav c)), (sl eStg 4 l), (i64 (5 : Int)), (i64 (60 : Int)), (i64 (4 : Int))]) none (fun v6 => (tkBool v6 none fun b7 => (bif (!b7) then (tkOut (env.pf 21 []) none (fun v8 => (tkBool v8 none fun b9 => some (.ret (.bool b9)))) (fun p8 => (tkIfc p8 none fun t9 x10 => (bif (flatP (.iface t9 x10)) then some (.pan (.iface t9 x10)) else none)))) else (tkOut (env.pf 30 [(.agg (eCav c)), (sl eStg 4 l)]) none (fun v8 => (tkTup v8 none fun l9 => (tkCons l9 none fun v10 r11 => (tkInt v10 none fun q12 n13 => (tkCons r11 none fun v14 r15 => (tkInt v14 none fun q16 n17 => (tkCons r15 none fun v18 r19 => (tkInt v18 none fun q20 n21 => (tkCons r19 none fun v22 r23 => (tkInt v22 none fun q24 n25 => (tkNil r23 none ((tkOut (env.pf 23 [(.agg (eCav c)), (sl eStg 4 l), (.bool true)]) none (fun v26 => (tkInt v26 none fun q27 n28 => (bif (decide (q27 = .i64)) then (bif (n28 != (0 : Int)) then (bif (decide (q24 = q27)) then (bif (n25 == n28) then (bif (decide (q12 = .i64)) then (bif (n13 == (0 : Int)) then (bif (decide (q16 = .i64)) then (bif (n17 == (0 : Int)) then (bif (decide (q20 = .i64)) then (bif (n21 == (0 : Int)) then (tkOut (env.pf 21 []) none (fun v29 => (tkBool v29 none fun b30 => some (.ret (.bool b30)))) (fun p29 => (tkIfc p29 none fun t30 x31 => (bif (flatP (.iface t30 x31)) then some (.pan (.iface t30 x31)) else none)))) else some (.ret (.bool false))) else none) else some (.ret (.bool false))) else none) else some (.ret (.bool false))) else none) else some (.ret (.bool false))) else none) else (tkOut (env.pf 31 [(.agg (eCav c)), (sl eStg 4 l)]) none (fun v29 => (tkTup v29 none fun l30 => (tkCons l30 none fun v31 r32 => (tkInt v31 none fun q33 n34 => (tkCons r32 none fun v35 r36 => (tkInt v35 none fun q37 n38 => (tkCons r36 none fun v39 r40 => (tkInt v39 none fun q41 n42 => (tkNil r40 none ((bif (decide (q24 = .i64)) then (bif (n25 == (0 : Int)) then (bif (decide (q12 = q33)) then (bif (n13 == n34) then (bif (decide (q16 = q37)) then (bif (n17 == n38) then (bif (decide (q20 = q41)) then (bif (n21 == n42) then (tkOut (env.pf 21 []) none (fun v43 => (tkBool v43 none fun b44 => some (.ret (.bool b44)))) (fun p43 => (tkIfc p43 none fun t44 x45 => (bif (flatP (.iface t44 x45)) then some (.pan (.iface t44 x45)) else none)))) else some (.ret (.bool false))) else none) else some (.ret (.bool false))) else none) else some (.ret (.bool false))) else none) else some (.ret (.bool false))) else none))))))))))) (fun p29 => (tkIfc p29 none fun t30 x31 => (bif (flatP (.iface t30 x31)) then some (.pan (.iface t30 x31)) else none))))) else none))) (fun p26 => (tkIfc p26 none fun t27 x28 => (bif (flatP (.iface t27 x28)) then some (.pan (.iface t27 x28)) else none)))))))))))))))) (fun p8 => (tkIfc p8 none fun t9 x10 => (bif (flatP (.iface t9 x10)) then some (.pan (.iface t9 x10)) else none))))))) (fun p6 => (tkIfc p6 none fun t7 x8 => (bif (flatP (.iface t7 x8)) then some (.pan (.iface t7 x8)) else none)))))))) (fun p4 => (tkIfc p4 none fun t5 x6 => (bif (flatP (.iface t5 x6)) then some (.pan (.iface t5 x6)) else none)))) := by kernel_rfl
noncomputable def L12x0 (env : Env) (F : Nat) (c : Cav) (l : Sl Stg) (t : Truth) (fu : Nat) (i0 : Int) : Option Out := atLoop Try.prog (cfg F) env 12 [.r, .r, .l, .r, .d] [] fu { tm := tmL 145 0 [(1, (sl eStg 4 l)), (3, (.optr 0 0 0)), (5, (.optr 1 0 0)), (7, (i64 i0))], hp := [(.box 24 (eCav c) true), (.box 82 (eTruth t) true)] }
theorem t12 (env : Env) (F : Nat) (c : Cav) (l : Sl Stg) (t : Truth) : (evFun Try.prog (cfg F) env 12 [(.agg (eCav c)), (sl eStg 4 l), (.agg (eTruth t))]) = (tkOut (env.pf 19 [(.agg (eCav c))]) none (fun v5 => (tkBool v5 none fun b6 => (bif (!b6) then (tkOut (env.pf 21 []) none (fun v7 => (tkBool v7 none fun b8 => some (.ret (.bool b8)))) (fun p7 => (tkIfc p7 none fun t8 x9 => (bif (flatP (.iface t8 x9)) then some (.pan (.iface t8 x9)) else none)))) else (bif (decide ((((Sl.len l) : Nat) : Int) > (20 : Int))) then (tkOut (env.pf 21 []) none (fun v7 => (tkBool v7 none fun b8 => some (.ret (.bool b8)))) (fun p7 => (tkIfc p7 none fun t8 x9 => (bif (flatP (.iface t8 x9)) then some (.pan (.iface t8 x9)) else none)))) else (bif (decide ((((Sl.len (Truth.vols t)) : Nat) : Int) > (20 : Int))) then (tkOut (env.pf 21 []) none (fun v7 => (tkBool v7 none fun b8 => some (.ret (.bool b8)))) (fun p7 => (tkIfc p7 none fun t8 x9 => (bif (flatP (.iface t8 x9)) then some (.pan (.iface t8 x9)) else none)))) else (bif (decide ((((Sl.len (Truth.rates t)) : Nat) : Int) > (20 : Int))) then (tkOut (env.pf 21 []) none (fun v7 => (tkBool v7 none fun b8 => some (.ret (.bool b8)))) (fun p7 => (tkIfc p7 none fun t8 x9 => (bif (flatP (.iface t8 x9)) then some (.pan (.iface t8 x9)) else none)))) else (L12x0 env F c l t F (0 : Int)))))))) (fun p5 => (tkIfc p5 none fun t6 x7 => (bif (flatP (.iface t6 x7)) then some (.pan (.iface t6 x7)) else none)))) := by kernel_rfl
theorem L12x0s (env : Env) (F : Nat) (c : Cav) (l : Sl Stg) (t : Truth) (fu : Nat) (i0 : Int) : L12x0 env F c l t (fu + 1) i0 = (bif (decide (i0 < (((Sl.len (Truth.rates t)) : Nat) : Int))) then (bif (decide ((0 : Int) ≤ i0)) then (bif (decide (i0 < (((Sl.len (Truth.rates t)) : Nat) : Int))) then (bif (decide ((((Sl.len (Sl.el (Truth.rates t) (Int.toNat i0))) : Nat) : Int) > (20 : Int))) then (tkOut (env.pf 21 []) none (fun v7 => (tkBool v7 none fun b8 => some (.ret (.bool b8)))) (fun p7 => (tkIfc p7 none fun t8 x9 => (bif (flatP (.iface t8 x9)) then some (.pan (.iface t8 x9)) else none)))) else (L12x0 env F c l t fu (IntKind.wrap .i64 (i0 + (1 : Int))))) else none) else none) else (tkOut (env.pf 44 [(.agg (eCav c)), (sl eStg 4 l), (.agg (eTruth t))]) none (fun v7 => (tkTup v7 none fun l8 => (tkCons l8 none fun v9 r10 => (tkAgg v9 none fun l11 => (tkCons l11 none fun v12 r13 => (tkRow v12 none fun nl14 n15 wd16 g17 => (tkCons r13 none fun v18 r19 => (tkInt v18 none fun q20 n21 => (tkCons r19 none fun v22 r23 => (tkInt v22 none fun q24 n25 => (tkCons r23 none fun v26 r27 => (tkInt v26 none fun q28 n29 => (tkCons r27 none fun v30 r31 => (tkInt v30 none fun q32 n33 => (tkNil r31 none ((tkCons r10 none fun v34 r35 => (tkInt v34 none fun q36 n37 => (tkNil r35 none ((tkOut (env.pf 23 [(.agg (eCav c)), (sl eStg 4 l), (.bool true)]) none (fun v38 => (tkInt v38 none fun q39 n40 => (bif (decide (q39 = .i64)) then (bif (n40 == (0 : Int)) then (tkOut (env.pf 47 [(.agg (eCav c)), (sl eStg 4 l), (.agg (eTruth t))]) none (fun v41 => (tkBool v41 none fun b42 => (bif (!b42) then (bif (decide (q36 = .i64)) then (bif (n37 == (2 : Int)) then (bif (((n15 : Nat) : Int) == (0 : Int)) then (bif (decide (q20 = .i64)) then (bif (n21 == (0 : Int)) then (bif (decide (q24 = .i64)) then (bif (n25 == (0 : Int)) then (bif (decide (q28 = .i64)) then (bif (n29 == (0 : Int)) then (bif (decide (q32 = .i64)) then (bif (n33 == (0 : Int)) then (tkOut (env.pf 21 []) none (fun v43 => (tkBool v43 none fun b44 => some (.ret (.bool b44)))) (fun p43 => (tkIfc p43 none fun t44 x45 => (bif (flatP (.iface t44 x45)) then some (.pan (.iface t44 x45)) else none)))) else some (.ret (.bool false))) else none) else some (.ret (.bool false))) else none) else some (.ret (.bool false))) else none) else some (.ret (.bool false))) else none) else some (.ret (.bool false))) else some (.ret (.bool false))) else none) else (bif (decide (q39 = .i64)) then (bif (n40 != (0 : Int)) then (bif (decide (q36 = q39)) then (bif (n37 == n40) then (bif (((n15 : Nat) : Int) == (0 : Int)) then (bif (decide (q20 = .i64)) then (bif (n21 == (0 : Int)) then (bif (decide (q24 = .i64)) then (bif (n25 == (0 : Int)) then (bif (decide (q28 = .i64)) then (bif (n29 == (0 : Int)) then (bif (decide (q32 = .i64)) then (bif (n33 == (0 : Int)) then (tkOut (env.pf 21 []) none (fun v43 => (tkBool v43 none fun b44 => some (.ret (.bool b44)))) (fun p43 => (tkIfc p43 none fun t44 x45 => (bif (flatP (.iface t44 x45)) then some (.pan (.iface t44 x45)) else none)))) else some (.ret (.bool false))) else none) else some (.ret (.bool false))) else none) else some (.ret (.bool false))) else none) else some (.ret (.bool false))) else none) else some (.ret (.bool false))) else some (.ret (.bool false))) else none) else (tkOut (env.pf 48 [(.agg (eCav c)), (sl eStg 4 l), (.agg (eTruth t))]) none (fun v43 => (tkAgg v43 none fun l44 => (tkCons l44 none fun v45 r46 => (tkRow v45 none fun nl47 n48 wd49 g50 => (tkCons r46 none fun v51 r52 => (tkInt v51 none fun q53 n54 => (tkCons r52 none fun v55 r56 => (tkInt v55 none fun q57 n58 => (tkCons r56 none fun v59 r60 => (tkInt v59 none fun q61 n62 => (tkCons r60 none fun v63 r64 => (tkInt v63 none fun q65 n66 => (tkNil r64 none ((bif (decide (q36 = .i64)) then (bif (n37 == (0 : Int)) then (tkOut (env.pf 35 [(.row nl14 n15 wd16 g17), (.row nl47 n48 wd49 g50)]) none (fun v67 => (tkBool v67 none fun b68 => (bif b68 then (bif (decide (q20 = q53)) then (bif (n21 == n54) then (bif (decide (q24 = q57)) then (bif (n25 == n58) then (bif (decide (q28 = q61)) then (bif (n29 == n62) then (bif (decide (q32 = q65)) then (bif (n33 == n66) then (tkOut (env.pf 21 []) none (fun v69 => (tkBool v69 none fun b70 => some (.ret (.bool b70)))) (fun p69 => (tkIfc p69 none fun t70 x71 => (bif (flatP (.iface t70 x71)) then some (.pan (.iface t70 x71)) else none)))) else some (.ret (.bool false))) else none) else some (.ret (.bool false))) else none) else some (.ret (.bool false))) else none) else some (.ret (.bool false))) else none) else some (.ret (.bool false))))) (fun p67 => (tkIfc p67 none fun t68 x69 => (bif (flatP (.iface t68 x69)) then some (.pan (.iface t68 x69)) else none)))) else some (.ret (.bool false))) else none))))))))))))))) (fun p43 => (tkIfc p43 none fun t44 x45 => (bif (flatP (.iface t44 x45)) then some (.pan (.iface t44 x45)) else none))))) else none)))) (fun p41 => (tkIfc p41 none fun t42 x43 => (bif (flatP (.iface t42 x43)) then some (.pan (.iface t42 x43)) else none)))) else (bif (decide (q39 = .i64)) then (bif (n40 != (0 : Int)) then (bif (decide (q36 = q39)) then (bif (n37 == n40) then (bif (((n15 : Nat) : Int) == (0 : Int)) then (bif (decide (q20 = .i64)) then (bif (n21 == (0 : Int)) then (bif (decide (q24 = .i64)) then (bif (n25 == (0 : Int)) then (bif (decide (q28 = .i64)) then (bif (n29 == (0 : Int)) then (bif (decide (q32 = .i64)) then (bif (n33 == (0 : Int)) then (tkOut (env.pf 21 []) none (fun v41 => (tkBool v41 none fun b42 => some (.ret (.bool b42)))) (fun p41 => (tkIfc p41 none fun t42 x43 => (bif (flatP (.iface t42 x43)) then some (.pan (.iface t42 x43)) else none)))) else some (.ret (.bool false))) else none) else some (.ret (.bool false))) else none) else some (.ret (.bool false))) else none) else some (.ret (.bool false))) else none) else some (.ret (.bool false))) else some (.ret (.bool false))) else none) else (tkOut (env.pf 48 [(.agg (eCav c)), (sl eStg 4 l), (.agg (eTruth t))]) none (fun v41 => (tkAgg v41 none fun l42 => (tkCons l42 none fun v43 r44 => (tkRow v43 none fun nl45 n46 wd47 g48 => (tkCons r44 none fun v49 r50 => (tkInt v49 none fun q51 n52 => (tkCons r50 none fun v53 r54 => (tkInt v53 none fun q55 n56 => (tkCons r54 none fun v57 r58 => (tkInt v57 none fun q59 n60 => (tkCons r58 none fun v61 r62 => (tkInt v61 none fun q63 n64 => (tkNil r62 none ((bif (decide (q36 = .i64)) then (bif (n37 == (0 : Int)) then (tkOut (env.pf 35 [(.row nl14 n15 wd16 g17), (.row nl45 n46 wd47 g48)]) none (fun v65 => (tkBool v65 none fun b66 => (bif b66 then (bif (decide (q20 = q51)) then (bif (n21 == n52) then (bif (decide (q24 = q55)) then (bif (n25 == n56) then (bif (decide (q28 = q59)) then (bif (n29 == n60) then (bif (decide (q32 = q63)) then (bif (n33 == n64) then (tkOut (env.pf 21 []) none (fun v67 => (tkBool v67 none fun b68 => some (.ret (.bool b68)))) (fun p67 => (tkIfc p67 none fun t68 x69 => (bif (flatP (.iface t68 x69)) then some (.pan (.iface t68 x69)) else none)))) else some (.ret (.bool false))) else none) else some (.ret (.bool false))) else none) else some (.ret (.bool false))) else none) else some (.ret (.bool false))) else none) else some (.ret (.bool false))))) (fun p65 => (tkIfc p65 none fun t66 x67 => (bif (flatP (.iface t66 x67)) then some (.pan (.iface t66 x67)) else none)))) else some (.ret (.bool false))) else none))))))))))))))) (fun p41 => (tkIfc p41 none fun t42 x43 => (bif (flatP (.iface t42 x43)) then some (.pan (.iface t42 x43)) else none))))) else none)) else none))) (fun p38 => (tkIfc p38 none fun t39 x40 => (bif (flatP (.iface t39 x40)) then some (.pan (.iface t39 x40)) else none)))))))))))))))))))))))) (fun p7 => (tkIfc p7 none fun t8 x9 => (bif (flatP (.iface t8 x9)) then some (.pan (.iface t8 x9)) else none))))) := by kernel_rfl
end Go.Sim.Le

/-
  Leaching: what comes in, as this program's plain data.
-/
namespace Go.Sim.Le
open Go.Proofs
theorem fitInt {k : IntKind} {c : V} (h : Fit (.int k) c) : ∃ n, c = .int k n ∧ k.min ≤ n ∧ n ≤ k.max := by
  cases h with
  | int h => exact ⟨_, rfl, h⟩
theorem fitL_nil {cs : List V} (h : FitL [] cs) : cs = [] := by
  have := h.1
  exact List.eq_nil_of_length_eq_zero this
theorem fitL_cons {s : Sh} {l : List Sh} {cs : List V} (h : FitL (s :: l) cs) : ∃ c cs', cs = c :: cs' ∧ Fit s c ∧ FitL l cs' := by
  obtain ⟨h1, h2⟩ := h
  cases cs with
  | nil => simp at h1
  | cons c cs' => exact ⟨c, cs', rfl, h2 0 s c rfl rfl, by simpa using h1, fun j s' c' g1 g2 => h2 (j + 1) s' c' (by simpa using g1) (by simpa using g2)⟩
theorem fitL_int {k : IntKind} {l : List Sh} {cs : List V} (h : FitL (.int k :: l) cs) : ∃ n cs', cs = .int k n :: cs' ∧ FitL l cs' := by
  obtain ⟨c, cs', rfl, h1, h2⟩ := fitL_cons h
  obtain ⟨n, rfl, _⟩ := fitInt h1
  exact ⟨n, cs', rfl, h2⟩
abbrev SlOk {α : Type} (s : Sl α) : Prop := s.len ≤ 140737488355328 ∧ (s.nl = true → s.len = 0)
theorem fitRow {α : Type} {e : α → List V} {P : α → Prop} {l : List Sh} (dec : ∀ cs, FitL l cs → ∃ a : α, cs = e a ∧ P a) {c : V} (h : Fit (.row l) c) : ∃ s : Sl α, c = sl e l.length s ∧ SlOk s ∧ ∀ i, P (s.el i) := by
  cases h with
  | row h hn hl hf =>
    rename_i nl len get
    have hx : ∀ i, ∃ a : α, get i = e a ∧ P a := fun i => dec _ ⟨hl i, hf i⟩
    refine ⟨⟨nl, len, fun i => (hx i).choose⟩, ?_, ⟨h, hn⟩, fun i => (hx i).choose_spec.2⟩
    show V.row nl len l.length get = V.row nl len l.length fun i => e (hx i).choose
    congr 1
    funext i
    exact (hx i).choose_spec.1
theorem fitL_row {α : Type} {e : α → List V} {P : α → Prop} {l r : List Sh} (dec : ∀ cs, FitL l cs → ∃ a : α, cs = e a ∧ P a) {cs : List V} (h : FitL (.row l :: r) cs) : ∃ (s : Sl α) (cs' : List V), cs = sl e l.length s :: cs' ∧ SlOk s ∧ (∀ i, P (s.el i)) ∧ FitL r cs' := by
  obtain ⟨c, cs', rfl, h1, h2⟩ := fitL_cons h
  obtain ⟨s, rfl, h3, h4⟩ := fitRow dec h1
  exact ⟨s, cs', rfl, h3, h4, h2⟩
abbrev i8 : Sh := .int .i64
abbrev shSlc : List Sh := [i8, i8, i8, i8, i8, i8, i8]
abbrev shCav : List Sh := [.row shSlc, i8, i8]
abbrev shStg : List Sh := [i8, i8, i8, i8]
abbrev shTruth : List Sh := [.row [i8], .row [.row [i8]]]
theorem decInt (cs : List V) (h : FitL [i8] cs) : ∃ n : Int, cs = eInt n ∧ I64 n := by
  obtain ⟨c, cs', rfl, h1, h2⟩ := fitL_cons h
  obtain ⟨n, rfl, m1, m2⟩ := fitInt h1
  obtain rfl := fitL_nil h2
  refine ⟨n, rfl, ?_⟩
  exact ⟨m1, m2⟩
theorem decIL (cs : List V) (h : FitL [.row [i8]] cs) : ∃ s : Sl Int, cs = eIL s ∧ SlOk s := by
  obtain ⟨s, _, rfl, h1, _, h2⟩ := fitL_row decInt h
  obtain rfl := fitL_nil h2
  exact ⟨s, rfl, h1⟩
theorem decSlc (cs : List V) (h : FitL shSlc cs) : ∃ c : Slc, cs = eSlc c ∧ True := by
  obtain ⟨a0, _, rfl, h1⟩ := fitL_int h
  obtain ⟨a1, _, rfl, h2⟩ := fitL_int h1
  obtain ⟨a2, _, rfl, h3⟩ := fitL_int h2
  obtain ⟨a3, _, rfl, h4⟩ := fitL_int h3
  obtain ⟨a4, _, rfl, h5⟩ := fitL_int h4
  obtain ⟨a5, _, rfl, h6⟩ := fitL_int h5
  obtain ⟨a6, _, rfl, h7⟩ := fitL_int h6
  obtain rfl := fitL_nil h7
  exact ⟨⟨⟨a0, a1⟩, a2, a3, ⟨a4, a5⟩, a6⟩, rfl, trivial⟩
theorem decStg (cs : List V) (h : FitL shStg cs) : ∃ c : Stg, cs = eStg c ∧ True := by
  obtain ⟨a0, _, rfl, h1⟩ := fitL_int h
  obtain ⟨a1, _, rfl, h2⟩ := fitL_int h1
  obtain ⟨a2, _, rfl, h3⟩ := fitL_int h2
  obtain ⟨a3, _, rfl, h4⟩ := fitL_int h3
  obtain rfl := fitL_nil h4
  exact ⟨⟨a0, a1, a2, a3⟩, rfl, trivial⟩
theorem decCav (cs : List V) (h : FitL shCav cs) : ∃ c : Cav, cs = eCav c ∧ SlOk c.slices := by
  obtain ⟨a, _, rfl, h0, _, h1⟩ := fitL_row decSlc h
  obtain ⟨b, _, rfl, h2⟩ := fitL_int h1
  obtain ⟨d, _, rfl, h3⟩ := fitL_int h2
  obtain rfl := fitL_nil h3
  exact ⟨⟨a, b, d⟩, rfl, h0⟩
theorem decTruth (cs : List V) (h : FitL shTruth cs) : ∃ t : Truth, cs = eTruth t ∧ SlOk t.vols ∧ SlOk t.rates ∧ ∀ i, SlOk (t.rates.el i) := by
  obtain ⟨a, _, rfl, h0, _, h1⟩ := fitL_row decInt h
  obtain ⟨b, _, rfl, h2, h3, h4⟩ := fitL_row decIL h1
  obtain rfl := fitL_nil h4
  exact ⟨⟨a, b⟩, rfl, h0, h2, h3⟩
theorem own : ownKnob Try.prog.godebug = none := by kernel_rfl
end Go.Sim.Le

/-
  LeachChecks, LeachGrades, LeachLeast: true for all that comes in.
-/
namespace Go.Sim.Le
open Go.Proofs
variable (F d : Nat)
theorem s19 (c : Cav) : (E F (d + 1)).pf 19 [.agg (eCav c)] = some (.ret (.bool (decide (c.slices.len ≤ 20)))) := by
  rw [E_pf, t19]
  refine b3 (b2 ?_)
  simp only [decide_eq_true_iff]
  omega
theorem z0' {α : Type} (a b : α) : (bif ((0 : Int) != 0) then a else b) = b := rfl
/-- LeachChecks. -/
theorem s8 (c : Cav) (s : Stg) (hB : c.slices.len < Big) (hCF : c.slices.len < F) (hF : 1000000000 < F) : (E F (d + 20)).pf 8 [.agg (eCav c), .agg (eStg s)] = some (.ret (.bool true)) := by
  have q19 : (E F (d + 19)).pf 19 [.agg (eCav c)] = _ := s19 F (d + 18) c
  have q21 : (E F (d + 19)).pf 21 [] = _ := s21 F d hF
  have q38 : (E F (d + 19)).pf 38 [.agg (eCav c)] = _ := s38 F (d + 13) c hB hCF
  have q39 : (E F (d + 19)).pf 39 [.agg (eCav c), .agg (eStg s)] = _ := s39 F (d + 13) c s hB hCF (by omega)
  have q27 : (E F (d + 19)).pf 27 [.agg (eCav c)] = _ := s27 F (d + 17) c hB hCF
  have q28 : (E F (d + 19)).pf 28 [.agg (eCav c), .agg (eStg s)] = _ := s28 F (d + 17) c s hB
  rw [E_pf, t8]
  by_cases h0 : c.slices.len ≤ 20
  · rw [decide_eq_true h0] at q19
    by_cases h1 : CavOk c
    · rw [decide_eq_true h1] at q27 q38
      by_cases h2 : StgOk c.slices.len s
      · rw [decide_eq_true h2] at q28
        rw [if_pos ⟨h1, h2⟩] at q39
        have q41 : (E F (d + 19)).pf 41 [.agg (eCav c), .agg (eStg s)] = _ := s41 F (d + 17) c h1 s h2 (by omega)
        have q40 := s40 F (d + 18) (rateSl c s) (rateSl c s) hB hCF
        rw [decide_eq_true (show SameP (rateSl c s) (rateSl c s) from ⟨rfl, fun _ _ => rfl⟩)] at q40
        simp only [q19, q27, q28, q38, q39, q41, tkOut_ret, tkBool_b, tkTup_t, tkCons_c, tkInt_i, tkRow_r, tkNil_n, Bool.not_true, pF, cond_true, decide_true, pT, z0', beq_self_eq_true]
        simp only [sl] at q40
        simp only [q40, q21, tkOut_ret, tkBool_b, pT]
      · rw [decide_eq_false h2] at q28
        rw [if_neg (fun h => h2 h.2)] at q39
        simp only [q19, q27, q28, q38, q39, q21, tkOut_ret, tkBool_b, tkTup_t, tkCons_c, tkInt_i, tkRow_r, tkNil_n, Bool.not_true, Bool.not_false, pF, cond_true, decide_true, pT, z0', beq_self_eq_true, Int.natCast_zero]
    · rw [decide_eq_false h1] at q27 q38
      rw [if_neg (fun h => h1 h.1)] at q39
      simp only [q19, q27, q38, q39, q21, tkOut_ret, tkBool_b, tkTup_t, tkCons_c, tkInt_i, tkRow_r, tkNil_n, Bool.not_true, Bool.not_false, pF, cond_false, decide_true, pT, beq_self_eq_true, Int.natCast_zero]
  · rw [decide_eq_false h0] at q19
    simp only [q19, q21, tkOut_ret, tkBool_b, Bool.not_false, pT]
/-- LeachGrades. -/
theorem s4 (c : Cav) (s : Stg) (hB : c.slices.len < Big) (hCF : c.slices.len < F) (hF : 1000000000 < F) : (E F (d + 102)).pf 4 [.agg (eCav c), .agg (eStg s)] = some (.ret (.bool true)) := by
  have q19 : (E F (d + 101)).pf 19 [.agg (eCav c)] = _ := s19 F (d + 100) c
  have q21 : (E F (d + 101)).pf 21 [] = _ := s21 F (d + 82) hF
  have q26 : (E F (d + 101)).pf 26 [.agg (eCav c), .agg (eStg s)] = _ := s26 F (d + 95) c s hB hCF hF
  have q27 : (E F (d + 101)).pf 27 [.agg (eCav c)] = _ := s27 F (d + 99) c hB hCF
  have q28 : (E F (d + 101)).pf 28 [.agg (eCav c), .agg (eStg s)] = _ := s28 F (d + 99) c s hB
  rw [E_pf, t4]
  by_cases h0 : c.slices.len ≤ 20
  · rw [decide_eq_true h0] at q19
    by_cases h1 : CavOk c
    · rw [decide_eq_true h1] at q27
      by_cases h2 : StgOk c.slices.len s
      · rw [decide_eq_true h2] at q28
        rw [if_pos ⟨h1, h2⟩] at q26
        have q29 : (E F (d + 101)).pf 29 [.agg (eCav c), .agg (eStg s)] = _ := s29 F d h1 h2 (by omega)
        simp only [q19, q26, q27, q28, q29, q21, tkOut_ret, tkBool_b, tkTup_t, tkAgg_a, tkCons_c, tkInt_i, tkNil_n, Bool.not_true, pF, decide_true, pT, beq_self_eq_true, Bool.and_self]
      · rw [decide_eq_false h2] at q28
        rw [if_neg (fun h => h2 h.2)] at q26
        simp only [q19, q26, q27, q28, q21, tkOut_ret, tkBool_b, tkTup_t, tkAgg_a, tkCons_c, tkInt_i, tkNil_n, Bool.not_true, Bool.not_false, pF, decide_true, pT, beq_self_eq_true, Bool.and_self]
    · rw [decide_eq_false h1] at q27
      rw [if_neg (fun h => h1 h.1)] at q26
      simp only [q19, q26, q27, q21, tkOut_ret, tkBool_b, tkTup_t, tkAgg_a, tkCons_c, tkInt_i, tkNil_n, Bool.not_true, Bool.not_false, pF, decide_true, pT, beq_self_eq_true, Bool.and_self]
  · rw [decide_eq_false h0] at q19
    simp only [q19, q21, tkOut_ret, tkBool_b, Bool.not_false, pT]
theorem lenB {n : Nat} (h : n ≤ 140737488355328) : n < Big := by show n < 4611686018427387904; omega
/-- LeachLeast. -/
theorem s7 (c : Cav) (l : Sl Stg) (w : Sl Int) (hC : c.slices.len < Big) (hCF : c.slices.len < F) (hB : l.len < Big) (hLF : l.len < F) (hW : w.len < Big) (hWF : w.len < F) (hF : 1000000000 < F) : (E F (d + 20)).pf 7 [.agg (eCav c), sl eStg 4 l, sl eInt 1 w] = some (.ret (.bool true)) := by
  have q19 : (E F (d + 19)).pf 19 [.agg (eCav c)] = _ := s19 F (d + 18) c
  have q21 : (E F (d + 19)).pf 21 [] = _ := s21 F d hF
  have q36 : (E F (d + 19)).pf 36 [.agg (eCav c), sl eStg 4 l, sl eInt 1 w] = _ := s36 F (d + 11) c l w hC hCF hB hLF hW hWF (by omega)
  have q32 : (E F (d + 19)).pf 32 [.agg (eCav c), sl eStg 4 l, sl eInt 1 w] = _ := s32 F (d + 15) c l w hC hCF hB hLF hW hWF
  rw [E_pf, t7]
  by_cases h0 : c.slices.len ≤ 20
  · rw [decide_eq_true h0] at q19
    by_cases h1 : (l.len : Int) > 20
    · simp only [q19, q21, tkOut_ret, tkBool_b, Bool.not_true, pF, decide_eq_true h1, pT]
    by_cases h2 : (w.len : Int) > 20
    · simp only [q19, q21, tkOut_ret, tkBool_b, Bool.not_true, pF, decide_eq_false h1, decide_eq_true h2, pT]
    by_cases h3 : errM c l w = 0
    · obtain ⟨h6, hc, h1', hl, hw⟩ := errM_0.1 h3
      have q37 : (E F (d + 19)).pf 37 [.agg (eCav c), sl eStg 4 l, sl eInt 1 w] = _ := s37 F (d + 16) hc hl (by omega) hw (by omega)
      rw [if_pos h3] at q36
      rw [h3] at q32
      cases hx : leastX c l w with
      | none =>
        rw [hx] at q36 q37
        simp only [q19, q21, q36, q32, q37, tkOut_ret, tkBool_b, tkTup_t, tkCons_c, tkInt_i, tkNil_n, Bool.not_true, Bool.not_false, pF, decide_eq_false h1, decide_eq_false h2, decide_true, pT, z0', beq_self_eq_true]
      | some n =>
        rw [hx] at q36 q37
        simp only [q19, q21, q36, q32, q37, tkOut_ret, tkBool_b, tkTup_t, tkCons_c, tkInt_i, tkNil_n, Bool.not_true, Bool.not_false, pF, decide_eq_false h1, decide_eq_false h2, decide_true, pT, z0', beq_self_eq_true]
    · rw [if_neg h3] at q36
      have e1 : (errM c l w != 0) = true := by simpa using h3
      simp only [q19, q21, q36, q32, tkOut_ret, tkBool_b, tkTup_t, tkCons_c, tkInt_i, tkNil_n, Bool.not_true, pF, decide_eq_false h1, decide_eq_false h2, decide_true, pT, e1, beq_self_eq_true]
  · rw [decide_eq_false h0] at q19
    simp only [q19, q21, tkOut_ret, tkBool_b, Bool.not_false, pT]
end Go.Sim.Le

/-
  LeachBounds: true for all that comes in.
-/
namespace Go.Sim.Le
open Go.Proofs
variable (F d : Nat)
theorem s20 (c : Cav) (l : Sl Stg) (x y z : Int) (hC : c.slices.len < Big) (hCF : c.slices.len < F) (hB : l.len < Big) (hF : l.len < F) : (E F (d + 5)).pf 20 [.agg (eCav c), sl eStg 4 l, .int .i64 x, .int .i64 y, .int .i64 z] = some (.ret (.bool (decide (errP c l true ≠ 0 ∨ (c.slices.len : Int) ≤ x ∧ c.hold ≤ y ∧ (l.len : Int) ≤ z)))) := by
  rw [E_pf, t20]
  simp only [s23 F d c l true hC hCF hB hF, tkOut_ret, tkInt_i, decide_true, pT]
  by_cases h0 : errP c l true = 0
  · rw [h0, show ((0 : Int) != 0) = false from rfl, pF]
    by_cases h1 : (c.slices.len : Int) ≤ x
    · by_cases h2 : c.hold ≤ y
      · rw [decide_eq_true h1, decide_eq_true h2, pT, pT]
        exact b3 (b2 (by simp [h1, h2]))
      · rw [decide_eq_true h1, decide_eq_false h2, pT, pF]
        exact b3 (b2 (by simp [h2]))
    · rw [decide_eq_false h1, pF]
      exact b3 (b2 (by simp [h1]))
  · rw [show (errP c l true != 0) = true by simpa using h0, pT]
    exact b3 (b2 (by simp [h0]))
/-- LeachBounds. -/
theorem s3 (c : Cav) (l : Sl Stg) (w : Sl Int) (n : Int) (hC : c.slices.len < Big) (hCF : c.slices.len < F) (hB : l.len < Big) (hLF : l.len < F) (hW : w.len < Big) (hWF : w.len < F) (hF : 1000000000 < F) : (E F (d + 20)).pf 3 [.agg (eCav c), sl eStg 4 l, sl eInt 1 w, .int .i64 n] = some (.ret (.bool true)) := by
  have q19 : (E F (d + 19)).pf 19 [.agg (eCav c)] = _ := s19 F (d + 18) c
  have q21 : (E F (d + 19)).pf 21 [] = _ := s21 F d hF
  have q20 : (E F (d + 19)).pf 20 [.agg (eCav c), sl eStg 4 l, .int .i64 5, .int .i64 60, .int .i64 4] = _ := s20 F (d + 14) c l 5 60 4 hC hCF hB hLF
  have q22 : (E F (d + 19)).pf 22 [.agg (eCav c), sl eStg 4 l, sl eInt 1 w, .int .i64 n] = _ := s22 F (d + 4) c l w n hC hCF hB hLF hW hWF (by omega)
  have q24 : (E F (d + 19)).pf 24 [.agg (eCav c), sl eInt 1 w, .int .i64 n] = _ := s24 F (d + 17) c w n hC hW hWF
  have q23 : (E F (d + 19)).pf 23 [.agg (eCav c), sl eStg 4 l, .bool (decide (WtOk c w n))] = _ := s23 F (d + 15) c l (decide (WtOk c w n)) hC hCF hB hLF
  rw [E_pf, t3]
  by_cases h0 : c.slices.len ≤ 20
  · rw [decide_eq_true h0] at q19
    by_cases h1 : (l.len : Int) > 20
    · simp only [q19, q21, tkOut_ret, tkBool_b, Bool.not_true, pF, decide_eq_true h1, pT]
    by_cases h2 : (w.len : Int) > 20
    · simp only [q19, q21, tkOut_ret, tkBool_b, Bool.not_true, pF, decide_eq_false h1, decide_eq_true h2, pT]
    simp only [q19, q20, tkOut_ret, tkBool_b, Bool.not_true, pF, decide_eq_false h1, decide_eq_false h2]
    generalize decide (errP c l true ≠ 0 ∨ (c.slices.len : Int) ≤ 5 ∧ c.hold ≤ 60 ∧ (l.len : Int) ≤ 4) = e
    cases e with
    | false => simp only [q21, tkOut_ret, tkBool_b, Bool.not_false, pT]
    | true =>
      by_cases h3 : errP c l (decide (WtOk c w n)) = 0
      · obtain ⟨h8, hc, hl, hw⟩ := errP_0.1 h3
        have hw' : WtOk c w n := of_decide_eq_true hw
        have hm : MeaOk c ⟨w, n⟩ := ⟨hw'.2.1, fun i hi => hw'.1 i (by rw [hw'.2.1]; exact hi), hw'.2.2.1, hw'.2.2.2⟩
        have q25 : (E F (d + 19)).pf 25 [.agg (eCav c), sl eStg 4 l, sl eInt 1 w, .int .i64 n] = _ := s25 F (d + 14) hc hm l (by omega) hl (by omega)
        rw [if_pos h3] at q22
        rw [h3] at q23
        simp only [q21, q22, q23, q24, q25, tkOut_ret, tkBool_b, tkTup_t, tkAgg_a, tkCons_c, tkInt_i, tkNil_n, Bool.not_true, pF, decide_true, pT, z0', beq_self_eq_true, Bool.and_self]
      · rw [if_neg h3] at q22
        have e1 : (errP c l (decide (WtOk c w n)) != 0) = true := by simpa using h3
        simp only [q21, q22, q23, q24, tkOut_ret, tkBool_b, tkTup_t, tkAgg_a, tkCons_c, tkInt_i, tkNil_n, Bool.not_true, pF, decide_true, pT, e1, beq_self_eq_true, Bool.and_self]
  · rw [decide_eq_false h0] at q19
    simp only [q19, q21, tkOut_ret, tkBool_b, Bool.not_false, pT]
end Go.Sim.Le

/-
  LeachFaults: the document's first fault; true for all that comes in.
-/
namespace Go.Sim.Le
open Go.Proofs
variable (F d : Nat)
theorem wv0 (y : Int) (u : Nat) : wv 0 y u = if (u : Int) ≤ y then -1 else 0 := by
  unfold wv
  by_cases h : (u : Int) ≤ y
  · rw [if_pos ⟨rfl, h⟩, if_pos h]
  · rw [if_neg (fun hh => h hh.2), if_neg (by omega), if_neg h]
theorem wv1 (y : Int) (u : Nat) : wv 1 y u = if y ≤ (u : Int) then 1 else 0 := by
  unfold wv
  rw [if_neg (by omega)]
  by_cases h : y ≤ (u : Int)
  · rw [if_pos (.inl ⟨rfl, h⟩), if_pos h]
  · rw [if_neg (by omega), if_neg h]
theorem wv2 (y : Int) (u : Nat) : wv 2 y u = if (u : Int) = y then 1 else 0 := by
  unfold wv
  rw [if_neg (by omega)]
  by_cases h : (u : Int) = y
  · rw [if_pos (.inr ⟨rfl, h⟩), if_pos h]
  · rw [if_neg (by omega), if_neg h]
def oneW (n u : Nat) : Int := if u = n then 1 else 0
theorem s75 (c : Cav) (hl : c.slices.len ≤ 300) (n : Nat) (hn : n < c.slices.len) : (E F (d + 1)).pf 75 [.agg (eCav c), .int .i64 n] = some (.ret (sl eInt 1 ⟨false, c.slices.len, oneW n⟩)) := by
  rw [E_pf, t75]
  simp (disch := omega) only [decide_eq_true, decide_true, pT, Int.toNat_natCast]
  have e := upd_int (fun _ => 0) n 1
  rw [e]
  rfl
/-- -1 for the first slices, so many. -/
def negW (q u : Nat) : Int := if u < q then -1 else 0
theorem l74 {c : Cav} (hc : CavOk c) (l : Sl Stg) (hL : l.len ≤ 300) (hs : ∀ i, i < l.len → StgOk c.slices.len (l.el i)) (n : Nat) (hn : n < c.slices.len) (hF : 400 < F) : ∀ j q fu, q + j = n + 1 → j < fu →
    L74x0 (E F (d + 4)) F c l n fu q (fun u => eInt (negW q u)) = some (.ret (.bool (decide ((boundS c l.el (meaS c 0 n) l.len).hi > 0)))) := by
  have hcl := hc.1
  intro j
  induction j with
  | zero =>
    intro q fu h hf
    obtain ⟨fu, rfl⟩ : ∃ k, fu = k + 1 := ⟨fu - 1, by omega⟩
    have hq : q = n + 1 := by omega
    subst hq
    have hm : MeaOk c ⟨⟨false, c.slices.len, negW (n + 1)⟩, 1⟩ := ⟨rfl, fun i hi => by show -1000 ≤ negW (n + 1) i ∧ negW (n + 1) i ≤ 1000; unfold negW; split <;> omega, by show -1000 ≤ (1 : Int); omega, by show (1 : Int) ≤ 1000; omega⟩
    have e := s65 F d hc hm l hL hs hF
    have e2 := bound_cong hc (m := meaS c 0 n) (m' := ⟨⟨false, c.slices.len, negW (n + 1)⟩, 1⟩) hs (fun i hi => by
      show negW (n + 1) i = meaW 0 n c.slices.len i
      unfold meaW negW
      rw [if_pos hi, wv0]
      split <;> split <;> omega) rfl l.len (Nat.le_refl _)
    rw [e2] at e
    rw [L74x0s, decide_eq_false (by omega), pF, Int.toNat_natCast]
    simp only [sl] at e ⊢
    rw [e]
    simp only [tkOut_ret, tkInt_i, decide_true, pT]
  | succ j ih =>
    intro q fu h hf
    obtain ⟨fu, rfl⟩ : ∃ k, fu = k + 1 := ⟨fu - 1, by omega⟩
    have e3 := upd_int (negW q) q (-1)
    have e4 : (fun u => eInt (if u = q then -1 else negW q u)) = fun u => eInt (negW (q + 1) u) := by
      funext u
      refine congrArg eInt ?_
      unfold negW
      by_cases h1 : u = q
      · rw [if_pos h1, if_pos (by omega)]
      · rw [if_neg h1]
        by_cases h2 : u < q
        · rw [if_pos h2, if_pos (by omega)]
        · rw [if_neg h2, if_neg (by omega)]
    rw [e4] at e3
    rw [L74x0s]
    simp (disch := omega) only [decide_eq_true, decide_true, pT, Int.toNat_natCast]
    rw [e3, wrS (by omega)]
    exact ih (q + 1) fu (by omega) (by omega)
theorem s74 {c : Cav} (hc : CavOk c) (l : Sl Stg) (hL : l.len ≤ 300) (hs : ∀ i, i < l.len → StgOk c.slices.len (l.el i)) (n : Int) (hn0 : 0 ≤ n) (hn : n < c.slices.len) (hF : 400 < F) : (E F (d + 5)).pf 74 [.agg (eCav c), sl eStg 4 l, .int .i64 n] = some (.ret (.bool (decide ((boundS c l.el (meaS c 0 n) l.len).hi > 0)))) := by
  have hcl := hc.1
  obtain ⟨n, rfl⟩ : ∃ k : Nat, n = k := ⟨n.toNat, by omega⟩
  have e := l74 F d hc l hL hs n (by omega) hF (n + 1) 0 F (by omega) (by omega)
  have e0 : (fun u => eInt (negW 0 u)) = fun _ => [V.int .i64 0] := by
    funext u
    simp only [negW, Nat.not_lt_zero, if_false]
  rw [e0] at e
  rw [E_pf, t74]
  simp (disch := omega) only [decide_eq_true, decide_true, pT]
  exact e
section
variable {c : Cav} (hc : CavOk c) (l : Sl Stg) (hL : l.len ≤ 300) (hs : ∀ i, i < l.len → StgOk c.slices.len (l.el i)) (hF : 400 < F)
include hc hL hs hF
theorem l31x2 (m0 k : Nat) (hk : k < l.len) (R : Option Out) : ∀ j i fu, i + j = c.slices.len → j < fu →
    (bif (wideR c l.el k j i).2 then some (.ret (.tup [.int .i64 k, .int .i64 5, .int .i64 (wideR c l.el k j i).1])) else L31x0 (E F (d + 5)) F c l m0 ((k + 1 : Nat) : Int)) = R →
    L31x2 (E F (d + 5)) F c l m0 fu k i = R := by
  have hcl := hc.1
  intro j
  induction j with
  | zero =>
    intro i fu h hf K
    obtain ⟨fu, rfl⟩ : ∃ k, fu = k + 1 := ⟨fu - 1, by omega⟩
    rw [L31x2s, decide_eq_false (by omega), pF, wrS (by omega)]
    simp only [wideR, cond_false] at K
    exact K
  | succ j ih =>
    intro i fu h hf K
    obtain ⟨fu, rfl⟩ : ∃ k, fu = k + 1 := ⟨fu - 1, by omega⟩
    have hm : MeaOk c ⟨⟨false, c.slices.len, oneW i⟩, 0⟩ := ⟨rfl, fun u hu => by show -1000 ≤ oneW i u ∧ oneW i u ≤ 1000; unfold oneW; split <;> omega, by show -1000 ≤ (0 : Int); omega, by show (0 : Int) ≤ 1000; omega⟩
    have e := s65 F (d + 1) hc hm ⟨l.nl, k + 1, l.el⟩ (show k + 1 ≤ 300 by omega) (fun i hi => hs i (by have : i < k + 1 := hi; omega)) hF
    have e2 := bound_cong hc (m := meaS c 2 i) (m' := ⟨⟨false, c.slices.len, oneW i⟩, 0⟩) (n := k + 1) (l := l.el) (fun i hi => hs i (by omega)) (fun u hu => by
      show oneW i u = meaW 2 i c.slices.len u
      unfold meaW oneW
      rw [if_pos hu, wv2]
      split <;> split <;> omega) rfl (k + 1) (Nat.le_refl _)
    rw [e2] at e
    have e75 : (E F (d + 5)).pf 75 [.agg (eCav c), .int .i64 i] = _ := s75 F (d + 4) c (by omega) i (by omega)
    have hS : IntKind.i64.wrap ((k : Int) + 1) = ((k + 1 : Nat) : Int) := wrS (by omega)
    rw [L31x2s]
    simp (disch := omega) only [decide_eq_true, decide_true, pT, Int.toNat_natCast, hS, Bool.true_or, Nat.sub_zero, e75, tkOut_ret, tkRow_r]
    simp only [sl] at e ⊢
    rw [show (E F (d + 5)).pf 65 [.agg [.row c.slices.nl c.slices.len 7 fun i => eSlc (c.slices.el i), .int .i64 c.hold, .int .i64 c.oil], .row l.nl (k + 1) 4 (fun u => eStg (l.el u)), .row false c.slices.len 1 (fun u => eInt (oneW i u)), .int .i64 0] = _ from e]
    simp (disch := omega) only [tkOut_ret, tkInt_i, decide_eq_true, decide_true, pT]
    by_cases hw : (boundS c l.el (meaS c 2 i) (k + 1)).hi > (c.slices.el i).most
    · simp only [wideR, decide_eq_true hw, cond_true] at K
      rw [decide_eq_true hw, pT]
      exact K
    · simp only [wideR, decide_eq_false hw, cond_false] at K
      rw [decide_eq_false hw, pF, wrS (by omega)]
      exact ih (i + 1) fu (by omega) (by omega) K
/-- 1 for slices from one on, below another. -/
def upW (b q u : Nat) : Int := if b ≤ u ∧ u < q then 1 else 0
omit hF in
theorem l31x1 (hF : 400 < F) (m0 k : Nat) (hk : k < l.len) (b : Nat) (hb : (l.el k).blanket = b) (x1 x2 x3 : Int) (R : Option Out)
    (K : (bif oiledB c l.el k then some (.ret (.tup [.int .i64 k, .int .i64 4, .int .i64 b])) else L31x2 (E F (d + 5)) F c l m0 F k 0) = R) : ∀ j q fu, q + j = c.slices.len → b ≤ q → j < fu →
    L31x1 (E F (d + 5)) F c l m0 fu k q x1 x2 x3 b (fun u => eInt (upW b q u)) = R := by
  have hcl := hc.1
  intro j
  induction j with
  | zero =>
    intro q fu h hbq hf
    obtain ⟨fu, rfl⟩ : ∃ k, fu = k + 1 := ⟨fu - 1, by omega⟩
    have hq : q = c.slices.len := by omega
    subst hq
    have hm : MeaOk c ⟨⟨false, c.slices.len, upW b c.slices.len⟩, 0⟩ := ⟨rfl, fun u hu => by show -1000 ≤ upW b c.slices.len u ∧ upW b c.slices.len u ≤ 1000; unfold upW; split <;> omega, by show -1000 ≤ (0 : Int); omega, by show (0 : Int) ≤ 1000; omega⟩
    have e := s65 F (d + 1) hc hm ⟨l.nl, k, l.el⟩ (show k ≤ 300 by omega) (fun i hi => hs i (by have : i < k := hi; omega)) hF
    have e2 := bound_cong hc (m := meaS c 1 b) (m' := ⟨⟨false, c.slices.len, upW b c.slices.len⟩, 0⟩) (n := k) (l := l.el) (fun i hi => hs i (by omega)) (fun u hu => by
      show upW b c.slices.len u = meaW 1 b c.slices.len u
      unfold meaW upW
      rw [if_pos hu, wv1]
      split <;> split <;> omega) rfl k (Nat.le_refl _)
    rw [e2] at e
    rw [L31x1s, Int.toNat_natCast, decide_eq_false (by omega), pF]
    simp (disch := omega) only [decide_eq_true, decide_true, pT, Int.toNat_natCast, Bool.true_or, Nat.sub_zero]
    simp only [sl] at e ⊢
    rw [show (E F (d + 5)).pf 65 [.agg [.row c.slices.nl c.slices.len 7 fun i => eSlc (c.slices.el i), .int .i64 c.hold, .int .i64 c.oil], .row l.nl k 4 (fun u => eStg (l.el u)), .row false c.slices.len 1 (fun u => eInt (upW b c.slices.len u)), .int .i64 0] = _ from e]
    simp only [tkOut_ret, tkInt_i, decide_true, pT]
    unfold oiledB at K
    rw [hb] at K
    by_cases ho : (boundS c l.el (meaS c 1 b) k).hi > c.oil
    · rw [decide_eq_true ho, cond_true] at K
      rw [decide_eq_true ho, pT]; exact K
    · rw [decide_eq_false ho, cond_false] at K
      rw [decide_eq_false ho, pF]; exact K
  | succ j ih =>
    intro q fu h hbq hf
    obtain ⟨fu, rfl⟩ : ∃ k, fu = k + 1 := ⟨fu - 1, by omega⟩
    have e3 := upd_int (upW b q) q 1
    have e4 : (fun u => eInt (if u = q then 1 else upW b q u)) = fun u => eInt (upW b (q + 1) u) := by
      funext u
      refine congrArg eInt ?_
      unfold upW
      by_cases h1 : u = q
      · rw [if_pos h1, if_pos (by omega)]
      · rw [if_neg h1]
        by_cases h2 : b ≤ u ∧ u < q
        · rw [if_pos h2, if_pos (by omega)]
        · rw [if_neg h2, if_neg (by omega)]
    rw [e4] at e3
    rw [L31x1s, Int.toNat_natCast]
    simp (disch := omega) only [decide_eq_true, decide_true, pT, Int.toNat_natCast]
    rw [e3, wrS (by omega)]
    exact ih (q + 1) fu (by omega) (by omega) (by omega)
theorem l31x0 : ∀ j k fu, k + j = l.len → j < fu → L31x0 (E F (d + 5)) F c l fu k = some (.ret (.tup [.int .i64 (faultR c l.el j k).1, .int .i64 (faultR c l.el j k).2.1, .int .i64 (faultR c l.el j k).2.2])) := by
  have hcl := hc.1
  intro j
  induction j with
  | zero =>
    intro k fu h hf
    obtain ⟨fu, rfl⟩ : ∃ k, fu = k + 1 := ⟨fu - 1, by omega⟩
    rw [L31x0s, decide_eq_false (by omega), pF]
    rfl
  | succ j ih =>
    intro k fu h hf
    obtain ⟨fu, rfl⟩ : ∃ k, fu = k + 1 := ⟨fu - 1, by omega⟩
    have hlk := hs k (by omega)
    obtain ⟨hw1, hw2, hw3, hw4, hw5⟩ := hlk
    have e1 := s74 F d hc ⟨l.nl, k, l.el⟩ (show k ≤ 300 by omega) (fun i hi => hs i (by have : i < k := hi; omega)) (min (l.el k).into (l.el k).out) (by omega) (by omega) hF
    have e2 := s74 F d hc ⟨l.nl, k + 1, l.el⟩ (show k + 1 ≤ 300 by omega) (fun i hi => hs i (by have : i < k + 1 := hi; omega)) (min (l.el k).into (l.el k).out) (by omega) (by omega) hF
    have hS : IntKind.i64.wrap ((k : Int) + 1) = ((k + 1 : Nat) : Int) := wrS (by omega)
    simp only [sl] at e1 e2
    rw [L31x0s]
    simp (disch := omega) only [decide_eq_true (show (k : Int) < (l.len : Int) by omega), decide_eq_true (show (0 : Int) ≤ k by omega), pT, Int.toNat_natCast, mxE, mnE]
    by_cases h1 : topOf (l.el k) ≥ (l.el k).blanket
    · rw [decide_eq_true (show max (l.el k).into (l.el k).out ≥ (l.el k).blanket from h1), pT]
      simp only [faultR, decide_eq_true h1, cond_true]
      rfl
    · rw [decide_eq_false (show ¬ max (l.el k).into (l.el k).out ≥ (l.el k).blanket from h1), pF]
      simp (disch := omega) only [Bool.true_or, decide_eq_true, decide_true, pT, Nat.sub_zero, hS, Int.toNat_natCast]
      rw [e1]
      simp only [tkOut_ret, tkBool_b]
      by_cases hb1 : (boundS c l.el (meaS c 0 (min (l.el k).into (l.el k).out)) k).hi > 0
      · have hb : buriedB c l.el k = true := decide_eq_true (by omega)
        rw [decide_eq_true hb1, pT]
        simp only [faultR, decide_eq_false h1, cond_false, hb, cond_true]
        rfl
      · rw [decide_eq_false hb1, pF, e2]
        simp only [tkOut_ret, tkBool_b]
        by_cases hb2 : (boundS c l.el (meaS c 0 (min (l.el k).into (l.el k).out)) (k + 1)).hi > 0
        · have hb : buriedB c l.el k = true := decide_eq_true (by omega)
          rw [decide_eq_true hb2, pT]
          simp only [faultR, decide_eq_false h1, cond_false, hb, cond_true]
          rfl
        · have hb : buriedB c l.el k = false := decide_eq_false (by omega)
          rw [decide_eq_false hb2, pF]
          obtain ⟨b, hbb⟩ : ∃ b : Nat, (l.el k).blanket = b := ⟨(l.el k).blanket.toNat, by omega⟩
          have e0 : (fun u => eInt (upW b b u)) = fun _ => [V.int .i64 0] := by
            funext u
            simp only [upW, if_neg (show ¬ (b ≤ u ∧ u < b) by omega)]
          rw [← e0, hbb]
          refine l31x1 F d hc l hL hs hF fu k (by omega) b hbb _ _ _ _ ?_ (c.slices.len - b) b F (by omega) (Nat.le_refl _) (by omega)
          have h1' : ¬ topOf (l.el k) ≥ (b : Int) := by rw [← hbb]; exact h1
          simp only [faultR, hbb, decide_eq_false h1', cond_false, hb]
          cases ho : oiledB c l.el k with
          | true => simp only [cond_true]
          | false =>
            simp only [cond_false]
            refine l31x2 F d hc l hL hs hF fu k (by omega) _ c.slices.len 0 F (by omega) (by omega) ?_
            cases hwd : (wideR c l.el k c.slices.len 0).2 with
            | true => simp only [cond_true]
            | false => simp only [cond_false]; exact ih (k + 1) fu (by omega) (by omega)
theorem s31 : (E F (d + 6)).pf 31 [.agg (eCav c), sl eStg 4 l] = some (.ret (.tup [.int .i64 (faultR c l.el l.len 0).1, .int .i64 (faultR c l.el l.len 0).2.1, .int .i64 (faultR c l.el l.len 0).2.2])) := by
  rw [E_pf, t31]
  exact l31x0 F d hc l hL hs hF l.len 0 F (by omega) (by omega)
end
/-- LeachFaults. -/
theorem s5 (c : Cav) (l : Sl Stg) (hC : c.slices.len < Big) (hCF : c.slices.len < F) (hB : l.len < Big) (hLF : l.len < F) (hF : 1000000000 < F) : (E F (d + 20)).pf 5 [.agg (eCav c), sl eStg 4 l] = some (.ret (.bool true)) := by
  have q19 : (E F (d + 19)).pf 19 [.agg (eCav c)] = _ := s19 F (d + 18) c
  have q21 : (E F (d + 19)).pf 21 [] = _ := s21 F d hF
  have q20 : (E F (d + 19)).pf 20 [.agg (eCav c), sl eStg 4 l, .int .i64 5, .int .i64 60, .int .i64 4] = _ := s20 F (d + 14) c l 5 60 4 hC hCF hB hLF
  have q30 : (E F (d + 19)).pf 30 [.agg (eCav c), sl eStg 4 l] = _ := s30 F (d + 1) c l hC hCF hB hLF (by omega)
  have q23 : (E F (d + 19)).pf 23 [.agg (eCav c), sl eStg 4 l, .bool true] = _ := s23 F (d + 15) c l true hC hCF hB hLF
  rw [E_pf, t5]
  by_cases h0 : c.slices.len ≤ 20
  · rw [decide_eq_true h0] at q19
    by_cases h1 : (l.len : Int) > 20
    · simp only [q19, q21, tkOut_ret, tkBool_b, Bool.not_true, pF, decide_eq_true h1, pT]
    simp only [q19, q20, tkOut_ret, tkBool_b, Bool.not_true, pF, decide_eq_false h1]
    generalize decide (errP c l true ≠ 0 ∨ (c.slices.len : Int) ≤ 5 ∧ c.hold ≤ 60 ∧ (l.len : Int) ≤ 4) = e
    cases e with
    | false => simp only [q21, tkOut_ret, tkBool_b, Bool.not_false, pT]
    | true =>
      by_cases h3 : errP c l true = 0
      · obtain ⟨h8, hc, hl, _⟩ := errP_0.1 h3
        have q31 : (E F (d + 19)).pf 31 [.agg (eCav c), sl eStg 4 l] = _ := s31 F (d + 13) hc l (by omega) hl (by omega)
        rw [if_pos h3] at q30
        rw [h3] at q23
        simp only [q21, q30, q23, q31, tkOut_ret, tkBool_b, tkTup_t, tkCons_c, tkInt_i, tkNil_n, Bool.not_true, pF, decide_true, pT, z0', beq_self_eq_true, Bool.and_self]
      · rw [if_neg h3] at q30
        have e1 : (errP c l true != 0) = true := by simpa using h3
        simp only [q21, q30, q23, tkOut_ret, tkBool_b, tkTup_t, tkCons_c, tkInt_i, tkNil_n, Bool.not_true, pF, decide_true, pT, e1, beq_self_eq_true, Bool.and_self]
  · rw [decide_eq_false h0] at q19
    simp only [q19, q21, tkOut_ret, tkBool_b, Bool.not_false, pT]
end Go.Sim.Le

/-
  Leaching: truths; what is true behind some stages, in plain terms.
-/
namespace Go.Sim.Le
open Go.Proofs
abbrev TruthOk (c : Cav) (n : Nat) (t : Truth) : Prop := t.vols.len = c.slices.len ∧ t.rates.len = n ∧ (∀ i, i < t.vols.len → (c.slices.el i).vol.lo ≤ t.vols.el i ∧ t.vols.el i ≤ (c.slices.el i).vol.hi) ∧
  ∀ k, k < t.rates.len → (t.rates.el k).len = c.slices.len ∧ ∀ i, i < c.slices.len → (c.slices.el i).rate.lo ≤ (t.rates.el k).el i ∧ (t.rates.el k).el i ≤ (c.slices.el i).rate.hi
variable (F d : Nat)
section
variable (c : Cav) (l : Sl Stg) (t : Truth) (hcl : c.slices.len < Big) (htl : t.rates.len < Big) (hCF : c.slices.len < F) (hTF : t.rates.len < F)
def rateB (k i : Nat) : Bool := decide ((c.slices.el i).rate.lo ≤ (t.rates.el k).el i ∧ (t.rates.el k).el i ≤ (c.slices.el i).rate.hi)
def rowB (k : Nat) : Bool := decide ((t.rates.el k).len = c.slices.len) && allF (rateB c t k) c.slices.len 0
theorem rowB_iff (k : Nat) : rowB c t k = true ↔ ((t.rates.el k).len = c.slices.len ∧ ∀ i, i < c.slices.len → (c.slices.el i).rate.lo ≤ (t.rates.el k).el i ∧ (t.rates.el k).el i ≤ (c.slices.el i).rate.hi) := by
  unfold rowB
  rw [allF_dec]
  simp only [Bool.and_eq_true, decide_eq_true_eq, rateB]
include hcl htl hCF hTF
theorem l87x2 (m0 k : Nat) (hk : (t.rates.el k).len = c.slices.len) (R : Option Out) : ∀ j i fu, i + j = c.slices.len → j < fu →
    (bif allF (rateB c t k) j i then L87x1 (E F (d + 1)) F c l t m0 (IntKind.i64.wrap ((k : Int) + 1)) else some (.ret (.bool false))) = R →
    L87x2 (E F (d + 1)) F c l t m0 fu k (t.rates.el k).nl (t.rates.el k).len (fun u => [.int .i64 ((t.rates.el k).el u)]) (t.rates.el k).len i = R := by
  have hB : c.slices.len < 4611686018427387904 := hcl
  intro j
  induction j with
  | zero =>
    intro i fu h hf K
    obtain ⟨fu, rfl⟩ : ∃ k, fu = k + 1 := ⟨fu - 1, by omega⟩
    rw [L87x2s, decide_eq_false (by omega), pF]
    simp only [allF, cond_true] at K
    exact K
  | succ j ih =>
    intro i fu h hf K
    obtain ⟨fu, rfl⟩ : ∃ k, fu = k + 1 := ⟨fu - 1, by omega⟩
    rw [L87x2s]
    simp (disch := omega) only [decide_eq_true, decide_true, pT, Int.toNat_natCast, tkCons_c, tkInt_i, s59, tkOut_ret, tkBool_b]
    simp only [allF] at K
    by_cases hr : (c.slices.el i).rate.lo ≤ (t.rates.el k).el i ∧ (t.rates.el k).el i ≤ (c.slices.el i).rate.hi
    · rw [show rateB c t k i = true from decide_eq_true hr, Bool.true_and] at K
      rw [decide_eq_true hr, Bool.not_true, pF, wrS (by omega)]
      exact ih (i + 1) fu (by omega) (by omega) K
    · rw [show rateB c t k i = false from decide_eq_false hr, Bool.false_and, cond_false] at K
      rw [decide_eq_false hr, Bool.not_false, pT]
      exact K
theorem l87x1 : ∀ j k fu, k + j = t.rates.len → j < fu → L87x1 (E F (d + 1)) F c l t fu k = some (.ret (.bool (allF (rowB c t) j k))) := by
  have hB : c.slices.len < 4611686018427387904 := hcl
  have hT : t.rates.len < 4611686018427387904 := htl
  intro j
  induction j with
  | zero =>
    intro k fu h hf
    obtain ⟨fu, rfl⟩ : ∃ k, fu = k + 1 := ⟨fu - 1, by omega⟩
    rw [L87x1s, decide_eq_false (by omega), pF]
    rfl
  | succ j ih =>
    intro k fu h hf
    obtain ⟨fu, rfl⟩ : ∃ k, fu = k + 1 := ⟨fu - 1, by omega⟩
    rw [L87x1s]
    simp (disch := omega) only [decide_eq_true, decide_true, pT, Int.toNat_natCast]
    by_cases hk : (t.rates.el k).len = c.slices.len
    · rw [show (((t.rates.el k).len : Int) != (c.slices.len : Int)) = false by rw [hk]; simp, pF]
      refine l87x2 F d c l t hcl htl hCF hTF fu k hk _ c.slices.len 0 F (by omega) (by omega) ?_
      simp only [allF, rowB, decide_eq_true hk, Bool.true_and]
      rw [wrS (by omega)]
      cases allF (rateB c t k) c.slices.len 0 with
      | true => rw [cond_true, Bool.true_and]; exact ih (k + 1) fu (by omega) (by omega)
      | false => rw [cond_false, Bool.false_and]
    · rw [show (((t.rates.el k).len : Int) != (c.slices.len : Int)) = true by simp; omega, pT]
      simp only [allF, rowB, decide_eq_false hk, Bool.false_and]
theorem l87x0 (hv : t.vols.len = c.slices.len) : ∀ j i fu, i + j = t.vols.len → j < fu → L87x0 (E F (d + 1)) F c l t fu i = some (.ret (.bool (allF (fun i => decide ((c.slices.el i).vol.lo ≤ t.vols.el i ∧ t.vols.el i ≤ (c.slices.el i).vol.hi)) j i && allF (rowB c t) t.rates.len 0))) := by
  have hB : c.slices.len < 4611686018427387904 := hcl
  intro j
  induction j with
  | zero =>
    intro i fu h hf
    obtain ⟨fu, rfl⟩ : ∃ k, fu = k + 1 := ⟨fu - 1, by omega⟩
    rw [L87x0s, decide_eq_false (by omega), pF]
    exact l87x1 F d c l t hcl htl hCF hTF t.rates.len 0 F (by omega) (by omega)
  | succ j ih =>
    intro i fu h hf
    obtain ⟨fu, rfl⟩ : ∃ k, fu = k + 1 := ⟨fu - 1, by omega⟩
    rw [L87x0s]
    simp (disch := omega) only [decide_eq_true (show (i : Int) < (t.vols.len : Int) by omega), decide_eq_true (show (i : Int) < (c.slices.len : Int) by omega), decide_eq_true (show (0 : Int) ≤ (i : Int) by omega), pT, Int.toNat_natCast, s59, tkOut_ret, tkBool_b]
    simp only [allF]
    cases decide ((c.slices.el i).vol.lo ≤ t.vols.el i ∧ t.vols.el i ≤ (c.slices.el i).vol.hi) with
    | true => rw [Bool.not_true, pF, wrS (by omega), Bool.true_and]; exact ih (i + 1) fu (by omega) (by omega)
    | false => rw [Bool.not_false, pT]; rfl
theorem s87 : (E F (d + 2)).pf 87 [.agg (eCav c), sl eStg 4 l, .agg (eTruth t)] = some (.ret (.bool (decide (TruthOk c l.len t)))) := by
  rw [E_pf, t87]
  by_cases hv : t.vols.len = c.slices.len
  · rw [show ((t.vols.len : Int) != (c.slices.len : Int)) = false by rw [hv]; simp, pF]
    by_cases hr : t.rates.len = l.len
    · rw [show ((t.rates.len : Int) != (l.len : Int)) = false by rw [hr]; simp, pF]
      refine (l87x0 F d c l t hcl htl hCF hTF hv t.vols.len 0 F (by omega) (by omega)).trans (b3 (b2 ?_))
      rw [allF_dec, allF_dec]
      simp only [Bool.and_eq_true, decide_eq_true_eq, rowB_iff]
      exact ⟨fun h => ⟨hv, hr, h.1, h.2⟩, fun h => ⟨h.2.2.1, h.2.2.2⟩⟩
    · rw [show ((t.rates.len : Int) != (l.len : Int)) = true by simp; omega, pT]
      exact b3 (Eq.symm (decide_eq_false fun h => hr h.2.1))
  · rw [show ((t.vols.len : Int) != (c.slices.len : Int)) = true by simp; omega, pT]
    exact b3 (Eq.symm (decide_eq_false fun h => hv h.1))
theorem l47x2 (m0 k : Nat) (hkr : k < t.rates.len) (hk : (t.rates.el k).len = c.slices.len) (R : Option Out) : ∀ j i fu, i + j = c.slices.len → j < fu →
    (bif allF (rateB c t k) j i then L47x1 (E F (d + 1)) F c l t m0 (IntKind.i64.wrap ((k : Int) + 1)) else some (.ret (.bool false))) = R →
    L47x2 (E F (d + 1)) F c l t m0 fu k i = R := by
  have hB : c.slices.len < 4611686018427387904 := hcl
  intro j
  induction j with
  | zero =>
    intro i fu h hf K
    obtain ⟨fu, rfl⟩ : ∃ k, fu = k + 1 := ⟨fu - 1, by omega⟩
    rw [L47x2s, decide_eq_false (by omega), pF]
    simp only [allF, cond_true] at K
    exact K
  | succ j ih =>
    intro i fu h hf K
    obtain ⟨fu, rfl⟩ : ∃ k, fu = k + 1 := ⟨fu - 1, by omega⟩
    rw [L47x2s]
    simp (disch := omega) only [decide_eq_true, decide_true, pT, Int.toNat_natCast, s64, tkOut_ret, tkBool_b]
    simp only [allF] at K
    by_cases hr : (c.slices.el i).rate.lo ≤ (t.rates.el k).el i ∧ (t.rates.el k).el i ≤ (c.slices.el i).rate.hi
    · rw [show rateB c t k i = true from decide_eq_true hr, Bool.true_and] at K
      rw [decide_eq_true hr, Bool.not_true, pF, wrS (by omega)]
      exact ih (i + 1) fu (by omega) (by omega) K
    · rw [show rateB c t k i = false from decide_eq_false hr, Bool.false_and, cond_false] at K
      rw [decide_eq_false hr, Bool.not_false, pT]
      exact K
theorem l47x1 : ∀ j k fu, k + j = t.rates.len → j < fu → L47x1 (E F (d + 1)) F c l t fu k = some (.ret (.bool (allF (rowB c t) j k))) := by
  have hB : c.slices.len < 4611686018427387904 := hcl
  have hT : t.rates.len < 4611686018427387904 := htl
  intro j
  induction j with
  | zero =>
    intro k fu h hf
    obtain ⟨fu, rfl⟩ : ∃ k, fu = k + 1 := ⟨fu - 1, by omega⟩
    rw [L47x1s, decide_eq_false (by omega), pF]
    rfl
  | succ j ih =>
    intro k fu h hf
    obtain ⟨fu, rfl⟩ : ∃ k, fu = k + 1 := ⟨fu - 1, by omega⟩
    rw [L47x1s]
    simp (disch := omega) only [decide_eq_true, decide_true, pT, Int.toNat_natCast]
    by_cases hk : (t.rates.el k).len = c.slices.len
    · rw [show (((t.rates.el k).len : Int) != (c.slices.len : Int)) = false by rw [hk]; simp, pF]
      refine l47x2 F d c l t hcl htl hCF hTF fu k (by omega) hk _ c.slices.len 0 F (by omega) (by omega) ?_
      simp only [allF, rowB, decide_eq_true hk, Bool.true_and]
      rw [wrS (by omega)]
      cases allF (rateB c t k) c.slices.len 0 with
      | true => rw [cond_true, Bool.true_and]; exact ih (k + 1) fu (by omega) (by omega)
      | false => rw [cond_false, Bool.false_and]
    · rw [show (((t.rates.el k).len : Int) != (c.slices.len : Int)) = true by simp; omega, pT]
      simp only [allF, rowB, decide_eq_false hk, Bool.false_and]
theorem l47x0 (hv : t.vols.len = c.slices.len) : ∀ j i fu, i + j = t.vols.len → j < fu → L47x0 (E F (d + 1)) F c l t fu i = some (.ret (.bool (allF (fun i => decide ((c.slices.el i).vol.lo ≤ t.vols.el i ∧ t.vols.el i ≤ (c.slices.el i).vol.hi)) j i && allF (rowB c t) t.rates.len 0))) := by
  have hB : c.slices.len < 4611686018427387904 := hcl
  intro j
  induction j with
  | zero =>
    intro i fu h hf
    obtain ⟨fu, rfl⟩ : ∃ k, fu = k + 1 := ⟨fu - 1, by omega⟩
    rw [L47x0s, decide_eq_false (by omega), pF]
    exact l47x1 F d c l t hcl htl hCF hTF t.rates.len 0 F (by omega) (by omega)
  | succ j ih =>
    intro i fu h hf
    obtain ⟨fu, rfl⟩ : ∃ k, fu = k + 1 := ⟨fu - 1, by omega⟩
    rw [L47x0s]
    simp (disch := omega) only [decide_eq_true (show (i : Int) < (t.vols.len : Int) by omega), decide_eq_true (show (i : Int) < (c.slices.len : Int) by omega), decide_eq_true (show (0 : Int) ≤ (i : Int) by omega), pT, Int.toNat_natCast, s64, tkOut_ret, tkBool_b]
    simp only [allF]
    cases decide ((c.slices.el i).vol.lo ≤ t.vols.el i ∧ t.vols.el i ≤ (c.slices.el i).vol.hi) with
    | true => rw [Bool.not_true, pF, wrS (by omega), Bool.true_and]; exact ih (i + 1) fu (by omega) (by omega)
    | false => rw [Bool.not_false, pT]; rfl
theorem s47 : (E F (d + 2)).pf 47 [.agg (eCav c), sl eStg 4 l, .agg (eTruth t)] = some (.ret (.bool (decide (TruthOk c l.len t)))) := by
  rw [E_pf, t47]
  by_cases hv : t.vols.len = c.slices.len
  · rw [show ((t.vols.len : Int) != (c.slices.len : Int)) = false by rw [hv]; simp, pF]
    by_cases hr : t.rates.len = l.len
    · rw [show ((t.rates.len : Int) != (l.len : Int)) = false by rw [hr]; simp, pF]
      refine (l47x0 F d c l t hcl htl hCF hTF hv t.vols.len 0 F (by omega) (by omega)).trans (b3 (b2 ?_))
      rw [allF_dec, allF_dec]
      simp only [Bool.and_eq_true, decide_eq_true_eq, rowB_iff]
      exact ⟨fun h => ⟨hv, hr, h.1, h.2⟩, fun h => ⟨h.2.2.1, h.2.2.2⟩⟩
    · rw [show ((t.rates.len : Int) != (l.len : Int)) = true by simp; omega, pT]
      exact b3 (Eq.symm (decide_eq_false fun h => hr h.2.1))
  · rw [show ((t.vols.len : Int) != (c.slices.len : Int)) = true by simp; omega, pT]
    exact b3 (Eq.symm (decide_eq_false fun h => hv h.1))
end
end Go.Sim.Le

/-
  Leaching: what is true behind some stages: the program's.
-/
namespace Go.Sim.Le
open Go.Proofs
abbrev wK (t : Truth) (j : Nat) : Nat → Int := (t.rates.el j).el
abbrev opnF (c : Cav) (i : Nat) : Int := (c.slices.el i).opn
abbrev fallF (c : Cav) (i : Nat) : Int := (c.slices.el i).fall
def volS (c : Cav) (l : Nat → Stg) (t : Truth) : Nat → Nat → Int
  | 0 => t.vols.el
  | j + 1 => fun i => volS c l t j i + opnF c i * (takeRow c (l j) (wK t j) (pathN (l j)) i * (l j).water)
def tkE (c : Cav) (l : Nat → Stg) (t : Truth) (j : Nat) : Int × Int := tkT c (l j) (wK t j) (pathN (l j))
def saltP (c : Cav) (l : Nat → Stg) (t : Truth) : Nat → Int
  | 0 => 0
  | j + 1 => saltP c l t j + (l j).water * (tkE c l t j).1
def sumpS (c : Cav) (l : Nat → Stg) (t : Truth) : Nat → Int
  | 0 => 0
  | j + 1 => sumpS c l t j + (l j).water * pathSum c (l j) (wK t j) (fallF c) (pathN (l j))
def brineS (c : Cav) (l : Nat → Stg) (t : Truth) : Nat → Int
  | 0 => 0
  | j + 1 => brineS c l t j + (1000000 * (l j).water - (l j).water * (tkE c l t j).2)
def outS (c : Cav) (l : Nat → Stg) (t : Truth) : Nat → Int
  | 0 => 0
  | j + 1 => outS c l t j + (1000000 * ((l j).water * (tkE c l t j).1) - c.hold * ((l j).water * (tkE c l t j).2))
def endV (c : Cav) (l : Nat → Stg) (t : Truth) (n : Nat) : List V := [sl eInt 1 ⟨false, c.slices.len, volS c l t n⟩, .int .i64 (sumpS c l t n), .int .i64 (saltP c l t n), .int .i64 (brineS c l t n), .int .i64 (outS c l t n)]
section
variable {c : Cav} (hc : CavOk c) {s : Stg} (hs : StgOk c.slices.len s) (w : Nat → Int) (hw : RatesOk c w)
include hc hs hw
theorem pathSum_in (g : Nat → Int) (hg : ∀ i, i < c.slices.len → 0 ≤ g i ∧ g i ≤ 3000) : ∀ k, k ≤ pathN s → 0 ≤ pathSum c s w g k ∧ pathSum c s w g k ≤ 3000 * (tkT c s w k).1 := by
  intro k
  induction k with
  | zero => intro _; simp [pathSum, tkT]
  | succ k ih =>
    intro h
    have i := ih (by omega)
    have hin := pathAt_in hs (k := k) (by omega)
    have hn := takeN_in hc hs w hw (k := k) (by omega)
    have hgi := hg (pathAt s k).toNat (by omega)
    have m1 : 0 ≤ g (pathAt s k).toNat * takeN c s w k := Int.mul_nonneg hgi.1 hn.1
    have m2 : g (pathAt s k).toNat * takeN c s w k ≤ 3000 * takeN c s w k := Int.mul_le_mul_of_nonneg_right hgi.2 hn.1
    simp only [pathSum, tkT]
    unfold takeN at *
    omega
omit hc hs hw in
theorem pathSum_sub : ∀ k, pathSum c s w (opnF c) k - pathSum c s w (fallF c) k = (tkT c s w k).2 := by
  intro k
  induction k with
  | zero => rfl
  | succ k ih =>
    simp only [pathSum, tkT]
    rw [← ih]
    have : (opnF c (pathAt s k).toNat) * takeN c s w k - (fallF c (pathAt s k).toNat) * takeN c s w k = min (w (pathAt s k).toNat) (c.hold - (tkT c s w k).1) * oAt c s k := by
      rw [← Int.sub_mul, Int.mul_comm]; rfl
    omega
end
theorem opn_in {c : Cav} (hc : CavOk c) : ∀ i, i < c.slices.len → 0 ≤ opnF c i ∧ opnF c i ≤ 3000 := fun i hi => by
  have : 1000 ≤ (c.slices.el i).opn ∧ (c.slices.el i).opn ≤ 3000 := (hc.2.2.2 i hi).2.1
  exact ⟨by show 0 ≤ (c.slices.el i).opn; omega, this.2⟩
theorem fall_in {c : Cav} (hc : CavOk c) : ∀ i, i < c.slices.len → 0 ≤ fallF c i ∧ fallF c i ≤ 3000 := fun i hi => by
  have h1 : 1000 ≤ (c.slices.el i).opn ∧ (c.slices.el i).opn ≤ 3000 := (hc.2.2.2 i hi).2.1
  have h2 : 0 ≤ (c.slices.el i).fall ∧ (c.slices.el i).fall ≤ (c.slices.el i).opn - 1 := (hc.2.2.2 i hi).2.2.1
  exact ⟨h2.1, by show (c.slices.el i).fall ≤ 3000; omega⟩
theorem truth_rates {c : Cav} {n : Nat} {t : Truth} (ht : TruthOk c n t) {j : Nat} (hj : j < n) : RatesOk c (wK t j) := fun i hi => (ht.2.2.2 j (by rw [ht.2.1]; exact hj)).2 i hi
theorem mulnn {a b x y : Int} (h1 : 0 ≤ a) (h2 : a ≤ x) (h3 : 0 ≤ b) (h4 : b ≤ y) : 0 ≤ a * b ∧ a * b ≤ x * y := ⟨Int.mul_nonneg h1 h3, Int.mul_le_mul h2 h4 h3 (by omega)⟩
section
variable {c : Cav} (hc : CavOk c) {n : Nat} {l : Nat → Stg} (hl : ∀ i, i < n → StgOk c.slices.len (l i)) {t : Truth} (ht : TruthOk c n t)
include hc hl ht
theorem vol_bd {i : Nat} (hi : i < c.slices.len) : ∀ j, j ≤ n → 0 ≤ volS c l t j i ∧ volS c l t j i ≤ 10000000000000 + 900000000000 * j := by
  intro j
  induction j with
  | zero =>
    intro _
    have h1 := ht.2.2.1 i (by rw [ht.1]; exact hi)
    have h2 : SpanIn (c.slices.el i).vol 0 10000000000000 := (hc.2.2.2 i hi).1
    unfold SpanIn at h2
    simp only [volS]
    omega
  | succ j ih =>
    intro h
    have i1 := ih (by omega)
    have hs := hl j (by omega)
    have h1 := takeRow_in hc hs (wK t j) (truth_rates ht (by omega)) (pathN (l j)) (Nat.le_refl _) i
    have hwa := hs.1
    have ho := opn_in hc i hi
    have m1 := mulnn (a := takeRow c (l j) (wK t j) (pathN (l j)) i) (b := (l j).water) (x := 300) (y := 1000000) h1.1 h1.2 (by omega) (by omega)
    have m2 := mulnn (a := opnF c i) (b := takeRow c (l j) (wK t j) (pathN (l j)) i * (l j).water) (x := 3000) (y := 300000000) ho.1 ho.2 m1.1 (by omega)
    simp only [volS]
    omega
theorem tkE_in {j : Nat} (hj : j < n) : (0 ≤ (tkE c l t j).1 ∧ (tkE c l t j).1 ≤ 300) ∧ (0 ≤ (tkE c l t j).2 ∧ (tkE c l t j).2 ≤ 900000) ∧ (0 ≤ (l j).water * (tkE c l t j).1 ∧ (l j).water * (tkE c l t j).1 ≤ 300000000) ∧ 0 ≤ (l j).water * (tkE c l t j).2 ∧ (l j).water * (tkE c l t j).2 ≤ 900000000000 := by
  have hs := hl j hj
  have hr := reach_in hc hs (take_reach hc hs (wK t j) (truth_rates ht hj) (pathN (l j)) (Nat.le_refl _)) (Nat.le_refl _)
  have hH := hc.2.1
  have hwa := hs.1
  unfold tkE
  have m1 := mulnn (a := (l j).water) (b := (tkT c (l j) (wK t j) (pathN (l j))).1) (x := 1000000) (y := 300) (by omega) (by omega) (by omega) (by omega)
  have m2 := mulnn (a := (l j).water) (b := (tkT c (l j) (wK t j) (pathN (l j))).2) (x := 1000000) (y := 900000) (by omega) (by omega) (by omega) (by omega)
  exact ⟨by omega, by omega, by omega, by omega⟩
theorem sums_in : ∀ j, j ≤ n → (0 ≤ saltP c l t j ∧ saltP c l t j ≤ 300000000 * j) ∧ (0 ≤ sumpS c l t j ∧ sumpS c l t j ≤ 900000000000 * j) ∧ (0 ≤ brineS c l t j ∧ brineS c l t j ≤ 1000000000000 * j) ∧ (-(270000000000000 * j) ≤ outS c l t j ∧ outS c l t j ≤ 300000000000000 * j) := by
  intro j
  induction j with
  | zero => intro _; simp [saltP, sumpS, brineS, outS]
  | succ j ih =>
    intro h
    have i := ih (by omega)
    have hs := hl j (by omega)
    have hwa := hs.1
    have hH := hc.2.1
    have ht1 := tkE_in hc hl ht (j := j) (by omega)
    have hps := pathSum_in hc hs (wK t j) (truth_rates ht (by omega)) (fallF c) (fall_in hc) (pathN (l j)) (Nat.le_refl _)
    have he : (tkT c (l j) (wK t j) (pathN (l j))).1 = (tkE c l t j).1 := rfl
    rw [he] at hps
    have m1 := mulnn (a := (l j).water) (b := pathSum c (l j) (wK t j) (fallF c) (pathN (l j))) (x := 1000000) (y := 900000) (by omega) (by omega) (by omega) (by omega)
    have m2 := mulnn (a := c.hold) (b := (l j).water * (tkE c l t j).2) (x := 300) (y := 900000000000) (by omega) (by omega) (by omega) (by omega)
    have m3 : (l j).water * (tkE c l t j).2 ≤ (l j).water * 900000 := Int.mul_le_mul_of_nonneg_left (by omega) (by omega)
    simp only [saltP, sumpS, brineS, outS]
    omega
end
variable (F d : Nat)
theorem s88g (a b : Int) (hF : 20 < F) (h1 : I64 a) (h3 : I64 (a + b)) :
    (E F (d + 3)).pf 88 [.row false 2 1 (fun u => List.take 1 (List.drop (Min.min u 1 * 1) [V.int .i64 a, V.int .i64 b]))] = some (.ret (.int .i64 (a + b))) := s88 F (d + 2) a b hF h1 h3
section
variable {c : Cav} (hc : CavOk c) {l : Sl Stg} (hL : l.len ≤ 300) (hl : ∀ i, i < l.len → StgOk c.slices.len (l.el i)) {t : Truth} (ht : TruthOk c l.len t) (hF : 400 < F)
include hc hL hl ht hF
theorem l44x3 (m0 jj : Nat) (hj : jj < l.len) (b0 : Bool) (y1 : Int) (y2 : Nat) (y3 y4 y5 y6 y7 y8 y9 y10 : Int) : ∀ j k fu, k + 1 + j = pathN (l.el jj) → j < fu →
    L44x3 (E F (d + 3)) F c l t m0 fu (fun _ => eStg (l.el jj)) (stepOf (l.el jj)) .i64 (pathAt (l.el jj) k) c.slices.len (sumpS c l.el t jj) (saltP c l.el t jj) (brineS c l.el t jj) (outS c l.el t jj) jj (l.el jj).water (l.el jj).into (l.el jj).out (l.el jj).blanket
      (c.hold - (tkT c (l.el jj) (wK t jj) k).1) .i64 ((l.el jj).water * pathSum c (l.el jj) (wK t jj) (opnF c) k) .i64 ((l.el jj).water * pathSum c (l.el jj) (wK t jj) (fallF c) k) .i64 ((l.el jj).water * (tkT c (l.el jj) (wK t jj) k).1) c.slices.len
      (fun i => eInt (volS c l.el t jj i + opnF c i * (takeRow c (l.el jj) (wK t jj) k i * (l.el jj).water))) jj b0 y1 y2 y3 y4 y5 y6 y7 y8 y9 y10 (fun _ => eStg (l.el jj))
    = L44x1 (E F (d + 3)) F c l t m0 ((jj + 1 : Nat) : Int) c.slices.len (sumpS c l.el t (jj + 1)) (saltP c l.el t (jj + 1)) (brineS c l.el t (jj + 1)) (outS c l.el t (jj + 1)) c.slices.len (fun i => eInt (volS c l.el t (jj + 1) i)) := by
  have hs := hl jj hj
  have hw := truth_rates ht hj
  have hp := pathN_le hs
  have hcl := hc.1
  have hH := hc.2.1
  have hwa := hs.1
  have htr := ht.2.2.2 jj (by rw [ht.2.1]; exact hj)
  have htl := ht.2.1
  have hsum := sums_in hc hl ht jj (by omega)
  have hsum' := sums_in hc hl ht (jj + 1) (by omega)
  have htr1 := htr.1
  intro j
  induction j with
  | zero =>
    intro k fu h hf
    obtain ⟨fu, rfl⟩ : ∃ k, fu = k + 1 := ⟨fu - 1, by omega⟩
    have hin := pathAt_in hs (k := k) (by omega)
    have hr := reach_in hc hs (take_reach hc hs (wK t jj) hw k (by omega)) (by omega)
    have hr' := reach_in hc hs (take_reach hc hs (wK t jj) hw (k + 1) (by omega)) (by omega)
    have hn := takeN_in hc hs (wK t jj) hw (k := k) (by omega)
    have hno : min ((t.rates.el jj).el (pathAt (l.el jj) k).toNat) (c.hold - (tkT c (l.el jj) (wK t jj) k).1) = takeN c (l.el jj) (wK t jj) k := rfl
    have hv := vol_bd hc hl ht (i := (pathAt (l.el jj) k).toNat) (by omega) jj (by omega)
    have ho : 0 ≤ (c.slices.el (pathAt (l.el jj) k).toNat).opn ∧ (c.slices.el (pathAt (l.el jj) k).toNat).opn ≤ 3000 := opn_in hc (pathAt (l.el jj) k).toNat (by omega)
    have hfa : 0 ≤ (c.slices.el (pathAt (l.el jj) k).toNat).fall ∧ (c.slices.el (pathAt (l.el jj) k).toNat).fall ≤ 3000 := fall_in hc (pathAt (l.el jj) k).toNat (by omega)
    have p1 := pathSum_in hc hs (wK t jj) hw (opnF c) (opn_in hc) k (by omega)
    have p2 := pathSum_in hc hs (wK t jj) hw (fallF c) (fall_in hc) k (by omega)
    have p1' := pathSum_in hc hs (wK t jj) hw (opnF c) (opn_in hc) (k + 1) (by omega)
    have p2' := pathSum_in hc hs (wK t jj) hw (fallF c) (fall_in hc) (k + 1) (by omega)
    have ht0 : takeRow c (l.el jj) (wK t jj) k (pathAt (l.el jj) k).toNat = 0 := takeRow_0 hs (wK t jj) k k (Nat.le_refl _) (by omega)
    have q1 := mulnn (a := takeN c (l.el jj) (wK t jj) k) (b := (l.el jj).water) (x := 300) (y := 1000000) hn.1 hn.2.1 (by omega) (by omega)
    have q2 := mulnn (a := takeN c (l.el jj) (wK t jj) k * (l.el jj).water) (b := (c.slices.el (pathAt (l.el jj) k).toNat).opn) (x := 300000000) (y := 3000) q1.1 (by omega) ho.1 ho.2
    have q3 := mulnn (a := takeN c (l.el jj) (wK t jj) k * (l.el jj).water) (b := (c.slices.el (pathAt (l.el jj) k).toNat).fall) (x := 300000000) (y := 3000) q1.1 (by omega) hfa.1 hfa.2
    have r1 := mulnn (a := (l.el jj).water) (b := (tkT c (l.el jj) (wK t jj) k).1) (x := 1000000) (y := 300) (by omega) (by omega) (by omega) (by omega)
    have r2 := mulnn (a := (l.el jj).water) (b := pathSum c (l.el jj) (wK t jj) (opnF c) k) (x := 1000000) (y := 900000) (by omega) (by omega) (by omega) (by omega)
    have r3 := mulnn (a := (l.el jj).water) (b := pathSum c (l.el jj) (wK t jj) (fallF c) k) (x := 1000000) (y := 900000) (by omega) (by omega) (by omega) (by omega)
    have es1 : (l.el jj).water * (tkT c (l.el jj) (wK t jj) k).1 + takeN c (l.el jj) (wK t jj) k * (l.el jj).water = (l.el jj).water * (tkT c (l.el jj) (wK t jj) (k + 1)).1 := by
      show _ = (l.el jj).water * ((tkT c (l.el jj) (wK t jj) k).1 + takeN c (l.el jj) (wK t jj) k)
      rw [Int.mul_add, Int.mul_comm (takeN c (l.el jj) (wK t jj) k)]
    have es2 : (l.el jj).water * pathSum c (l.el jj) (wK t jj) (opnF c) k + takeN c (l.el jj) (wK t jj) k * (l.el jj).water * (c.slices.el (pathAt (l.el jj) k).toNat).opn = (l.el jj).water * pathSum c (l.el jj) (wK t jj) (opnF c) (k + 1) := by
      show _ = (l.el jj).water * (pathSum c (l.el jj) (wK t jj) (opnF c) k + (c.slices.el (pathAt (l.el jj) k).toNat).opn * takeN c (l.el jj) (wK t jj) k)
      rw [Int.mul_add, Int.mul_comm (takeN c (l.el jj) (wK t jj) k), Int.mul_assoc, Int.mul_comm (takeN c (l.el jj) (wK t jj) k)]
    have es3 : (l.el jj).water * pathSum c (l.el jj) (wK t jj) (fallF c) k + takeN c (l.el jj) (wK t jj) k * (l.el jj).water * (c.slices.el (pathAt (l.el jj) k).toNat).fall = (l.el jj).water * pathSum c (l.el jj) (wK t jj) (fallF c) (k + 1) := by
      show _ = (l.el jj).water * (pathSum c (l.el jj) (wK t jj) (fallF c) k + (c.slices.el (pathAt (l.el jj) k).toNat).fall * takeN c (l.el jj) (wK t jj) k)
      rw [Int.mul_add, Int.mul_comm (takeN c (l.el jj) (wK t jj) k), Int.mul_assoc, Int.mul_comm (takeN c (l.el jj) (wK t jj) k)]
    have eu : updGet (fun i => eInt (volS c l.el t jj i + opnF c i * (takeRow c (l.el jj) (wK t jj) k i * (l.el jj).water))) (pathAt (l.el jj) k).toNat 0 [V.int .i64 (volS c l.el t jj (pathAt (l.el jj) k).toNat + takeN c (l.el jj) (wK t jj) k * (l.el jj).water * (c.slices.el (pathAt (l.el jj) k).toNat).opn)] =
        fun i => eInt (volS c l.el t jj i + opnF c i * (takeRow c (l.el jj) (wK t jj) (k + 1) i * (l.el jj).water)) := by
      refine (upd_int _ _ _).trans ?_
      funext i
      refine congrArg eInt ?_
      by_cases hi : i = (pathAt (l.el jj) k).toNat
      · rw [if_pos hi, hi]
        simp only [takeRow, if_pos]
        rw [Int.mul_comm (takeN c (l.el jj) (wK t jj) k * (l.el jj).water)]
      · rw [if_neg hi]
        simp only [takeRow, if_neg hi]
    have hk' : k = pathN (l.el jj) - 1 := by omega
    have e1 : pathAt (l.el jj) k = (l.el jj).out := by rw [hk', pathAt_last]
    have e2 : k + 1 = pathN (l.el jj) := by omega
    have ebif : (pathAt (l.el jj) k != (l.el jj).out) = false := by simp [e1]
    rw [L44x3s]
    have hA : decide ((0 : Int) ≤ (jj : Int)) = true := decide_eq_true (Int.natCast_nonneg _)
    have hB : decide ((jj : Int) < (t.rates.len : Int)) = true := decide_eq_true (by rw [htl]; exact Int.ofNat_lt.2 hj)
    have hC : decide ((0 : Int) ≤ pathAt (l.el jj) k) = true := decide_eq_true hin.1
    have hD : decide (pathAt (l.el jj) k < ((t.rates.el jj).len : Int)) = true := decide_eq_true (by rw [htr1]; exact hin.2)
    have hE : decide (pathAt (l.el jj) k < (c.slices.len : Int)) = true := decide_eq_true hin.2
    have w1 : IntKind.i64.wrap (takeN c (l.el jj) (wK t jj) k * (l.el jj).water) = takeN c (l.el jj) (wK t jj) k * (l.el jj).water := wr (by omega)
    have w2 : IntKind.i64.wrap (takeN c (l.el jj) (wK t jj) k * (l.el jj).water * (c.slices.el (pathAt (l.el jj) k).toNat).opn) = takeN c (l.el jj) (wK t jj) k * (l.el jj).water * (c.slices.el (pathAt (l.el jj) k).toNat).opn := wr (by omega)
    have w3 : IntKind.i64.wrap (takeN c (l.el jj) (wK t jj) k * (l.el jj).water * (c.slices.el (pathAt (l.el jj) k).toNat).fall) = takeN c (l.el jj) (wK t jj) k * (l.el jj).water * (c.slices.el (pathAt (l.el jj) k).toNat).fall := wr (by omega)
    have w4 : IntKind.i64.wrap (volS c l.el t jj (pathAt (l.el jj) k).toNat + takeN c (l.el jj) (wK t jj) k * (l.el jj).water * (c.slices.el (pathAt (l.el jj) k).toNat).opn) = volS c l.el t jj (pathAt (l.el jj) k).toNat + takeN c (l.el jj) (wK t jj) k * (l.el jj).water * (c.slices.el (pathAt (l.el jj) k).toNat).opn := wr (by omega)
    have e88a := s88g F d ((l.el jj).water * (tkT c (l.el jj) (wK t jj) k).1) (takeN c (l.el jj) (wK t jj) k * (l.el jj).water) (by omega) (by omega) (by omega)
    have e88b := s88g F d ((l.el jj).water * pathSum c (l.el jj) (wK t jj) (opnF c) k) (takeN c (l.el jj) (wK t jj) k * (l.el jj).water * (c.slices.el (pathAt (l.el jj) k).toNat).opn) (by omega) (by omega) (by omega)
    have e88c := s88g F d ((l.el jj).water * pathSum c (l.el jj) (wK t jj) (fallF c) k) (takeN c (l.el jj) (wK t jj) k * (l.el jj).water * (c.slices.el (pathAt (l.el jj) k).toNat).fall) (by omega) (by omega) (by omega)
    simp only [hA, hB, hC, hD, hE, decide_true, pT, Int.toNat_natCast, mnE, hno, w1, w2, w3, e88a, e88b, e88c, tkOut_ret, tkInt_i, tkCons_c, List.drop, ht0, Int.zero_mul, Int.mul_zero, Int.add_zero, w4]
    rw [es1, es2, es3, eu]
    rw [ebif, pF, e2]
    rw [e2] at p1' p2' hr'
    have hT := tkE_in hc hl ht hj
    have eT1 : (tkT c (l.el jj) (wK t jj) (pathN (l.el jj))).1 = (tkE c l.el t jj).1 := rfl
    have eT2 : (tkT c (l.el jj) (wK t jj) (pathN (l.el jj))).2 = (tkE c l.el t jj).2 := rfl
    have eq3 : (l.el jj).water * pathSum c (l.el jj) (wK t jj) (opnF c) (pathN (l.el jj)) - (l.el jj).water * pathSum c (l.el jj) (wK t jj) (fallF c) (pathN (l.el jj)) = (l.el jj).water * (tkE c l.el t jj).2 := by
      rw [← Int.mul_sub, pathSum_sub]; rfl
    rw [eT1] at p1' p2' hr' ⊢
    have f2 := mulnn (a := (l.el jj).water) (b := pathSum c (l.el jj) (wK t jj) (opnF c) (pathN (l.el jj))) (x := 1000000) (y := 900000) (by omega) (by omega) (by omega) (by omega)
    have f3 := mulnn (a := (l.el jj).water) (b := pathSum c (l.el jj) (wK t jj) (fallF c) (pathN (l.el jj))) (x := 1000000) (y := 900000) (by omega) (by omega) (by omega) (by omega)
    have f4 := mulnn (a := c.hold) (b := (l.el jj).water * (tkE c l.el t jj).2) (x := 300) (y := 900000000000) (by omega) (by omega) (by omega) (by omega)
    clear q1 q2 q3 r1 r2 r3 es1 es2 es3 eu w1 w2 w3 w4 e88a e88b e88c hA hB hC hD hE hno ht0 p1 p2 hv ho hfa hn hr
    simp only [sumpS, saltP, brineS, outS] at hsum'
    generalize (l.el jj).water * pathSum c (l.el jj) (wK t jj) (opnF c) (pathN (l.el jj)) = Rm at *
    generalize hFl : (l.el jj).water * pathSum c (l.el jj) (wK t jj) (fallF c) (pathN (l.el jj)) = Fl at *
    rw [wr (n := Rm - Fl) (by omega), eq3]
    have eb : 1000000 * (l.el jj).water - Rm + Fl = 1000000 * (l.el jj).water - (l.el jj).water * (tkE c l.el t jj).2 := by omega
    rw [wr (n := 1000000 * (l.el jj).water) (by omega), wr (n := 1000000 * (l.el jj).water - Rm) (by omega), eb, wr (n := 1000000 * (l.el jj).water - (l.el jj).water * (tkE c l.el t jj).2) (by omega)]
    rw [wr (n := 1000000 * ((l.el jj).water * (tkE c l.el t jj).1)) (by omega), wr (n := c.hold * ((l.el jj).water * (tkE c l.el t jj).2)) (by omega), wr (n := 1000000 * ((l.el jj).water * (tkE c l.el t jj).1) - c.hold * ((l.el jj).water * (tkE c l.el t jj).2)) (by omega)]
    rw [wr (n := sumpS c l.el t jj + Fl) (by omega), wr (n := saltP c l.el t jj + (l.el jj).water * (tkE c l.el t jj).1) (by omega), wr (n := brineS c l.el t jj + (1000000 * (l.el jj).water - (l.el jj).water * (tkE c l.el t jj).2)) (by omega), wr (n := outS c l.el t jj + (1000000 * ((l.el jj).water * (tkE c l.el t jj).1) - c.hold * ((l.el jj).water * (tkE c l.el t jj).2))) (by omega), wrS (by omega)]
    rw [← hFl]
    rfl
  | succ j ih =>
    intro k fu h hf
    obtain ⟨fu, rfl⟩ : ∃ k, fu = k + 1 := ⟨fu - 1, by omega⟩
    have hin := pathAt_in hs (k := k) (by omega)
    have hr := reach_in hc hs (take_reach hc hs (wK t jj) hw k (by omega)) (by omega)
    have hr' := reach_in hc hs (take_reach hc hs (wK t jj) hw (k + 1) (by omega)) (by omega)
    have hn := takeN_in hc hs (wK t jj) hw (k := k) (by omega)
    have hno : min ((t.rates.el jj).el (pathAt (l.el jj) k).toNat) (c.hold - (tkT c (l.el jj) (wK t jj) k).1) = takeN c (l.el jj) (wK t jj) k := rfl
    have hv := vol_bd hc hl ht (i := (pathAt (l.el jj) k).toNat) (by omega) jj (by omega)
    have ho : 0 ≤ (c.slices.el (pathAt (l.el jj) k).toNat).opn ∧ (c.slices.el (pathAt (l.el jj) k).toNat).opn ≤ 3000 := opn_in hc (pathAt (l.el jj) k).toNat (by omega)
    have hfa : 0 ≤ (c.slices.el (pathAt (l.el jj) k).toNat).fall ∧ (c.slices.el (pathAt (l.el jj) k).toNat).fall ≤ 3000 := fall_in hc (pathAt (l.el jj) k).toNat (by omega)
    have p1 := pathSum_in hc hs (wK t jj) hw (opnF c) (opn_in hc) k (by omega)
    have p2 := pathSum_in hc hs (wK t jj) hw (fallF c) (fall_in hc) k (by omega)
    have p1' := pathSum_in hc hs (wK t jj) hw (opnF c) (opn_in hc) (k + 1) (by omega)
    have p2' := pathSum_in hc hs (wK t jj) hw (fallF c) (fall_in hc) (k + 1) (by omega)
    have ht0 : takeRow c (l.el jj) (wK t jj) k (pathAt (l.el jj) k).toNat = 0 := takeRow_0 hs (wK t jj) k k (Nat.le_refl _) (by omega)
    have q1 := mulnn (a := takeN c (l.el jj) (wK t jj) k) (b := (l.el jj).water) (x := 300) (y := 1000000) hn.1 hn.2.1 (by omega) (by omega)
    have q2 := mulnn (a := takeN c (l.el jj) (wK t jj) k * (l.el jj).water) (b := (c.slices.el (pathAt (l.el jj) k).toNat).opn) (x := 300000000) (y := 3000) q1.1 (by omega) ho.1 ho.2
    have q3 := mulnn (a := takeN c (l.el jj) (wK t jj) k * (l.el jj).water) (b := (c.slices.el (pathAt (l.el jj) k).toNat).fall) (x := 300000000) (y := 3000) q1.1 (by omega) hfa.1 hfa.2
    have r1 := mulnn (a := (l.el jj).water) (b := (tkT c (l.el jj) (wK t jj) k).1) (x := 1000000) (y := 300) (by omega) (by omega) (by omega) (by omega)
    have r2 := mulnn (a := (l.el jj).water) (b := pathSum c (l.el jj) (wK t jj) (opnF c) k) (x := 1000000) (y := 900000) (by omega) (by omega) (by omega) (by omega)
    have r3 := mulnn (a := (l.el jj).water) (b := pathSum c (l.el jj) (wK t jj) (fallF c) k) (x := 1000000) (y := 900000) (by omega) (by omega) (by omega) (by omega)
    have es1 : (l.el jj).water * (tkT c (l.el jj) (wK t jj) k).1 + takeN c (l.el jj) (wK t jj) k * (l.el jj).water = (l.el jj).water * (tkT c (l.el jj) (wK t jj) (k + 1)).1 := by
      show _ = (l.el jj).water * ((tkT c (l.el jj) (wK t jj) k).1 + takeN c (l.el jj) (wK t jj) k)
      rw [Int.mul_add, Int.mul_comm (takeN c (l.el jj) (wK t jj) k)]
    have es2 : (l.el jj).water * pathSum c (l.el jj) (wK t jj) (opnF c) k + takeN c (l.el jj) (wK t jj) k * (l.el jj).water * (c.slices.el (pathAt (l.el jj) k).toNat).opn = (l.el jj).water * pathSum c (l.el jj) (wK t jj) (opnF c) (k + 1) := by
      show _ = (l.el jj).water * (pathSum c (l.el jj) (wK t jj) (opnF c) k + (c.slices.el (pathAt (l.el jj) k).toNat).opn * takeN c (l.el jj) (wK t jj) k)
      rw [Int.mul_add, Int.mul_comm (takeN c (l.el jj) (wK t jj) k), Int.mul_assoc, Int.mul_comm (takeN c (l.el jj) (wK t jj) k)]
    have es3 : (l.el jj).water * pathSum c (l.el jj) (wK t jj) (fallF c) k + takeN c (l.el jj) (wK t jj) k * (l.el jj).water * (c.slices.el (pathAt (l.el jj) k).toNat).fall = (l.el jj).water * pathSum c (l.el jj) (wK t jj) (fallF c) (k + 1) := by
      show _ = (l.el jj).water * (pathSum c (l.el jj) (wK t jj) (fallF c) k + (c.slices.el (pathAt (l.el jj) k).toNat).fall * takeN c (l.el jj) (wK t jj) k)
      rw [Int.mul_add, Int.mul_comm (takeN c (l.el jj) (wK t jj) k), Int.mul_assoc, Int.mul_comm (takeN c (l.el jj) (wK t jj) k)]
    have eu : updGet (fun i => eInt (volS c l.el t jj i + opnF c i * (takeRow c (l.el jj) (wK t jj) k i * (l.el jj).water))) (pathAt (l.el jj) k).toNat 0 [V.int .i64 (volS c l.el t jj (pathAt (l.el jj) k).toNat + takeN c (l.el jj) (wK t jj) k * (l.el jj).water * (c.slices.el (pathAt (l.el jj) k).toNat).opn)] =
        fun i => eInt (volS c l.el t jj i + opnF c i * (takeRow c (l.el jj) (wK t jj) (k + 1) i * (l.el jj).water)) := by
      refine (upd_int _ _ _).trans ?_
      funext i
      refine congrArg eInt ?_
      by_cases hi : i = (pathAt (l.el jj) k).toNat
      · rw [if_pos hi, hi]
        simp only [takeRow, if_pos]
        rw [Int.mul_comm (takeN c (l.el jj) (wK t jj) k * (l.el jj).water)]
      · rw [if_neg hi]
        simp only [takeRow, if_neg hi]
    have hne : (pathAt (l.el jj) k != (l.el jj).out) = true := by
      have := pathAt_ne (l.el jj) (k := k) (by omega)
      simpa using this
    have hS : pathAt (l.el jj) k + stepOf (l.el jj) = pathAt (l.el jj) (k + 1) := by rw [← pathAt_S]
    have hin2 := pathAt_in hs (k := k + 1) (by omega)
    rw [L44x3s]
    have hA : decide ((0 : Int) ≤ (jj : Int)) = true := decide_eq_true (Int.natCast_nonneg _)
    have hB : decide ((jj : Int) < (t.rates.len : Int)) = true := decide_eq_true (by rw [htl]; exact Int.ofNat_lt.2 hj)
    have hC : decide ((0 : Int) ≤ pathAt (l.el jj) k) = true := decide_eq_true hin.1
    have hD : decide (pathAt (l.el jj) k < ((t.rates.el jj).len : Int)) = true := decide_eq_true (by rw [htr1]; exact hin.2)
    have hE : decide (pathAt (l.el jj) k < (c.slices.len : Int)) = true := decide_eq_true hin.2
    have w1 : IntKind.i64.wrap (takeN c (l.el jj) (wK t jj) k * (l.el jj).water) = takeN c (l.el jj) (wK t jj) k * (l.el jj).water := wr (by omega)
    have w2 : IntKind.i64.wrap (takeN c (l.el jj) (wK t jj) k * (l.el jj).water * (c.slices.el (pathAt (l.el jj) k).toNat).opn) = takeN c (l.el jj) (wK t jj) k * (l.el jj).water * (c.slices.el (pathAt (l.el jj) k).toNat).opn := wr (by omega)
    have w3 : IntKind.i64.wrap (takeN c (l.el jj) (wK t jj) k * (l.el jj).water * (c.slices.el (pathAt (l.el jj) k).toNat).fall) = takeN c (l.el jj) (wK t jj) k * (l.el jj).water * (c.slices.el (pathAt (l.el jj) k).toNat).fall := wr (by omega)
    have w4 : IntKind.i64.wrap (volS c l.el t jj (pathAt (l.el jj) k).toNat + takeN c (l.el jj) (wK t jj) k * (l.el jj).water * (c.slices.el (pathAt (l.el jj) k).toNat).opn) = volS c l.el t jj (pathAt (l.el jj) k).toNat + takeN c (l.el jj) (wK t jj) k * (l.el jj).water * (c.slices.el (pathAt (l.el jj) k).toNat).opn := wr (by omega)
    have e88a := s88g F d ((l.el jj).water * (tkT c (l.el jj) (wK t jj) k).1) (takeN c (l.el jj) (wK t jj) k * (l.el jj).water) (by omega) (by omega) (by omega)
    have e88b := s88g F d ((l.el jj).water * pathSum c (l.el jj) (wK t jj) (opnF c) k) (takeN c (l.el jj) (wK t jj) k * (l.el jj).water * (c.slices.el (pathAt (l.el jj) k).toNat).opn) (by omega) (by omega) (by omega)
    have e88c := s88g F d ((l.el jj).water * pathSum c (l.el jj) (wK t jj) (fallF c) k) (takeN c (l.el jj) (wK t jj) k * (l.el jj).water * (c.slices.el (pathAt (l.el jj) k).toNat).fall) (by omega) (by omega) (by omega)
    simp only [hA, hB, hC, hD, hE, decide_true, pT, Int.toNat_natCast, mnE, hno, w1, w2, w3, e88a, e88b, e88c, tkOut_ret, tkInt_i, tkCons_c, List.drop, ht0, Int.zero_mul, Int.mul_zero, Int.add_zero, w4]
    rw [es1, es2, es3, eu]
    rw [hne, pT, hS, wr (n := pathAt (l.el jj) (k + 1)) (by omega), wr (n := c.hold - (tkT c (l.el jj) (wK t jj) k).1 - takeN c (l.el jj) (wK t jj) k) (by omega)]
    rw [show c.hold - (tkT c (l.el jj) (wK t jj) k).1 - takeN c (l.el jj) (wK t jj) k = c.hold - (tkT c (l.el jj) (wK t jj) (k + 1)).1 by
      show _ = c.hold - ((tkT c (l.el jj) (wK t jj) k).1 + takeN c (l.el jj) (wK t jj) k); omega]
    exact ih (k + 1) fu (by omega) (by omega)
theorem l44x1 : ∀ j k fu, k + j = l.len → j < fu →
    L44x1 (E F (d + 3)) F c l t fu k c.slices.len (sumpS c l.el t k) (saltP c l.el t k) (brineS c l.el t k) (outS c l.el t k) c.slices.len (fun i => eInt (volS c l.el t k i)) = some (.ret (.tup [.agg (endV c l.el t l.len), .int .i64 0])) := by
  intro j
  induction j with
  | zero =>
    intro k fu h hf
    obtain ⟨fu, rfl⟩ : ∃ k, fu = k + 1 := ⟨fu - 1, by omega⟩
    have hk : k = l.len := by omega
    subst hk
    rw [L44x1s, decide_eq_false (by omega), pF]
    rfl
  | succ j ih =>
    intro k fu h hf
    obtain ⟨fu, rfl⟩ : ∃ k, fu = k + 1 := ⟨fu - 1, by omega⟩
    have hs := hl k (by omega)
    have hp := pathN_le hs
    have hp1 := pathN_pos (l.el k)
    have hcl := hc.1
    have hH := hc.2.1
    have e := fun b0 y1 y2 y3 y4 y5 y6 y7 y8 y9 y10 => l44x3 F d hc hL hl ht hF fu k (by omega) b0 y1 y2 y3 y4 y5 y6 y7 y8 y9 y10 (pathN (l.el k) - 1) 0 F (by omega) (by omega)
    have e2 := ih (k + 1) fu (by omega) (by omega)
    have ev : (fun i => eInt (volS c l.el t k i + opnF c i * (takeRow c (l.el k) (wK t k) 0 i * (l.el k).water))) = fun i => eInt (volS c l.el t k i) := by
      funext i
      simp only [takeRow, Int.zero_mul, Int.mul_zero, Int.add_zero]
    simp only [ev, tkT, pathSum, Int.mul_zero, Int.sub_zero, pathAt_0] at e
    have q68 : (E F (d + 3)).pf 68 [.agg (eStg (l.el k))] = _ := s68 F (d + 2) (l.el k)
    rw [L44x1s]
    simp (disch := omega) only [decide_eq_true (show (k : Int) < (l.len : Int) by omega), decide_eq_true (show (0 : Int) ≤ (k : Int) by omega), pT, Int.toNat_natCast, q68, tkOut_ret, tkFn_f, tkNil_n, tkCons_c, tkPtr_p, tkInt_i, Nat.beq_refl, Bool.and_self, decide_true]
    unfold stepOf at e
    by_cases hd : (l.el k).out < (l.el k).into
    · simp only [if_pos hd] at e
      rw [decide_eq_true hd, pT]
      exact (e _ _ _ _ _ _ _ _ _ _ _).trans e2
    · simp only [if_neg hd] at e
      rw [decide_eq_false hd, pF]
      exact (e _ _ _ _ _ _ _ _ _ _ _).trans e2
end
theorem s79w (w : Sl Int) (hnl : w.nl = false) (h0 : 0 < w.len) (h1 : w.len ≤ 300) : (E F (d + 1)).hv 79 [sl eInt 1 w] [] = some (.ret (.osl 0 0 w.len), [.arr 3 1 w.len (fun i => eInt (w.el i)) true]) := by
  rw [E_hv, t79, hnl]
  simp only [pF, Nat.zero_add]
  rw [show (w.len == 0) = false by rw [beq_eq_false_iff_ne]; omega, pF, decide_eq_true (by omega), pT]
  rfl
theorem s44 (c : Cav) (l : Sl Stg) (t : Truth) (hC : c.slices.len < Big) (hCF : c.slices.len < F) (hB : l.len < Big) (hLF : l.len < F) (hT : t.rates.len < Big) (hTF : t.rates.len < F) (hnl : t.vols.nl = true → t.vols.len = 0) (hF : 400 < F) :
    (E F (d + 8)).pf 44 [.agg (eCav c), sl eStg 4 l, .agg (eTruth t)] = some (.ret (.tup (if errP c l true = 0 ∧ TruthOk c l.len t then [.agg (endV c l.el t l.len), .int .i64 0] else [.agg [.row true 0 0 (fun _ => []), .int .i64 0, .int .i64 0, .int .i64 0, .int .i64 0], .int .i64 (if errP c l true = 0 then 2 else errP c l true)]))) := by
  have q87 : (E F (d + 7)).pf 87 [.agg (eCav c), sl eStg 4 l, .agg (eTruth t)] = _ := s87 F (d + 5) c l t hC hT hCF hTF
  rw [E_pf, t44]
  simp only [s57e F d c l hC hCF hB hLF, tkOut_ret, tkInt_i, decide_true, pT]
  by_cases h0 : errP c l true = 0
  · obtain ⟨h8, hc, hl, _⟩ := errP_0.1 h0
    rw [h0, show ((0 : Int) != 0) = false from rfl, pF, q87]
    simp only [tkOut_ret, tkBool_b]
    by_cases ht : TruthOk c l.len t
    · rw [decide_eq_true ht, Bool.not_true, pF, if_pos ⟨trivial, ht⟩]
      have hcl := hc.1
      have hvl := ht.1
      have hn : t.vols.nl = false := by
        cases h : t.vols.nl with
        | false => rfl
        | true => have := hnl h; omega
      have q79 : (E F (d + 7)).hv 79 [sl eInt 1 t.vols] [] = _ := s79w F (d + 6) t.vols hn (by omega) (by omega)
      simp only [q79, tkHv_h, tkSl_o, Nat.beq_refl, Bool.and_self, beq_self_eq_true, pT, tkSCons_c, tkSNil_n, tkArr_a]
      rw [hvl]
      exact l44x1 F (d + 4) hc (by omega) hl ht hF l.len 0 F (by omega) (by omega)
    · rw [decide_eq_false ht, Bool.not_false, pT, if_neg (fun h => ht h.2), if_pos trivial]
  · rw [show (errP c l true != 0) = true by simpa using h0, pT, if_neg (fun h => h0 h.1), if_neg h0]
end Go.Sim.Le

/-
  Leaching: what is true behind some stages: the document's.
-/
namespace Go.Sim.Le
open Go.Proofs
theorem takeRow_out {c : Cav} {s : Stg} (hs : StgOk c.slices.len s) (w : Nat → Int) : ∀ k, k ≤ pathN s → ∀ u, c.slices.len ≤ u → takeRow c s w k u = 0 := by
  intro k
  induction k with
  | zero => intro _ u _; rfl
  | succ k ih =>
    intro h u hu
    have hin := pathAt_in hs (k := k) (by omega)
    simp only [takeRow]
    rw [if_neg (by omega)]
    exact ih (by omega) u hu
variable (F d : Nat)
section
variable {c : Cav} (hc : CavOk c) {l : Sl Stg} (hL : l.len ≤ 300) (hl : ∀ i, i < l.len → StgOk c.slices.len (l.el i)) {t : Truth} (ht : TruthOk c l.len t) (hF : 400 < F)
include hc hL hl ht hF
theorem l48x3 (m0 jj : Nat) (hj : jj < l.len) : ∀ j i fu, i + j = c.slices.len → j < fu →
    L48x3 (E F (d + 3)) F c l t m0 fu jj false c.slices.len 1 (fun u => eInt (takeRow c (l.el jj) (wK t jj) (pathN (l.el jj)) u)) ((l.el jj).water * sumF (takeRow c (l.el jj) (wK t jj) (pathN (l.el jj))) i) ((l.el jj).water * sumF (fun u => (opnF c u - fallF c u) * takeRow c (l.el jj) (wK t jj) (pathN (l.el jj)) u) i) i
      (sumpS c l.el t jj + (l.el jj).water * sumF (fun u => fallF c u * takeRow c (l.el jj) (wK t jj) (pathN (l.el jj)) u) i) (saltP c l.el t jj) (brineS c l.el t jj) (outS c l.el t jj) (fun u => eInt (volS c l.el t jj u + if u < i then opnF c u * (takeRow c (l.el jj) (wK t jj) (pathN (l.el jj)) u * (l.el jj).water) else 0))
    = L48x1 (E F (d + 3)) F c l t m0 ((jj + 1 : Nat) : Int) (sumpS c l.el t (jj + 1)) (saltP c l.el t (jj + 1)) (brineS c l.el t (jj + 1)) (outS c l.el t (jj + 1)) (fun u => eInt (volS c l.el t (jj + 1) u)) := by
  have hs := hl jj hj
  have hw := truth_rates ht hj
  have hp := pathN_le hs
  have hcl := hc.1
  have hH := hc.2.1
  have hwa := hs.1
  have hvl := ht.1
  have hsum := sums_in hc hl ht jj (by omega)
  have hsum' := sums_in hc hl ht (jj + 1) (by omega)
  have htk := takeRow_in hc hs (wK t jj) hw (pathN (l.el jj)) (Nat.le_refl _)
  have hS0 : ∀ i, i ≤ c.slices.len → 0 ≤ sumF (takeRow c (l.el jj) (wK t jj) (pathN (l.el jj))) i ∧ sumF (takeRow c (l.el jj) (wK t jj) (pathN (l.el jj))) i ≤ 3000 := fun i hi => by
    have := sumF_in (f := takeRow c (l.el jj) (wK t jj) (pathN (l.el jj))) (a := 0) (b := 300) i fun u _ => htk u
    omega
  have hterm : ∀ (g : Nat → Int), (∀ u, u < c.slices.len → 0 ≤ g u ∧ g u ≤ 3000) → ∀ i, i ≤ c.slices.len → 0 ≤ sumF (fun u => g u * takeRow c (l.el jj) (wK t jj) (pathN (l.el jj)) u) i ∧ sumF (fun u => g u * takeRow c (l.el jj) (wK t jj) (pathN (l.el jj)) u) i ≤ 9000000 := fun g hg i hi => by
    have := sumF_in (f := fun u => g u * takeRow c (l.el jj) (wK t jj) (pathN (l.el jj)) u) (a := 0) (b := 900000) i fun u hu => by
      have := mulnn (a := g u) (b := takeRow c (l.el jj) (wK t jj) (pathN (l.el jj)) u) (x := 3000) (y := 300) (hg u (by omega)).1 (hg u (by omega)).2 (htk u).1 (htk u).2
      exact ⟨this.1, by omega⟩
    omega
  have hof : ∀ u, u < c.slices.len → 0 ≤ opnF c u - fallF c u ∧ opnF c u - fallF c u ≤ 3000 := fun u hu => by
    have h1 : 1000 ≤ (c.slices.el u).opn ∧ (c.slices.el u).opn ≤ 3000 := (hc.2.2.2 u hu).2.1
    have h2 : 0 ≤ (c.slices.el u).fall ∧ (c.slices.el u).fall ≤ (c.slices.el u).opn - 1 := (hc.2.2.2 u hu).2.2.1
    show 0 ≤ (c.slices.el u).opn - (c.slices.el u).fall ∧ (c.slices.el u).opn - (c.slices.el u).fall ≤ 3000
    omega
  intro j
  induction j with
  | zero =>
    intro i fu h hf
    obtain ⟨fu, rfl⟩ : ∃ k, fu = k + 1 := ⟨fu - 1, by omega⟩
    have hi : i = c.slices.len := by omega
    subst hi
    have e1 := take_sum hs (wK t jj) (fun _ => 1) (c := c) (pathN (l.el jj)) (Nat.le_refl _)
    simp only [Int.one_mul] at e1
    rw [pathSum_1] at e1
    have e2 := take_sum hs (wK t jj) (fun u => opnF c u - fallF c u) (c := c) (pathN (l.el jj)) (Nat.le_refl _)
    rw [show pathSum c (l.el jj) (wK t jj) (fun u => opnF c u - fallF c u) (pathN (l.el jj)) = (tkT c (l.el jj) (wK t jj) (pathN (l.el jj))).2 from pathSum_o (wK t jj) _] at e2
    have e3 := take_sum hs (wK t jj) (fallF c) (c := c) (pathN (l.el jj)) (Nat.le_refl _)
    have ev : (fun u => eInt (volS c l.el t jj u + if u < c.slices.len then opnF c u * (takeRow c (l.el jj) (wK t jj) (pathN (l.el jj)) u * (l.el jj).water) else 0)) = fun u => eInt (volS c l.el t (jj + 1) u) := by
      funext u
      refine congrArg eInt ?_
      simp only [volS]
      by_cases hu : u < c.slices.len
      · rw [if_pos hu]
      · rw [if_neg hu, takeRow_out hs (wK t jj) (pathN (l.el jj)) (Nat.le_refl _) u (by omega), Int.zero_mul, Int.mul_zero]
    have hT := tkE_in hc hl ht hj
    have f4 := mulnn (a := c.hold) (b := (l.el jj).water * (tkE c l.el t jj).2) (x := 300) (y := 900000000000) (by omega) (by omega) (by omega) (by omega)
    simp only [sumpS, saltP, brineS, outS] at hsum'
    rw [L48x3s, decide_eq_false (by omega), pF, decide_eq_true (by omega), pT, decide_eq_true (by omega), pT]
    rw [show (takeRow c (l.el jj) (wK t jj) (pathN (l.el jj))) = fun i => takeRow c (l.el jj) (wK t jj) (pathN (l.el jj)) i from rfl, e1, e2, e3, ev]
    rw [show (tkT c (l.el jj) (wK t jj) (pathN (l.el jj))).1 = (tkE c l.el t jj).1 from rfl, show (tkT c (l.el jj) (wK t jj) (pathN (l.el jj))).2 = (tkE c l.el t jj).2 from rfl]
    have hwB : IntKind.i64.wrap (brineS c l.el t jj + 1000000 * (l.el jj).water) = brineS c l.el t jj + 1000000 * (l.el jj).water := wr (by omega)
    have hwO : IntKind.i64.wrap (outS c l.el t jj + 1000000 * ((l.el jj).water * (tkE c l.el t jj).1)) = outS c l.el t jj + 1000000 * ((l.el jj).water * (tkE c l.el t jj).1) := wr (by omega)
    rw [Int.toNat_natCast]
    rw [wr (n := saltP c l.el t jj + (l.el jj).water * (tkE c l.el t jj).1) (by omega), wr (n := 1000000 * (l.el jj).water) (by omega), hwB, wr (n := brineS c l.el t jj + 1000000 * (l.el jj).water - (l.el jj).water * (tkE c l.el t jj).2) (by omega)]
    rw [wr (n := 1000000 * ((l.el jj).water * (tkE c l.el t jj).1)) (by omega), hwO, wr (n := c.hold * ((l.el jj).water * (tkE c l.el t jj).2)) (by omega), wr (n := outS c l.el t jj + 1000000 * ((l.el jj).water * (tkE c l.el t jj).1) - c.hold * ((l.el jj).water * (tkE c l.el t jj).2)) (by omega), wrS (by omega)]
    rw [Int.add_sub_assoc, Int.add_sub_assoc]
    rfl
  | succ j ih =>
    intro i fu h hf
    obtain ⟨fu, rfl⟩ : ∃ k, fu = k + 1 := ⟨fu - 1, by omega⟩
    have hi := htk i
    have ho : 0 ≤ (c.slices.el i).opn ∧ (c.slices.el i).opn ≤ 3000 := opn_in hc i (by omega)
    have hfa : 0 ≤ (c.slices.el i).fall ∧ (c.slices.el i).fall ≤ 3000 := fall_in hc i (by omega)
    have hof' : 0 ≤ (c.slices.el i).opn - (c.slices.el i).fall ∧ (c.slices.el i).opn - (c.slices.el i).fall ≤ 3000 := hof i (by omega)
    have hv := vol_bd hc hl ht (i := i) (by omega) jj (by omega)
    have q1 := mulnn (a := takeRow c (l.el jj) (wK t jj) (pathN (l.el jj)) i) (b := (l.el jj).water) (x := 300) (y := 1000000) hi.1 hi.2 (by omega) (by omega)
    have q2 := mulnn (a := (c.slices.el i).opn - (c.slices.el i).fall) (b := takeRow c (l.el jj) (wK t jj) (pathN (l.el jj)) i * (l.el jj).water) (x := 3000) (y := 300000000) hof'.1 hof'.2 q1.1 (by omega)
    have q3 := mulnn (a := (c.slices.el i).fall) (b := takeRow c (l.el jj) (wK t jj) (pathN (l.el jj)) i * (l.el jj).water) (x := 3000) (y := 300000000) hfa.1 hfa.2 q1.1 (by omega)
    have q4 := mulnn (a := (c.slices.el i).opn) (b := takeRow c (l.el jj) (wK t jj) (pathN (l.el jj)) i * (l.el jj).water) (x := 3000) (y := 300000000) ho.1 ho.2 q1.1 (by omega)
    have g1 := hS0 i (by omega)
    have g2 := hterm (fun u => opnF c u - fallF c u) hof i (by omega)
    have g3 := hterm (fallF c) (fall_in hc) i (by omega)
    have k1 := mulnn (a := (l.el jj).water) (b := sumF (takeRow c (l.el jj) (wK t jj) (pathN (l.el jj))) i) (x := 1000000) (y := 3000) (by omega) (by omega) g1.1 g1.2
    have k2 := mulnn (a := (l.el jj).water) (b := sumF (fun u => (opnF c u - fallF c u) * takeRow c (l.el jj) (wK t jj) (pathN (l.el jj)) u) i) (x := 1000000) (y := 9000000) (by omega) (by omega) g2.1 g2.2
    have k3 := mulnn (a := (l.el jj).water) (b := sumF (fun u => fallF c u * takeRow c (l.el jj) (wK t jj) (pathN (l.el jj)) u) i) (x := 1000000) (y := 9000000) (by omega) (by omega) g3.1 g3.2
    have e := ih (i + 1) fu (by omega) (by omega)
    simp only [sumF, Int.mul_add] at e
    have eu : updGet (fun u => eInt (volS c l.el t jj u + if u < i then opnF c u * (takeRow c (l.el jj) (wK t jj) (pathN (l.el jj)) u * (l.el jj).water) else 0)) i 0 [V.int .i64 (volS c l.el t jj i + (c.slices.el i).opn * (takeRow c (l.el jj) (wK t jj) (pathN (l.el jj)) i * (l.el jj).water))] =
        fun u => eInt (volS c l.el t jj u + if u < i + 1 then opnF c u * (takeRow c (l.el jj) (wK t jj) (pathN (l.el jj)) u * (l.el jj).water) else 0) := by
      refine (upd_int _ _ _).trans ?_
      funext u
      refine congrArg eInt ?_
      by_cases hu : u = i
      · rw [if_pos hu, hu, if_pos (by omega)]
      · rw [if_neg hu]
        by_cases hu2 : u < i
        · rw [if_pos hu2, if_pos (by omega)]
        · rw [if_neg hu2, if_neg (by omega)]
    have hA : decide ((0 : Int) ≤ (i : Int)) = true := decide_eq_true (Int.natCast_nonneg _)
    have hB : decide ((i : Int) < (c.slices.len : Int)) = true := decide_eq_true (by omega)
    have hC : decide ((0 : Int) ≤ (jj : Int)) = true := decide_eq_true (Int.natCast_nonneg _)
    have hD : decide ((jj : Int) < (l.len : Int)) = true := decide_eq_true (by omega)
    have hE : decide ((i : Int) < (t.vols.len : Int)) = true := decide_eq_true (by omega)
    have w1 : IntKind.i64.wrap (takeRow c (l.el jj) (wK t jj) (pathN (l.el jj)) i * (l.el jj).water) = takeRow c (l.el jj) (wK t jj) (pathN (l.el jj)) i * (l.el jj).water := wr (by omega)
    have w0 : IntKind.i64.wrap ((c.slices.el i).opn - (c.slices.el i).fall) = (c.slices.el i).opn - (c.slices.el i).fall := wr (by omega)
    rw [L48x3s]
    simp only [hA, hB, hC, hD, hE, decide_true, pT, Int.toNat_natCast, tkCons_c, tkInt_i, show ((1 : Nat) == 1) = true from rfl, w1, w0, Nat.lt_irrefl, if_false, Int.add_zero]
    rw [wr (n := ((c.slices.el i).opn - (c.slices.el i).fall) * (takeRow c (l.el jj) (wK t jj) (pathN (l.el jj)) i * (l.el jj).water)) (by omega), wr (n := (c.slices.el i).fall * (takeRow c (l.el jj) (wK t jj) (pathN (l.el jj)) i * (l.el jj).water)) (by omega), wr (n := (c.slices.el i).opn * (takeRow c (l.el jj) (wK t jj) (pathN (l.el jj)) i * (l.el jj).water)) (by omega)]
    rw [wr (n := volS c l.el t jj i + (c.slices.el i).opn * (takeRow c (l.el jj) (wK t jj) (pathN (l.el jj)) i * (l.el jj).water)) (by omega), eu]
    rw [wr (n := (l.el jj).water * sumF (takeRow c (l.el jj) (wK t jj) (pathN (l.el jj))) i + takeRow c (l.el jj) (wK t jj) (pathN (l.el jj)) i * (l.el jj).water) (by omega), wr (by omega), wrS (by omega), wr (by omega)]
    rw [Int.mul_comm (takeRow c (l.el jj) (wK t jj) (pathN (l.el jj)) i) (l.el jj).water, Int.mul_left_comm ((c.slices.el i).opn - (c.slices.el i).fall) (l.el jj).water, Int.mul_left_comm (c.slices.el i).fall (l.el jj).water, Int.add_assoc]
    exact e
theorem l48x1 : ∀ j k fu, k + j = l.len → j < fu →
    L48x1 (E F (d + 3)) F c l t fu k (sumpS c l.el t k) (saltP c l.el t k) (brineS c l.el t k) (outS c l.el t k) (fun i => eInt (volS c l.el t k i)) = some (.ret (.agg (endV c l.el t l.len))) := by
  have hvl := ht.1
  have hrl := ht.2.1
  intro j
  induction j with
  | zero =>
    intro k fu h hf
    obtain ⟨fu, rfl⟩ : ∃ k, fu = k + 1 := ⟨fu - 1, by omega⟩
    have hk : k = l.len := by omega
    subst hk
    rw [L48x1s, decide_eq_false (by omega), pF, hvl]
    rfl
  | succ j ih =>
    intro k fu h hf
    obtain ⟨fu, rfl⟩ : ∃ k, fu = k + 1 := ⟨fu - 1, by omega⟩
    have hs := hl k (by omega)
    have hcl := hc.1
    have htr := ht.2.2.2 k (by omega)
    have e := l48x3 F d hc hL hl ht hF fu k (by omega) c.slices.len 0 F (by omega) (by omega)
    have e2 := ih (k + 1) fu (by omega) (by omega)
    simp only [sumF, Int.mul_zero, Int.add_zero, Nat.not_lt_zero, if_false] at e
    have q50 : (E F (d + 3)).pf 50 [.agg (eCav c), .agg (eStg (l.el k)), sl eInt 1 (t.rates.el k)] = _ := s50 F (d + 1) hc hs (wK t k) (truth_rates ht (by omega)) (t.rates.el k) rfl htr.1 hF
    rw [L48x1s]
    simp (disch := omega) only [decide_eq_true (show (k : Int) < (l.len : Int) by omega), decide_eq_true (show (0 : Int) ≤ (k : Int) by omega), decide_eq_true (show (k : Int) < (t.rates.len : Int) by omega), pT, Int.toNat_natCast, q50, tkOut_ret, tkRow_r]
    exact e.trans e2
theorem s48 (hnl : t.vols.nl = true → t.vols.len = 0) : (E F (d + 4)).pf 48 [.agg (eCav c), sl eStg 4 l, .agg (eTruth t)] = some (.ret (.agg (endV c l.el t l.len))) := by
  have hcl := hc.1
  have hvl := ht.1
  have hn : t.vols.nl = false := by
    cases h : t.vols.nl with
    | false => rfl
    | true => have := hnl h; omega
  rw [E_pf, t48, hn, pF]
  rw [show (t.vols.len == 0) = false by rw [beq_eq_false_iff_ne]; omega, pF, decide_eq_true (by omega), pT]
  exact l48x1 F d hc hL hl ht hF l.len 0 F (by omega) (by omega)
end
end Go.Sim.Le

/-
  LeachPlays: true for all that comes in.
-/
namespace Go.Sim.Le
open Go.Proofs
variable (F d : Nat)
theorem l12xend (c : Cav) (l : Sl Stg) (t : Truth) (fu : Nat) (i : Nat) (hi : t.rates.len ≤ i) (hC : c.slices.len < Big) (hCF : c.slices.len < F) (hB : l.len < Big) (hLF : l.len < F) (hT : t.rates.len < Big) (hTF : t.rates.len < F) (hnl : t.vols.nl = true → t.vols.len = 0) (hF : 1000000000 < F) :
    L12x0 (E F (d + 19)) F c l t (fu + 1) i = some (.ret (.bool true)) := by
  have q21 : (E F (d + 19)).pf 21 [] = _ := s21 F d hF
  have q44 : (E F (d + 19)).pf 44 [.agg (eCav c), sl eStg 4 l, .agg (eTruth t)] = _ := s44 F (d + 11) c l t hC hCF hB hLF hT hTF hnl (by omega)
  have q23 : (E F (d + 19)).pf 23 [.agg (eCav c), sl eStg 4 l, .bool true] = _ := s23 F (d + 15) c l true hC hCF hB hLF
  have q47 : (E F (d + 19)).pf 47 [.agg (eCav c), sl eStg 4 l, .agg (eTruth t)] = _ := s47 F (d + 17) c l t hC hT hCF hTF
  rw [L12x0s, decide_eq_false (by omega), pF]
  by_cases h3 : errP c l true = 0
  · obtain ⟨h8, hc, hl, _⟩ := errP_0.1 h3
    rw [h3] at q23 q44
    by_cases ht : TruthOk c l.len t
    · have q48 : (E F (d + 19)).pf 48 [.agg (eCav c), sl eStg 4 l, .agg (eTruth t)] = _ := s48 F (d + 15) hc (by omega) hl ht (by omega) hnl
      have q35 := s35 F (d + 18) ⟨false, c.slices.len, volS c l.el t l.len⟩ ⟨false, c.slices.len, volS c l.el t l.len⟩ hC hCF
      rw [decide_eq_true (show SameI ⟨false, c.slices.len, volS c l.el t l.len⟩ ⟨false, c.slices.len, volS c l.el t l.len⟩ from ⟨rfl, fun _ _ => rfl⟩)] at q35
      rw [if_pos ⟨rfl, ht⟩] at q44
      rw [decide_eq_true ht] at q47
      simp only [q44, q23, q47, q48, endV, tkOut_ret, tkBool_b, tkTup_t, tkAgg_a, tkCons_c, tkInt_i, tkRow_r, tkNil_n, Bool.not_true, pF, decide_true, pT, z0', beq_self_eq_true]
      simp only [sl] at q35
      simp only [q35, q21, tkOut_ret, tkBool_b, pT]
    · rw [if_neg (fun h => ht h.2), if_pos rfl] at q44
      rw [decide_eq_false ht] at q47
      simp only [q44, q23, q47, q21, tkOut_ret, tkBool_b, tkTup_t, tkAgg_a, tkCons_c, tkInt_i, tkRow_r, tkNil_n, Bool.not_false, pF, decide_true, pT, z0', beq_self_eq_true, Int.natCast_zero]
  · rw [if_neg (fun h => h3 h.1), if_neg h3] at q44
    have e1 : (errP c l true != 0) = true := by simpa using h3
    have e2 : (errP c l true == 0) = false := by rw [beq_eq_false_iff_ne]; exact h3
    simp only [q44, q23, q21, tkOut_ret, tkBool_b, tkTup_t, tkAgg_a, tkCons_c, tkInt_i, tkRow_r, tkNil_n, pF, decide_true, pT, e1, e2, beq_self_eq_true, Int.natCast_zero]
theorem l12 (c : Cav) (l : Sl Stg) (t : Truth) (hC : c.slices.len < Big) (hCF : c.slices.len < F) (hB : l.len < Big) (hLF : l.len < F) (hT : t.rates.len < Big) (hTF : t.rates.len < F) (hnl : t.vols.nl = true → t.vols.len = 0) (hF : 1000000000 < F) : ∀ j i fu, i + j = t.rates.len → j < fu →
    L12x0 (E F (d + 19)) F c l t fu i = some (.ret (.bool true)) := by
  have hT' : t.rates.len < 4611686018427387904 := hT
  have q21 : (E F (d + 19)).pf 21 [] = _ := s21 F d hF
  intro j
  induction j with
  | zero =>
    intro i fu h hf
    obtain ⟨fu, rfl⟩ : ∃ k, fu = k + 1 := ⟨fu - 1, by omega⟩
    exact l12xend F d c l t fu i (by omega) hC hCF hB hLF hT hTF hnl hF
  | succ j ih =>
    intro i fu h hf
    obtain ⟨fu, rfl⟩ : ∃ k, fu = k + 1 := ⟨fu - 1, by omega⟩
    rw [L12x0s]
    simp (disch := omega) only [decide_eq_true (show (i : Int) < (t.rates.len : Int) by omega), decide_eq_true (show (0 : Int) ≤ (i : Int) by omega), pT, Int.toNat_natCast]
    cases decide (((t.rates.el i).len : Int) > 20) with
    | true => simp only [q21, tkOut_ret, tkBool_b, pT]
    | false => rw [pF, wrS (by omega)]; exact ih (i + 1) fu (by omega) (by omega)
/-- LeachPlays. -/
theorem s12 (c : Cav) (l : Sl Stg) (t : Truth) (hC : c.slices.len < Big) (hCF : c.slices.len < F) (hB : l.len < Big) (hLF : l.len < F) (hT : t.rates.len < Big) (hTF : t.rates.len < F) (hnl : t.vols.nl = true → t.vols.len = 0) (hF : 1000000000 < F) : (E F (d + 20)).pf 12 [.agg (eCav c), sl eStg 4 l, .agg (eTruth t)] = some (.ret (.bool true)) := by
  have q19 : (E F (d + 19)).pf 19 [.agg (eCav c)] = _ := s19 F (d + 18) c
  have q21 : (E F (d + 19)).pf 21 [] = _ := s21 F d hF
  have e := l12 F d c l t hC hCF hB hLF hT hTF hnl hF t.rates.len 0 F (by omega) (by omega)
  rw [E_pf, t12]
  cases h0 : decide (c.slices.len ≤ 20) with
  | false => rw [h0] at q19; simp only [q19, q21, tkOut_ret, tkBool_b, Bool.not_false, pT]
  | true =>
    rw [h0] at q19
    simp only [q19, tkOut_ret, tkBool_b, Bool.not_true, pF]
    cases decide ((l.len : Int) > 20) with
    | true => simp only [q21, tkOut_ret, tkBool_b, pT]
    | false =>
      cases decide ((t.vols.len : Int) > 20) with
      | true => simp only [q21, tkOut_ret, tkBool_b, pT, pF]
      | false =>
        cases decide ((t.rates.len : Int) > 20) with
        | true => simp only [q21, tkOut_ret, tkBool_b, pT, pF]
        | false => rw [pF, pF, pF]; exact e
end Go.Sim.Le

/-
  LeachPlays: the row.
-/
namespace Go.Proofs.Ythbpdkcfnbiejaa
open Go.ChangeShapes Go.WideShapes Go.ChangeAt Go.RowKit Go.Sim Go.Sim.Le
set_option maxRecDepth 100000 in
theorem leachPlays_fit (cs : List V) (h : ArgsFit [(true, shCav), (false, [.row shStg]), (true, shTruth)] cs) : (E 2000000000000000 20).pf 12 cs = some (.ret (.bool true)) := by
  obtain ⟨l0, cs0, rfl, h0, g0⟩ := h
  obtain ⟨s1, c1, cs1, e1, rfl, h1, g1⟩ := g0
  obtain ⟨l2, cs2, rfl, h2, g2⟩ := g1
  injection e1 with e1 _; subst e1
  obtain rfl : cs2 = [] := g2
  obtain ⟨a0, rfl, m0⟩ := decCav l0 h0
  obtain ⟨a1, rfl, m1, n1⟩ := fitRow decStg h1
  obtain ⟨a2, rfl, m2⟩ := decTruth l2 h2
  exact s12 2000000000000000 0 a0 a1 a2 (lenB m0.1) (by have := m0.1; omega) (lenB m1.1) (by have := m1.1; omega) (lenB m2.2.1.1) (by have := m2.2.1.1; omega) m2.1.2 (by omega)
set_option maxRecDepth 100000 in
theorem leachPlays_lifted (os : Os) (started : os.Started) (H : Type) (enc : TypeId × Value → H) :
    ReturnsInHanded {} Try.checked os 12 .any (Rows.leachPlaysSpec.pre6 enc Try.prog Try.f12 Rows.leachPlaysRow.domain false) (Rows.leachPlaysSpec.post enc Try.prog Try.f12 false true false false) := by
  refine returnsInHanded_of_change_sized (C := Try.checked) own started (by kernel_rfl) Try.func12
    (ChangeSpec.witness6 (enc := enc) (C := Try.checked) false ⟨#[], #[.agg #[.slice none 0 0, .int .i64 0, .int .i64 0], .slice none 0 0, .agg #[.slice none 0 0, .slice none 0 0]], []⟩ 8 (by kernel_rfl) (by kernel_rfl) (by kernel_rfl) (by kernel_rfl)) ?_
  intro W base args ds gs before hval hW _ hwt _
  exact law_contract (tb := 4) (okE 2000000000000000 20) (by kernel_rfl) leachPlays_fit
    ⟨rfl, fun H ds h => by match ds, h with | [_, _, _], _ => exact ⟨rfl, rfl, rfl⟩⟩ (by kernel_rfl) (by kernel_rfl) laid (by decide +kernel) W base args ds gs before hval hW hwt
theorem leachPlays_holds : Rows.LeachPlaysSaid :=
  OpenClaim.holds_of_wide 12 Try.f12 rfl rfl rfl rfl rfl rfl rfl ⟨rfl, rfl, rfl, rfl, rfl⟩ rfl rfl rfl rfl rfl (by kernel_rfl) Try.func12 (by kernel_rfl)
    (of_decide_eq_true (by kernel_rfl)) (by unfold Func.isWrapper; first | (rw [if_pos (by decide +kernel)]; kernel_rfl) | (rw [if_neg (by decide +kernel)]; exact ⟨rfl, rfl⟩))
    (fun os started H enc _ => leachPlays_lifted os started H enc)
#print axioms leachPlays_holds
end Go.Proofs.Ythbpdkcfnbiejaa
