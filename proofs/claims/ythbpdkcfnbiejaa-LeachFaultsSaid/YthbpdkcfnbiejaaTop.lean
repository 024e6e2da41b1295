/-
  LeachFaults holds for every input: called with any cavern and stages, the law returns true, and its arguments read behind the call as before. No condition.
-/
import Derived.Test.YthbpdkcfnbiejaaAg
import Derived.KernelRfl
import Derived.Test.YthbpdkcfnbiejaaRows
set_option linter.unusedVariables false
set_option linter.unusedSimpArgs false
set_option linter.unusedSectionVars false
set_option maxRecDepth 100000
namespace Go.Sim.Le
open Go.Proofs
theorem t19 (env : Env) (F : Nat) (c : Cav) : (evFun Try.prog (cfg F) env 19 [(.agg (eCav c))]) = some (.ret (.bool (decide ((((Sl.len (Cav.slices c)) : Nat) : Int) ≤ (20 : Int))))) := by kernel_rfl
theorem t20 (env : Env) (F : Nat) (c : Cav) (l : Sl Stg) (x : Int) (y : Int) (z : Int) : (evFun Try.prog (cfg F) env 20 [(.agg (eCav c)), (sl eStg 4 l), (i64 x), (i64 y), (i64 z)]) = (tkOut (env.pf 23 [(.agg (eCav c)), (sl eStg 4 l), (.bool true)]) none (fun v7 => (tkInt v7 none fun q8 n9 => (bif (decide (q8 = .i64)) then (bif (n9 != (0 : Int)) then some (.ret (.bool true)) else (bif (decide ((((Sl.len (Cav.slices c)) : Nat) : Int) ≤ x)) then (bif (decide ((Cav.hold c) ≤ y)) then some (.ret (.bool (decide ((((Sl.len l) : Nat) : Int) ≤ z)))) else some (.ret (.bool false))) else some (.ret (.bool false)))) else none))) (fun p7 => (tkIfc p7 none fun t8 x9 => (bif (flatP (.iface t8 x9)) then some (.pan (.iface t8 x9)) else none)))) := by kernel_rfl
noncomputable def L74x0 (env : Env) (F : Nat) (c : Cav) (l : Sl Stg) (n : Int) (fu : Nat) (i0 : Int) (g1 : Nat → List V) : Option Out := atLoop Try.prog (cfg F) env 74 [.r, .r, .l, .r, .d] [] fu { tm := tmL 26 0 [(1, (sl eStg 4 l)), (2, (i64 n)), (3, (.optr 0 0 0)), (7, (.osl 1 0 (Int.toNat (((Sl.len (Cav.slices c)) : Nat) : Int)))), (8, (i64 i0))], hp := [(.box 24 (eCav c) true), (.arr 3 1 (Int.toNat (((Sl.len (Cav.slices c)) : Nat) : Int)) g1 true)] }
theorem t74 (env : Env) (F : Nat) (c : Cav) (l : Sl Stg) (n : Int) : (evFun Try.prog (cfg F) env 74 [(.agg (eCav c)), (sl eStg 4 l), (i64 n)]) = (bif (decide ((0 : Int) ≤ (((Sl.len (Cav.slices c)) : Nat) : Int))) then (bif (decide ((((Sl.len (Cav.slices c)) : Nat) : Int) ≤ (((Sl.len (Cav.slices c)) : Nat) : Int))) then (bif (decide ((((8 : Nat) : Int) * (((Sl.len (Cav.slices c)) : Nat) : Int)) ≤ (281474976710656 : Int))) then (bif (decide ((((Sl.len (Cav.slices c)) : Nat) : Int) ≤ (9223372036854775807 : Int))) then (L74x0 env F c l n F (0 : Int) (fun u5 => [(i64 (0 : Int))])) else none) else none) else none) else none) := by kernel_rfl
theorem L74x0s (env : Env) (F : Nat) (c : Cav) (l : Sl Stg) (n : Int) (fu : Nat) (i0 : Int) (g1 : Nat → List V) : L74x0 env F c l n (fu + 1) i0 g1 = (bif (decide (i0 ≤ n)) then (bif (decide ((0 : Int) ≤ i0)) then (bif (decide (i0 < (((Int.toNat (((Sl.len (Cav.slices c)) : Nat) : Int)) : Nat) : Int))) then (L74x0 env F c l n fu (IntKind.wrap .i64 (i0 + (1 : Int))) (updGet g1 (Int.toNat i0) 0 [(i64 (-(1 : Int)))])) else none) else none) else (tkOut (env.pf 65 [(.agg (eCav c)), (sl eStg 4 l), (.row false (Int.toNat (((Sl.len (Cav.slices c)) : Nat) : Int)) 1 (fun u8 => (g1 u8))), (i64 (1 : Int))]) none (fun v8 => (tkInt v8 none fun q9 n10 => (bif (decide (q9 = .i64)) then some (.ret (.bool (decide (n10 > (0 : Int))))) else none))) (fun p8 => (tkIfc p8 none fun t9 x10 => (bif (flatP (.iface t9 x10)) then some (.pan (.iface t9 x10)) else none))))) := by kernel_rfl
theorem t75 (env : Env) (F : Nat) (c : Cav) (n : Int) : (evFun Try.prog (cfg F) env 75 [(.agg (eCav c)), (i64 n)]) = (bif (decide ((0 : Int) ≤ (((Sl.len (Cav.slices c)) : Nat) : Int))) then (bif (decide ((((Sl.len (Cav.slices c)) : Nat) : Int) ≤ (((Sl.len (Cav.slices c)) : Nat) : Int))) then (bif (decide ((((8 : Nat) : Int) * (((Sl.len (Cav.slices c)) : Nat) : Int)) ≤ (281474976710656 : Int))) then (bif (decide ((((Sl.len (Cav.slices c)) : Nat) : Int) ≤ (9223372036854775807 : Int))) then (bif (decide ((0 : Int) ≤ n)) then (bif (decide (n < (((Int.toNat (((Sl.len (Cav.slices c)) : Nat) : Int)) : Nat) : Int))) then some (.ret (.row false (Int.toNat (((Sl.len (Cav.slices c)) : Nat) : Int)) 1 (fun u4 => (updGet (fun u5 => [(i64 (0 : Int))]) (Int.toNat n) 0 [(i64 (1 : Int))] u4)))) else none) else none) else none) else none) else none) else none) := by kernel_rfl
noncomputable def L31x0 (env : Env) (F : Nat) (c : Cav) (l : Sl Stg) (fu : Nat) (i0 : Int) : Option Out := atLoop Try.prog (cfg F) env 31 [.r, .l, .r, .d] [] fu { tm := tmL 111 0 [(1, (sl eStg 4 l)), (2, (.optr 0 0 0)), (7, (i64 i0))], hp := [(.box 24 (eCav c) true)] }
noncomputable def L31x1 (env : Env) (F : Nat) (c : Cav) (l : Sl Stg) (m0 : Nat) (fu : Nat) (i0 : Int) (i1 : Int) (i2 : Int) (i3 : Int) (i4 : Int) (i5 : Int) (g6 : Nat → List V) : Option Out := atLoop Try.prog (cfg F) env 31 [.r, .l, .r, .d, .d, .r, .l, .d, .r, .r, .r, .r, .l, .r, .d] [m0] fu { tm := tmL 111 0 [(1, (sl eStg 4 l)), (2, (.optr 0 0 0)), (7, (i64 i0)), (8, (.optr 1 0 0)), (10, (.osl 2 0 (Int.toNat (((Sl.len (Cav.slices c)) : Nat) : Int)))), (11, (i64 i1))], hp := [(.box 24 (eCav c) true), (.box 40 [(i64 i2), (i64 i3), (i64 i4), (i64 i5)] true), (.arr 3 1 (Int.toNat (((Sl.len (Cav.slices c)) : Nat) : Int)) g6 true)] }
noncomputable def L31x2 (env : Env) (F : Nat) (c : Cav) (l : Sl Stg) (m0 : Nat) (fu : Nat) (i0 : Int) (i1 : Int) : Option Out := atLoop Try.prog (cfg F) env 31 [.r, .l, .r, .d, .d, .r, .l, .d, .r, .r, .r, .r, .r, .r, .r, .d] [m0] fu { tm := tmL 111 0 [(1, (sl eStg 4 l)), (2, (.optr 0 0 0)), (7, (i64 i0)), (12, (i64 i1))], hp := [(.box 24 (eCav c) true)] }
theorem t31 (env : Env) (F : Nat) (c : Cav) (l : Sl Stg) : (evFun Try.prog (cfg F) env 31 [(.agg (eCav c)), (sl eStg 4 l)]) = (L31x0 env F c l F (0 : Int)) := by kernel_rfl
theorem L31x0s (env : Env) (F : Nat) (c : Cav) (l : Sl Stg) (fu : Nat) (i0 : Int) : L31x0 env F c l (fu + 1) i0 = (bif (decide (i0 < (((Sl.len l) : Nat) : Int))) then (bif (decide ((0 : Int) ≤ i0)) then (bif (decide (i0 < (((Sl.len l) : Nat) : Int))) then (bif (decide ((if (Stg.into (Sl.el l (Int.toNat i0))) < (Stg.out (Sl.el l (Int.toNat i0))) then (Stg.out (Sl.el l (Int.toNat i0))) else (Stg.into (Sl.el l (Int.toNat i0)))) ≥ (Stg.blanket (Sl.el l (Int.toNat i0))))) then some (.ret (.tup [(i64 i0), (i64 (2 : Int)), (i64 (if (Stg.into (Sl.el l (Int.toNat i0))) < (Stg.out (Sl.el l (Int.toNat i0))) then (Stg.out (Sl.el l (Int.toNat i0))) else (Stg.into (Sl.el l (Int.toNat i0)))))])) else (bif (true || (Sl.nl l)) then (bif (decide ((0 : Int) ≤ i0)) then (bif (decide (0 ≤ (Int.toNat i0))) then (bif (decide ((Int.toNat i0) ≤ (Sl.len l))) then (tkOut (env.pf 74 [(.agg (eCav c)), (.row (Sl.nl l) ((Int.toNat i0) - 0) 4 (fun u6 => (eStg (Sl.el l u6)))), (i64 (if (Stg.out (Sl.el l (Int.toNat i0))) < (Stg.into (Sl.el l (Int.toNat i0))) then (Stg.out (Sl.el l (Int.toNat i0))) else (Stg.into (Sl.el l (Int.toNat i0)))))]) none (fun v6 => (tkBool v6 none fun b7 => (bif b7 then some (.ret (.tup [(i64 i0), (i64 (3 : Int)), (i64 (if (Stg.out (Sl.el l (Int.toNat i0))) < (Stg.into (Sl.el l (Int.toNat i0))) then (Stg.out (Sl.el l (Int.toNat i0))) else (Stg.into (Sl.el l (Int.toNat i0)))))])) else (bif (true || (Sl.nl l)) then (bif (decide ((0 : Int) ≤ (IntKind.wrap .i64 (i0 + (1 : Int))))) then (bif (decide (0 ≤ (Int.toNat (IntKind.wrap .i64 (i0 + (1 : Int)))))) then (bif (decide ((Int.toNat (IntKind.wrap .i64 (i0 + (1 : Int)))) ≤ (Sl.len l))) then (tkOut (env.pf 74 [(.agg (eCav c)), (.row (Sl.nl l) ((Int.toNat (IntKind.wrap .i64 (i0 + (1 : Int)))) - 0) 4 (fun u8 => (eStg (Sl.el l u8)))), (i64 (if (Stg.out (Sl.el l (Int.toNat i0))) < (Stg.into (Sl.el l (Int.toNat i0))) then (Stg.out (Sl.el l (Int.toNat i0))) else (Stg.into (Sl.el l (Int.toNat i0)))))]) none (fun v8 => (tkBool v8 none fun b9 => (bif b9 then some (.ret (.tup [(i64 i0), (i64 (3 : Int)), (i64 (if (Stg.out (Sl.el l (Int.toNat i0))) < (Stg.into (Sl.el l (Int.toNat i0))) then (Stg.out (Sl.el l (Int.toNat i0))) else (Stg.into (Sl.el l (Int.toNat i0)))))])) else (bif (decide ((0 : Int) ≤ (((Sl.len (Cav.slices c)) : Nat) : Int))) then (bif (decide ((((Sl.len (Cav.slices c)) : Nat) : Int) ≤ (((Sl.len (Cav.slices c)) : Nat) : Int))) then (bif (decide ((((8 : Nat) : Int) * (((Sl.len (Cav.slices c)) : Nat) : Int)) ≤ (281474976710656 : Int))) then (bif (decide ((((Sl.len (Cav.slices c)) : Nat) : Int) ≤ (9223372036854775807 : Int))) then (L31x1 env F c l fu F i0 (Stg.blanket (Sl.el l (Int.toNat i0))) (Stg.water (Sl.el l (Int.toNat i0))) (Stg.into (Sl.el l (Int.toNat i0))) (Stg.out (Sl.el l (Int.toNat i0))) (Stg.blanket (Sl.el l (Int.toNat i0))) (fun u10 => [(i64 (0 : Int))])) else none) else none) else none) else none)))) (fun p8 => (tkIfc p8 none fun t9 x10 => (bif (flatP (.iface t9 x10)) then some (.pan (.iface t9 x10)) else none)))) else none) else none) else none) else none)))) (fun p6 => (tkIfc p6 none fun t7 x8 => (bif (flatP (.iface t7 x8)) then some (.pan (.iface t7 x8)) else none)))) else none) else none) else none) else none)) else none) else none) else some (.ret (.tup [(i64 (-(1 : Int))), (i64 (1 : Int)), (i64 (0 : Int))]))) := by kernel_rfl
theorem L31x1s (env : Env) (F : Nat) (c : Cav) (l : Sl Stg) (m0 : Nat) (fu : Nat) (i0 : Int) (i1 : Int) (i2 : Int) (i3 : Int) (i4 : Int) (i5 : Int) (g6 : Nat → List V) : L31x1 env F c l m0 (fu + 1) i0 i1 i2 i3 i4 i5 g6 = (bif (decide (i1 < (((Int.toNat (((Sl.len (Cav.slices c)) : Nat) : Int)) : Nat) : Int))) then (bif (decide ((0 : Int) ≤ i1)) then (bif (decide (i1 < (((Int.toNat (((Sl.len (Cav.slices c)) : Nat) : Int)) : Nat) : Int))) then (L31x1 env F c l m0 fu i0 (IntKind.wrap .i64 (i1 + (1 : Int))) i2 i3 i4 i5 (updGet g6 (Int.toNat i1) 0 [(i64 (1 : Int))])) else none) else none) else (bif (true || (Sl.nl l)) then (bif (decide ((0 : Int) ≤ i0)) then (bif (decide (0 ≤ (Int.toNat i0))) then (bif (decide ((Int.toNat i0) ≤ (Sl.len l))) then (tkOut (env.pf 65 [(.agg (eCav c)), (.row (Sl.nl l) ((Int.toNat i0) - 0) 4 (fun u13 => (eStg (Sl.el l u13)))), (.row false (Int.toNat (((Sl.len (Cav.slices c)) : Nat) : Int)) 1 (fun u13 => (g6 u13))), (i64 (0 : Int))]) none (fun v13 => (tkInt v13 none fun q14 n15 => (bif (decide (q14 = .i64)) then (bif (decide (n15 > (Cav.oil c))) then some (.ret (.tup [(i64 i0), (i64 (4 : Int)), (i64 i5)])) else (L31x2 env F c l m0 F i0 (0 : Int))) else none))) (fun p13 => (tkIfc p13 none fun t14 x15 => (bif (flatP (.iface t14 x15)) then none else none)))) else none) else none) else none) else none)) := by kernel_rfl
theorem L31x2s (env : Env) (F : Nat) (c : Cav) (l : Sl Stg) (m0 : Nat) (fu : Nat) (i0 : Int) (i1 : Int) : L31x2 env F c l m0 (fu + 1) i0 i1 = (bif (decide (i1 < (((Sl.len (Cav.slices c)) : Nat) : Int))) then (bif (true || (Sl.nl l)) then (bif (decide ((0 : Int) ≤ (IntKind.wrap .i64 (i0 + (1 : Int))))) then (bif (decide (0 ≤ (Int.toNat (IntKind.wrap .i64 (i0 + (1 : Int)))))) then (bif (decide ((Int.toNat (IntKind.wrap .i64 (i0 + (1 : Int)))) ≤ (Sl.len l))) then (tkOut (env.pf 75 [(.agg (eCav c)), (i64 i1)]) none (fun v8 => (tkRow v8 none fun nl9 n10 wd11 g12 => (tkOut (env.pf 65 [(.agg (eCav c)), (.row (Sl.nl l) ((Int.toNat (IntKind.wrap .i64 (i0 + (1 : Int)))) - 0) 4 (fun u13 => (eStg (Sl.el l u13)))), (.row nl9 n10 wd11 g12), (i64 (0 : Int))]) none (fun v13 => (tkInt v13 none fun q14 n15 => (bif (decide ((0 : Int) ≤ i1)) then (bif (decide (i1 < (((Sl.len (Cav.slices c)) : Nat) : Int))) then (bif (decide (q14 = .i64)) then (bif (decide (n15 > (Slc.most (Sl.el (Cav.slices c) (Int.toNat i1))))) then some (.ret (.tup [(i64 i0), (i64 (5 : Int)), (i64 i1)])) else (L31x2 env F c l m0 fu i0 (IntKind.wrap .i64 (i1 + (1 : Int))))) else none) else none) else none))) (fun p13 => (tkIfc p13 none fun t14 x15 => (bif (flatP (.iface t14 x15)) then none else none)))))) (fun p8 => (tkIfc p8 none fun t9 x10 => (bif (flatP (.iface t9 x10)) then none else none)))) else none) else none) else none) else none) else (L31x0 env F c l m0 (IntKind.wrap .i64 (i0 + (1 : Int))))) := by kernel_rfl
theorem t8 (env : Env) (F : Nat) (c : Cav) (s : Stg) : (evFun Try.prog (cfg F) env 8 [(.agg (eCav c)), (.agg (eStg s))]) = (tkOut (env.pf 19 [(.agg (eCav c))]) none (fun v4 => (tkBool v4 none fun b5 => (bif (!b5) then (tkOut (env.pf 21 []) none (fun v6 => (tkBool v6 none fun b7 => some (.ret (.bool b7)))) (fun p6 => (tkIfc p6 none fun t7 x8 => (bif (flatP (.iface t7 x8)) then some (.pan (.iface t7 x8)) else none)))) else (tkOut (env.pf 38 [(.agg (eCav c))]) none (fun v6 => (tkInt v6 none fun q7 n8 => (tkOut (env.pf 39 [(.agg (eCav c)), (.agg (eStg s))]) none (fun v9 => (tkTup v9 none fun l10 => (tkCons l10 none fun v11 r12 => (tkRow v11 none fun nl13 n14 wd15 g16 => (tkCons r12 none fun v17 r18 => (tkInt v17 none fun q19 n20 => (tkNil r18 none ((tkOut (env.pf 27 [(.agg (eCav c))]) none (fun v21 => (tkBool v21 none fun b22 => (bif (!b22) then (bif (decide (q7 = .i64)) then (bif (n8 == (2 : Int)) then (bif (decide (q19 = .i64)) then (bif (n20 == (2 : Int)) then (bif (((n14 : Nat) : Int) == (0 : Int)) then (tkOut (env.pf 21 []) none (fun v23 => (tkBool v23 none fun b24 => some (.ret (.bool b24)))) (fun p23 => (tkIfc p23 none fun t24 x25 => (bif (flatP (.iface t24 x25)) then some (.pan (.iface t24 x25)) else none)))) else some (.ret (.bool false))) else some (.ret (.bool false))) else none) else some (.ret (.bool false))) else none) else (bif (decide (q7 = .i64)) then (bif (n8 != (0 : Int)) then some (.ret (.bool false)) else (tkOut (env.pf 28 [(.agg (eCav c)), (.agg (eStg s))]) none (fun v23 => (tkBool v23 none fun b24 => (bif (!b24) then (bif (decide (q19 = .i64)) then (bif (n20 == (2 : Int)) then (bif (((n14 : Nat) : Int) == (0 : Int)) then (tkOut (env.pf 21 []) none (fun v25 => (tkBool v25 none fun b26 => some (.ret (.bool b26)))) (fun p25 => (tkIfc p25 none fun t26 x27 => (bif (flatP (.iface t26 x27)) then some (.pan (.iface t26 x27)) else none)))) else some (.ret (.bool false))) else some (.ret (.bool false))) else none) else (bif (decide (q19 = .i64)) then (bif (n20 == (0 : Int)) then (tkOut (env.pf 41 [(.agg (eCav c)), (.agg (eStg s))]) none (fun v25 => (tkRow v25 none fun nl26 n27 wd28 g29 => (tkOut (env.pf 40 [(.row nl13 n14 wd15 g16), (.row nl26 n27 wd28 g29)]) none (fun v30 => (tkBool v30 none fun b31 => (bif b31 then (tkOut (env.pf 21 []) none (fun v32 => (tkBool v32 none fun b33 => some (.ret (.bool b33)))) (fun p32 => (tkIfc p32 none fun t33 x34 => (bif (flatP (.iface t33 x34)) then some (.pan (.iface t33 x34)) else none)))) else some (.ret (.bool false))))) (fun p30 => (tkIfc p30 none fun t31 x32 => (bif (flatP (.iface t31 x32)) then some (.pan (.iface t31 x32)) else none)))))) (fun p25 => (tkIfc p25 none fun t26 x27 => (bif (flatP (.iface t26 x27)) then some (.pan (.iface t26 x27)) else none)))) else some (.ret (.bool false))) else none)))) (fun p23 => (tkIfc p23 none fun t24 x25 => (bif (flatP (.iface t24 x25)) then some (.pan (.iface t24 x25)) else none))))) else none)))) (fun p21 => (tkIfc p21 none fun t22 x23 => (bif (flatP (.iface t22 x23)) then some (.pan (.iface t22 x23)) else none)))))))))))) (fun p9 => (tkIfc p9 none fun t10 x11 => (bif (flatP (.iface t10 x11)) then some (.pan (.iface t10 x11)) else none)))))) (fun p6 => (tkIfc p6 none fun t7 x8 => (bif (flatP (.iface t7 x8)) then some (.pan (.iface t7 x8)) else none))))))) (fun p4 => (tkIfc p4 none fun t5 x6 => (bif (flatP (.iface t5 x6)) then some (.pan (.iface t5 x6)) else none)))) := by kernel_rfl
theorem t4 (env : Env) (F : Nat) (c : Cav) (s : Stg) : (evFun Try.prog (cfg F) env 4 [(.agg (eCav c)), (.agg (eStg s))]) = (tkOut (env.pf 19 [(.agg (eCav c))]) none (fun v4 => (tkBool v4 none fun b5 => (bif (!b5) then (tkOut (env.pf 21 []) none (fun v6 => (tkBool v6 none fun b7 => some (.ret (.bool b7)))) (fun p6 => (tkIfc p6 none fun t7 x8 => (bif (flatP (.iface t7 x8)) then some (.pan (.iface t7 x8)) else none)))) else (tkOut (env.pf 26 [(.agg (eCav c)), (.agg (eStg s))]) none (fun v6 => (tkTup v6 none fun l7 => (tkCons l7 none fun v8 r9 => (tkAgg v8 none fun l10 => (tkCons l10 none fun v11 r12 => (tkInt v11 none fun q13 n14 => (tkCons r12 none fun v15 r16 => (tkInt v15 none fun q17 n18 => (tkNil r16 none ((tkCons r9 none fun v19 r20 => (tkAgg v19 none fun l21 => (tkCons l21 none fun v22 r23 => (tkInt v22 none fun q24 n25 => (tkCons r23 none fun v26 r27 => (tkInt v26 none fun q28 n29 => (tkNil r27 none ((tkCons r20 none fun v30 r31 => (tkInt v30 none fun q32 n33 => (tkNil r31 none ((tkOut (env.pf 27 [(.agg (eCav c))]) none (fun v34 => (tkBool v34 none fun b35 => (bif (!b35) then (bif (decide (q32 = .i64)) then (bif (n33 == (2 : Int)) then (bif (decide (q13 = .i64)) then (bif (decide (q17 = .i64)) then (bif ((n14 == (0 : Int)) && ((n18 == (0 : Int)) && true)) then (bif (decide (q24 = .i64)) then (bif (decide (q28 = .i64)) then (bif ((n25 == (0 : Int)) && ((n29 == (0 : Int)) && true)) then (tkOut (env.pf 21 []) none (fun v36 => (tkBool v36 none fun b37 => some (.ret (.bool b37)))) (fun p36 => (tkIfc p36 none fun t37 x38 => (bif (flatP (.iface t37 x38)) then some (.pan (.iface t37 x38)) else none)))) else some (.ret (.bool false))) else none) else none) else some (.ret (.bool false))) else none) else none) else some (.ret (.bool false))) else none) else (tkOut (env.pf 28 [(.agg (eCav c)), (.agg (eStg s))]) none (fun v36 => (tkBool v36 none fun b37 => (bif (!b37) then (bif (decide (q32 = .i64)) then (bif (n33 == (2 : Int)) then (bif (decide (q13 = .i64)) then (bif (decide (q17 = .i64)) then (bif ((n14 == (0 : Int)) && ((n18 == (0 : Int)) && true)) then (bif (decide (q24 = .i64)) then (bif (decide (q28 = .i64)) then (bif ((n25 == (0 : Int)) && ((n29 == (0 : Int)) && true)) then (tkOut (env.pf 21 []) none (fun v38 => (tkBool v38 none fun b39 => some (.ret (.bool b39)))) (fun p38 => (tkIfc p38 none fun t39 x40 => (bif (flatP (.iface t39 x40)) then some (.pan (.iface t39 x40)) else none)))) else some (.ret (.bool false))) else none) else none) else some (.ret (.bool false))) else none) else none) else some (.ret (.bool false))) else none) else (tkOut (env.pf 29 [(.agg (eCav c)), (.agg (eStg s))]) none (fun v38 => (tkTup v38 none fun l39 => (tkCons l39 none fun v40 r41 => (tkAgg v40 none fun l42 => (tkCons l42 none fun v43 r44 => (tkInt v43 none fun q45 n46 => (tkCons r44 none fun v47 r48 => (tkInt v47 none fun q49 n50 => (tkNil r48 none ((tkCons r41 none fun v51 r52 => (tkAgg v51 none fun l53 => (tkCons l53 none fun v54 r55 => (tkInt v54 none fun q56 n57 => (tkCons r55 none fun v58 r59 => (tkInt v58 none fun q60 n61 => (tkNil r59 none ((tkNil r52 none ((bif (decide (q32 = .i64)) then (bif (n33 == (0 : Int)) then (bif (decide (q13 = q45)) then (bif (decide (q17 = q49)) then (bif ((n14 == n46) && ((n18 == n50) && true)) then (bif (decide (q24 = q56)) then (bif (decide (q28 = q60)) then (bif ((n25 == n57) && ((n29 == n61) && true)) then (tkOut (env.pf 21 []) none (fun v62 => (tkBool v62 none fun b63 => some (.ret (.bool b63)))) (fun p62 => (tkIfc p62 none fun t63 x64 => (bif (flatP (.iface t63 x64)) then some (.pan (.iface t63 x64)) else none)))) else some (.ret (.bool false))) else none) else none) else some (.ret (.bool false))) else none) else none) else some (.ret (.bool false))) else none))))))))))))))))))))) (fun p38 => (tkIfc p38 none fun t39 x40 => (bif (flatP (.iface t39 x40)) then some (.pan (.iface t39 x40)) else none))))))) (fun p36 => (tkIfc p36 none fun t37 x38 => (bif (flatP (.iface t37 x38)) then some (.pan (.iface t37 x38)) else none))))))) (fun p34 => (tkIfc p34 none fun t35 x36 => (bif (flatP (.iface t35 x36)) then some (.pan (.iface t35 x36)) else none)))))))))))))))))))))))))) (fun p6 => (tkIfc p6 none fun t7 x8 => (bif (flatP (.iface t7 x8)) then some (.pan (.iface t7 x8)) else none))))))) (fun p4 => (tkIfc p4 none fun t5 x6 => (bif (flatP (.iface t5 x6)) then some (.pan (.iface t5 x6)) else none)))) := by kernel_rfl
theorem t7 (env : Env) (F : Nat) (c : Cav) (l : Sl Stg) (w : Sl Int) : (evFun Try.prog (cfg F) env 7 [(.agg (eCav c)), (sl eStg 4 l), (sl eInt 1 w)]) = (tkOut (env.pf 19 [(.agg (eCav c))]) none (fun v5 => (tkBool v5 none fun b6 => (bif (!b6) then (tkOut (env.pf 21 []) none (fun v7 => (tkBool v7 none fun b8 => some (.ret (.bool b8)))) (fun p7 => (tkIfc p7 none fun t8 x9 => (bif (flatP (.iface t8 x9)) then some (.pan (.iface t8 x9)) else none)))) else (bif (decide ((((Sl.len l) : Nat) : Int) > (20 : Int))) then (tkOut (env.pf 21 []) none (fun v7 => (tkBool v7 none fun b8 => some (.ret (.bool b8)))) (fun p7 => (tkIfc p7 none fun t8 x9 => (bif (flatP (.iface t8 x9)) then some (.pan (.iface t8 x9)) else none)))) else (bif (decide ((((Sl.len w) : Nat) : Int) > (20 : Int))) then (tkOut (env.pf 21 []) none (fun v7 => (tkBool v7 none fun b8 => some (.ret (.bool b8)))) (fun p7 => (tkIfc p7 none fun t8 x9 => (bif (flatP (.iface t8 x9)) then some (.pan (.iface t8 x9)) else none)))) else (tkOut (env.pf 36 [(.agg (eCav c)), (sl eStg 4 l), (sl eInt 1 w)]) none (fun v7 => (tkTup v7 none fun l8 => (tkCons l8 none fun v9 r10 => (tkInt v9 none fun q11 n12 => (tkCons r10 none fun v13 r14 => (tkInt v13 none fun q15 n16 => (tkNil r14 none ((tkOut (env.pf 32 [(.agg (eCav c)), (sl eStg 4 l), (sl eInt 1 w)]) none (fun v17 => (tkInt v17 none fun q18 n19 => (bif (decide (q18 = .i64)) then (bif (n19 != (0 : Int)) then (bif (decide (q15 = q18)) then (bif (n16 == n19) then (bif (decide (q11 = .i64)) then (bif (n12 == (0 : Int)) then (tkOut (env.pf 21 []) none (fun v20 => (tkBool v20 none fun b21 => some (.ret (.bool b21)))) (fun p20 => (tkIfc p20 none fun t21 x22 => (bif (flatP (.iface t21 x22)) then some (.pan (.iface t21 x22)) else none)))) else some (.ret (.bool false))) else none) else some (.ret (.bool false))) else none) else (tkOut (env.pf 37 [(.agg (eCav c)), (sl eStg 4 l), (sl eInt 1 w)]) none (fun v20 => (tkTup v20 none fun l21 => (tkCons l21 none fun v22 r23 => (tkInt v22 none fun q24 n25 => (tkCons r23 none fun v26 r27 => (tkBool v26 none fun b28 => (tkNil r27 none ((bif (!b28) then (bif (decide (q15 = .i64)) then (bif (n16 == (5 : Int)) then (bif (decide (q11 = .i64)) then (bif (n12 == (0 : Int)) then (tkOut (env.pf 21 []) none (fun v29 => (tkBool v29 none fun b30 => some (.ret (.bool b30)))) (fun p29 => (tkIfc p29 none fun t30 x31 => (bif (flatP (.iface t30 x31)) then some (.pan (.iface t30 x31)) else none)))) else some (.ret (.bool false))) else none) else some (.ret (.bool false))) else none) else (bif (decide (q15 = .i64)) then (bif (n16 == (0 : Int)) then (bif (decide (q11 = q24)) then (bif (n12 == n25) then (tkOut (env.pf 21 []) none (fun v29 => (tkBool v29 none fun b30 => some (.ret (.bool b30)))) (fun p29 => (tkIfc p29 none fun t30 x31 => (bif (flatP (.iface t30 x31)) then some (.pan (.iface t30 x31)) else none)))) else some (.ret (.bool false))) else none) else some (.ret (.bool false))) else none)))))))))) (fun p20 => (tkIfc p20 none fun t21 x22 => (bif (flatP (.iface t21 x22)) then some (.pan (.iface t21 x22)) else none))))) else none))) (fun p17 => (tkIfc p17 none fun t18 x19 => (bif (flatP (.iface t18 x19)) then some (.pan (.iface t18 x19)) else none)))))))))))) (fun p7 => (tkIfc p7 none fun t8 x9 => (bif (flatP (.iface t8 x9)) then some (.pan (.iface t8 x9)) else none))))))))) (fun p5 => (tkIfc p5 none fun t6 x7 => (bif (flatP (.iface t6 x7)) then some (.pan (.iface t6 x7)) else none)))) := by kernel_rfl
theorem t3 (env : Env) (F : Nat) (c : Cav) (l : Sl Stg) (w : Sl Int) (n : Int) : (evFun Try.prog (cfg F) env 3 [(.agg (eCav c)), (sl eStg 4 l), (sl eInt 1 w), (i64 n)]) = (tkOut (env.pf 19 [(.agg (eCav c))]) none (fun v6 => (tkBool v6 none fun b7 => (bif (!b7) then (tkOut (env.pf 21 []) none (fun v8 => (tkBool v8 none fun b9 => some (.ret (.bool b9)))) (fun p8 => (tkIfc p8 none fun t9 x10 => (bif (flatP (.iface t9 x10)) then some (.pan (.iface t9 x10)) else none)))) else (bif (decide ((((Sl.len l) : Nat) : Int) > (20 : Int))) then (tkOut (env.pf 21 []) none (fun v8 => (tkBool v8 none fun b9 => some (.ret (.bool b9)))) (fun p8 => (tkIfc p8 none fun t9 x10 => (bif (flatP (.iface t9 x10)) then some (.pan (.iface t9 x10)) else none)))) else (bif (decide ((((Sl.len w) : Nat) : Int) > (20 : Int))) then (tkOut (env.pf 21 []) none (fun v8 => (tkBool v8 none fun b9 => some (.ret (.bool b9)))) (fun p8 => (tkIfc p8 none fun t9 x10 => (bif (flatP (.iface t9 x10)) then some (.pan (.iface t9 x10)) else none)))) else (tkOut (env.pf 20 [(.agg (eCav c)), (sl eStg 4 l), (i64 (5 : Int)), (i64 (60 : Int)), (i64 (4 : Int))]) none (fun v8 => (tkBool v8 none fun b9 => (bif (!b9) then (tkOut (env.pf 21 []) none (fun v10 => (tkBool v10 none fun b11 => some (.ret (.bool b11)))) (fun p10 => (tkIfc p10 none fun t11 x12 => (bif (flatP (.iface t11 x12)) then some (.pan (.iface t11 x12)) else none)))) else (tkOut (env.pf 22 [(.agg (eCav c)), (sl eStg 4 l), (sl eInt 1 w), (i64 n)]) none (fun v10 => (tkTup v10 none fun l11 => (tkCons l11 none fun v12 r13 => (tkAgg v12 none fun l14 => (tkCons l14 none fun v15 r16 => (tkInt v15 none fun q17 n18 => (tkCons r16 none fun v19 r20 => (tkInt v19 none fun q21 n22 => (tkNil r20 none ((tkCons r13 none fun v23 r24 => (tkInt v23 none fun q25 n26 => (tkNil r24 none ((tkOut (env.pf 24 [(.agg (eCav c)), (sl eInt 1 w), (i64 n)]) none (fun v27 => (tkBool v27 none fun b28 => (tkOut (env.pf 23 [(.agg (eCav c)), (sl eStg 4 l), (.bool b28)]) none (fun v29 => (tkInt v29 none fun q30 n31 => (bif (decide (q30 = .i64)) then (bif (n31 != (0 : Int)) then (bif (decide (q25 = q30)) then (bif (n26 == n31) then (bif (decide (q17 = .i64)) then (bif (decide (q21 = .i64)) then (bif ((n18 == (0 : Int)) && ((n22 == (0 : Int)) && true)) then (tkOut (env.pf 21 []) none (fun v32 => (tkBool v32 none fun b33 => some (.ret (.bool b33)))) (fun p32 => (tkIfc p32 none fun t33 x34 => (bif (flatP (.iface t33 x34)) then some (.pan (.iface t33 x34)) else none)))) else some (.ret (.bool false))) else none) else none) else some (.ret (.bool false))) else none) else (bif (decide (q25 = .i64)) then (bif (n26 == (0 : Int)) then (tkOut (env.pf 25 [(.agg (eCav c)), (sl eStg 4 l), (sl eInt 1 w), (i64 n)]) none (fun v32 => (tkAgg v32 none fun l33 => (tkCons l33 none fun v34 r35 => (tkInt v34 none fun q36 n37 => (tkCons r35 none fun v38 r39 => (tkInt v38 none fun q40 n41 => (tkNil r39 none ((bif (decide (q17 = q36)) then (bif (decide (q21 = q40)) then (bif ((n18 == n37) && ((n22 == n41) && true)) then (tkOut (env.pf 21 []) none (fun v42 => (tkBool v42 none fun b43 => some (.ret (.bool b43)))) (fun p42 => (tkIfc p42 none fun t43 x44 => (bif (flatP (.iface t43 x44)) then some (.pan (.iface t43 x44)) else none)))) else some (.ret (.bool false))) else none) else none))))))))) (fun p32 => (tkIfc p32 none fun t33 x34 => (bif (flatP (.iface t33 x34)) then some (.pan (.iface t33 x34)) else none)))) else some (.ret (.bool false))) else none)) else none))) (fun p29 => (tkIfc p29 none fun t30 x31 => (bif (flatP (.iface t30 x31)) then some (.pan (.iface t30 x31)) else none)))))) (fun p27 => (tkIfc p27 none fun t28 x29 => (bif (flatP (.iface t28 x29)) then some (.pan (.iface t28 x29)) else none)))))))))))))))))) (fun p10 => (tkIfc p10 none fun t11 x12 => (bif (flatP (.iface t11 x12)) then some (.pan (.iface t11 x12)) else none))))))) (fun p8 => (tkIfc p8 none fun t9 x10 => (bif (flatP (.iface t9 x10)) then some (.pan (.iface t9 x10)) else none))))))))) (fun p6 => (tkIfc p6 none fun t7 x8 => (bif (flatP (.iface t7 x8)) then some (.pan (.iface t7 x8)) else none)))) := by kernel_rfl
theorem t5 (env : Env) (F : Nat) (c : Cav) (l : Sl Stg) : (evFun Try.prog (cfg F) env 5 [(.agg (eCav c)), (sl eStg 4 l)]) = (tkOut (env.pf 19 [(.agg (eCav c))]) none (fun v4 => (tkBool v4 none fun b5 => (bif (!b5) then (tkOut (env.pf 21 []) none (fun v6 => (tkBool v6 none fun b7 => some (.ret (.bool b7)))) (fun p6 => (tkIfc p6 none fun t7 x8 => (bif (flatP (.iface t7 x8)) then some (.pan (.iface t7 x8)) else none)))) else (bif (decide ((((Sl.len l) : Nat) : Int) > (20 : Int))) then (tkOut (env.pf 21 []) none (fun v6 => (tkBool v6 none fun b7 => some (.ret (.bool b7)))) (fun p6 => (tkIfc p6 none fun t7 x8 => (bif (flatP (.iface t7 x8)) then some (.pan (.iface t7 x8)) else none)))) else (tkOut (env.pf 20 [(.agg (eCav c)), (sl eStg 4 l), (i64 (5 : Int)), (i64 (60 : Int)), (i64 (4 : Int))]) none (fun v6 => (tkBool v6 none fun b7 => (bif (!b7) then (tkOut (env.pf 21 []) none (fun v8 => (tkBool v8 none fun b9 => some (.ret (.bool b9)))) (fun p8 => (tkIfc p8 none fun t9 x10 => (bif (flatP (.iface t9 x10)) then some (.pan (.iface t9 x10)) else none)))) else (tkOut (env.pf 30 [(.agg (eCav c)), (sl eStg 4 l)]) none (fun v8 => (tkTup v8 none fun l9 => (tkCons l9 none fun v10 r11 => (tkInt v10 none fun q12 n13 => (tkCons r11 none fun v14 r15 => (tkInt v14 none fun q16 n17 => (tkCons r15 none fun v18 r19 => (tkInt v18 none fun q20 n21 => (tkCons r19 none fun v22 r23 => (tkInt v22 none fun q24 n25 => (tkNil r23 none ((tkOut (env.pf 23 [(.agg (eCav c)), (sl eStg 4 l), (.bool true)]) none (fun v26 => (tkInt v26 none fun q27 n28 => (bif (decide (q27 = .i64)) then (bif (n28 != (0 : Int)) then (bif (decide (q24 = q27)) then (bif (n25 == n28) then (bif (decide (q12 = .i64)) then (bif (n13 == (0 : Int)) then (bif (decide (q16 = .i64)) then (bif (n17 == (0 : Int)) then (bif (decide (q20 = .i64)) then (bif (n21 == (0 : Int)) then (tkOut (env.pf 21 []) none (fun v29 => (tkBool v29 none fun b30 => some (.ret (.bool b30)))) (fun p29 => (tkIfc p29 none fun t30 x31 => (bif (flatP (.iface t30 x31)) then some (.pan (.iface t30 x31)) else none)))) else some (.ret (.bool false))) else none) else some (.ret (.bool false))) else none) else some (.ret (.bool false))) else none) else some (.ret (.bool false))) else none) else (tkOut (env.pf 31 [(.agg (eCav c)), (sl eStg 4 l)]) none (fun v29 => (tkTup v29 none fun l30 => (tkCons l30 none fun v31 r32 => (tkInt v31 none fun q33 n34 => (tkCons r32 none fun v35 r36 => (tkInt v35 none fun q37 n38 => (tkCons r36 none fun v39 r40 => (tkInt v39 none fun q41 n42 => (tkNil r40 none ((bif (decide (q24 = .i64)) then (bif (n25 == (0 : Int)) then (bif (decide (q12 = q33)) then (bif (n13 == n34) then (bif (decide (q16 = q37)) then (bif (n17 == n38) then (bif (decide (q20 = q41)) then (bif (n21 == n42) then (tkOut (env.pf 21 []) none (fun v43 => (tkBool v43 none fun b44 => some (.ret (.bool b44)))) (fun p43 => (tkIfc p43 none fun t44 x45 => (bif (flatP (.iface t44 x45)) then some (.pan (.iface t44 x45)) else none)))) else some (.ret (.bool false))) else none) else some (.ret (.bool false))) else none) else some (.ret (.bool false))) else none) else some (.ret (.bool false))) else none))))))))))) (fun p29 => (tkIfc p29 none fun t30 x31 => (bif (flatP (.iface t30 x31)) then some (.pan (.iface t30 x31)) else none))))) else none))) (fun p26 => (tkIfc p26 none fun t27 x28 => (bif (flatP (.iface t27 x28)) then some (.pan (.iface t27 x28)) else none)))))))))))))))) (fun p8 => (tkIfc p8 none fun t9 x10 => (bif (flatP (.iface t9 x10)) then some (.pan (.iface t9 x10)) else none))))))) (fun p6 => (tkIfc p6 none fun t7 x8 => (bif (flatP (.iface t7 x8)) then some (.pan (.iface t7 x8)) else none)))))))) (fun p4 => (tkIfc p4 none fun t5 x6 => (bif (flatP (.iface t5 x6)) then some (.pan (.iface t5 x6)) else none)))) := by kernel_rfl
end Go.Sim.Le

/-
  Leaching: what comes in, as this program's plain data.
-/
namespace Go.Sim.Le
open Go.Proofs
theorem fitInt {k : IntKind} {c : V} (h : Fit (.int k) c) : ∃ n, c = .int k n ∧ k.min ≤ n ∧ n ≤ k.max := by
  cases h with
  | int h => exact ⟨_, rfl, h⟩
theorem fitL_nil {cs : List V} (h : FitL [] cs) : cs = [] := by
  have := h.1
  exact List.eq_nil_of_length_eq_zero this
theorem fitL_cons {s : Sh} {l : List Sh} {cs : List V} (h : FitL (s :: l) cs) : ∃ c cs', cs = c :: cs' ∧ Fit s c ∧ FitL l cs' := by
  obtain ⟨h1, h2⟩ := h
  cases cs with
  | nil => simp at h1
  | cons c cs' => exact ⟨c, cs', rfl, h2 0 s c rfl rfl, by simpa using h1, fun j s' c' g1 g2 => h2 (j + 1) s' c' (by simpa using g1) (by simpa using g2)⟩
theorem fitL_int {k : IntKind} {l : List Sh} {cs : List V} (h : FitL (.int k :: l) cs) : ∃ n cs', cs = .int k n :: cs' ∧ FitL l cs' := by
  obtain ⟨c, cs', rfl, h1, h2⟩ := fitL_cons h
  obtain ⟨n, rfl, _⟩ := fitInt h1
  exact ⟨n, cs', rfl, h2⟩
abbrev SlOk {α : Type} (s : Sl α) : Prop := s.len ≤ 140737488355328 ∧ (s.nl = true → s.len = 0)
theorem fitRow {α : Type} {e : α → List V} {P : α → Prop} {l : List Sh} (dec : ∀ cs, FitL l cs → ∃ a : α, cs = e a ∧ P a) {c : V} (h : Fit (.row l) c) : ∃ s : Sl α, c = sl e l.length s ∧ SlOk s ∧ ∀ i, P (s.el i) := by
  cases h with
  | row h hn hl hf =>
    rename_i nl len get
    have hx : ∀ i, ∃ a : α, get i = e a ∧ P a := fun i => dec _ ⟨hl i, hf i⟩
    refine ⟨⟨nl, len, fun i => (hx i).choose⟩, ?_, ⟨h, hn⟩, fun i => (hx i).choose_spec.2⟩
    show V.row nl len l.length get = V.row nl len l.length fun i => e (hx i).choose
    congr 1
    funext i
    exact (hx i).choose_spec.1
theorem fitL_row {α : Type} {e : α → List V} {P : α → Prop} {l r : List Sh} (dec : ∀ cs, FitL l cs → ∃ a : α, cs = e a ∧ P a) {cs : List V} (h : FitL (.row l :: r) cs) : ∃ (s : Sl α) (cs' : List V), cs = sl e l.length s :: cs' ∧ SlOk s ∧ (∀ i, P (s.el i)) ∧ FitL r cs' := by
  obtain ⟨c, cs', rfl, h1, h2⟩ := fitL_cons h
  obtain ⟨s, rfl, h3, h4⟩ := fitRow dec h1
  exact ⟨s, cs', rfl, h3, h4, h2⟩
abbrev i8 : Sh := .int .i64
abbrev shSlc : List Sh := [i8, i8, i8, i8, i8, i8, i8]
abbrev shCav : List Sh := [.row shSlc, i8, i8]
abbrev shStg : List Sh := [i8, i8, i8, i8]
abbrev shTruth : List Sh := [.row [i8], .row [.row [i8]]]
theorem decInt (cs : List V) (h : FitL [i8] cs) : ∃ n : Int, cs = eInt n ∧ I64 n := by
  obtain ⟨c, cs', rfl, h1, h2⟩ := fitL_cons h
  obtain ⟨n, rfl, m1, m2⟩ := fitInt h1
  obtain rfl := fitL_nil h2
  refine ⟨n, rfl, ?_⟩
  exact ⟨m1, m2⟩
theorem decIL (cs : List V) (h : FitL [.row [i8]] cs) : ∃ s : Sl Int, cs = eIL s ∧ SlOk s := by
  obtain ⟨s, _, rfl, h1, _, h2⟩ := fitL_row decInt h
  obtain rfl := fitL_nil h2
  exact ⟨s, rfl, h1⟩
theorem decSlc (cs : List V) (h : FitL shSlc cs) : ∃ c : Slc, cs = eSlc c ∧ True := by
  obtain ⟨a0, _, rfl, h1⟩ := fitL_int h
  obtain ⟨a1, _, rfl, h2⟩ := fitL_int h1
  obtain ⟨a2, _, rfl, h3⟩ := fitL_int h2
  obtain ⟨a3, _, rfl, h4⟩ := fitL_int h3
  obtain ⟨a4, _, rfl, h5⟩ := fitL_int h4
  obtain ⟨a5, _, rfl, h6⟩ := fitL_int h5
  obtain ⟨a6, _, rfl, h7⟩ := fitL_int h6
  obtain rfl := fitL_nil h7
  exact ⟨⟨⟨a0, a1⟩, a2, a3, ⟨a4, a5⟩, a6⟩, rfl, trivial⟩
theorem decStg (cs : List V) (h : FitL shStg cs) : ∃ c : Stg, cs = eStg c ∧ True := by
  obtain ⟨a0, _, rfl, h1⟩ := fitL_int h
  obtain ⟨a1, _, rfl, h2⟩ := fitL_int h1
  obtain ⟨a2, _, rfl, h3⟩ := fitL_int h2
  obtain ⟨a3, _, rfl, h4⟩ := fitL_int h3
  obtain rfl := fitL_nil h4
  exact ⟨⟨a0, a1, a2, a3⟩, rfl, trivial⟩
theorem decCav (cs : List V) (h : FitL shCav cs) : ∃ c : Cav, cs = eCav c ∧ SlOk c.slices := by
  obtain ⟨a, _, rfl, h0, _, h1⟩ := fitL_row decSlc h
  obtain ⟨b, _, rfl, h2⟩ := fitL_int h1
  obtain ⟨d, _, rfl, h3⟩ := fitL_int h2
  obtain rfl := fitL_nil h3
  exact ⟨⟨a, b, d⟩, rfl, h0⟩
theorem decTruth (cs : List V) (h : FitL shTruth cs) : ∃ t : Truth, cs = eTruth t ∧ SlOk t.vols ∧ SlOk t.rates ∧ ∀ i, SlOk (t.rates.el i) := by
  obtain ⟨a, _, rfl, h0, _, h1⟩ := fitL_row decInt h
  obtain ⟨b, _, rfl, h2, h3, h4⟩ := fitL_row decIL h1
  obtain rfl := fitL_nil h4
  exact ⟨⟨a, b⟩, rfl, h0, h2, h3⟩
theorem own : ownKnob Try.prog.godebug = none := by kernel_rfl
end Go.Sim.Le

/-
  LeachChecks, LeachGrades, LeachLeast: true for all that comes in.
-/
namespace Go.Sim.Le
open Go.Proofs
variable (F d : Nat)
theorem s19 (c : Cav) : (E F (d + 1)).pf 19 [.agg (eCav c)] = some (.ret (.bool (decide (c.slices.len ≤ 20)))) := by
  rw [E_pf, t19]
  refine b3 (b2 ?_)
  simp only [decide_eq_true_iff]
  omega
theorem z0' {α : Type} (a b : α) : (bif ((0 : Int) != 0) then a else b) = b := rfl
/-- LeachChecks. -/
theorem s8 (c : Cav) (s : Stg) (hB : c.slices.len < Big) (hCF : c.slices.len < F) (hF : 1000000000 < F) : (E F (d + 20)).pf 8 [.agg (eCav c), .agg (eStg s)] = some (.ret (.bool true)) := by
  have q19 : (E F (d + 19)).pf 19 [.agg (eCav c)] = _ := s19 F (d + 18) c
  have q21 : (E F (d + 19)).pf 21 [] = _ := s21 F d hF
  have q38 : (E F (d + 19)).pf 38 [.agg (eCav c)] = _ := s38 F (d + 13) c hB hCF
  have q39 : (E F (d + 19)).pf 39 [.agg (eCav c), .agg (eStg s)] = _ := s39 F (d + 13) c s hB hCF (by omega)
  have q27 : (E F (d + 19)).pf 27 [.agg (eCav c)] = _ := s27 F (d + 17) c hB hCF
  have q28 : (E F (d + 19)).pf 28 [.agg (eCav c), .agg (eStg s)] = _ := s28 F (d + 17) c s hB
  rw [E_pf, t8]
  by_cases h0 : c.slices.len ≤ 20
  · rw [decide_eq_true h0] at q19
    by_cases h1 : CavOk c
    · rw [decide_eq_true h1] at q27 q38
      by_cases h2 : StgOk c.slices.len s
      · rw [decide_eq_true h2] at q28
        rw [if_pos ⟨h1, h2⟩] at q39
        have q41 : (E F (d + 19)).pf 41 [.agg (eCav c), .agg (eStg s)] = _ := s41 F (d + 17) c h1 s h2 (by omega)
        have q40 := s40 F (d + 18) (rateSl c s) (rateSl c s) hB hCF
        rw [decide_eq_true (show SameP (rateSl c s) (rateSl c s) from ⟨rfl, fun _ _ => rfl⟩)] at q40
        simp only [q19, q27, q28, q38, q39, q41, tkOut_ret, tkBool_b, tkTup_t, tkCons_c, tkInt_i, tkRow_r, tkNil_n, Bool.not_true, pF, cond_true, decide_true, pT, z0', beq_self_eq_true]
        simp only [sl] at q40
        simp only [q40, q21, tkOut_ret, tkBool_b, pT]
      · rw [decide_eq_false h2] at q28
        rw [if_neg (fun h => h2 h.2)] at q39
        simp only [q19, q27, q28, q38, q39, q21, tkOut_ret, tkBool_b, tkTup_t, tkCons_c, tkInt_i, tkRow_r, tkNil_n, Bool.not_true, Bool.not_false, pF, cond_true, decide_true, pT, z0', beq_self_eq_true, Int.natCast_zero]
    · rw [decide_eq_false h1] at q27 q38
      rw [if_neg (fun h => h1 h.1)] at q39
      simp only [q19, q27, q38, q39, q21, tkOut_ret, tkBool_b, tkTup_t, tkCons_c, tkInt_i, tkRow_r, tkNil_n, Bool.not_true, Bool.not_false, pF, cond_false, decide_true, pT, beq_self_eq_true, Int.natCast_zero]
  · rw [decide_eq_false h0] at q19
    simp only [q19, q21, tkOut_ret, tkBool_b, Bool.not_false, pT]
/-- LeachGrades. -/
theorem s4 (c : Cav) (s : Stg) (hB : c.slices.len < Big) (hCF : c.slices.len < F) (hF : 1000000000 < F) : (E F (d + 102)).pf 4 [.agg (eCav c), .agg (eStg s)] = some (.ret (.bool true)) := by
  have q19 : (E F (d + 101)).pf 19 [.agg (eCav c)] = _ := s19 F (d + 100) c
  have q21 : (E F (d + 101)).pf 21 [] = _ := s21 F (d + 82) hF
  have q26 : (E F (d + 101)).pf 26 [.agg (eCav c), .agg (eStg s)] = _ := s26 F (d + 95) c s hB hCF hF
  have q27 : (E F (d + 101)).pf 27 [.agg (eCav c)] = _ := s27 F (d + 99) c hB hCF
  have q28 : (E F (d + 101)).pf 28 [.agg (eCav c), .agg (eStg s)] = _ := s28 F (d + 99) c s hB
  rw [E_pf, t4]
  by_cases h0 : c.slices.len ≤ 20
  · rw [decide_eq_true h0] at q19
    by_cases h1 : CavOk c
    · rw [decide_eq_true h1] at q27
      by_cases h2 : StgOk c.slices.len s
      · rw [decide_eq_true h2] at q28
        rw [if_pos ⟨h1, h2⟩] at q26
        have q29 : (E F (d + 101)).pf 29 [.agg (eCav c), .agg (eStg s)] = _ := s29 F d h1 h2 (by omega)
        simp only [q19, q26, q27, q28, q29, q21, tkOut_ret, tkBool_b, tkTup_t, tkAgg_a, tkCons_c, tkInt_i, tkNil_n, Bool.not_true, pF, decide_true, pT, beq_self_eq_true, Bool.and_self]
      · rw [decide_eq_false h2] at q28
        rw [if_neg (fun h => h2 h.2)] at q26
        simp only [q19, q26, q27, q28, q21, tkOut_ret, tkBool_b, tkTup_t, tkAgg_a, tkCons_c, tkInt_i, tkNil_n, Bool.not_true, Bool.not_false, pF, decide_true, pT, beq_self_eq_true, Bool.and_self]
    · rw [decide_eq_false h1] at q27
      rw [if_neg (fun h => h1 h.1)] at q26
      simp only [q19, q26, q27, q21, tkOut_ret, tkBool_b, tkTup_t, tkAgg_a, tkCons_c, tkInt_i, tkNil_n, Bool.not_true, Bool.not_false, pF, decide_true, pT, beq_self_eq_true, Bool.and_self]
  · rw [decide_eq_false h0] at q19
    simp only [q19, q21, tkOut_ret, tkBool_b, Bool.not_false, pT]
theorem lenB {n : Nat} (h : n ≤ 140737488355328) : n < Big := by show n < 4611686018427387904; omega
/-- LeachLeast. -/
theorem s7 (c : Cav) (l : Sl Stg) (w : Sl Int) (hC : c.slices.len < Big) (hCF : c.slices.len < F) (hB : l.len < Big) (hLF : l.len < F) (hW : w.len < Big) (hWF : w.len < F) (hF : 1000000000 < F) : (E F (d + 20)).pf 7 [.agg (eCav c), sl eStg 4 l, sl eInt 1 w] = some (.ret (.bool true)) := by
  have q19 : (E F (d + 19)).pf 19 [.agg (eCav c)] = _ := s19 F (d + 18) c
  have q21 : (E F (d + 19)).pf 21 [] = _ := s21 F d hF
  have q36 : (E F (d + 19)).pf 36 [.agg (eCav c), sl eStg 4 l, sl eInt 1 w] = _ := s36 F (d + 11) c l w hC hCF hB hLF hW hWF (by omega)
  have q32 : (E F (d + 19)).pf 32 [.agg (eCav c), sl eStg 4 l, sl eInt 1 w] = _ := s32 F (d + 15) c l w hC hCF hB hLF hW hWF
  rw [E_pf, t7]
  by_cases h0 : c.slices.len ≤ 20
  · rw [decide_eq_true h0] at q19
    by_cases h1 : (l.len : Int) > 20
    · simp only [q19, q21, tkOut_ret, tkBool_b, Bool.not_true, pF, decide_eq_true h1, pT]
    by_cases h2 : (w.len : Int) > 20
    · simp only [q19, q21, tkOut_ret, tkBool_b, Bool.not_true, pF, decide_eq_false h1, decide_eq_true h2, pT]
    by_cases h3 : errM c l w = 0
    · obtain ⟨h6, hc, h1', hl, hw⟩ := errM_0.1 h3
      have q37 : (E F (d + 19)).pf 37 [.agg (eCav c), sl eStg 4 l, sl eInt 1 w] = _ := s37 F (d + 16) hc hl (by omega) hw (by omega)
      rw [if_pos h3] at q36
      rw [h3] at q32
      cases hx : leastX c l w with
      | none =>
        rw [hx] at q36 q37
        simp only [q19, q21, q36, q32, q37, tkOut_ret, tkBool_b, tkTup_t, tkCons_c, tkInt_i, tkNil_n, Bool.not_true, Bool.not_false, pF, decide_eq_false h1, decide_eq_false h2, decide_true, pT, z0', beq_self_eq_true]
      | some n =>
        rw [hx] at q36 q37
        simp only [q19, q21, q36, q32, q37, tkOut_ret, tkBool_b, tkTup_t, tkCons_c, tkInt_i, tkNil_n, Bool.not_true, Bool.not_false, pF, decide_eq_false h1, decide_eq_false h2, decide_true, pT, z0', beq_self_eq_true]
    · rw [if_neg h3] at q36
      have e1 : (errM c l w != 0) = true := by simpa using h3
      simp only [q19, q21, q36, q32, tkOut_ret, tkBool_b, tkTup_t, tkCons_c, tkInt_i, tkNil_n, Bool.not_true, pF, decide_eq_false h1, decide_eq_false h2, decide_true, pT, e1, beq_self_eq_true]
  · rw [decide_eq_false h0] at q19
    simp only [q19, q21, tkOut_ret, tkBool_b, Bool.not_false, pT]
end Go.Sim.Le

/-
  LeachBounds: true for all that comes in.
-/
namespace Go.Sim.Le
open Go.Proofs
variable (F d : Nat)
theorem s20 (c : Cav) (l : Sl Stg) (x y z : Int) (hC : c.slices.len < Big) (hCF : c.slices.len < F) (hB : l.len < Big) (hF : l.len < F) : (E F (d + 5)).pf 20 [.agg (eCav c), sl eStg 4 l, .int .i64 x, .int .i64 y, .int .i64 z] = some (.ret (.bool (decide (errP c l true ≠ 0 ∨ (c.slices.len : Int) ≤ x ∧ c.hold ≤ y ∧ (l.len : Int) ≤ z)))) := by
  rw [E_pf, t20]
  simp only [s23 F d c l true hC hCF hB hF, tkOut_ret, tkInt_i, decide_true, pT]
  by_cases h0 : errP c l true = 0
  · rw [h0, show ((0 : Int) != 0) = false from rfl, pF]
    by_cases h1 : (c.slices.len : Int) ≤ x
    · by_cases h2 : c.hold ≤ y
      · rw [decide_eq_true h1, decide_eq_true h2, pT, pT]
        exact b3 (b2 (by simp [h1, h2]))
      · rw [decide_eq_true h1, decide_eq_false h2, pT, pF]
        exact b3 (b2 (by simp [h2]))
    · rw [decide_eq_false h1, pF]
      exact b3 (b2 (by simp [h1]))
  · rw [show (errP c l true != 0) = true by simpa using h0, pT]
    exact b3 (b2 (by simp [h0]))
/-- LeachBounds. -/
theorem s3 (c : Cav) (l : Sl Stg) (w : Sl Int) (n : Int) (hC : c.slices.len < Big) (hCF : c.slices.len < F) (hB : l.len < Big) (hLF : l.len < F) (hW : w.len < Big) (hWF : w.len < F) (hF : 1000000000 < F) : (E F (d + 20)).pf 3 [.agg (eCav c), sl eStg 4 l, sl eInt 1 w, .int .i64 n] = some (.ret (.bool true)) := by
  have q19 : (E F (d + 19)).pf 19 [.agg (eCav c)] = _ := s19 F (d + 18) c
  have q21 : (E F (d + 19)).pf 21 [] = _ := s21 F d hF
  have q20 : (E F (d + 19)).pf 20 [.agg (eCav c), sl eStg 4 l, .int .i64 5, .int .i64 60, .int .i64 4] = _ := s20 F (d + 14) c l 5 60 4 hC hCF hB hLF
  have q22 : (E F (d + 19)).pf 22 [.agg (eCav c), sl eStg 4 l, sl eInt 1 w, .int .i64 n] = _ := s22 F (d + 4) c l w n hC hCF hB hLF hW hWF (by omega)
  have q24 : (E F (d + 19)).pf 24 [.agg (eCav c), sl eInt 1 w, .int .i64 n] = _ := s24 F (d + 17) c w n hC hW hWF
  have q23 : (E F (d + 19)).pf 23 [.agg (eCav c), sl eStg 4 l, .bool (decide (WtOk c w n))] = _ := s23 F (d + 15) c l (decide (WtOk c w n)) hC hCF hB hLF
  rw [E_pf, t3]
  by_cases h0 : c.slices.len ≤ 20
  · rw [decide_eq_true h0] at q19
    by_cases h1 : (l.len : Int) > 20
    · simp only [q19, q21, tkOut_ret, tkBool_b, Bool.not_true, pF, decide_eq_true h1, pT]
    by_cases h2 : (w.len : Int) > 20
    · simp only [q19, q21, tkOut_ret, tkBool_b, Bool.not_true, pF, decide_eq_false h1, decide_eq_true h2, pT]
    simp only [q19, q20, tkOut_ret, tkBool_b, Bool.not_true, pF, decide_eq_false h1, decide_eq_false h2]
    generalize decide (errP c l true ≠ 0 ∨ (c.slices.len : Int) ≤ 5 ∧ c.hold ≤ 60 ∧ (l.len : Int) ≤ 4) = e
    cases e with
    | false => simp only [q21, tkOut_ret, tkBool_b, Bool.not_false, pT]
    | true =>
      by_cases h3 : errP c l (decide (WtOk c w n)) = 0
      · obtain ⟨h8, hc, hl, hw⟩ := errP_0.1 h3
        have hw' : WtOk c w n := of_decide_eq_true hw
        have hm : MeaOk c ⟨w, n⟩ := ⟨hw'.2.1, fun i hi => hw'.1 i (by rw [hw'.2.1]; exact hi), hw'.2.2.1, hw'.2.2.2⟩
        have q25 : (E F (d + 19)).pf 25 [.agg (eCav c), sl eStg 4 l, sl eInt 1 w, .int .i64 n] = _ := s25 F (d + 14) hc hm l (by omega) hl (by omega)
        rw [if_pos h3] at q22
        rw [h3] at q23
        simp only [q21, q22, q23, q24, q25, tkOut_ret, tkBool_b, tkTup_t, tkAgg_a, tkCons_c, tkInt_i, tkNil_n, Bool.not_true, pF, decide_true, pT, z0', beq_self_eq_true, Bool.and_self]
      · rw [if_neg h3] at q22
        have e1 : (errP c l (decide (WtOk c w n)) != 0) = true := by simpa using h3
        simp only [q21, q22, q23, q24, tkOut_ret, tkBool_b, tkTup_t, tkAgg_a, tkCons_c, tkInt_i, tkNil_n, Bool.not_true, pF, decide_true, pT, e1, beq_self_eq_true, Bool.and_self]
  · rw [decide_eq_false h0] at q19
    simp only [q19, q21, tkOut_ret, tkBool_b, Bool.not_false, pT]
end Go.Sim.Le

/-
  LeachFaults: the document's first fault; true for all that comes in.
-/
namespace Go.Sim.Le
open Go.Proofs
variable (F d : Nat)
theorem wv0 (y : Int) (u : Nat) : wv 0 y u = if (u : Int) ≤ y then -1 else 0 := by
  unfold wv
  by_cases h : (u : Int) ≤ y
  · rw [if_pos ⟨rfl, h⟩, if_pos h]
  · rw [if_neg (fun hh => h hh.2), if_neg (by omega), if_neg h]
theorem wv1 (y : Int) (u : Nat) : wv 1 y u = if y ≤ (u : Int) then 1 else 0 := by
  unfold wv
  rw [if_neg (by omega)]
  by_cases h : y ≤ (u : Int)
  · rw [if_pos (.inl ⟨rfl, h⟩), if_pos h]
  · rw [if_neg (by omega), if_neg h]
theorem wv2 (y : Int) (u : Nat) : wv 2 y u = if (u : Int) = y then 1 else 0 := by
  unfold wv
  rw [if_neg (by omega)]
  by_cases h : (u : Int) = y
  · rw [if_pos (.inr ⟨rfl, h⟩), if_pos h]
  · rw [if_neg (by omega), if_neg h]
def oneW (n u : Nat) : Int := if u = n then 1 else 0
theorem s75 (c : Cav) (hl : c.slices.len ≤ 300) (n : Nat) (hn : n < c.slices.len) : (E F (d + 1)).pf 75 [.agg (eCav c), .int .i64 n] = some (.ret (sl eInt 1 ⟨false, c.slices.len, oneW n⟩)) := by
  rw [E_pf, t75]
  simp (disch := omega) only [decide_eq_true, decide_true, pT, Int.toNat_natCast]
  have e := upd_int (fun _ => 0) n 1
  rw [e]
  rfl
/-- -1 for the first slices, so many. -/
def negW (q u : Nat) : Int := if u < q then -1 else 0
theorem l74 {c : Cav} (hc : CavOk c) (l : Sl Stg) (hL : l.len ≤ 300) (hs : ∀ i, i < l.len → StgOk c.slices.len (l.el i)) (n : Nat) (hn : n < c.slices.len) (hF : 400 < F) : ∀ j q fu, q + j = n + 1 → j < fu →
    L74x0 (E F (d + 4)) F c l n fu q (fun u => eInt (negW q u)) = some (.ret (.bool (decide ((boundS c l.el (meaS c 0 n) l.len).hi > 0)))) := by
  have hcl := hc.1
  intro j
  induction j with
  | zero =>
    intro q fu h hf
    obtain ⟨fu, rfl⟩ : ∃ k, fu = k + 1 := ⟨fu - 1, by omega⟩
    have hq : q = n + 1 := by omega
    subst hq
    have hm : MeaOk c ⟨⟨false, c.slices.len, negW (n + 1)⟩, 1⟩ := ⟨rfl, fun i hi => by show -1000 ≤ negW (n + 1) i ∧ negW (n + 1) i ≤ 1000; unfold negW; split <;> omega, by show -1000 ≤ (1 : Int); omega, by show (1 : Int) ≤ 1000; omega⟩
    have e := s65 F d hc hm l hL hs hF
    have e2 := bound_cong hc (m := meaS c 0 n) (m' := ⟨⟨false, c.slices.len, negW (n + 1)⟩, 1⟩) hs (fun i hi => by
      show negW (n + 1) i = meaW 0 n c.slices.len i
      unfold meaW negW
      rw [if_pos hi, wv0]
      split <;> split <;> omega) rfl l.len (Nat.le_refl _)
    rw [e2] at e
    rw [L74x0s, decide_eq_false (by omega), pF, Int.toNat_natCast]
    simp only [sl] at e ⊢
    rw [e]
    simp only [tkOut_ret, tkInt_i, decide_true, pT]
  | succ j ih =>
    intro q fu h hf
    obtain ⟨fu, rfl⟩ : ∃ k, fu = k + 1 := ⟨fu - 1, by omega⟩
    have e3 := upd_int (negW q) q (-1)
    have e4 : (fun u => eInt (if u = q then -1 else negW q u)) = fun u => eInt (negW (q + 1) u) := by
      funext u
      refine congrArg eInt ?_
      unfold negW
      by_cases h1 : u = q
      · rw [if_pos h1, if_pos (by omega)]
      · rw [if_neg h1]
        by_cases h2 : u < q
        · rw [if_pos h2, if_pos (by omega)]
        · rw [if_neg h2, if_neg (by omega)]
    rw [e4] at e3
    rw [L74x0s]
    simp (disch := omega) only [decide_eq_true, decide_true, pT, Int.toNat_natCast]
    rw [e3, wrS (by omega)]
    exact ih (q + 1) fu (by omega) (by omega)
theorem s74 {c : Cav} (hc : CavOk c) (l : Sl Stg) (hL : l.len ≤ 300) (hs : ∀ i, i < l.len → StgOk c.slices.len (l.el i)) (n : Int) (hn0 : 0 ≤ n) (hn : n < c.slices.len) (hF : 400 < F) : (E F (d + 5)).pf 74 [.agg (eCav c), sl eStg 4 l, .int .i64 n] = some (.ret (.bool (decide ((boundS c l.el (meaS c 0 n) l.len).hi > 0)))) := by
  have hcl := hc.1
  obtain ⟨n, rfl⟩ : ∃ k : Nat, n = k := ⟨n.toNat, by omega⟩
  have e := l74 F d hc l hL hs n (by omega) hF (n + 1) 0 F (by omega) (by omega)
  have e0 : (fun u => eInt (negW 0 u)) = fun _ => [V.int .i64 0] := by
    funext u
    simp only [negW, Nat.not_lt_zero, if_false]
  rw [e0] at e
  rw [E_pf, t74]
  simp (disch := omega) only [decide_eq_true, decide_true, pT]
  exact e
section
variable {c : Cav} (hc : CavOk c) (l : Sl Stg) (hL : l.len ≤ 300) (hs : ∀ i, i < l.len → StgOk c.slices.len (l.el i)) (hF : 400 < F)
include hc hL hs hF
theorem l31x2 (m0 k : Nat) (hk : k < l.len) (R : Option Out) : ∀ j i fu, i + j = c.slices.len → j < fu →
    (bif (wideR c l.el k j i).2 then some (.ret (.tup [.int .i64 k, .int .i64 5, .int .i64 (wideR c l.el k j i).1])) else L31x0 (E F (d + 5)) F c l m0 ((k + 1 : Nat) : Int)) = R →
    L31x2 (E F (d + 5)) F c l m0 fu k i = R := by
  have hcl := hc.1
  intro j
  induction j with
  | zero =>
    intro i fu h hf K
    obtain ⟨fu, rfl⟩ : ∃ k, fu = k + 1 := ⟨fu - 1, by omega⟩
    rw [L31x2s, decide_eq_false (by omega), pF, wrS (by omega)]
    simp only [wideR, cond_false] at K
    exact K
  | succ j ih =>
    intro i fu h hf K
    obtain ⟨fu, rfl⟩ : ∃ k, fu = k + 1 := ⟨fu - 1, by omega⟩
    have hm : MeaOk c ⟨⟨false, c.slices.len, oneW i⟩, 0⟩ := ⟨rfl, fun u hu => by show -1000 ≤ oneW i u ∧ oneW i u ≤ 1000; unfold oneW; split <;> omega, by show -1000 ≤ (0 : Int); omega, by show (0 : Int) ≤ 1000; omega⟩
    have e := s65 F (d + 1) hc hm ⟨l.nl, k + 1, l.el⟩ (show k + 1 ≤ 300 by omega) (fun i hi => hs i (by have : i < k + 1 := hi; omega)) hF
    have e2 := bound_cong hc (m := meaS c 2 i) (m' := ⟨⟨false, c.slices.len, oneW i⟩, 0⟩) (n := k + 1) (l := l.el) (fun i hi => hs i (by omega)) (fun u hu => by
      show oneW i u = meaW 2 i c.slices.len u
      unfold meaW oneW
      rw [if_pos hu, wv2]
      split <;> split <;> omega) rfl (k + 1) (Nat.le_refl _)
    rw [e2] at e
    have e75 : (E F (d + 5)).pf 75 [.agg (eCav c), .int .i64 i] = _ := s75 F (d + 4) c (by omega) i (by omega)
    have hS : IntKind.i64.wrap ((k : Int) + 1) = ((k + 1 : Nat) : Int) := wrS (by omega)
    rw [L31x2s]
    simp (disch := omega) only [decide_eq_true, decide_true, pT, Int.toNat_natCast, hS, Bool.true_or, Nat.sub_zero, e75, tkOut_ret, tkRow_r]
    simp only [sl] at e ⊢
    rw [show (E F (d + 5)).pf 65 [.agg [.row c.slices.nl c.slices.len 7 fun i => eSlc (c.slices.el i), .int .i64 c.hold, .int .i64 c.oil], .row l.nl (k + 1) 4 (fun u => eStg (l.el u)), .row false c.slices.len 1 (fun u => eInt (oneW i u)), .int .i64 0] = _ from e]
    simp (disch := omega) only [tkOut_ret, tkInt_i, decide_eq_true, decide_true, pT]
    by_cases hw : (boundS c l.el (meaS c 2 i) (k + 1)).hi > (c.slices.el i).most
    · simp only [wideR, decide_eq_true hw, cond_true] at K
      rw [decide_eq_true hw, pT]
      exact K
    · simp only [wideR, decide_eq_false hw, cond_false] at K
      rw [decide_eq_false hw, pF, wrS (by omega)]
      exact ih (i + 1) fu (by omega) (by omega) K
/-- 1 for slices from one on, below another. -/
def upW (b q u : Nat) : Int := if b ≤ u ∧ u < q then 1 else 0
omit hF in
theorem l31x1 (hF : 400 < F) (m0 k : Nat) (hk : k < l.len) (b : Nat) (hb : (l.el k).blanket = b) (x1 x2 x3 : Int) (R : Option Out)
    (K : (bif oiledB c l.el k then some (.ret (.tup [.int .i64 k, .int .i64 4, .int .i64 b])) else L31x2 (E F (d + 5)) F c l m0 F k 0) = R) : ∀ j q fu, q + j = c.slices.len → b ≤ q → j < fu →
    L31x1 (E F (d + 5)) F c l m0 fu k q x1 x2 x3 b (fun u => eInt (upW b q u)) = R := by
  have hcl := hc.1
  intro j
  induction j with
  | zero =>
    intro q fu h hbq hf
    obtain ⟨fu, rfl⟩ : ∃ k, fu = k + 1 := ⟨fu - 1, by omega⟩
    have hq : q = c.slices.len := by omega
    subst hq
    have hm : MeaOk c ⟨⟨false, c.slices.len, upW b c.slices.len⟩, 0⟩ := ⟨rfl, fun u hu => by show -1000 ≤ upW b c.slices.len u ∧ upW b c.slices.len u ≤ 1000; unfold upW; split <;> omega, by show -1000 ≤ (0 : Int); omega, by show (0 : Int) ≤ 1000; omega⟩
    have e := s65 F (d + 1) hc hm ⟨l.nl, k, l.el⟩ (show k ≤ 300 by omega) (fun i hi => hs i (by have : i < k := hi; omega)) hF
    have e2 := bound_cong hc (m := meaS c 1 b) (m' := ⟨⟨false, c.slices.len, upW b c.slices.len⟩, 0⟩) (n := k) (l := l.el) (fun i hi => hs i (by omega)) (fun u hu => by
      show upW b c.slices.len u = meaW 1 b c.slices.len u
      unfold meaW upW
      rw [if_pos hu, wv1]
      split <;> split <;> omega) rfl k (Nat.le_refl _)
    rw [e2] at e
    rw [L31x1s, Int.toNat_natCast, decide_eq_false (by omega), pF]
    simp (disch := omega) only [decide_eq_true, decide_true, pT, Int.toNat_natCast, Bool.true_or, Nat.sub_zero]
    simp only [sl] at e ⊢
    rw [show (E F (d + 5)).pf 65 [.agg [.row c.slices.nl c.slices.len 7 fun i => eSlc (c.slices.el i), .int .i64 c.hold, .int .i64 c.oil], .row l.nl k 4 (fun u => eStg (l.el u)), .row false c.slices.len 1 (fun u => eInt (upW b c.slices.len u)), .int .i64 0] = _ from e]
    simp only [tkOut_ret, tkInt_i, decide_true, pT]
    unfold oiledB at K
    rw [hb] at K
    by_cases ho : (boundS c l.el (meaS c 1 b) k).hi > c.oil
    · rw [decide_eq_true ho, cond_true] at K
      rw [decide_eq_true ho, pT]; exact K
    · rw [decide_eq_false ho, cond_false] at K
      rw [decide_eq_false ho, pF]; exact K
  | succ j ih =>
    intro q fu h hbq hf
    obtain ⟨fu, rfl⟩ : ∃ k, fu = k + 1 := ⟨fu - 1, by omega⟩
    have e3 := upd_int (upW b q) q 1
    have e4 : (fun u => eInt (if u = q then 1 else upW b q u)) = fun u => eInt (upW b (q + 1) u) := by
      funext u
      refine congrArg eInt ?_
      unfold upW
      by_cases h1 : u = q
      · rw [if_pos h1, if_pos (by omega)]
      · rw [if_neg h1]
        by_cases h2 : b ≤ u ∧ u < q
        · rw [if_pos h2, if_pos (by omega)]
        · rw [if_neg h2, if_neg (by omega)]
    rw [e4] at e3
    rw [L31x1s, Int.toNat_natCast]
    simp (disch := omega) only [decide_eq_true, decide_true, pT, Int.toNat_natCast]
    rw [e3, wrS (by omega)]
    exact ih (q + 1) fu (by omega) (by omega) (by omega)
theorem l31x0 : ∀ j k fu, k + j = l.len → j < fu → L31x0 (E F (d + 5)) F c l fu k = some (.ret (.tup [.int .i64 (faultR c l.el j k).1, .int .i64 (faultR c l.el j k).2.1, .int .i64 (faultR c l.el j k).2.2])) := by
  have hcl := hc.1
  intro j
  induction j with
  | zero =>
    intro k fu h hf
    obtain ⟨fu, rfl⟩ : ∃ k, fu = k + 1 := ⟨fu - 1, by omega⟩
    rw [L31x0s, decide_eq_false (by omega), pF]
    rfl
  | succ j ih =>
    intro k fu h hf
    obtain ⟨fu, rfl⟩ : ∃ k, fu = k + 1 := ⟨fu - 1, by omega⟩
    have hlk := hs k (by omega)
    obtain ⟨hw1, hw2, hw3, hw4, hw5⟩ := hlk
    have e1 := s74 F d hc ⟨l.nl, k, l.el⟩ (show k ≤ 300 by omega) (fun i hi => hs i (by have : i < k := hi; omega)) (min (l.el k).into (l.el k).out) (by omega) (by omega) hF
    have e2 := s74 F d hc ⟨l.nl, k + 1, l.el⟩ (show k + 1 ≤ 300 by omega) (fun i hi => hs i (by have : i < k + 1 := hi; omega)) (min (l.el k).into (l.el k).out) (by omega) (by omega) hF
    have hS : IntKind.i64.wrap ((k : Int) + 1) = ((k + 1 : Nat) : Int) := wrS (by omega)
    simp only [sl] at e1 e2
    rw [L31x0s]
    simp (disch := omega) only [decide_eq_true (show (k : Int) < (l.len : Int) by omega), decide_eq_true (show (0 : Int) ≤ k by omega), pT, Int.toNat_natCast, mxE, mnE]
    by_cases h1 : topOf (l.el k) ≥ (l.el k).blanket
    · rw [decide_eq_true (show max (l.el k).into (l.el k).out ≥ (l.el k).blanket from h1), pT]
      simp only [faultR, decide_eq_true h1, cond_true]
      rfl
    · rw [decide_eq_false (show ¬ max (l.el k).into (l.el k).out ≥ (l.el k).blanket from h1), pF]
      simp (disch := omega) only [Bool.true_or, decide_eq_true, decide_true, pT, Nat.sub_zero, hS, Int.toNat_natCast]
      rw [e1]
      simp only [tkOut_ret, tkBool_b]
      by_cases hb1 : (boundS c l.el (meaS c 0 (min (l.el k).into (l.el k).out)) k).hi > 0
      · have hb : buriedB c l.el k = true := decide_eq_true (by omega)
        rw [decide_eq_true hb1, pT]
        simp only [faultR, decide_eq_false h1, cond_false, hb, cond_true]
        rfl
      · rw [decide_eq_false hb1, pF, e2]
        simp only [tkOut_ret, tkBool_b]
        by_cases hb2 : (boundS c l.el (meaS c 0 (min (l.el k).into (l.el k).out)) (k + 1)).hi > 0
        · have hb : buriedB c l.el k = true := decide_eq_true (by omega)
          rw [decide_eq_true hb2, pT]
          simp only [faultR, decide_eq_false h1, cond_false, hb, cond_true]
          rfl
        · have hb : buriedB c l.el k = false := decide_eq_false (by omega)
          rw [decide_eq_false hb2, pF]
          obtain ⟨b, hbb⟩ : ∃ b : Nat, (l.el k).blanket = b := ⟨(l.el k).blanket.toNat, by omega⟩
          have e0 : (fun u => eInt (upW b b u)) = fun _ => [V.int .i64 0] := by
            funext u
            simp only [upW, if_neg (show ¬ (b ≤ u ∧ u < b) by omega)]
          rw [← e0, hbb]
          refine l31x1 F d hc l hL hs hF fu k (by omega) b hbb _ _ _ _ ?_ (c.slices.len - b) b F (by omega) (Nat.le_refl _) (by omega)
          have h1' : ¬ topOf (l.el k) ≥ (b : Int) := by rw [← hbb]; exact h1
          simp only [faultR, hbb, decide_eq_false h1', cond_false, hb]
          cases ho : oiledB c l.el k with
          | true => simp only [cond_true]
          | false =>
            simp only [cond_false]
            refine l31x2 F d hc l hL hs hF fu k (by omega) _ c.slices.len 0 F (by omega) (by omega) ?_
            cases hwd : (wideR c l.el k c.slices.len 0).2 with
            | true => simp only [cond_true]
            | false => simp only [cond_false]; exact ih (k + 1) fu (by omega) (by omega)
theorem s31 : (E F (d + 6)).pf 31 [.agg (eCav c), sl eStg 4 l] = some (.ret (.tup [.int .i64 (faultR c l.el l.len 0).1, .int .i64 (faultR c l.el l.len 0).2.1, .int .i64 (faultR c l.el l.len 0).2.2])) := by
  rw [E_pf, t31]
  exact l31x0 F d hc l hL hs hF l.len 0 F (by omega) (by omega)
end
/-- LeachFaults. -/
theorem s5 (c : Cav) (l : Sl Stg) (hC : c.slices.len < Big) (hCF : c.slices.len < F) (hB : l.len < Big) (hLF : l.len < F) (hF : 1000000000 < F) : (E F (d + 20)).pf 5 [.agg (eCav c), sl eStg 4 l] = some (.ret (.bool true)) := by
  have q19 : (E F (d + 19)).pf 19 [.agg (eCav c)] = _ := s19 F (d + 18) c
  have q21 : (E F (d + 19)).pf 21 [] = _ := s21 F d hF
  have q20 : (E F (d + 19)).pf 20 [.agg (eCav c), sl eStg 4 l, .int .i64 5, .int .i64 60, .int .i64 4] = _ := s20 F (d + 14) c l 5 60 4 hC hCF hB hLF
  have q30 : (E F (d + 19)).pf 30 [.agg (eCav c), sl eStg 4 l] = _ := s30 F (d + 1) c l hC hCF hB hLF (by omega)
  have q23 : (E F (d + 19)).pf 23 [.agg (eCav c), sl eStg 4 l, .bool true] = _ := s23 F (d + 15) c l true hC hCF hB hLF
  rw [E_pf, t5]
  by_cases h0 : c.slices.len ≤ 20
  · rw [decide_eq_true h0] at q19
    by_cases h1 : (l.len : Int) > 20
    · simp only [q19, q21, tkOut_ret, tkBool_b, Bool.not_true, pF, decide_eq_true h1, pT]
    simp only [q19, q20, tkOut_ret, tkBool_b, Bool.not_true, pF, decide_eq_false h1]
    generalize decide (errP c l true ≠ 0 ∨ (c.slices.len : Int) ≤ 5 ∧ c.hold ≤ 60 ∧ (l.len : Int) ≤ 4) = e
    cases e with
    | false => simp only [q21, tkOut_ret, tkBool_b, Bool.not_false, pT]
    | true =>
      by_cases h3 : errP c l true = 0
      · obtain ⟨h8, hc, hl, _⟩ := errP_0.1 h3
        have q31 : (E F (d + 19)).pf 31 [.agg (eCav c), sl eStg 4 l] = _ := s31 F (d + 13) hc l (by omega) hl (by omega)
        rw [if_pos h3] at q30
        rw [h3] at q23
        simp only [q21, q30, q23, q31, tkOut_ret, tkBool_b, tkTup_t, tkCons_c, tkInt_i, tkNil_n, Bool.not_true, pF, decide_true, pT, z0', beq_self_eq_true, Bool.and_self]
      · rw [if_neg h3] at q30
        have e1 : (errP c l true != 0) = true := by simpa using h3
        simp only [q21, q30, q23, tkOut_ret, tkBool_b, tkTup_t, tkCons_c, tkInt_i, tkNil_n, Bool.not_true, pF, decide_true, pT, e1, beq_self_eq_true, Bool.and_self]
  · rw [decide_eq_false h0] at q19
    simp only [q19, q21, tkOut_ret, tkBool_b, Bool.not_false, pT]
end Go.Sim.Le

/-
  LeachFaults: the row.
-/
namespace Go.Proofs.Ythbpdkcfnbiejaa
open Go.ChangeShapes Go.WideShapes Go.ChangeAt Go.RowKit Go.Sim Go.Sim.Le
set_option maxRecDepth 100000 in
theorem leachFaults_fit (cs : List V) (h : ArgsFit [(true, shCav), (false, [.row shStg])] cs) : (E 2000000000000000 20).pf 5 cs = some (.ret (.bool true)) := by
  obtain ⟨l0, cs0, rfl, h0, g0⟩ := h
  obtain ⟨s1, c1, cs1, e1, rfl, h1, g1⟩ := g0
  injection e1 with e1 _; subst e1
  obtain rfl : cs1 = [] := g1
  obtain ⟨a0, rfl, m0⟩ := decCav l0 h0
  obtain ⟨a1, rfl, m1, n1⟩ := fitRow decStg h1
  exact s5 2000000000000000 0 a0 a1 (lenB m0.1) (by have := m0.1; omega) (lenB m1.1) (by have := m1.1; omega) (by omega)
set_option maxRecDepth 100000 in
theorem leachFaults_lifted (os : Os) (started : os.Started) (H : Type) (enc : TypeId × Value → H) :
    ReturnsInHanded {} Try.checked os 5 .any (Rows.leachFaultsSpec.pre6 enc Try.prog Try.f5 Rows.leachFaultsRow.domain false) (Rows.leachFaultsSpec.post enc Try.prog Try.f5 false true false false) := by
  refine returnsInHanded_of_change_sized (C := Try.checked) own started (by kernel_rfl) Try.func5
    (ChangeSpec.witness6 (enc := enc) (C := Try.checked) false ⟨#[], #[.agg #[.slice none 0 0, .int .i64 0, .int .i64 0], .slice none 0 0], []⟩ 8 (by kernel_rfl) (by kernel_rfl) (by kernel_rfl) (by kernel_rfl)) ?_
  intro W base args ds gs before hval hW _ hwt _
  exact law_contract (tb := 4) (okE 2000000000000000 20) (by kernel_rfl) leachFaults_fit
    ⟨rfl, fun H ds h => by match ds, h with | [_, _], _ => exact ⟨rfl, rfl, rfl⟩⟩ (by kernel_rfl) (by kernel_rfl) laid (by decide +kernel) W base args ds gs before hval hW hwt
theorem leachFaults_holds : Rows.LeachFaultsSaid :=
  OpenClaim.holds_of_wide 5 Try.f5 rfl rfl rfl rfl rfl rfl rfl ⟨rfl, rfl, rfl, rfl, rfl⟩ rfl rfl rfl rfl rfl (by kernel_rfl) Try.func5 (by kernel_rfl)
    (of_decide_eq_true (by kernel_rfl)) (by unfold Func.isWrapper; first | (rw [if_pos (by decide +kernel)]; kernel_rfl) | (rw [if_neg (by decide +kernel)]; exact ⟨rfl, rfl⟩))
    (fun os started H enc _ => leachFaults_lifted os started H enc)
#print axioms leachFaults_holds
end Go.Proofs.Ythbpdkcfnbiejaa
