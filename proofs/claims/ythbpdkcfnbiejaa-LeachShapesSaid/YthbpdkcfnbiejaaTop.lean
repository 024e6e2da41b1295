/-
  LeachShapes holds for every input: called with any cavern, stages and truth, the law returns true, and its arguments read behind the call as before. No condition.
-/
import Derived.Test.YthbpdkcfnbiejaaAg
import Derived.KernelRfl
import Derived.Test.YthbpdkcfnbiejaaRows
set_option linter.unusedVariables false
set_option linter.unusedSimpArgs false
set_option linter.unusedSectionVars false
set_option maxRecDepth 100000
namespace Go.Sim.Le
open Go.Proofs
theorem t19 (env : Env) (F : Nat) (c : Cav) : (evFun Try.prog (cfg F) env 19 [(.agg (eCav c))]) = some (.ret (.bool (decide ((((Sl.len (Cav.slices c)) : Nat) : Int) ≤ (20 : Int))))) := by kernel_rfl
theorem t20 (env : Env) (F : Nat) (c : Cav) (l : Sl Stg) (x : Int) (y : Int) (z : Int) : (evFun Try.prog (cfg F) env 20 [(.agg (eCav c)), (sl eStg 4 l), (i64 x), (i64 y), (i64 z)]) = (tkOut (env.pf 23 [(.agg (eCav c)), (sl eStg 4 l), (.bool true)]) none (fun v7 => (tkInt v7 none fun q8 n9 => (bif (decide (q8 = .i64)) then (bif (n9 != (0 : Int)) then some (.ret (.bool true)) else (bif (decide ((((Sl.len (Cav.slices c)) : Nat) : Int) ≤ x)) then (bif (decide ((Cav.hold c) ≤ y)) then some (.ret (.bool (decide ((((Sl.len l) : Nat) : Int) ≤ z)))) else some (.ret (.bool false))) else some (.ret (.bool false)))) else none))) (fun p7 => (tkIfc p7 none fun t8 x9 => (bif (flatP (.iface t8 x9)) then some (.pan (.iface t8 x9)) else none)))) := by kernel_rfl
theorem t75 (env : Env) (F : Nat) (c : Cav) (n : Int) : (evFun Try.prog (cfg F) env 75 [(.agg (eCav c)), (i64 n)]) = (bif (decide ((0 : Int) ≤ (((Sl.len (Cav.slices c)) : Nat) : Int))) then (bif (decide ((((Sl.len (Cav.slices c)) : Nat) : Int) ≤ (((Sl.len (Cav.slices c)) : Nat) : Int))) then (bif (decide ((((8 : Nat) : Int) * (((Sl.len (Cav.slices c)) : Nat) : Int)) ≤ (281474976710656 : Int))) then (bif (decide ((((Sl.len (Cav.slices c)) : Nat) : Int) ≤ (9223372036854775807 : Int))) then (bif (decide ((0 : Int) ≤ n)) then (bif (decide (n < (((Int.toNat (((Sl.len (Cav.slices c)) : Nat) : Int)) : Nat) : Int))) then some (.ret (.row false (Int.toNat (((Sl.len (Cav.slices c)) : Nat) : Int)) 1 (fun u4 => (updGet (fun u5 => [(i64 (0 : Int))]) (Int.toNat n) 0 [(i64 (1 : Int))] u4)))) else none) else none) else none) else none) else none) else none) := by kernel_rfl
noncomputable def L42x0 (env : Env) (F : Nat) (c : Cav) (l : Sl Stg) (fu : Nat) (b0 : Bool) (k1 : Nat) (k2 : Nat) (g3 : Nat → List V) (q4 : IntKind) (i5 : Int) (q6 : IntKind) (i7 : Int) : Option Out := atLoop Try.prog (cfg F) env 42 [.r, .r, .r, .r, .l, .r, .d] [] fu { tm := tmL 59 0 [(4, (.optr 0 0 0)), (8, (.optr 1 0 0)), (33, (sl eSlc 7 (Cav.slices c))), (34, (i64 (((Sl.len (Cav.slices c)) : Nat) : Int))), (35, (i64 (0 : Int)))], hp := [(.box 72 [(.row true 0 0 (fun u13 => [])), (.row true 0 0 (fun u13 => [])), (i64 (0 : Int)), (i64 (0 : Int))] true), (.box 72 [(.row b0 k1 k2 g3), (.row true 0 0 (fun u13 => [])), (.int q4 i5), (.int q6 i7)] true)] }
noncomputable def L42x1 (env : Env) (F : Nat) (c : Cav) (l : Sl Stg) (fu : Nat) (i0 : Int) (b1 : Bool) (k2 : Nat) (k3 : Nat) (g4 : Nat → List V) (k5 : Nat) (q6 : IntKind) (i7 : Int) (q8 : IntKind) (i9 : Int) (k10 : Nat) (g11 : Nat → List V) : Option Out := atLoop Try.prog (cfg F) env 42 [.r, .r, .r, .r, .l, .r, .d] [] fu { tm := tmL 59 0 [(4, (.optr 0 0 0)), (8, (.optr 1 0 0)), (33, (sl eSlc 7 (Cav.slices c))), (34, (i64 (((Sl.len (Cav.slices c)) : Nat) : Int))), (35, (i64 i0))], hp := [(.box 72 [(.row true 0 0 (fun u17 => [])), (.row true 0 0 (fun u17 => [])), (i64 (0 : Int)), (i64 (0 : Int))] true), (.box 72 [(.row b1 k2 k3 g4), (.osl 2 0 k5), (.int q6 i7), (.int q8 i9)] true), (.arr 31 2 k10 g11 true)] }
theorem t42 (env : Env) (F : Nat) (c : Cav) (l : Sl Stg) : (evFun Try.prog (cfg F) env 42 [(.agg (eCav c)), (sl eStg 4 l)]) = (tkOut (env.pf 57 [(.agg (eCav c)), (sl eStg 4 l)]) none (fun v4 => (tkInt v4 none fun q5 n6 => (bif (decide (q5 = .i64)) then (bif (n6 != (0 : Int)) then some (.ret (.tup [(.agg [(.row true 0 0 (fun u7 => [])), (.row true 0 0 (fun u7 => [])), (i64 (0 : Int)), (i64 (0 : Int))]), (.int q5 n6)])) else (tkOut (env.pf 84 [(.agg (eCav c)), (sl eStg 4 l)]) none (fun v7 => (tkRow v7 none fun nl8 n9 wd10 g11 => (bif (decide ((0 : Int) ≤ (((Sl.len (Cav.slices c)) : Nat) : Int))) then (bif (decide ((((Sl.len (Cav.slices c)) : Nat) : Int) ≤ (((Sl.len (Cav.slices c)) : Nat) : Int))) then (bif (decide ((((8 : Nat) : Int) * (((Sl.len (Cav.slices c)) : Nat) : Int)) ≤ (281474976710656 : Int))) then (bif (decide ((((Sl.len (Cav.slices c)) : Nat) : Int) ≤ (9223372036854775807 : Int))) then (tkOut (env.pf 62 [(.agg (eCav c)), (sl eStg 4 l), (.agg [(.row false (Int.toNat (((Sl.len (Cav.slices c)) : Nat) : Int)) 1 (fun u12 => [(i64 (0 : Int))])), (i64 (1 : Int))])]) none (fun v12 => (tkAgg v12 none fun l13 => (tkCons l13 none fun v14 r15 => (tkInt v14 none fun q16 n17 => (tkCons r15 none fun v18 r19 => (tkInt v18 none fun q20 n21 => (tkNil r19 none ((L42x0 env F c l F nl8 n9 wd10 g11 q16 n17 q20 n21))))))))) (fun p12 => (tkIfc p12 none fun t13 x14 => (bif (flatP (.iface t13 x14)) then none else none)))) else none) else none) else none) else none))) (fun p7 => (tkIfc p7 none fun t8 x9 => (bif (flatP (.iface t8 x9)) then none else none))))) else none))) (fun p4 => (tkIfc p4 none fun t5 x6 => (bif (flatP (.iface t5 x6)) then some (.pan (.iface t5 x6)) else none)))) := by kernel_rfl
theorem L42x0s (env : Env) (F : Nat) (c : Cav) (l : Sl Stg) (fu : Nat) (b0 : Bool) (k1 : Nat) (k2 : Nat) (g3 : Nat → List V) (q4 : IntKind) (i5 : Int) (q6 : IntKind) (i7 : Int) : L42x0 env F c l (fu + 1) b0 k1 k2 g3 q4 i5 q6 i7 = (bif (decide ((0 : Int) < (((Sl.len (Cav.slices c)) : Nat) : Int))) then (bif (decide ((0 : Int) < (((Sl.len (Cav.slices c)) : Nat) : Int))) then (bif (k2 == 2) then (bif (decide ((0 : Int) < ((k1 : Nat) : Int))) then (bif ((List.length (List.take 2 (g3 0))) == 2) then (tkCons (List.take 2 (g3 0)) none fun v13 r14 => (tkInt v13 none fun q15 n16 => (tkCons r14 none fun v17 r18 => (tkInt v17 none fun q19 n20 => (tkNil r18 none ((tkOut (env.pf 86 [(.agg [(.int q15 n16), (.int q19 n20)]), (i64 (Slc.opn (Sl.el (Cav.slices c) 0)))]) none (fun v21 => (tkAgg v21 none fun l22 => (tkCons l22 none fun v23 r24 => (tkInt v23 none fun q25 n26 => (tkCons r24 none fun v27 r28 => (tkInt v27 none fun q29 n30 => (tkNil r28 none ((tkOut (env.pf 85 [(.row false 2 2 (fun u31 => (List.take 2 (List.drop ((Min.min u31 1) * 2) [(i64 (Span.lo (Slc.vol (Sl.el (Cav.slices c) 0)))), (i64 (Span.hi (Slc.vol (Sl.el (Cav.slices c) 0)))), (.int q25 n26), (.int q29 n30)]))))]) none (fun v31 => (tkAgg v31 none fun l32 => (tkCons l32 none fun v33 r34 => (tkInt v33 none fun q35 n36 => (tkCons r34 none fun v37 r38 => (tkInt v37 none fun q39 n40 => (tkNil r38 none ((L42x1 env F c l fu (IntKind.wrap .i64 ((0 : Int) + (1 : Int))) b0 k1 k2 g3 1 q4 i5 q6 i7 1 (fun u41 => [(.int q35 n36), (.int q39 n40)])))))))))) (fun p31 => (tkIfc p31 none fun t32 x33 => (bif (flatP (.iface t32 x33)) then none else none)))))))))))) (fun p21 => (tkIfc p21 none fun t22 x23 => (bif (flatP (.iface t22 x23)) then some (.pan (.iface t22 x23)) else none)))))))))) else none) else none) else none) else none) else some (.ret (.tup [(.agg [(.row b0 k1 k2 g3), (.row true 0 0 (fun u13 => [])), (.int q4 i5), (.int q6 i7)]), (i64 (0 : Int))]))) := by kernel_rfl
theorem L42x1s (env : Env) (F : Nat) (c : Cav) (l : Sl Stg) (fu : Nat) (i0 : Int) (b1 : Bool) (k2 : Nat) (k3 : Nat) (g4 : Nat → List V) (k5 : Nat) (q6 : IntKind) (i7 : Int) (q8 : IntKind) (i9 : Int) (k10 : Nat) (g11 : Nat → List V) : L42x1 env F c l (fu + 1) i0 b1 k2 k3 g4 k5 q6 i7 q8 i9 k10 g11 = (bif (decide (i0 < (((Sl.len (Cav.slices c)) : Nat) : Int))) then (bif (decide ((0 : Int) ≤ i0)) then (bif (decide (i0 < (((Sl.len (Cav.slices c)) : Nat) : Int))) then (bif (k3 == 2) then (bif (decide ((0 : Int) ≤ i0)) then (bif (decide (i0 < ((k2 : Nat) : Int))) then (bif ((List.length (List.take 2 (g4 (Int.toNat i0)))) == 2) then (tkCons (List.take 2 (g4 (Int.toNat i0))) none fun v17 r18 => (tkInt v17 none fun q19 n20 => (tkCons r18 none fun v21 r22 => (tkInt v21 none fun q23 n24 => (tkNil r22 none ((tkOut (env.pf 86 [(.agg [(.int q19 n20), (.int q23 n24)]), (i64 (Slc.opn (Sl.el (Cav.slices c) (Int.toNat i0))))]) none (fun v25 => (tkAgg v25 none fun l26 => (tkCons l26 none fun v27 r28 => (tkInt v27 none fun q29 n30 => (tkCons r28 none fun v31 r32 => (tkInt v31 none fun q33 n34 => (tkNil r32 none ((tkOut (env.pf 85 [(.row false 2 2 (fun u35 => (List.take 2 (List.drop ((Min.min u35 1) * 2) [(i64 (Span.lo (Slc.vol (Sl.el (Cav.slices c) (Int.toNat i0))))), (i64 (Span.hi (Slc.vol (Sl.el (Cav.slices c) (Int.toNat i0))))), (.int q29 n30), (.int q33 n34)]))))]) none (fun v35 => (tkAgg v35 none fun l36 => (tkCons l36 none fun v37 r38 => (tkInt v37 none fun q39 n40 => (tkCons r38 none fun v41 r42 => (tkInt v41 none fun q43 n44 => (tkNil r42 none ((bif (decide (((k5 + 1) * 16) ≤ 140737488355328)) then (L42x1 env F c l fu (IntKind.wrap .i64 (i0 + (1 : Int))) b1 k2 k3 g4 (k5 + 1) q6 i7 q8 i9 (k5 + 1) (appGet k5 g11 (fun u45 => [(.int q39 n40), (.int q43 n44)]))) else none))))))))) (fun p35 => (tkIfc p35 none fun t36 x37 => (bif (flatP (.iface t36 x37)) then none else none)))))))))))) (fun p25 => (tkIfc p25 none fun t26 x27 => (bif (flatP (.iface t26 x27)) then some (.pan (.iface t26 x27)) else none)))))))))) else none) else none) else none) else none) else none) else none) else some (.ret (.tup [(.agg [(.row b1 k2 k3 g4), (.row false k5 2 (fun u17 => (g11 u17))), (.int q6 i7), (.int q8 i9)]), (i64 (0 : Int))]))) := by kernel_rfl
noncomputable def L43x0 (env : Env) (F : Nat) (c : Cav) (l : Sl Stg) (fu : Nat) : Option Out := atLoop Try.prog (cfg F) env 43 [.r, .r, .l, .r, .d] [] fu { tm := tmL 81 0 [(1, (sl eStg 4 l)), (2, (.optr 0 0 0)), (4, (.optr 1 0 0)), (5, (.optr 2 0 0)), (6, (i64 (0 : Int)))], hp := [(.box 24 (eCav c) true), (.box 72 [(.row true 0 0 (fun u5 => [])), (.row true 0 0 (fun u5 => [])), (i64 (0 : Int)), (i64 (0 : Int))] true), (.box 72 [(.row true 0 0 (fun u5 => [])), (.row true 0 0 (fun u5 => [])), (i64 (0 : Int)), (i64 (0 : Int))] true)] }
noncomputable def L43x1 (env : Env) (F : Nat) (c : Cav) (l : Sl Stg) (m0 : Nat) (fu : Nat) (i0 : Int) (i1 : Int) (i2 : Int) : Option Out := atLoop Try.prog (cfg F) env 43 [.r, .r, .l, .r, .d, .d, .r, .l, .d, .r, .l, .r, .d] [m0] fu { tm := tmL 81 0 [(1, (sl eStg 4 l)), (2, (.optr 0 0 0)), (4, (.optr 1 0 0)), (5, (.optr 2 0 0)), (6, (i64 (0 : Int))), (7, (.optr 3 0 0)), (8, (i64 i0))], hp := [(.box 24 (eCav c) true), (.box 72 [(.row true 0 0 (fun u9 => [])), (.row true 0 0 (fun u9 => [])), (i64 (0 : Int)), (i64 (0 : Int))] true), (.box 72 [(.row true 0 0 (fun u9 => [])), (.row true 0 0 (fun u9 => [])), (i64 (0 : Int)), (i64 (0 : Int))] true), (.box 31 [(i64 i1), (i64 i2)] true)] }
noncomputable def L43x2 (env : Env) (F : Nat) (c : Cav) (l : Sl Stg) (fu : Nat) (i0 : Int) (k1 : Nat) (k2 : Nat) (k3 : Nat) (g4 : Nat → List V) (k5 : Nat) (g6 : Nat → List V) : Option Out := atLoop Try.prog (cfg F) env 43 [.r, .r, .l, .r, .d] [] fu { tm := tmL 81 0 [(1, (sl eStg 4 l)), (2, (.optr 0 0 0)), (4, (.optr 1 0 0)), (5, (.optr 2 0 0)), (6, (i64 i0))], hp := [(.box 24 (eCav c) true), (.box 72 [(.row true 0 0 (fun u12 => [])), (.row true 0 0 (fun u12 => [])), (i64 (0 : Int)), (i64 (0 : Int))] true), (.box 72 [(.osl 3 0 k1), (.osl 4 0 k2), (i64 (0 : Int)), (i64 (0 : Int))] true), (.arr 31 2 k3 g4 true), (.arr 31 2 k5 g6 true)] }
noncomputable def L43x3 (env : Env) (F : Nat) (c : Cav) (l : Sl Stg) (m0 : Nat) (fu : Nat) (i0 : Int) (i1 : Int) (k2 : Nat) (k3 : Nat) (i4 : Int) (i5 : Int) (k6 : Nat) (g7 : Nat → List V) (k8 : Nat) (g9 : Nat → List V) : Option Out := atLoop Try.prog (cfg F) env 43 [.r, .r, .l, .r, .d, .d, .r, .l, .d, .r, .l, .r, .d] [m0] fu { tm := tmL 81 0 [(1, (sl eStg 4 l)), (2, (.optr 0 0 0)), (4, (.optr 1 0 0)), (5, (.optr 2 0 0)), (6, (i64 i0)), (7, (.optr 3 0 0)), (8, (i64 i1))], hp := [(.box 24 (eCav c) true), (.box 72 [(.row true 0 0 (fun u16 => [])), (.row true 0 0 (fun u16 => [])), (i64 (0 : Int)), (i64 (0 : Int))] true), (.box 72 [(.osl 4 0 k2), (.osl 5 0 k3), (i64 (0 : Int)), (i64 (0 : Int))] true), (.box 31 [(i64 i4), (i64 i5)] true), (.arr 31 2 k6 g7 true), (.arr 31 2 k8 g9 true)] }
theorem t43 (env : Env) (F : Nat) (c : Cav) (l : Sl Stg) : (evFun Try.prog (cfg F) env 43 [(.agg (eCav c)), (sl eStg 4 l)]) = (L43x0 env F c l F) := by kernel_rfl
theorem L43x0s (env : Env) (F : Nat) (c : Cav) (l : Sl Stg) (fu : Nat) : L43x0 env F c l (fu + 1) = (bif (decide ((0 : Int) < (((Sl.len (Cav.slices c)) : Nat) : Int))) then (L43x1 env F c l fu F (0 : Int) (0 : Int) (0 : Int)) else (bif (decide ((0 : Int) ≤ (((Sl.len (Cav.slices c)) : Nat) : Int))) then (bif (decide ((((Sl.len (Cav.slices c)) : Nat) : Int) ≤ (((Sl.len (Cav.slices c)) : Nat) : Int))) then (bif (decide ((((8 : Nat) : Int) * (((Sl.len (Cav.slices c)) : Nat) : Int)) ≤ (281474976710656 : Int))) then (bif (decide ((((Sl.len (Cav.slices c)) : Nat) : Int) ≤ (9223372036854775807 : Int))) then (tkOut (env.pf 25 [(.agg (eCav c)), (sl eStg 4 l), (.row false (Int.toNat (((Sl.len (Cav.slices c)) : Nat) : Int)) 1 (fun u5 => [(i64 (0 : Int))])), (i64 (1 : Int))]) none (fun v5 => (tkAgg v5 none fun l6 => (tkCons l6 none fun v7 r8 => (tkInt v7 none fun q9 n10 => (tkCons r8 none fun v11 r12 => (tkInt v11 none fun q13 n14 => (tkNil r12 none (some (.ret (.agg [(.row true 0 0 (fun u15 => [])), (.row true 0 0 (fun u15 => [])), (.int q9 n10), (.int q13 n14)])))))))))) (fun p5 => (tkIfc p5 none fun t6 x7 => (bif (flatP (.iface t6 x7)) then none else none)))) else none) else none) else none) else none)) := by kernel_rfl
theorem L43x1s (env : Env) (F : Nat) (c : Cav) (l : Sl Stg) (m0 : Nat) (fu : Nat) (i0 : Int) (i1 : Int) (i2 : Int) : L43x1 env F c l m0 (fu + 1) i0 i1 i2 = (bif (decide (i0 < (((Sl.len l) : Nat) : Int))) then (bif (decide ((0 : Int) ≤ i0)) then (bif (decide (i0 < (((Sl.len l) : Nat) : Int))) then (tkOut (env.pf 41 [(.agg (eCav c)), (.agg (eStg (Sl.el l (Int.toNat i0))))]) none (fun v9 => (tkRow v9 none fun nl10 n11 wd12 g13 => (bif (wd12 == 2) then (bif (decide ((0 : Int) < ((n11 : Nat) : Int))) then (bif ((List.length (List.take 2 (g13 0))) == 2) then (tkCons (List.take 2 (g13 0)) none fun v14 r15 => (tkInt v14 none fun q16 n17 => (tkCons r15 none fun v18 r19 => (tkInt v18 none fun q20 n21 => (tkNil r19 none ((bif (decide ((0 : Int) ≤ i0)) then (bif (decide (i0 < (((Sl.len l) : Nat) : Int))) then (bif (decide (.i64 = q16)) then (bif (decide ((0 : Int) ≤ i0)) then (bif (decide (i0 < (((Sl.len l) : Nat) : Int))) then (bif (decide (.i64 = q20)) then (L43x1 env F c l m0 fu (IntKind.wrap .i64 (i0 + (1 : Int))) (IntKind.wrap .i64 (i1 + (IntKind.wrap .i64 ((Stg.water (Sl.el l (Int.toNat i0))) * n17)))) (IntKind.wrap .i64 (i2 + (IntKind.wrap .i64 ((Stg.water (Sl.el l (Int.toNat i0))) * n21))))) else none) else none) else none) else none) else none) else none))))))) else none) else none) else none))) (fun p9 => (tkIfc p9 none fun t10 x11 => (bif (flatP (.iface t10 x11)) then none else none)))) else none) else none) else (tkOut (env.pf 75 [(.agg (eCav c)), (i64 (0 : Int))]) none (fun v9 => (tkRow v9 none fun nl10 n11 wd12 g13 => (tkOut (env.pf 25 [(.agg (eCav c)), (sl eStg 4 l), (.row nl10 n11 wd12 g13), (i64 (0 : Int))]) none (fun v14 => (tkAgg v14 none fun l15 => (tkCons l15 none fun v16 r17 => (tkInt v16 none fun q18 n19 => (tkCons r17 none fun v20 r21 => (tkInt v20 none fun q22 n23 => (tkNil r21 none ((L43x2 env F c l m0 (IntKind.wrap .i64 ((0 : Int) + (1 : Int))) 1 1 1 (fun u24 => [(i64 i1), (i64 i2)]) 1 (fun u24 => [(.int q18 n19), (.int q22 n23)])))))))))) (fun p14 => (tkIfc p14 none fun t15 x16 => (bif (flatP (.iface t15 x16)) then some (.pan (.iface t15 x16)) else none)))))) (fun p9 => (tkIfc p9 none fun t10 x11 => (bif (flatP (.iface t10 x11)) then some (.pan (.iface t10 x11)) else none))))) := by kernel_rfl
theorem L43x2s (env : Env) (F : Nat) (c : Cav) (l : Sl Stg) (fu : Nat) (i0 : Int) (k1 : Nat) (k2 : Nat) (k3 : Nat) (g4 : Nat → List V) (k5 : Nat) (g6 : Nat → List V) : L43x2 env F c l (fu + 1) i0 k1 k2 k3 g4 k5 g6 = (bif (decide (i0 < (((Sl.len (Cav.slices c)) : Nat) : Int))) then (L43x3 env F c l fu F i0 (0 : Int) k1 k2 (0 : Int) (0 : Int) k3 g4 k5 g6) else (bif (decide ((0 : Int) ≤ (((Sl.len (Cav.slices c)) : Nat) : Int))) then (bif (decide ((((Sl.len (Cav.slices c)) : Nat) : Int) ≤ (((Sl.len (Cav.slices c)) : Nat) : Int))) then (bif (decide ((((8 : Nat) : Int) * (((Sl.len (Cav.slices c)) : Nat) : Int)) ≤ (281474976710656 : Int))) then (bif (decide ((((Sl.len (Cav.slices c)) : Nat) : Int) ≤ (9223372036854775807 : Int))) then (tkOut (env.pf 25 [(.agg (eCav c)), (sl eStg 4 l), (.row false (Int.toNat (((Sl.len (Cav.slices c)) : Nat) : Int)) 1 (fun u12 => [(i64 (0 : Int))])), (i64 (1 : Int))]) none (fun v12 => (tkAgg v12 none fun l13 => (tkCons l13 none fun v14 r15 => (tkInt v14 none fun q16 n17 => (tkCons r15 none fun v18 r19 => (tkInt v18 none fun q20 n21 => (tkNil r19 none (some (.ret (.agg [(.row false k1 2 (fun u22 => (g4 u22))), (.row false k2 2 (fun u22 => (g6 u22))), (.int q16 n17), (.int q20 n21)])))))))))) (fun p12 => (tkIfc p12 none fun t13 x14 => (bif (flatP (.iface t13 x14)) then none else none)))) else none) else none) else none) else none)) := by kernel_rfl
theorem L43x3s (env : Env) (F : Nat) (c : Cav) (l : Sl Stg) (m0 : Nat) (fu : Nat) (i0 : Int) (i1 : Int) (k2 : Nat) (k3 : Nat) (i4 : Int) (i5 : Int) (k6 : Nat) (g7 : Nat → List V) (k8 : Nat) (g9 : Nat → List V) : L43x3 env F c l m0 (fu + 1) i0 i1 k2 k3 i4 i5 k6 g7 k8 g9 = (bif (decide (i1 < (((Sl.len l) : Nat) : Int))) then (bif (decide ((0 : Int) ≤ i1)) then (bif (decide (i1 < (((Sl.len l) : Nat) : Int))) then (tkOut (env.pf 41 [(.agg (eCav c)), (.agg (eStg (Sl.el l (Int.toNat i1))))]) none (fun v16 => (tkRow v16 none fun nl17 n18 wd19 g20 => (bif (wd19 == 2) then (bif (decide ((0 : Int) ≤ i0)) then (bif (decide (i0 < ((n18 : Nat) : Int))) then (bif ((List.length (List.take 2 (g20 (Int.toNat i0)))) == 2) then (tkCons (List.take 2 (g20 (Int.toNat i0))) none fun v21 r22 => (tkInt v21 none fun q23 n24 => (tkCons r22 none fun v25 r26 => (tkInt v25 none fun q27 n28 => (tkNil r26 none ((bif (decide ((0 : Int) ≤ i1)) then (bif (decide (i1 < (((Sl.len l) : Nat) : Int))) then (bif (decide (.i64 = q23)) then (bif (decide ((0 : Int) ≤ i1)) then (bif (decide (i1 < (((Sl.len l) : Nat) : Int))) then (bif (decide (.i64 = q27)) then (L43x3 env F c l m0 fu i0 (IntKind.wrap .i64 (i1 + (1 : Int))) k2 k3 (IntKind.wrap .i64 (i4 + (IntKind.wrap .i64 ((Stg.water (Sl.el l (Int.toNat i1))) * n24)))) (IntKind.wrap .i64 (i5 + (IntKind.wrap .i64 ((Stg.water (Sl.el l (Int.toNat i1))) * n28)))) k6 g7 k8 g9) else none) else none) else none) else none) else none) else none))))))) else none) else none) else none) else none))) (fun p16 => (tkIfc p16 none fun t17 x18 => (bif (flatP (.iface t17 x18)) then none else none)))) else none) else none) else (bif (decide (((k2 + 1) * 16) ≤ 140737488355328)) then (tkOut (env.pf 75 [(.agg (eCav c)), (i64 i0)]) none (fun v16 => (tkRow v16 none fun nl17 n18 wd19 g20 => (tkOut (env.pf 25 [(.agg (eCav c)), (sl eStg 4 l), (.row nl17 n18 wd19 g20), (i64 (0 : Int))]) none (fun v21 => (tkAgg v21 none fun l22 => (tkCons l22 none fun v23 r24 => (tkInt v23 none fun q25 n26 => (tkCons r24 none fun v27 r28 => (tkInt v27 none fun q29 n30 => (tkNil r28 none ((bif (decide (((k3 + 1) * 16) ≤ 140737488355328)) then (L43x2 env F c l m0 (IntKind.wrap .i64 (i0 + (1 : Int))) (k2 + 1) (k3 + 1) (k2 + 1) (appGet k2 g7 (fun u31 => [(i64 i4), (i64 i5)])) (k3 + 1) (appGet k3 g9 (fun u31 => [(.int q25 n26), (.int q29 n30)]))) else none))))))))) (fun p21 => (tkIfc p21 none fun t22 x23 => (bif (flatP (.iface t22 x23)) then some (.pan (.iface t22 x23)) else none)))))) (fun p16 => (tkIfc p16 none fun t17 x18 => (bif (flatP (.iface t17 x18)) then some (.pan (.iface t17 x18)) else none)))) else none)) := by kernel_rfl
noncomputable def L84x0 (env : Env) (F : Nat) (c : Cav) (l : Sl Stg) (fu : Nat) (i0 : Int) (g1 : Nat → List V) : Option Out := atLoop Try.prog (cfg F) env 84 [.r, .r, .l, .r, .d] [] fu { tm := tmL 46 0 [(2, (.optr 0 0 0)), (5, (.osl 1 0 (Int.toNat (((Sl.len (Cav.slices c)) : Nat) : Int)))), (15, (sl eStg 4 l)), (16, (i64 (((Sl.len l) : Nat) : Int))), (17, (i64 i0))], hp := [(.box 103 (eCav c) true), (.arr 31 2 (Int.toNat (((Sl.len (Cav.slices c)) : Nat) : Int)) g1 true)] }
noncomputable def L84x1 (env : Env) (F : Nat) (c : Cav) (l : Sl Stg) (m0 : Nat) (fu : Nat) (i0 : Int) (b1 : Bool) (k2 : Nat) (k3 : Nat) (g4 : Nat → List V) (i5 : Int) (i6 : Int) (g7 : Nat → List V) (i8 : Int) (i9 : Int) (i10 : Int) (i11 : Int) : Option Out := atLoop Try.prog (cfg F) env 84 [.r, .r, .l, .r, .d, .d, .r, .r, .l, .d, .r, .r, .d] [m0] fu { tm := tmL 46 0 [(2, (.optr 0 0 0)), (5, (.osl 1 0 (Int.toNat (((Sl.len (Cav.slices c)) : Nat) : Int)))), (7, (.optr 2 0 0)), (15, (sl eStg 4 l)), (16, (i64 (((Sl.len l) : Nat) : Int))), (17, (i64 i0)), (23, (.row b1 k2 k3 g4)), (24, (i64 i5)), (25, (i64 i6))], hp := [(.box 103 (eCav c) true), (.arr 31 2 (Int.toNat (((Sl.len (Cav.slices c)) : Nat) : Int)) g7 true), (.box 40 [(i64 i8), (i64 i9), (i64 i10), (i64 i11)] true)] }
theorem t84 (env : Env) (F : Nat) (c : Cav) (l : Sl Stg) : (evFun Try.prog (cfg F) env 84 [(.agg (eCav c)), (sl eStg 4 l)]) = (bif (decide ((0 : Int) ≤ (((Sl.len (Cav.slices c)) : Nat) : Int))) then (bif (decide ((((Sl.len (Cav.slices c)) : Nat) : Int) ≤ (((Sl.len (Cav.slices c)) : Nat) : Int))) then (bif (decide ((((16 : Nat) : Int) * (((Sl.len (Cav.slices c)) : Nat) : Int)) ≤ (281474976710656 : Int))) then (bif (decide ((((Sl.len (Cav.slices c)) : Nat) : Int) ≤ (9223372036854775807 : Int))) then (L84x0 env F c l F (0 : Int) (fun u4 => [(i64 (0 : Int)), (i64 (0 : Int))])) else none) else none) else none) else none) := by kernel_rfl
theorem L84x0s (env : Env) (F : Nat) (c : Cav) (l : Sl Stg) (fu : Nat) (i0 : Int) (g1 : Nat → List V) : L84x0 env F c l (fu + 1) i0 g1 = (bif (decide (i0 < (((Sl.len l) : Nat) : Int))) then (bif (decide ((0 : Int) ≤ i0)) then (bif (decide (i0 < (((Sl.len l) : Nat) : Int))) then (tkOut (env.pf 82 [(.agg (eCav c)), (.agg (eStg (Sl.el l (Int.toNat i0))))]) none (fun v7 => (tkRow v7 none fun nl8 n9 wd10 g11 => (L84x1 env F c l fu F i0 nl8 n9 wd10 g11 ((n9 : Nat) : Int) (0 : Int) g1 (Stg.water (Sl.el l (Int.toNat i0))) (Stg.into (Sl.el l (Int.toNat i0))) (Stg.out (Sl.el l (Int.toNat i0))) (Stg.blanket (Sl.el l (Int.toNat i0)))))) (fun p7 => (tkIfc p7 none fun t8 x9 => (bif (flatP (.iface t8 x9)) then some (.pan (.iface t8 x9)) else none)))) else none) else none) else some (.ret (.row false (Int.toNat (((Sl.len (Cav.slices c)) : Nat) : Int)) 2 (fun u7 => (g1 u7))))) := by kernel_rfl
theorem L84x1s (env : Env) (F : Nat) (c : Cav) (l : Sl Stg) (m0 : Nat) (fu : Nat) (i0 : Int) (b1 : Bool) (k2 : Nat) (k3 : Nat) (g4 : Nat → List V) (i5 : Int) (i6 : Int) (g7 : Nat → List V) (i8 : Int) (i9 : Int) (i10 : Int) (i11 : Int) : L84x1 env F c l m0 (fu + 1) i0 b1 k2 k3 g4 i5 i6 g7 i8 i9 i10 i11 = (bif (decide (i6 < i5)) then (bif (k3 == 2) then (bif (decide ((0 : Int) ≤ i6)) then (bif (decide (i6 < ((k2 : Nat) : Int))) then (bif ((List.length (List.take 2 (g4 (Int.toNat i6)))) == 2) then (tkCons (List.take 2 (g4 (Int.toNat i6))) none fun v18 r19 => (tkInt v18 none fun q20 n21 => (tkCons r19 none fun v22 r23 => (tkInt v22 none fun q24 n25 => (tkNil r23 none ((bif (decide ((0 : Int) ≤ i6)) then (bif (decide (i6 < (((Int.toNat (((Sl.len (Cav.slices c)) : Nat) : Int)) : Nat) : Int))) then (bif ((List.length (List.take 2 (g7 (Int.toNat i6)))) == 2) then (tkCons (List.take 2 (g7 (Int.toNat i6))) none fun v26 r27 => (tkInt v26 none fun q28 n29 => (tkCons r27 none fun v30 r31 => (tkInt v30 none fun q32 n33 => (tkNil r31 none ((tkOut (env.pf 86 [(.agg [(.int q20 n21), (.int q24 n25)]), (i64 i8)]) none (fun v34 => (tkAgg v34 none fun l35 => (tkCons l35 none fun v36 r37 => (tkInt v36 none fun q38 n39 => (tkCons r37 none fun v40 r41 => (tkInt v40 none fun q42 n43 => (tkNil r41 none ((tkOut (env.pf 85 [(.row false 2 2 (fun u44 => (List.take 2 (List.drop ((Min.min u44 1) * 2) [(.int q28 n29), (.int q32 n33), (.int q38 n39), (.int q42 n43)]))))]) none (fun v44 => (tkAgg v44 none fun l45 => (tkCons l45 none fun v46 r47 => (tkInt v46 none fun q48 n49 => (tkCons r47 none fun v50 r51 => (tkInt v50 none fun q52 n53 => (tkNil r51 none ((bif (decide ((0 : Int) ≤ i6)) then (bif (decide (i6 < (((Int.toNat (((Sl.len (Cav.slices c)) : Nat) : Int)) : Nat) : Int))) then (L84x1 env F c l m0 fu i0 b1 k2 k3 g4 i5 (IntKind.wrap .i64 (i6 + (1 : Int))) (updGet g7 (Int.toNat i6) 0 [(.int q48 n49), (.int q52 n53)]) i8 i9 i10 i11) else none) else none))))))))) (fun p44 => (tkIfc p44 none fun t45 x46 => (bif (flatP (.iface t45 x46)) then none else none)))))))))))) (fun p34 => (tkIfc p34 none fun t35 x36 => (bif (flatP (.iface t35 x36)) then some (.pan (.iface t35 x36)) else none)))))))))) else none) else none) else none))))))) else none) else none) else none) else none) else (L84x0 env F c l m0 (IntKind.wrap .i64 (i0 + (1 : Int))) g7)) := by kernel_rfl
theorem t9 (env : Env) (F : Nat) (c : Cav) (l : Sl Stg) : (evFun Try.prog (cfg F) env 9 [(.agg (eCav c)), (sl eStg 4 l)]) = (tkOut (env.pf 19 [(.agg (eCav c))]) none (fun v4 => (tkBool v4 none fun b5 => (bif (!b5) then (tkOut (env.pf 21 []) none (fun v6 => (tkBool v6 none fun b7 => some (.ret (.bool b7)))) (fun p6 => (tkIfc p6 none fun t7 x8 => (bif (flatP (.iface t7 x8)) then some (.pan (.iface t7 x8)) else none)))) else (bif (decide ((((Sl.len l) : Nat) : Int) > (20 : Int))) then (tkOut (env.pf 21 []) none (fun v6 => (tkBool v6 none fun b7 => some (.ret (.bool b7)))) (fun p6 => (tkIfc p6 none fun t7 x8 => (bif (flatP (.iface t7 x8)) then some (.pan (.iface t7 x8)) else none)))) else (tkOut (env.pf 20 [(.agg (eCav c)), (sl eStg 4 l), (i64 (5 : Int)), (i64 (60 : Int)), (i64 (4 : Int))]) none (fun v6 => (tkBool v6 none fun b7 => (bif (!b7) then (tkOut (env.pf 21 []) none (fun v8 => (tkBool v8 none fun b9 => some (.ret (.bool b9)))) (fun p8 => (tkIfc p8 none fun t9 x10 => (bif (flatP (.iface t9 x10)) then some (.pan (.iface t9 x10)) else none)))) else (tkOut (env.pf 42 [(.agg (eCav c)), (sl eStg 4 l)]) none (fun v8 => (tkTup v8 none fun l9 => (tkCons l9 none fun v10 r11 => (tkAgg v10 none fun l12 => (tkCons l12 none fun v13 r14 => (tkRow v13 none fun nl15 n16 wd17 g18 => (tkCons r14 none fun v19 r20 => (tkRow v19 none fun nl21 n22 wd23 g24 => (tkCons r20 none fun v25 r26 => (tkInt v25 none fun q27 n28 => (tkCons r26 none fun v29 r30 => (tkInt v29 none fun q31 n32 => (tkNil r30 none ((tkCons r11 none fun v33 r34 => (tkInt v33 none fun q35 n36 => (tkNil r34 none ((tkOut (env.pf 23 [(.agg (eCav c)), (sl eStg 4 l), (.bool true)]) none (fun v37 => (tkInt v37 none fun q38 n39 => (bif (decide (q38 = .i64)) then (bif (n39 != (0 : Int)) then (bif (decide (q35 = q38)) then (bif (n36 == n39) then (bif ((IntKind.wrap .i64 (((n16 : Nat) : Int) + ((n22 : Nat) : Int))) == (0 : Int)) then (bif (decide (q27 = .i64)) then (bif (decide (q31 = .i64)) then (bif ((n28 == (0 : Int)) && ((n32 == (0 : Int)) && true)) then (tkOut (env.pf 21 []) none (fun v40 => (tkBool v40 none fun b41 => some (.ret (.bool b41)))) (fun p40 => (tkIfc p40 none fun t41 x42 => (bif (flatP (.iface t41 x42)) then some (.pan (.iface t41 x42)) else none)))) else some (.ret (.bool false))) else none) else none) else some (.ret (.bool false))) else some (.ret (.bool false))) else none) else (tkOut (env.pf 43 [(.agg (eCav c)), (sl eStg 4 l)]) none (fun v40 => (tkAgg v40 none fun l41 => (tkCons l41 none fun v42 r43 => (tkRow v42 none fun nl44 n45 wd46 g47 => (tkCons r43 none fun v48 r49 => (tkRow v48 none fun nl50 n51 wd52 g53 => (tkCons r49 none fun v54 r55 => (tkInt v54 none fun q56 n57 => (tkCons r55 none fun v58 r59 => (tkInt v58 none fun q60 n61 => (tkNil r59 none ((bif (decide (q35 = .i64)) then (bif (n36 == (0 : Int)) then (tkOut (env.pf 40 [(.row nl15 n16 wd17 g18), (.row nl44 n45 wd46 g47)]) none (fun v62 => (tkBool v62 none fun b63 => (bif b63 then (tkOut (env.pf 40 [(.row nl21 n22 wd23 g24), (.row nl50 n51 wd52 g53)]) none (fun v64 => (tkBool v64 none fun b65 => (bif b65 then (bif (decide (q27 = q56)) then (bif (decide (q31 = q60)) then (bif ((n28 == n57) && ((n32 == n61) && true)) then (tkOut (env.pf 21 []) none (fun v66 => (tkBool v66 none fun b67 => some (.ret (.bool b67)))) (fun p66 => (tkIfc p66 none fun t67 x68 => (bif (flatP (.iface t67 x68)) then some (.pan (.iface t67 x68)) else none)))) else some (.ret (.bool false))) else none) else none) else some (.ret (.bool false))))) (fun p64 => (tkIfc p64 none fun t65 x66 => (bif (flatP (.iface t65 x66)) then some (.pan (.iface t65 x66)) else none)))) else some (.ret (.bool false))))) (fun p62 => (tkIfc p62 none fun t63 x64 => (bif (flatP (.iface t63 x64)) then some (.pan (.iface t63 x64)) else none)))) else some (.ret (.bool false))) else none))))))))))))) (fun p40 => (tkIfc p40 none fun t41 x42 => (bif (flatP (.iface t41 x42)) then some (.pan (.iface t41 x42)) else none))))) else none))) (fun p37 => (tkIfc p37 none fun t38 x39 => (bif (flatP (.iface t38 x39)) then some (.pan (.iface t38 x39)) else none)))))))))))))))))))))) (fun p8 => (tkIfc p8 none fun t9 x10 => (bif (flatP (.iface t9 x10)) then some (.pan (.iface t9 x10)) else none))))))) (fun p6 => (tkIfc p6 none fun t7 x8 => (bif (flatP (.iface t7 x8)) then some (.pan (.iface t7 x8)) else none)))))))) (fun p4 => (tkIfc p4 none fun t5 x6 => (bif (flatP (.iface t5 x6)) then some (.pan (.iface t5 x6)) else none)))) := by kernel_rfl
end Go.Sim.Le


namespace Go.Sim.Le
open Go.Proofs
theorem fitInt {k : IntKind} {c : V} (h : Fit (.int k) c) : ∃ n, c = .int k n ∧ k.min ≤ n ∧ n ≤ k.max := by
  cases h with
  | int h => exact ⟨_, rfl, h⟩
theorem fitL_nil {cs : List V} (h : FitL [] cs) : cs = [] := by
  have := h.1
  exact List.eq_nil_of_length_eq_zero this
theorem fitL_cons {s : Sh} {l : List Sh} {cs : List V} (h : FitL (s :: l) cs) : ∃ c cs', cs = c :: cs' ∧ Fit s c ∧ FitL l cs' := by
  obtain ⟨h1, h2⟩ := h
  cases cs with
  | nil => simp at h1
  | cons c cs' => exact ⟨c, cs', rfl, h2 0 s c rfl rfl, by simpa using h1, fun j s' c' g1 g2 => h2 (j + 1) s' c' (by simpa using g1) (by simpa using g2)⟩
theorem fitL_int {k : IntKind} {l : List Sh} {cs : List V} (h : FitL (.int k :: l) cs) : ∃ n cs', cs = .int k n :: cs' ∧ FitL l cs' := by
  obtain ⟨c, cs', rfl, h1, h2⟩ := fitL_cons h
  obtain ⟨n, rfl, _⟩ := fitInt h1
  exact ⟨n, cs', rfl, h2⟩
abbrev SlOk {α : Type} (s : Sl α) : Prop := s.len ≤ 140737488355328 ∧ (s.nl = true → s.len = 0)
theorem fitRow {α : Type} {e : α → List V} {P : α → Prop} {l : List Sh} (dec : ∀ cs, FitL l cs → ∃ a : α, cs = e a ∧ P a) {c : V} (h : Fit (.row l) c) : ∃ s : Sl α, c = sl e l.length s ∧ SlOk s ∧ ∀ i, P (s.el i) := by
  cases h with
  | row h hn hl hf =>
    rename_i nl len get
    have hx : ∀ i, ∃ a : α, get i = e a ∧ P a := fun i => dec _ ⟨hl i, hf i⟩
    refine ⟨⟨nl, len, fun i => (hx i).choose⟩, ?_, ⟨h, hn⟩, fun i => (hx i).choose_spec.2⟩
    show V.row nl len l.length get = V.row nl len l.length fun i => e (hx i).choose
    congr 1
    funext i
    exact (hx i).choose_spec.1
theorem fitL_row {α : Type} {e : α → List V} {P : α → Prop} {l r : List Sh} (dec : ∀ cs, FitL l cs → ∃ a : α, cs = e a ∧ P a) {cs : List V} (h : FitL (.row l :: r) cs) : ∃ (s : Sl α) (cs' : List V), cs = sl e l.length s :: cs' ∧ SlOk s ∧ (∀ i, P (s.el i)) ∧ FitL r cs' := by
  obtain ⟨c, cs', rfl, h1, h2⟩ := fitL_cons h
  obtain ⟨s, rfl, h3, h4⟩ := fitRow dec h1
  exact ⟨s, cs', rfl, h3, h4, h2⟩
abbrev i8 : Sh := .int .i64
abbrev shSlc : List Sh := [i8, i8, i8, i8, i8, i8, i8]
abbrev shCav : List Sh := [.row shSlc, i8, i8]
abbrev shStg : List Sh := [i8, i8, i8, i8]
abbrev shTruth : List Sh := [.row [i8], .row [.row [i8]]]
theorem decSlc (cs : List V) (h : FitL shSlc cs) : ∃ c : Slc, cs = eSlc c ∧ True := by
  obtain ⟨a0, _, rfl, h1⟩ := fitL_int h
  obtain ⟨a1, _, rfl, h2⟩ := fitL_int h1
  obtain ⟨a2, _, rfl, h3⟩ := fitL_int h2
  obtain ⟨a3, _, rfl, h4⟩ := fitL_int h3
  obtain ⟨a4, _, rfl, h5⟩ := fitL_int h4
  obtain ⟨a5, _, rfl, h6⟩ := fitL_int h5
  obtain ⟨a6, _, rfl, h7⟩ := fitL_int h6
  obtain rfl := fitL_nil h7
  exact ⟨⟨⟨a0, a1⟩, a2, a3, ⟨a4, a5⟩, a6⟩, rfl, trivial⟩
theorem decStg (cs : List V) (h : FitL shStg cs) : ∃ c : Stg, cs = eStg c ∧ True := by
  obtain ⟨a0, _, rfl, h1⟩ := fitL_int h
  obtain ⟨a1, _, rfl, h2⟩ := fitL_int h1
  obtain ⟨a2, _, rfl, h3⟩ := fitL_int h2
  obtain ⟨a3, _, rfl, h4⟩ := fitL_int h3
  obtain rfl := fitL_nil h4
  exact ⟨⟨a0, a1, a2, a3⟩, rfl, trivial⟩
theorem decCav (cs : List V) (h : FitL shCav cs) : ∃ c : Cav, cs = eCav c ∧ SlOk c.slices := by
  obtain ⟨a, _, rfl, h0, _, h1⟩ := fitL_row decSlc h
  obtain ⟨b, _, rfl, h2⟩ := fitL_int h1
  obtain ⟨d, _, rfl, h3⟩ := fitL_int h2
  obtain rfl := fitL_nil h3
  exact ⟨⟨a, b, d⟩, rfl, h0⟩
theorem own : ownKnob Try.prog.godebug = none := by kernel_rfl
end Go.Sim.Le


namespace Go.Sim.Le
open Go.Proofs
variable (F d : Nat)
theorem s19 (c : Cav) : (E F (d + 1)).pf 19 [.agg (eCav c)] = some (.ret (.bool (decide (c.slices.len ≤ 20)))) := by
  rw [E_pf, t19]
  refine b3 (b2 ?_)
  simp only [decide_eq_true_iff]
  omega
theorem z0' {α : Type} (a b : α) : (bif ((0 : Int) != 0) then a else b) = b := rfl
theorem lenB {n : Nat} (h : n ≤ 140737488355328) : n < Big := by show n < 4611686018427387904; omega
end Go.Sim.Le


namespace Go.Sim.Le
open Go.Proofs
variable (F d : Nat)
theorem s20 (c : Cav) (l : Sl Stg) (x y z : Int) (hC : c.slices.len < Big) (hCF : c.slices.len < F) (hB : l.len < Big) (hF : l.len < F) : (E F (d + 5)).pf 20 [.agg (eCav c), sl eStg 4 l, .int .i64 x, .int .i64 y, .int .i64 z] = some (.ret (.bool (decide (errP c l true ≠ 0 ∨ (c.slices.len : Int) ≤ x ∧ c.hold ≤ y ∧ (l.len : Int) ≤ z)))) := by
  rw [E_pf, t20]
  simp only [s23 F d c l true hC hCF hB hF, tkOut_ret, tkInt_i, decide_true, pT]
  by_cases h0 : errP c l true = 0
  · rw [h0, show ((0 : Int) != 0) = false from rfl, pF]
    by_cases h1 : (c.slices.len : Int) ≤ x
    · by_cases h2 : c.hold ≤ y
      · rw [decide_eq_true h1, decide_eq_true h2, pT, pT]
        exact b3 (b2 (by simp [h1, h2]))
      · rw [decide_eq_true h1, decide_eq_false h2, pT, pF]
        exact b3 (b2 (by simp [h2]))
    · rw [decide_eq_false h1, pF]
      exact b3 (b2 (by simp [h1]))
  · rw [show (errP c l true != 0) = true by simpa using h0, pT]
    exact b3 (b2 (by simp [h0]))
end Go.Sim.Le


namespace Go.Sim.Le
open Go.Proofs
variable (F d : Nat)
def oneW (n u : Nat) : Int := if u = n then 1 else 0
theorem s75 (c : Cav) (hl : c.slices.len ≤ 300) (n : Nat) (hn : n < c.slices.len) : (E F (d + 1)).pf 75 [.agg (eCav c), .int .i64 n] = some (.ret (sl eInt 1 ⟨false, c.slices.len, oneW n⟩)) := by
  rw [E_pf, t75]
  simp (disch := omega) only [decide_eq_true, decide_true, pT, Int.toNat_natCast]
  have e := upd_int (fun _ => 0) n 1
  rw [e]
  rfl
def negW (q u : Nat) : Int := if u < q then -1 else 0
section
variable {c : Cav} (hc : CavOk c) (l : Sl Stg) (hL : l.len ≤ 300) (hs : ∀ i, i < l.len → StgOk c.slices.len (l.el i)) (hF : 400 < F)
include hc hL hs hF
def upW (b q u : Nat) : Int := if b ≤ u ∧ u < q then 1 else 0
end
end Go.Sim.Le


namespace Go.Sim.Le
open Go.Proofs
abbrev TruthOk (c : Cav) (n : Nat) (t : Truth) : Prop := t.vols.len = c.slices.len ∧ t.rates.len = n ∧ (∀ i, i < t.vols.len → (c.slices.el i).vol.lo ≤ t.vols.el i ∧ t.vols.el i ≤ (c.slices.el i).vol.hi) ∧
  ∀ k, k < t.rates.len → (t.rates.el k).len = c.slices.len ∧ ∀ i, i < c.slices.len → (c.slices.el i).rate.lo ≤ (t.rates.el k).el i ∧ (t.rates.el k).el i ≤ (c.slices.el i).rate.hi
variable (F d : Nat)
section
variable (c : Cav) (l : Sl Stg) (t : Truth) (hcl : c.slices.len < Big) (htl : t.rates.len < Big) (hCF : c.slices.len < F) (hTF : t.rates.len < F)
def rateB (k i : Nat) : Bool := decide ((c.slices.el i).rate.lo ≤ (t.rates.el k).el i ∧ (t.rates.el k).el i ≤ (c.slices.el i).rate.hi)
def rowB (k : Nat) : Bool := decide ((t.rates.el k).len = c.slices.len) && allF (rateB c t k) c.slices.len 0
include hcl htl hCF hTF
end
end Go.Sim.Le


namespace Go.Sim.Le
open Go.Proofs
abbrev wK (t : Truth) (j : Nat) : Nat → Int := (t.rates.el j).el
abbrev opnF (c : Cav) (i : Nat) : Int := (c.slices.el i).opn
abbrev fallF (c : Cav) (i : Nat) : Int := (c.slices.el i).fall
def volS (c : Cav) (l : Nat → Stg) (t : Truth) : Nat → Nat → Int
  | 0 => t.vols.el
  | j + 1 => fun i => volS c l t j i + opnF c i * (takeRow c (l j) (wK t j) (pathN (l j)) i * (l j).water)
def tkE (c : Cav) (l : Nat → Stg) (t : Truth) (j : Nat) : Int × Int := tkT c (l j) (wK t j) (pathN (l j))
def saltP (c : Cav) (l : Nat → Stg) (t : Truth) : Nat → Int
  | 0 => 0
  | j + 1 => saltP c l t j + (l j).water * (tkE c l t j).1
def sumpS (c : Cav) (l : Nat → Stg) (t : Truth) : Nat → Int
  | 0 => 0
  | j + 1 => sumpS c l t j + (l j).water * pathSum c (l j) (wK t j) (fallF c) (pathN (l j))
def brineS (c : Cav) (l : Nat → Stg) (t : Truth) : Nat → Int
  | 0 => 0
  | j + 1 => brineS c l t j + (1000000 * (l j).water - (l j).water * (tkE c l t j).2)
def outS (c : Cav) (l : Nat → Stg) (t : Truth) : Nat → Int
  | 0 => 0
  | j + 1 => outS c l t j + (1000000 * ((l j).water * (tkE c l t j).1) - c.hold * ((l j).water * (tkE c l t j).2))
def endV (c : Cav) (l : Nat → Stg) (t : Truth) (n : Nat) : List V := [sl eInt 1 ⟨false, c.slices.len, volS c l t n⟩, .int .i64 (sumpS c l t n), .int .i64 (saltP c l t n), .int .i64 (brineS c l t n), .int .i64 (outS c l t n)]
section
variable {c : Cav} (hc : CavOk c) {s : Stg} (hs : StgOk c.slices.len s) (w : Nat → Int) (hw : RatesOk c w)
include hc hs hw
end
theorem mulnn {a b x y : Int} (h1 : 0 ≤ a) (h2 : a ≤ x) (h3 : 0 ≤ b) (h4 : b ≤ y) : 0 ≤ a * b ∧ a * b ≤ x * y := ⟨Int.mul_nonneg h1 h3, Int.mul_le_mul h2 h4 h3 (by omega)⟩
section
variable {c : Cav} (hc : CavOk c) {n : Nat} {l : Nat → Stg} (hl : ∀ i, i < n → StgOk c.slices.len (l i)) {t : Truth} (ht : TruthOk c n t)
include hc hl ht
end
variable (F d : Nat)
section
variable {c : Cav} (hc : CavOk c) {l : Sl Stg} (hL : l.len ≤ 300) (hl : ∀ i, i < l.len → StgOk c.slices.len (l.el i)) {t : Truth} (ht : TruthOk c l.len t) (hF : 400 < F)
include hc hL hl ht hF
end
end Go.Sim.Le


namespace Go.Sim.Le
open Go.Proofs
variable (F d : Nat)
section
variable {c : Cav} (hc : CavOk c) {l : Sl Stg} (hL : l.len ≤ 300) (hl : ∀ i, i < l.len → StgOk c.slices.len (l.el i)) {t : Truth} (ht : TruthOk c l.len t) (hF : 400 < F)
include hc hL hl ht hF
end
end Go.Sim.Le


namespace Go.Sim.Le
open Go.Proofs
variable (F d : Nat)
end Go.Sim.Le


namespace Go.Sim.Le
open Go.Proofs
def watT (l : Nat → Stg) : Nat → Int
  | 0 => 0
  | j + 1 => watT l j + (l j).water
def roomS (c : Cav) (l : Nat → Stg) (t : Truth) : Nat → Int
  | 0 => 0
  | j + 1 => roomS c l t j + (l j).water * (tkE c l t j).2
section
variable {c : Cav} (hc : CavOk c) {n : Nat} {l : Nat → Stg} (hl : ∀ i, i < n → StgOk c.slices.len (l i)) {t : Truth} (ht : TruthOk c n t)
include hc hl ht
end
variable (F d : Nat)
section
variable {c : Cav} (hc : CavOk c) {l : Sl Stg} (hL : l.len ≤ 8) (hl : ∀ i, i < l.len → StgOk c.slices.len (l.el i)) {t : Truth} (ht : TruthOk c l.len t) (hF : 1000000000 < F)
include hc hL hl ht hF
end
end Go.Sim.Le


namespace Go.Sim.Le
open Go.Proofs
variable (F d : Nat)
end Go.Sim.Le


namespace Go.Sim.Le
open Go.Proofs
def saltS (c : Cav) (l : Nat → Stg) : Nat → Nat → Span
  | 0, _ => ⟨0, 0⟩
  | j + 1, k => addS (saltS c l j k) (timesS (rtRow c (l j) (pathN (l j)) k) (l j).water)
def volK (c : Cav) (l : Nat → Stg) (n k : Nat) : Span := addS (c.slices.el k).vol (timesS (saltS c l n k) (c.slices.el k).opn)
section
variable {c : Cav} (hc : CavOk c) {l : Nat → Stg} {n : Nat} (hl : ∀ i, i < n → StgOk c.slices.len (l i))
include hc hl
theorem salt_step {j : Nat} (hj : j < n) (k : Nat) : (0 ≤ (l j).water * (rtRow c (l j) (pathN (l j)) k).lo ∧ (l j).water * (rtRow c (l j) (pathN (l j)) k).lo ≤ (l j).water * (rtRow c (l j) (pathN (l j)) k).hi ∧ (l j).water * (rtRow c (l j) (pathN (l j)) k).hi ≤ 300000000) ∧ timesS (rtRow c (l j) (pathN (l j)) k) (l j).water = ⟨(l j).water * (rtRow c (l j) (pathN (l j)) k).lo, (l j).water * (rtRow c (l j) (pathN (l j)) k).hi⟩ := by
  have hs := hl j hj
  have hr := rtRow_in hc hs (pathN (l j)) (Nat.le_refl _) k
  have hwa := hs.1
  have m1 := mulnn (a := (l j).water) (b := (rtRow c (l j) (pathN (l j)) k).hi) (x := 1000000) (y := 300) (by omega) (by omega) (by omega) (by omega)
  have m2 := Int.mul_le_mul_of_nonneg_left hr.2.1 (show 0 ≤ (l j).water by omega)
  have m3 : 0 ≤ (l j).water * (rtRow c (l j) (pathN (l j)) k).lo := Int.mul_nonneg (by omega) (by omega)
  refine ⟨by omega, ?_⟩
  unfold timesS
  rw [if_neg (by omega)]
theorem salt_in (k : Nat) : ∀ j, j ≤ n → 0 ≤ (saltS c l j k).lo ∧ (saltS c l j k).lo ≤ (saltS c l j k).hi ∧ (saltS c l j k).hi ≤ 300000000 * j
  | 0, _ => by simp [saltS]
  | j + 1, h => by
    have i := salt_in k j (by omega)
    have hs := salt_step hc hl (j := j) (by omega) k
    simp only [saltS]
    rw [hs.2]
    simp only [addS]
    omega
theorem volK_in (h8 : n ≤ 8) {k : Nat} (hk : k < c.slices.len) : timesS (saltS c l n k) (c.slices.el k).opn = ⟨(c.slices.el k).opn * (saltS c l n k).lo, (c.slices.el k).opn * (saltS c l n k).hi⟩ ∧ 0 ≤ (c.slices.el k).opn * (saltS c l n k).lo ∧ (c.slices.el k).opn * (saltS c l n k).lo ≤ (c.slices.el k).opn * (saltS c l n k).hi ∧ (c.slices.el k).opn * (saltS c l n k).hi ≤ 7200000000000 := by
  have i := salt_in hc hl k n (Nat.le_refl _)
  have ho : 1000 ≤ (c.slices.el k).opn ∧ (c.slices.el k).opn ≤ 3000 := (hc.2.2.2 k hk).2.1
  have m1 := mulnn (a := (c.slices.el k).opn) (b := (saltS c l n k).hi) (x := 3000) (y := 2400000000) (by omega) (by omega) (by omega) (by omega)
  have m2 := Int.mul_le_mul_of_nonneg_left i.2.1 (show 0 ≤ (c.slices.el k).opn by omega)
  have m3 : 0 ≤ (c.slices.el k).opn * (saltS c l n k).lo := Int.mul_nonneg (by omega) (by omega)
  refine ⟨?_, by omega⟩
  unfold timesS
  rw [if_neg (by omega)]
end
def saltSl (c : Cav) (l : Nat → Stg) (n : Nat) : Sl Span := ⟨false, c.slices.len, saltS c l n⟩
variable (F d : Nat)
section
variable {c : Cav} (hc : CavOk c) {l : Sl Stg} (h8 : l.len ≤ 8) (hl : ∀ i, i < l.len → StgOk c.slices.len (l.el i)) (hF : 400 < F)
include hc h8 hl hF
theorem l84x1 (j m0 : Nat) (hj : j < l.len) : ∀ r k fu, k + r = c.slices.len → r < fu →
    L84x1 (E F (d + 2)) F c l m0 fu j false c.slices.len 2 (fun i => eSpan (rtRow c (l.el j) (pathN (l.el j)) i)) c.slices.len k (fun i => eSpan (if i < k then saltS c l.el (j + 1) i else saltS c l.el j i)) (l.el j).water (l.el j).into (l.el j).out (l.el j).blanket
      = L84x0 (E F (d + 2)) F c l m0 ((j + 1 : Nat) : Int) (fun i => eSpan (if i < c.slices.len then saltS c l.el (j + 1) i else saltS c l.el j i)) := by
  have hcl := hc.1
  intro r
  induction r with
  | zero =>
    intro k fu h hf
    obtain ⟨fu, rfl⟩ : ∃ k, fu = k + 1 := ⟨fu - 1, by omega⟩
    rw [L84x1s, decide_eq_false (by omega), pF, wrS (by omega), show k = c.slices.len by omega]
  | succ r ih =>
    intro k fu h hf
    obtain ⟨fu, rfl⟩ : ∃ k, fu = k + 1 := ⟨fu - 1, by omega⟩
    have hst := salt_step hc hl hj k
    have hs := salt_in hc hl k j (by omega)
    have e3 := upd_span (fun i => if i < k then saltS c l.el (j + 1) i else saltS c l.el j i) k (addS (saltS c l.el j k) (timesS (rtRow c (l.el j) (pathN (l.el j)) k) (l.el j).water))
    have e4 : (fun i => eSpan (if i = k then addS (saltS c l.el j k) (timesS (rtRow c (l.el j) (pathN (l.el j)) k) (l.el j).water) else if i < k then saltS c l.el (j + 1) i else saltS c l.el j i)) = fun i => eSpan (if i < k + 1 then saltS c l.el (j + 1) i else saltS c l.el j i) := by
      funext i
      refine congrArg eSpan ?_
      by_cases h1 : i = k
      · subst h1; rw [if_pos rfl, if_pos (by omega)]; rfl
      · rw [if_neg h1]
        by_cases h2 : i < k
        · rw [if_pos h2, if_pos (by omega)]
        · rw [if_neg h2, if_neg (by omega)]
    rw [e4] at e3
    have q86 : (E F (d + 2)).pf 86 [.agg [.int .i64 (rtRow c (l.el j) (pathN (l.el j)) k).lo, .int .i64 (rtRow c (l.el j) (pathN (l.el j)) k).hi], .int .i64 (l.el j).water] = _ := s86 F (d + 1) (rtRow c (l.el j) (pathN (l.el j)) k) (l.el j).water (by constructor <;> omega) (by constructor <;> omega)
    have q85 := s85 F (d + 1) (saltS c l.el j k) (timesS (rtRow c (l.el j) (pathN (l.el j)) k) (l.el j).water) (by omega) (by constructor <;> omega) (by constructor <;> omega) (by rw [hst.2]; constructor <;> simp only <;> omega) (by rw [hst.2]; constructor <;> simp only <;> omega)
    rw [show d + 1 + 1 = d + 2 from rfl] at q85
    rw [L84x1s]
    simp (disch := omega) only [decide_eq_true, Int.toNat_natCast, pT, show ((2 : Nat) == 2) = true from rfl, List.take, List.length, show ((0 + 1 + 1 : Nat) == 2) = true from rfl, tkCons_c, tkInt_i, tkNil_n, if_neg (Nat.lt_irrefl k), q86, tkOut_ret, tkAgg_a]
    rw [q85]
    simp only [tkOut_ret, tkAgg_a, tkCons_c, tkInt_i, tkNil_n]
    rw [wrS (by omega)]
    simp only [eSpan] at e3
    rw [e3]
    exact ih (k + 1) fu (by omega) (by omega)
theorem l84x0 : ∀ r j fu (g : Nat → Span), j + r = l.len → r < fu → (∀ i, i < c.slices.len → g i = saltS c l.el j i) → (∀ i, ¬ i < c.slices.len → g i = saltS c l.el j i) →
    L84x0 (E F (d + 2)) F c l fu j (fun i => eSpan (g i)) = some (.ret (sl eSpan 2 (saltSl c l.el l.len))) := by
  have hcl := hc.1
  intro r
  induction r with
  | zero =>
    intro j fu g h hf hg hg2
    obtain ⟨fu, rfl⟩ : ∃ k, fu = k + 1 := ⟨fu - 1, by omega⟩
    have e : g = saltS c l.el l.len := by
      funext i
      rw [show l.len = j by omega]
      by_cases h : i < c.slices.len
      · exact hg i h
      · exact hg2 i h
    rw [L84x0s, decide_eq_false (by omega), pF, e]
    simp only [Int.toNat_natCast]
    rfl
  | succ r ih =>
    intro j fu g h hf hg hg2
    obtain ⟨fu, rfl⟩ : ∃ k, fu = k + 1 := ⟨fu - 1, by omega⟩
    have e : g = fun i => if i < 0 then saltS c l.el (j + 1) i else saltS c l.el j i := by
      funext i
      rw [if_neg (by omega)]
      by_cases h : i < c.slices.len
      · exact hg i h
      · exact hg2 i h
    have q82 : (E F (d + 2)).pf 82 [.agg (eCav c), .agg (eStg (l.el j))] = _ := s82 F d c hc (l.el j) (hl j (by omega)) (by omega)
    have e2 := l84x1 F d hc h8 hl hF j fu (by omega) c.slices.len 0 F (by omega) (by omega)
    rw [L84x0s]
    simp (disch := omega) only [decide_eq_true, Int.toNat_natCast, pT, q82, tkOut_ret, sl, rateSl, tkRow_r]
    rw [e]
    refine Eq.trans e2 ?_
    refine ih (j + 1) fu (fun i => if i < c.slices.len then saltS c l.el (j + 1) i else saltS c l.el j i) (by omega) (by omega) (fun i hi => if_pos hi) fun i hi => ?_
    rw [if_neg hi]
    have hz : ∀ j, j ≤ l.len → saltS c l.el j i = ⟨0, 0⟩ := by
      intro j
      induction j with
      | zero => intro _; rfl
      | succ j ih =>
        intro h
        have hr : ∀ k, k ≤ pathN (l.el j) → rtRow c (l.el j) k i = ⟨0, 0⟩ := by
          intro k
          induction k with
          | zero => intro _; rfl
          | succ k ih =>
            intro h2
            have hin := pathAt_in (hl j (by omega)) (k := k) (by omega)
            simp only [rtRow]
            rw [if_neg (by omega)]
            exact ih (by omega)
        simp only [saltS]
        rw [ih (by omega), hr _ (Nat.le_refl _)]
        simp [timesS, addS]
    rw [hz _ (by omega), hz _ (by omega)]
theorem s84 : (E F (d + 3)).pf 84 [.agg (eCav c), sl eStg 4 l] = some (.ret (sl eSpan 2 (saltSl c l.el l.len))) := by
  have hcl := hc.1
  rw [E_pf, t84]
  simp (disch := omega) only [decide_eq_true, decide_true, pT]
  exact l84x0 F d hc h8 hl hF l.len 0 F (fun _ => ⟨0, 0⟩) (by omega) (by omega) (fun _ _ => rfl) fun _ _ => rfl
theorem l42 (p : Span) : ∀ r k fu, k + 1 + r = c.slices.len → r < fu →
    L42x1 (E F (d + 14)) F c l fu ((k + 1 : Nat) : Int) false c.slices.len 2 (fun i => eSpan (saltS c l.el l.len i)) (k + 1) .i64 p.lo .i64 p.hi (k + 1) (gl eSpan ⟨0, 0⟩ (tabL (volK c l.el l.len) (k + 1)))
      = some (.ret (.tup [.agg [sl eSpan 2 (saltSl c l.el l.len), sl eSpan 2 (tabP (volK c l.el l.len) c.slices.len), .int .i64 p.lo, .int .i64 p.hi], .int .i64 0])) := by
  have hcl := hc.1
  intro r
  induction r with
  | zero =>
    intro k fu h hf
    obtain ⟨fu, rfl⟩ : ∃ k, fu = k + 1 := ⟨fu - 1, by omega⟩
    rw [L42x1s, decide_eq_false (by omega), pF, show k + 1 = c.slices.len by omega]
    rfl
  | succ r ih =>
    intro k fu h hf
    obtain ⟨fu, rfl⟩ : ∃ k, fu = k + 1 := ⟨fu - 1, by omega⟩
    have hv := volK_in hc hl h8 (k := k + 1) (by omega)
    have hvo : SpanIn (c.slices.el (k + 1)).vol 0 10000000000000 := (hc.2.2.2 (k + 1) (by omega)).1
    unfold SpanIn at hvo
    have q86 : (E F (d + 14)).pf 86 [.agg [.int .i64 (saltS c l.el l.len (k + 1)).lo, .int .i64 (saltS c l.el l.len (k + 1)).hi], .int .i64 (c.slices.el (k + 1)).opn] = _ := s86 F (d + 13) (saltS c l.el l.len (k + 1)) (c.slices.el (k + 1)).opn (by constructor <;> omega) (by constructor <;> omega)
    have q85 := s85 F (d + 13) (c.slices.el (k + 1)).vol (timesS (saltS c l.el l.len (k + 1)) (c.slices.el (k + 1)).opn) (by omega) (by constructor <;> omega) (by constructor <;> omega) (by rw [hv.1]; constructor <;> simp only <;> omega) (by rw [hv.1]; constructor <;> simp only <;> omega)
    rw [show d + 13 + 1 = d + 14 from rfl] at q85
    have e3 : appGet (k + 1) (gl eSpan ⟨0, 0⟩ (tabL (volK c l.el l.len) (k + 1))) (fun _ => eSpan (volK c l.el l.len (k + 1))) = gl eSpan ⟨0, 0⟩ (tabL (volK c l.el l.len) (k + 1 + 1)) := by
      refine (gl_snoc (m := volK c l.el l.len (k + 1)) (e := eSpan) (tabL_len _ (k + 1)) rfl).trans ?_
      rw [← tabL_S]
    rw [L42x1s]
    simp (disch := omega) only [decide_eq_true, Int.toNat_natCast, pT, show ((2 : Nat) == 2) = true from rfl, List.take, List.length, show ((0 + 1 + 1 : Nat) == 2) = true from rfl, tkCons_c, tkInt_i, tkNil_n, q86, tkOut_ret, tkAgg_a]
    rw [q85]
    simp only [tkOut_ret, tkAgg_a, tkCons_c, tkInt_i, tkNil_n]
    rw [wrS (by omega)]
    unfold volK at e3
    simp only [eSpan] at e3
    unfold volK
    rw [e3]
    exact ih (k + 1) fu (by omega) (by omega)
end
end Go.Sim.Le


namespace Go.Sim.Le
open Go.Proofs
def sumpM (c : Cav) : Mea := ⟨⟨false, c.slices.len, fun _ => 0⟩, 1⟩
theorem sumpM_ok (c : Cav) : MeaOk c (sumpM c) := ⟨rfl, fun i _ => by show -1000 ≤ (0 : Int) ∧ (0 : Int) ≤ 1000; omega, by show -1000 ≤ (1 : Int); omega, by show (1 : Int) ≤ 1000; omega⟩
def afterV (c : Cav) (l : Nat → Stg) (n : Nat) : List V := [sl eSpan 2 (saltSl c l n), sl eSpan 2 (tabP (volK c l n) c.slices.len), .int .i64 (boundS c l (sumpM c) n).lo, .int .i64 (boundS c l (sumpM c) n).hi]
def after0 : List V := [.row true 0 0 fun _ => [], .row true 0 0 fun _ => [], .int .i64 0, .int .i64 0]
variable (F d : Nat)
theorem s42 (c : Cav) (l : Sl Stg) (hC : c.slices.len < Big) (hCF : c.slices.len < F) (hB : l.len < Big) (hLF : l.len < F) (hF : 1000000000 < F) : (E F (d + 15)).pf 42 [.agg (eCav c), sl eStg 4 l] =
    some (.ret (.tup (if errP c l true = 0 then [.agg (afterV c l.el l.len), .int .i64 0] else [.agg after0, .int .i64 (errP c l true)]))) := by
  have q57 := s57 F (d + 7) c l hC hCF hB hLF
  rw [show d + 7 + 7 = d + 14 from rfl] at q57
  have e57 : (if 8 < l.len then (3 : Int) else if CavOk c ∧ ∀ i, i < l.len → StgOk c.slices.len (l.el i) then 0 else 2) = errP c l true := by
    unfold errP
    simp only [and_true]
  rw [e57] at q57
  rw [E_pf, t42]
  simp only [q57, tkOut_ret, tkInt_i, decide_true, pT]
  by_cases h0 : errP c l true = 0
  · obtain ⟨h8, hc, hl, _⟩ := errP_0.1 h0
    have hcl := hc.1
    have hv := volK_in hc hl h8 (k := 0) (by omega)
    have hvo : SpanIn (c.slices.el 0).vol 0 10000000000000 := (hc.2.2.2 0 (by omega)).1
    unfold SpanIn at hvo
    have q84 : (E F (d + 14)).pf 84 [.agg (eCav c), sl eStg 4 l] = _ := s84 F (d + 11) hc h8 hl (by omega)
    have q62 : (E F (d + 14)).pf 62 [.agg (eCav c), sl eStg 4 l, .agg (eMea (sumpM c))] = _ := s62 F d hc (sumpM_ok c) l (by omega) hl (by omega)
    have q86 : (E F (d + 14)).pf 86 [.agg [.int .i64 (saltS c l.el l.len 0).lo, .int .i64 (saltS c l.el l.len 0).hi], .int .i64 (c.slices.el 0).opn] = _ := s86 F (d + 13) (saltS c l.el l.len 0) (c.slices.el 0).opn (by constructor <;> omega) (by constructor <;> omega)
    have q85 := s85 F (d + 13) (c.slices.el 0).vol (timesS (saltS c l.el l.len 0) (c.slices.el 0).opn) (by omega) (by constructor <;> omega) (by constructor <;> omega) (by rw [hv.1]; constructor <;> simp only <;> omega) (by rw [hv.1]; constructor <;> simp only <;> omega)
    rw [show d + 13 + 1 = d + 14 from rfl] at q85
    obtain ⟨F, rfl⟩ : ∃ k, F = k + 1 := ⟨F - 1, by omega⟩
    have e := l42 (F + 1) d hc h8 hl (by omega) (boundS c l.el (sumpM c) l.len) (c.slices.len - 1) 0 F (by omega) (by omega)
    rw [h0, if_pos rfl]
    simp only [eMea, sumpM, sl, eInt] at q62
    simp only [sl] at q84 q62 ⊢
    simp only [sl, q84, tkRow_r, show ((0 : Int) != 0) = false from rfl, pF, saltSl]
    simp (disch := omega) only [decide_eq_true, decide_true, pT, Int.toNat_natCast, q62, tkOut_ret, tkAgg_a, tkCons_c, tkInt_i, tkNil_n, eSpan, tkRow_r]
    rw [L42x0s]
    simp (disch := omega) only [decide_eq_true, Int.toNat_natCast, pT, show ((2 : Nat) == 2) = true from rfl, List.take, List.length, show ((0 + 1 + 1 : Nat) == 2) = true from rfl, tkCons_c, tkInt_i, tkNil_n, q86, tkOut_ret, tkAgg_a]
    rw [q85]
    simp only [tkOut_ret, tkAgg_a, tkCons_c, tkInt_i, tkNil_n]
    rw [show tabL (volK c l.el l.len) (0 + 1) = [volK c l.el l.len 0] from rfl, ← gl_one rfl] at e
    exact e
  · rw [if_neg h0]
    have e1 : (errP c l true != 0) = true := by simpa using h0
    simp only [e1, pT]
    rfl
end Go.Sim.Le


namespace Go.Sim.Le
open Go.Proofs
theorem bestHi_le {f : Int → Int} {a H : Int} : ∀ j : Nat, (∀ n, a ≤ n → n ≤ a + j → f n ≤ H) → bestHi f a j ≤ H
  | 0, h => h a (by omega) (by omega)
  | j + 1, h => by
    have h1 := bestHi_le j fun n h1 h2 => h n h1 (by omega)
    have h2 := h (a + ((j + 1 : Nat) : Int)) (by omega) (by omega)
    simp only [bestHi]
    omega
theorem le_bestLo {f : Int → Int} {a H : Int} : ∀ j : Nat, (∀ n, a ≤ n → n ≤ a + j → H ≤ f n) → H ≤ bestLo f a j
  | 0, h => h a (by omega) (by omega)
  | j + 1, h => by
    have h1 := le_bestLo j fun n h1 h2 => h n h1 (by omega)
    have h2 := h (a + ((j + 1 : Nat) : Int)) (by omega) (by omega)
    simp only [bestLo]
    omega
theorem le_bestHi {f : Int → Int} {a : Int} {n : Int} (h1 : a ≤ n) : ∀ j : Nat, n ≤ a + j → f n ≤ bestHi f a j
  | 0, h => by rw [show n = a by omega]; exact Int.le_refl _
  | j + 1, h => by
    simp only [bestHi]
    by_cases h2 : n ≤ a + j
    · have := le_bestHi h1 (f := f) j h2; omega
    · rw [show n = a + ((j + 1 : Nat) : Int) by omega]; omega
theorem bestLo_le {f : Int → Int} {a : Int} {n : Int} (h1 : a ≤ n) : ∀ j : Nat, n ≤ a + j → bestLo f a j ≤ f n
  | 0, h => by rw [show n = a by omega]; exact Int.le_refl _
  | j + 1, h => by
    simp only [bestLo]
    by_cases h2 : n ≤ a + j
    · have := bestLo_le h1 (f := f) j h2; omega
    · rw [show n = a + ((j + 1 : Nat) : Int) by omega]; omega
theorem bestHi_at {f : Int → Int} {a : Int} {j : Nat} {n : Int} (h1 : a ≤ n) (h2 : n ≤ a + j) (h : ∀ k, a ≤ k → k ≤ a + j → f k ≤ f n) : bestHi f a j = f n := Int.le_antisymm (bestHi_le j h) (le_bestHi h1 j h2)
theorem bestLo_at {f : Int → Int} {a : Int} {j : Nat} {n : Int} (h1 : a ≤ n) (h2 : n ≤ a + j) (h : ∀ k, a ≤ k → k ≤ a + j → f n ≤ f k) : bestLo f a j = f n := Int.le_antisymm (bestLo_le h1 j h2) (le_bestLo j h)
def oneM (c : Cav) (u : Nat) : Mea := ⟨⟨false, c.slices.len, oneW u⟩, 0⟩
theorem oneM_ok (c : Cav) (u : Nat) : MeaOk c (oneM c u) := ⟨rfl, fun i _ => by show -1000 ≤ oneW u i ∧ oneW u i ≤ 1000; unfold oneW; split <;> omega, by show -1000 ≤ (0 : Int); omega, by show (0 : Int) ≤ 1000; omega⟩
theorem oneM_gain (c : Cav) (u i : Nat) : gainI c (oneM c u) i = if i = u then (c.slices.el i).opn else 0 := by
  unfold gainI
  show (c.slices.el i).opn * oneW u i + (c.slices.el i).fall * 0 = _
  unfold oneW
  split <;> omega
theorem best0 {f : Int → Int} {a : Int} {j : Nat} (h : ∀ n, a ≤ n → n ≤ a + j → f n = 0) : bestHi f a j = 0 ∧ bestLo f a j = 0 := by
  have h0 := h a (by omega) (by omega)
  exact ⟨(bestHi_at (n := a) (by omega) (by omega) fun k h1 h2 => by rw [h k h1 h2, h0]; omega).trans h0, (bestLo_at (n := a) (by omega) (by omega) fun k h1 h2 => by rw [h k h1 h2, h0]; omega).trans h0⟩
section
variable {c : Cav} (hc : CavOk c) {s : Stg} (hs : StgOk c.slices.len s)
include hc hs
theorem rest_zero {m : Mea} : ∀ r, r ≤ pathN s → (∀ k, pathN s - r ≤ k → k < pathN s → gainI c m (pathAt s k).toNat = 0) → ∀ b, 0 ≤ b → restS c m s r b = ⟨0, 0⟩ := by
  intro r
  induction r with
  | zero => intro _ _ b _; rfl
  | succ r ih =>
    intro h hg b hb
    have ho : SpanIn (slAt c s (pathN s - (r + 1))).rate 0 300 := (slcOk_at hc hs (k := pathN s - (r + 1)) (by omega)).2.2.2.1
    unfold SpanIn at ho
    simp only [restS]
    rw [hg (pathN s - (r + 1)) (by omega) (by omega)]
    have hI := ih (by omega) fun k h1 h2 => hg k (by omega) h2
    have e1 := (best0 (f := fun n => (restS c m s r (b - n)).hi + n * 0) (a := min (slAt c s (pathN s - (r + 1))).rate.lo b) (j := (min (slAt c s (pathN s - (r + 1))).rate.hi b - min (slAt c s (pathN s - (r + 1))).rate.lo b).toNat) fun n h1 h2 => by
      show (restS c m s r (b - n)).hi + n * 0 = 0
      rw [hI (b - n) (by omega)]; simp).1
    have e2 := (best0 (f := fun n => (restS c m s r (b - n)).lo + n * 0) (a := min (slAt c s (pathN s - (r + 1))).rate.lo b) (j := (min (slAt c s (pathN s - (r + 1))).rate.hi b - min (slAt c s (pathN s - (r + 1))).rate.lo b).toNat) fun n h1 h2 => by
      show (restS c m s r (b - n)).lo + n * 0 = 0
      rw [hI (b - n) (by omega)]; simp).2
    rw [e1, e2]
theorem sumLo_mono {j : Nat} : ∀ q, j ≤ q → q ≤ pathN s → sumLo c s j ≤ sumLo c s q ∧ sumHi c s j ≤ sumHi c s q := by
  intro q
  induction q with
  | zero => intro h _; rw [show j = 0 by omega]; omega
  | succ q ih =>
    intro h hq
    by_cases h1 : j = q + 1
    · subst h1; omega
    · have h2 := ih (by omega) (by omega)
      have ho : SpanIn (slAt c s q).rate 0 300 := (slcOk_at hc hs (k := q) (by omega)).2.2.2.1
      unfold SpanIn at ho
      simp only [sumLo, sumHi]
      omega
theorem rest_one {u q : Nat} (hq : q < pathN s) (hu : (pathAt s q).toNat = u) : ∀ r, r ≤ pathN s → pathN s - r ≤ q → ∀ b, 0 ≤ b → restS c (oneM c u) s r b = ⟨(c.slices.el u).opn * min (slAt c s q).rate.lo (max 0 (b - (sumHi c s q - sumHi c s (pathN s - r)))), (c.slices.el u).opn * min (slAt c s q).rate.hi (max 0 (b - (sumLo c s q - sumLo c s (pathN s - r))))⟩ := by
  have hinu := pathAt_in hs hq
  have hop : 1000 ≤ (c.slices.el u).opn := (hc.2.2.2 u (by omega)).2.1.1
  intro r
  induction r with
  | zero => intro _ h; omega
  | succ r ih =>
    intro h hk b hb
    have ho : SpanIn (slAt c s (pathN s - (r + 1))).rate 0 300 := (slcOk_at hc hs (k := pathN s - (r + 1)) (by omega)).2.2.2.1
    unfold SpanIn at ho
    have hin := pathAt_in hs (k := pathN s - (r + 1)) (by omega)
    simp only [restS]
    rw [oneM_gain]
    by_cases hkq : pathN s - (r + 1) = q
    · have hz := rest_zero hc hs (m := oneM c u) r (by omega) fun k h1 h2 => by
        rw [oneM_gain, if_neg]
        intro he
        have hin2 := pathAt_in hs (k := k) (by omega)
        have := pathAt_inj (s := s) (j := k) (k := q) (by omega)
        omega
      rw [hkq] at ho ⊢
      rw [if_pos hu, hu]
      rw [show b - (sumHi c s q - sumHi c s q) = b by omega, show b - (sumLo c s q - sumLo c s q) = b by omega, show max 0 b = b by omega]
      generalize hg : (c.slices.el u).opn = g at hop ⊢
      have e1 := bestHi_at (f := fun n => (restS c (oneM c u) s r (b - n)).hi + n * g) (a := min (slAt c s q).rate.lo b) (j := (min (slAt c s q).rate.hi b - min (slAt c s q).rate.lo b).toNat) (n := min (slAt c s q).rate.hi b) (by omega) (by omega) fun k h1 h2 => by
        show (restS c (oneM c u) s r (b - k)).hi + k * g ≤ (restS c (oneM c u) s r (b - min (slAt c s q).rate.hi b)).hi + min (slAt c s q).rate.hi b * g
        rw [hz (b - k) (by omega), hz _ (by omega)]
        have := Int.mul_le_mul_of_nonneg_right (c := g) (show k ≤ min (slAt c s q).rate.hi b by omega) (by omega)
        simp only
        omega
      have e2 := bestLo_at (f := fun n => (restS c (oneM c u) s r (b - n)).lo + n * g) (a := min (slAt c s q).rate.lo b) (j := (min (slAt c s q).rate.hi b - min (slAt c s q).rate.lo b).toNat) (n := min (slAt c s q).rate.lo b) (by omega) (by omega) fun k h1 h2 => by
        show (restS c (oneM c u) s r (b - min (slAt c s q).rate.lo b)).lo + min (slAt c s q).rate.lo b * g ≤ (restS c (oneM c u) s r (b - k)).lo + k * g
        rw [hz (b - k) (by omega), hz _ (by omega)]
        have := Int.mul_le_mul_of_nonneg_right (c := g) (show min (slAt c s q).rate.lo b ≤ k by omega) (by omega)
        simp only
        omega
      rw [e1, e2]
      rw [hz _ (by omega), hz _ (by omega), Int.mul_comm g, Int.mul_comm g]
      simp
    · have hne : (pathAt s (pathN s - (r + 1))).toNat ≠ u := by
        intro he
        have := pathAt_inj (s := s) (j := pathN s - (r + 1)) (k := q) (by omega)
        omega
      have hI := ih (by omega) (by omega)
      have hS : pathN s - r = pathN s - (r + 1) + 1 := by omega
      rw [if_neg hne]
      rw [hS] at hI
      simp only [sumHi, sumLo] at hI
      generalize hkk : pathN s - (r + 1) = k at hI ho ⊢
      generalize hg : (c.slices.el u).opn = g at hop hI ⊢
      have e1 := bestHi_at (f := fun n => (restS c (oneM c u) s r (b - n)).hi + n * 0) (a := min (slAt c s k).rate.lo b) (j := (min (slAt c s k).rate.hi b - min (slAt c s k).rate.lo b).toNat) (n := min (slAt c s k).rate.lo b) (by omega) (by omega) fun n h1 h2 => by
        show (restS c (oneM c u) s r (b - n)).hi + n * 0 ≤ (restS c (oneM c u) s r (b - min (slAt c s k).rate.lo b)).hi + min (slAt c s k).rate.lo b * 0
        rw [hI (b - n) (by omega), hI _ (by omega)]
        simp only [Int.mul_zero, Int.add_zero]
        exact Int.mul_le_mul_of_nonneg_left (by omega) (by omega)
      have e2 := bestLo_at (f := fun n => (restS c (oneM c u) s r (b - n)).lo + n * 0) (a := min (slAt c s k).rate.lo b) (j := (min (slAt c s k).rate.hi b - min (slAt c s k).rate.lo b).toNat) (n := min (slAt c s k).rate.hi b) (by omega) (by omega) fun n h1 h2 => by
        show (restS c (oneM c u) s r (b - min (slAt c s k).rate.hi b)).lo + min (slAt c s k).rate.hi b * 0 ≤ (restS c (oneM c u) s r (b - n)).lo + n * 0
        rw [hI (b - n) (by omega), hI _ (by omega)]
        simp only [Int.mul_zero, Int.add_zero]
        exact Int.mul_le_mul_of_nonneg_left (by omega) (by omega)
      have hsm := sumLo_mono hc hs (j := k + 1) q (by omega) (by omega)
      simp only [sumLo, sumHi] at hsm
      rw [e1, e2]
      simp only [Int.mul_zero, Int.add_zero]
      rw [hI _ (by omega), hI _ (by omega)]
      simp only
      have a1 : min (slAt c s q).rate.lo (max 0 (b - min (slAt c s k).rate.hi b - (sumHi c s q - (sumHi c s k + (slAt c s k).rate.hi)))) = min (slAt c s q).rate.lo (max 0 (b - (sumHi c s q - sumHi c s k))) := by omega
      have a2 : min (slAt c s q).rate.hi (max 0 (b - min (slAt c s k).rate.lo b - (sumLo c s q - (sumLo c s k + (slAt c s k).rate.lo)))) = min (slAt c s q).rate.hi (max 0 (b - (sumLo c s q - sumLo c s k))) := by omega
      rw [a1, a2]
end
end Go.Sim.Le


namespace Go.Sim.Le
open Go.Proofs
section
variable {c : Cav} (hc : CavOk c)
include hc
theorem rtRow_at {s : Stg} (hs : StgOk c.slices.len s) {q : Nat} : ∀ k, q < k → k ≤ pathN s → rtRow c s k (pathAt s q).toNat = rtK c s q := by
  intro k
  induction k with
  | zero => intro h _; omega
  | succ k ih =>
    intro h hk
    simp only [rtRow]
    by_cases h1 : q = k
    · subst h1; rw [if_pos rfl]
    · have i1 := pathAt_in hs (k := k) (by omega)
      have i2 := pathAt_in hs (k := q) (by omega)
      rw [if_neg (fun e => by have := pathAt_inj (s := s) (j := q) (k := k) (by omega); omega)]
      exact ih (by omega) (by omega)
theorem rtRow_off {s : Stg} {u : Nat} : ∀ k, (∀ q, q < k → (pathAt s q).toNat ≠ u) → rtRow c s k u = ⟨0, 0⟩ := by
  intro k
  induction k with
  | zero => intro _; rfl
  | succ k ih =>
    intro h
    simp only [rtRow]
    rw [if_neg (fun e => h k (by omega) e.symm)]
    exact ih fun q hq => h q (by omega)
theorem grown_one {s : Stg} (hs : StgOk c.slices.len s) (u : Nat) : restS c (oneM c u) s (pathN s) c.hold = ⟨(c.slices.el u).opn * (rtRow c s (pathN s) u).lo, (c.slices.el u).opn * (rtRow c s (pathN s) u).hi⟩ := by
  have hH := hc.2.1
  by_cases h : ∃ q, q < pathN s ∧ (pathAt s q).toNat = u
  · obtain ⟨q, hq, hu⟩ := h
    rw [rest_one hc hs hq hu (pathN s) (Nat.le_refl _) (by omega) c.hold (by omega), ← hu, rtRow_at hc hs (pathN s) hq (Nat.le_refl _)]
    rw [Nat.sub_self]
    simp only [sumHi, sumLo, Int.sub_zero, rtK]
  · rw [rtRow_off hc (pathN s) fun q hq hu => h ⟨q, hq, hu⟩]
    rw [rest_zero hc hs (pathN s) (Nat.le_refl _) (fun k _ hk => by rw [oneM_gain, if_neg (fun e => h ⟨k, hk, e⟩)]) c.hold (by omega)]
    simp
theorem first_one {u : Nat} : ∀ k, firstS c (oneM c u) k = if u < k then (c.slices.el u).vol else ⟨0, 0⟩ := by
  intro k
  induction k with
  | zero => rfl
  | succ k ih =>
    simp only [firstS]
    rw [ih]
    show addS _ (timesS (c.slices.el k).vol (oneW u k)) = _
    unfold oneW
    by_cases h1 : k = u
    · subst h1
      rw [if_neg (by omega), if_pos rfl, if_pos (by omega)]
      simp [timesS, addS]
    · rw [if_neg h1]
      by_cases h2 : u < k
      · rw [if_pos h2, if_pos (by omega)]; simp [timesS, addS]
      · rw [if_neg h2, if_neg (by omega)]; simp [timesS, addS]
theorem bound_one {u : Nat} (hu : u < c.slices.len) {n : Nat} {l : Nat → Stg} (hl : ∀ i, i < n → StgOk c.slices.len (l i)) : ∀ k, k ≤ n → boundS c l (oneM c u) k = volK c l k u := by
  have hop : 1000 ≤ (c.slices.el u).opn := (hc.2.2.2 u hu).2.1.1
  have hno : ¬ (c.slices.el u).opn < 0 := by omega
  intro k
  induction k with
  | zero =>
    intro _
    simp only [boundS, volK, saltS]
    rw [first_one hc, if_pos hu]
    simp [timesS, addS]
  | succ k ih =>
    intro h
    have hs := hl k (by omega)
    have hwa := hs.1
    have hnw : ¬ (l k).water < 0 := by omega
    simp only [boundS, volK, saltS, grownS]
    rw [ih (by omega), grown_one hc hs u]
    simp only [volK, timesS, if_neg hno, if_neg hnw, addS, Int.mul_add, Int.mul_left_comm (l k).water, Int.add_assoc]
end
variable (F d : Nat)
section
variable {c : Cav} (hc : CavOk c) {l : Sl Stg} (h8 : l.len ≤ 8) (hl : ∀ i, i < l.len → StgOk c.slices.len (l.el i)) (hF : 1000000000 < F)
include hc h8 hl hF
theorem l43x1 (m0 : Nat) : ∀ r j fu, j + r = l.len → r < fu →
    L43x1 (E F (d + 5)) F c l m0 fu j (saltS c l.el j 0).lo (saltS c l.el j 0).hi = L43x2 (E F (d + 5)) F c l m0 1 1 1 1 (gl eSpan ⟨0, 0⟩ (tabL (saltS c l.el l.len) 1)) 1 (gl eSpan ⟨0, 0⟩ (tabL (volK c l.el l.len) 1)) := by
  have hcl := hc.1
  intro r
  induction r with
  | zero =>
    intro j fu h hf
    obtain ⟨fu, rfl⟩ : ∃ k, fu = k + 1 := ⟨fu - 1, by omega⟩
    have q75 : (E F (d + 5)).pf 75 [.agg (eCav c), .int .i64 (0 : Nat)] = _ := s75 F (d + 4) c (by omega) 0 (by omega)
    have q25 : (E F (d + 5)).pf 25 [.agg (eCav c), sl eStg 4 l, sl eInt 1 (oneM c 0).weights, .int .i64 (oneM c 0).sump] = _ := s25 F d hc (oneM_ok c 0) l (by omega) hl (by omega)
    rw [bound_one hc (by omega) hl _ (Nat.le_refl _)] at q25
    simp only [oneM, sl] at q25 q75
    rw [L43x1s, decide_eq_false (by omega), pF]
    simp only [Int.natCast_zero] at q75
    simp only [sl, q75, tkOut_ret, tkRow_r, q25, tkAgg_a, tkCons_c, tkInt_i, tkNil_n]
    rw [wr (n := 0 + 1) (by omega), show j = l.len by omega]
    rw [show tabL (saltS c l.el l.len) 1 = [saltS c l.el l.len 0] from rfl, ← gl_one rfl, show tabL (volK c l.el l.len) 1 = [volK c l.el l.len 0] from rfl, ← gl_one rfl]
    rfl
  | succ r ih =>
    intro j fu h hf
    obtain ⟨fu, rfl⟩ : ∃ k, fu = k + 1 := ⟨fu - 1, by omega⟩
    have hst := salt_step hc hl (j := j) (by omega) 0
    have hs := salt_in hc hl 0 j (by omega)
    have q41 : (E F (d + 5)).pf 41 [.agg (eCav c), .agg (eStg (l.el j))] = _ := s41 F (d + 3) c hc (l.el j) (hl j (by omega)) (by omega)
    simp only [rateSl, sl] at q41
    rw [L43x1s]
    simp (disch := omega) only [decide_eq_true, decide_true, Int.toNat_natCast, pT, q41, tkOut_ret, tkRow_r, show ((2 : Nat) == 2) = true from rfl, List.take, List.length, show ((0 + 1 + 1 : Nat) == 2) = true from rfl, tkCons_c, tkInt_i, tkNil_n]
    rw [wr (n := (l.el j).water * (rtRow c (l.el j) (pathN (l.el j)) 0).lo) (by omega), wr (n := (l.el j).water * (rtRow c (l.el j) (pathN (l.el j)) 0).hi) (by omega), wrS (by omega), wr (by omega), wr (by omega)]
    have e := ih (j + 1) fu (by omega) (by omega)
    simp only [saltS] at e
    rw [hst.2] at e
    exact e
theorem l43x3 (m0 u : Nat) (hu : u < c.slices.len) (hu1 : 1 ≤ u) : ∀ r j fu, j + r = l.len → r < fu →
    L43x3 (E F (d + 5)) F c l m0 fu u j u u (saltS c l.el j u).lo (saltS c l.el j u).hi u (gl eSpan ⟨0, 0⟩ (tabL (saltS c l.el l.len) u)) u (gl eSpan ⟨0, 0⟩ (tabL (volK c l.el l.len) u)) = L43x2 (E F (d + 5)) F c l m0 ((u + 1 : Nat) : Int) (u + 1) (u + 1) (u + 1) (gl eSpan ⟨0, 0⟩ (tabL (saltS c l.el l.len) (u + 1))) (u + 1) (gl eSpan ⟨0, 0⟩ (tabL (volK c l.el l.len) (u + 1))) := by
  have hcl := hc.1
  intro r
  induction r with
  | zero =>
    intro j fu h hf
    obtain ⟨fu, rfl⟩ : ∃ k, fu = k + 1 := ⟨fu - 1, by omega⟩
    have q75 : (E F (d + 5)).pf 75 [.agg (eCav c), .int .i64 u] = _ := s75 F (d + 4) c (by omega) u (by omega)
    have q25 : (E F (d + 5)).pf 25 [.agg (eCav c), sl eStg 4 l, sl eInt 1 (oneM c u).weights, .int .i64 (oneM c u).sump] = _ := s25 F d hc (oneM_ok c u) l (by omega) hl (by omega)
    rw [bound_one hc (by omega) hl _ (Nat.le_refl _)] at q25
    simp only [oneM, sl] at q25 q75
    have e3 : appGet u (gl eSpan ⟨0, 0⟩ (tabL (volK c l.el l.len) u)) (fun _ => eSpan (volK c l.el l.len u)) = gl eSpan ⟨0, 0⟩ (tabL (volK c l.el l.len) (u + 1)) := by
      refine (gl_snoc (m := volK c l.el l.len u) (e := eSpan) (tabL_len _ u) rfl).trans ?_
      rw [← tabL_S]
    have e4 : appGet u (gl eSpan ⟨0, 0⟩ (tabL (saltS c l.el l.len) u)) (fun _ => eSpan (saltS c l.el l.len u)) = gl eSpan ⟨0, 0⟩ (tabL (saltS c l.el l.len) (u + 1)) := by
      refine (gl_snoc (m := saltS c l.el l.len u) (e := eSpan) (tabL_len _ u) rfl).trans ?_
      rw [← tabL_S]
    rw [L43x3s, decide_eq_false (by omega), pF]
    simp (disch := omega) only [sl, q75, tkOut_ret, tkRow_r, q25, tkAgg_a, tkCons_c, tkInt_i, tkNil_n, decide_eq_true, pT]
    rw [wrS (by omega), show j = l.len by omega]
    simp only [eSpan] at e3 e4
    rw [← e3, ← e4]
  | succ r ih =>
    intro j fu h hf
    obtain ⟨fu, rfl⟩ : ∃ k, fu = k + 1 := ⟨fu - 1, by omega⟩
    have hst := salt_step hc hl (j := j) (by omega) u
    have hs := salt_in hc hl u j (by omega)
    have q41 : (E F (d + 5)).pf 41 [.agg (eCav c), .agg (eStg (l.el j))] = _ := s41 F (d + 3) c hc (l.el j) (hl j (by omega)) (by omega)
    simp only [rateSl, sl] at q41
    rw [L43x3s]
    simp (disch := omega) only [decide_eq_true, decide_true, Int.toNat_natCast, pT, q41, tkOut_ret, tkRow_r, show ((2 : Nat) == 2) = true from rfl, List.take, List.length, show ((0 + 1 + 1 : Nat) == 2) = true from rfl, tkCons_c, tkInt_i, tkNil_n]
    rw [wr (n := (l.el j).water * (rtRow c (l.el j) (pathN (l.el j)) u).lo) (by omega), wr (n := (l.el j).water * (rtRow c (l.el j) (pathN (l.el j)) u).hi) (by omega), wrS (by omega), wr (by omega), wr (by omega)]
    have e := ih (j + 1) fu (by omega) (by omega)
    simp only [saltS] at e
    rw [hst.2] at e
    exact e
def afterR (c : Cav) (l : Nat → Stg) (n : Nat) : List V := [sl eSpan 2 (tabP (saltS c l n) c.slices.len), sl eSpan 2 (tabP (volK c l n) c.slices.len), .int .i64 (boundS c l (sumpM c) n).lo, .int .i64 (boundS c l (sumpM c) n).hi]
theorem l43x2 : ∀ r u fu, u + r = c.slices.len → 1 ≤ u → r < fu →
    L43x2 (E F (d + 5)) F c l fu u u u u (gl eSpan ⟨0, 0⟩ (tabL (saltS c l.el l.len) u)) u (gl eSpan ⟨0, 0⟩ (tabL (volK c l.el l.len) u)) = some (.ret (.agg (afterR c l.el l.len))) := by
  have hcl := hc.1
  intro r
  induction r with
  | zero =>
    intro u fu h h1 hf
    obtain ⟨fu, rfl⟩ : ∃ k, fu = k + 1 := ⟨fu - 1, by omega⟩
    have q25 : (E F (d + 5)).pf 25 [.agg (eCav c), sl eStg 4 l, sl eInt 1 (sumpM c).weights, .int .i64 (sumpM c).sump] = _ := s25 F d hc (sumpM_ok c) l (by omega) hl (by omega)
    have hue : u = c.slices.len := by omega
    subst hue
    simp only [sumpM, sl, eInt] at q25
    rw [L43x2s, decide_eq_false (by omega), pF]
    simp (disch := omega) only [sl, Int.toNat_natCast, decide_eq_true, decide_true, pT, q25, tkOut_ret, tkAgg_a, tkCons_c, tkInt_i, tkNil_n]
    rfl
  | succ r ih =>
    intro u fu h h1 hf
    obtain ⟨fu, rfl⟩ : ∃ k, fu = k + 1 := ⟨fu - 1, by omega⟩
    have e := l43x3 F d hc h8 hl hF fu u (by omega) h1 l.len 0 F (by omega) (by omega)
    rw [L43x2s, decide_eq_true (by omega), pT]
    refine Eq.trans e ?_
    exact ih (u + 1) fu (by omega) (by omega) (by omega)
theorem s43 : (E F (d + 6)).pf 43 [.agg (eCav c), sl eStg 4 l] = some (.ret (.agg (afterR c l.el l.len))) := by
  have hcl := hc.1
  obtain ⟨F, rfl⟩ : ∃ k, F = k + 1 := ⟨F - 1, by omega⟩
  have e := l43x1 (F + 1) d hc h8 hl hF F l.len 0 (F + 1) (by omega) (by omega)
  rw [E_pf, t43, L43x0s, decide_eq_true (by omega), pT]
  refine Eq.trans e ?_
  exact l43x2 (F + 1) d hc h8 hl hF (c.slices.len - 1) 1 F (by omega) (by omega) (by omega)
end
end Go.Sim.Le


namespace Go.Sim.Le
open Go.Proofs
variable (F d : Nat)
theorem s9 (c : Cav) (l : Sl Stg) (hC : c.slices.len < Big) (hCF : c.slices.len < F) (hB : l.len < Big) (hLF : l.len < F) (hF : 1000000000 < F) : (E F (d + 20)).pf 9 [.agg (eCav c), sl eStg 4 l] = some (.ret (.bool true)) := by
  have q19 : (E F (d + 19)).pf 19 [.agg (eCav c)] = _ := s19 F (d + 18) c
  have q21 : (E F (d + 19)).pf 21 [] = _ := s21 F d hF
  have q20 : (E F (d + 19)).pf 20 [.agg (eCav c), sl eStg 4 l, .int .i64 5, .int .i64 60, .int .i64 4] = _ := s20 F (d + 14) c l 5 60 4 hC hCF hB hLF
  have q23 : (E F (d + 19)).pf 23 [.agg (eCav c), sl eStg 4 l, .bool true] = _ := s23 F (d + 15) c l true hC hCF hB hLF
  have q42 : (E F (d + 19)).pf 42 [.agg (eCav c), sl eStg 4 l] = _ := s42 F (d + 4) c l hC hCF hB hLF hF
  rw [E_pf, t9]
  cases h0 : decide (c.slices.len ≤ 20) with
  | false => rw [h0] at q19; simp only [q19, q21, tkOut_ret, tkBool_b, Bool.not_false, pT]
  | true =>
    rw [h0] at q19
    simp only [q19, q20, tkOut_ret, tkBool_b, Bool.not_true, pF]
    cases decide ((l.len : Int) > 20) with
    | true => simp only [q21, tkOut_ret, tkBool_b, pT]
    | false =>
      rw [pF]
      generalize decide (errP c l true ≠ 0 ∨ (c.slices.len : Int) ≤ 5 ∧ c.hold ≤ 60 ∧ (l.len : Int) ≤ 4) = e
      cases e with
      | false => simp only [q21, tkOut_ret, tkBool_b, Bool.not_false, pT]
      | true =>
        by_cases h3 : errP c l true = 0
        · obtain ⟨h8, hc, hl, _⟩ := errP_0.1 h3
          have hcl := hc.1
          rw [h3] at q23
          rw [if_pos h3] at q42
          have q43 : (E F (d + 19)).pf 43 [.agg (eCav c), sl eStg 4 l] = _ := s43 F (d + 13) hc h8 hl hF
          have q40 : (E F (d + 19)).pf 40 [sl eSpan 2 (saltSl c l.el l.len), sl eSpan 2 (tabP (saltS c l.el l.len) c.slices.len)] = _ := s40 F (d + 18) _ _ (by show c.slices.len < 4611686018427387904; omega) (by show c.slices.len < F; omega)
          have q40' : (E F (d + 19)).pf 40 [sl eSpan 2 (tabP (volK c l.el l.len) c.slices.len), sl eSpan 2 (tabP (volK c l.el l.len) c.slices.len)] = _ := s40 F (d + 18) _ _ (by show c.slices.len < 4611686018427387904; omega) (by show c.slices.len < F; omega)
          rw [decide_eq_true (show SameP (saltSl c l.el l.len) (tabP (saltS c l.el l.len) c.slices.len) from ⟨rfl, fun i hi => (tabP_el _ hi).symm⟩)] at q40
          rw [decide_eq_true (show SameP (tabP (volK c l.el l.len) c.slices.len) (tabP (volK c l.el l.len) c.slices.len) from ⟨rfl, fun i hi => rfl⟩)] at q40'
          simp only [afterV] at q42
          simp only [afterR] at q43
          simp only [sl, saltSl] at q42 q43 q40 q40' ⊢
          simp only [sl] at q23
          simp only [q21, q23, q42, q43, q40, q40', tkOut_ret, tkBool_b, tkTup_t, tkAgg_a, tkCons_c, tkInt_i, tkRow_r, tkNil_n, Bool.not_true, pF, decide_true, pT, z0', beq_self_eq_true, Bool.and_self]
        · have e1 : (errP c l true != 0) = true := by simpa using h3
          rw [if_neg h3] at q42
          simp only [after0] at q42
          simp only [q21, q23, q42, tkOut_ret, tkBool_b, tkTup_t, tkAgg_a, tkCons_c, tkInt_i, tkRow_r, tkNil_n, Bool.not_true, pF, decide_true, pT, e1, beq_self_eq_true, Bool.and_self]
          rw [show (IntKind.wrap .i64 (((0 : Nat) : Int) + ((0 : Nat) : Int)) == (0 : Int)) = true from rfl, pT]
end Go.Sim.Le


namespace Go.Proofs.Ythbpdkcfnbiejaa
open Go.ChangeShapes Go.WideShapes Go.ChangeAt Go.RowKit Go.Sim Go.Sim.Le
set_option maxRecDepth 100000 in
theorem leachShapes_fit (cs : List V) (h : ArgsFit [(true, shCav), (false, [.row shStg])] cs) : (E 2000000000000000 20).pf 9 cs = some (.ret (.bool true)) := by
  obtain ⟨l0, cs0, rfl, h0, g0⟩ := h
  obtain ⟨s1, c1, cs1, e1, rfl, h1, g1⟩ := g0
  injection e1 with e1 _; subst e1
  obtain rfl : cs1 = [] := g1
  obtain ⟨a0, rfl, m0⟩ := decCav l0 h0
  obtain ⟨a1, rfl, m1, n1⟩ := fitRow decStg h1
  exact s9 2000000000000000 0 a0 a1 (lenB m0.1) (by have := m0.1; omega) (lenB m1.1) (by have := m1.1; omega) (by omega)
set_option maxRecDepth 100000 in
theorem leachShapes_lifted (os : Os) (started : os.Started) (H : Type) (enc : TypeId × Value → H) :
    ReturnsInHanded {} Try.checked os 9 .any (Rows.leachShapesSpec.pre6 enc Try.prog Try.f9 Rows.leachShapesRow.domain false) (Rows.leachShapesSpec.post enc Try.prog Try.f9 false true false false) := by
  refine returnsInHanded_of_change_sized (C := Try.checked) own started (by kernel_rfl) Try.func9
    (ChangeSpec.witness6 (enc := enc) (C := Try.checked) false ⟨#[], #[.agg #[.slice none 0 0, .int .i64 0, .int .i64 0], .slice none 0 0], []⟩ 8 (by kernel_rfl) (by kernel_rfl) (by kernel_rfl) (by kernel_rfl)) ?_
  intro W base args ds gs before hval hW _ hwt _
  exact law_contract (tb := 4) (okE 2000000000000000 20) (by kernel_rfl) leachShapes_fit
    ⟨rfl, fun H ds h => by match ds, h with | [_, _], _ => exact ⟨rfl, rfl, rfl⟩⟩ (by kernel_rfl) (by kernel_rfl) laid (by decide +kernel) W base args ds gs before hval hW hwt
theorem leachShapes_holds : Rows.LeachShapesSaid :=
  OpenClaim.holds_of_wide 9 Try.f9 rfl rfl rfl rfl rfl rfl rfl ⟨rfl, rfl, rfl, rfl, rfl⟩ rfl rfl rfl rfl rfl (by kernel_rfl) Try.func9 (by kernel_rfl)
    (of_decide_eq_true (by kernel_rfl)) (by unfold Func.isWrapper; first | (rw [if_pos (by decide +kernel)]; kernel_rfl) | (rw [if_neg (by decide +kernel)]; exact ⟨rfl, rfl⟩))
    (fun os started H enc _ => leachShapes_lifted os started H enc)
#print axioms leachShapes_holds
end Go.Proofs.Ythbpdkcfnbiejaa
