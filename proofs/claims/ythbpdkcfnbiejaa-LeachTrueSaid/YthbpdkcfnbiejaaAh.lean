import Derived.Test.YthbpdkcfnbiejaaAg
import Derived.KernelRfl
import Derived.Test.YthbpdkcfnbiejaaRows
set_option linter.unusedVariables false
set_option linter.unusedSimpArgs false
set_option linter.unusedSectionVars false
set_option maxRecDepth 100000
namespace Go.Sim.Le
open Go.Proofs
theorem t19 (env : Env) (F : Nat) (c : Cav) : (evFun Try.prog (cfg F) env 19 [(.agg (eCav c))]) = some (.ret (.bool (decide ((((Sl.len (Cav.slices c)) : Nat) : Int) ≤ (20 : Int))))) := by kernel_rfl
theorem t20 (env : Env) (F : Nat) (c : Cav) (l : Sl Stg) (x : Int) (y : Int) (z : Int) : (evFun Try.prog (cfg F) env 20 [(.agg (eCav c)), (sl eStg 4 l), (i64 x), (i64 y), (i64 z)]) = (tkOut (env.pf 23 [(.agg (eCav c)), (sl eStg 4 l), (.bool true)]) none (fun v7 => (tkInt v7 none fun q8 n9 => (bif (decide (q8 = .i64)) then (bif (n9 != (0 : Int)) then some (.ret (.bool true)) else (bif (decide ((((Sl.len (Cav.slices c)) : Nat) : Int) ≤ x)) then (bif (decide ((Cav.hold c) ≤ y)) then some (.ret (.bool (decide ((((Sl.len l) : Nat) : Int) ≤ z)))) else some (.ret (.bool false))) else some (.ret (.bool false)))) else none))) (fun p7 => (tkIfc p7 none fun t8 x9 => (bif (flatP (.iface t8 x9)) then some (.pan (.iface t8 x9)) else none)))) := by kernel_rfl
noncomputable def L42x0 (env : Env) (F : Nat) (c : Cav) (l : Sl Stg) (fu : Nat) (b0 : Bool) (k1 : Nat) (k2 : Nat) (g3 : Nat → List V) (q4 : IntKind) (i5 : Int) (q6 : IntKind) (i7 : Int) : Option Out := atLoop Try.prog (cfg F) env 42 [.r, .r, .r, .r, .l, .r, .d] [] fu { tm := tmL 59 0 [(4, (.optr 0 0 0)), (8, (.optr 1 0 0)), (33, (sl eSlc 7 (Cav.slices c))), (34, (i64 (((Sl.len (Cav.slices c)) : Nat) : Int))), (35, (i64 (0 : Int)))], hp := [(.box 72 [(.row true 0 0 (fun u13 => [])), (.row true 0 0 (fun u13 => [])), (i64 (0 : Int)), (i64 (0 : Int))] true), (.box 72 [(.row b0 k1 k2 g3), (.row true 0 0 (fun u13 => [])), (.int q4 i5), (.int q6 i7)] true)] }
noncomputable def L42x1 (env : Env) (F : Nat) (c : Cav) (l : Sl Stg) (fu : Nat) (i0 : Int) (b1 : Bool) (k2 : Nat) (k3 : Nat) (g4 : Nat → List V) (k5 : Nat) (q6 : IntKind) (i7 : Int) (q8 : IntKind) (i9 : Int) (k10 : Nat) (g11 : Nat → List V) : Option Out := atLoop Try.prog (cfg F) env 42 [.r, .r, .r, .r, .l, .r, .d] [] fu { tm := tmL 59 0 [(4, (.optr 0 0 0)), (8, (.optr 1 0 0)), (33, (sl eSlc 7 (Cav.slices c))), (34, (i64 (((Sl.len (Cav.slices c)) : Nat) : Int))), (35, (i64 i0))], hp := [(.box 72 [(.row true 0 0 (fun u17 => [])), (.row true 0 0 (fun u17 => [])), (i64 (0 : Int)), (i64 (0 : Int))] true), (.box 72 [(.row b1 k2 k3 g4), (.osl 2 0 k5), (.int q6 i7), (.int q8 i9)] true), (.arr 31 2 k10 g11 true)] }
theorem t42 (env : Env) (F : Nat) (c : Cav) (l : Sl Stg) : (evFun Try.prog (cfg F) env 42 [(.agg (eCav c)), (sl eStg 4 l)]) = (tkOut (env.pf 57 [(.agg (eCav c)), (sl eStg 4 l)]) none (fun v4 => (tkInt v4 none fun q5 n6 => (bif (decide (q5 = .i64)) then (bif (n6 != (0 : Int)) then some (.ret (.tup [(.agg [(.row true 0 0 (fun u7 => [])), (.row true 0 0 (fun u7 => [])), (i64 (0 : Int)), (i64 (0 : Int))]), (.int q5 n6)])) else (tkOut (env.pf 84 [(.agg (eCav c)), (sl eStg 4 l)]) none (fun v7 => (tkRow v7 none fun nl8 n9 wd10 g11 => (bif (decide ((0 : Int) ≤ (((Sl.len (Cav.slices c)) : Nat) : Int))) then (bif (decide ((((Sl.len (Cav.slices c)) : Nat) : Int) ≤ (((Sl.len (Cav.slices c)) : Nat) : Int))) then (bif (decide ((((8 : Nat) : Int) * (((Sl.len (Cav.slices c)) : Nat) : Int)) ≤ (281474976710656 : Int))) then (bif (decide ((((Sl.len (Cav.slices c)) : Nat) : Int) ≤ (9223372036854775807 : Int))) then (tkOut (env.pf 62 [(.agg (eCav c)), (sl eStg 4 l), (.agg [(.row false (Int.toNat (((Sl.len (Cav.slices c)) : Nat) : Int)) 1 (fun u12 => [(i64 (0 : Int))])), (i64 (1 : Int))])]) none (fun v12 => (tkAgg v12 none fun l13 => (tkCons l13 none fun v14 r15 => (tkInt v14 none fun q16 n17 => (tkCons r15 none fun v18 r19 => (tkInt v18 none fun q20 n21 => (tkNil r19 none ((L42x0 env F c l F nl8 n9 wd10 g11 q16 n17 q20 n21))))))))) (fun p12 => (tkIfc p12 none fun t13 x14 => (bif (flatP (.iface t13 x14)) then none else none)))) else none) else none) else none) else none))) (fun p7 => (tkIfc p7 none fun t8 x9 => (bif (flatP (.iface t8 x9)) then none else none))))) else none))) (fun p4 => (tkIfc p4 none fun t5 x6 => (bif (flatP (.iface t5 x6)) then some (.pan (.iface t5 x6)) else none)))) := by kernel_rfl
theorem L42x0s (env : Env) (F : Nat) (c : Cav) (l : Sl Stg) (fu : Nat) (b0 : Bool) (k1 : Nat) (k2 : Nat) (g3 : Nat → List V) (q4 : IntKind) (i5 : Int) (q6 : IntKind) (i7 : Int) : L42x0 env F c l (fu + 1) b0 k1 k2 g3 q4 i5 q6 i7 = (bif (decide ((0 : Int) < (((Sl.len (Cav.slices c)) : Nat) : Int))) then (bif (decide ((0 : Int) < (((Sl.len (Cav.slices c)) : Nat) : Int))) then (bif (k2 == 2) then (bif (decide ((0 : Int) < ((k1 : Nat) : Int))) then (bif ((List.length (List.take 2 (g3 0))) == 2) then (tkCons (List.take 2 (g3 0)) none fun v13 r14 => (tkInt v13 none fun q15 n16 => (tkCons r14 none fun v17 r18 => (tkInt v17 none fun q19 n20 => (tkNil r18 none ((tkOut (env.pf 86 [(.agg [(.int q15 n16), (.int q19 n20)]), (i64 (Slc.opn (Sl.el (Cav.slices c) 0)))]) none (fun v21 => (tkAgg v21 none fun l22 => (tkCons l22 none fun v23 r24 => (tkInt v23 none fun q25 n26 => (tkCons r24 none fun v27 r28 => (tkInt v27 none fun q29 n30 => (tkNil r28 none ((tkOut (env.pf 85 [(.row false 2 2 (fun u31 => (List.take 2 (List.drop ((Min.min u31 1) * 2) [(i64 (Span.lo (Slc.vol (Sl.el (Cav.slices c) 0)))), (i64 (Span.hi (Slc.vol (Sl.el (Cav.slices c) 0)))), (.int q25 n26), (.int q29 n30)]))))]) none (fun v31 => (tkAgg v31 none fun l32 => (tkCons l32 none fun v33 r34 => (tkInt v33 none fun q35 n36 => (tkCons r34 none fun v37 r38 => (tkInt v37 none fun q39 n40 => (tkNil r38 none ((L42x1 env F c l fu (IntKind.wrap .i64 ((0 : Int) + (1 : Int))) b0 k1 k2 g3 1 q4 i5 q6 i7 1 (fun u41 => [(.int q35 n36), (.int q39 n40)])))))))))) (fun p31 => (tkIfc p31 none fun t32 x33 => (bif (flatP (.iface t32 x33)) then none else none)))))))))))) (fun p21 => (tkIfc p21 none fun t22 x23 => (bif (flatP (.iface t22 x23)) then some (.pan (.iface t22 x23)) else none)))))))))) else none) else none) else none) else none) else some (.ret (.tup [(.agg [(.row b0 k1 k2 g3), (.row true 0 0 (fun u13 => [])), (.int q4 i5), (.int q6 i7)]), (i64 (0 : Int))]))) := by kernel_rfl
theorem L42x1s (env : Env) (F : Nat) (c : Cav) (l : Sl Stg) (fu : Nat) (i0 : Int) (b1 : Bool) (k2 : Nat) (k3 : Nat) (g4 : Nat → List V) (k5 : Nat) (q6 : IntKind) (i7 : Int) (q8 : IntKind) (i9 : Int) (k10 : Nat) (g11 : Nat → List V) : L42x1 env F c l (fu + 1) i0 b1 k2 k3 g4 k5 q6 i7 q8 i9 k10 g11 = (bif (decide (i0 < (((Sl.len (Cav.slices c)) : Nat) : Int))) then (bif (decide ((0 : Int) ≤ i0)) then (bif (decide (i0 < (((Sl.len (Cav.slices c)) : Nat) : Int))) then (bif (k3 == 2) then (bif (decide ((0 : Int) ≤ i0)) then (bif (decide (i0 < ((k2 : Nat) : Int))) then (bif ((List.length (List.take 2 (g4 (Int.toNat i0)))) == 2) then (tkCons (List.take 2 (g4 (Int.toNat i0))) none fun v17 r18 => (tkInt v17 none fun q19 n20 => (tkCons r18 none fun v21 r22 => (tkInt v21 none fun q23 n24 => (tkNil r22 none ((tkOut (env.pf 86 [(.agg [(.int q19 n20), (.int q23 n24)]), (i64 (Slc.opn (Sl.el (Cav.slices c) (Int.toNat i0))))]) none (fun v25 => (tkAgg v25 none fun l26 => (tkCons l26 none fun v27 r28 => (tkInt v27 none fun q29 n30 => (tkCons r28 none fun v31 r32 => (tkInt v31 none fun q33 n34 => (tkNil r32 none ((tkOut (env.pf 85 [(.row false 2 2 (fun u35 => (List.take 2 (List.drop ((Min.min u35 1) * 2) [(i64 (Span.lo (Slc.vol (Sl.el (Cav.slices c) (Int.toNat i0))))), (i64 (Span.hi (Slc.vol (Sl.el (Cav.slices c) (Int.toNat i0))))), (.int q29 n30), (.int q33 n34)]))))]) none (fun v35 => (tkAgg v35 none fun l36 => (tkCons l36 none fun v37 r38 => (tkInt v37 none fun q39 n40 => (tkCons r38 none fun v41 r42 => (tkInt v41 none fun q43 n44 => (tkNil r42 none ((bif (decide (((k5 + 1) * 16) ≤ 140737488355328)) then (L42x1 env F c l fu (IntKind.wrap .i64 (i0 + (1 : Int))) b1 k2 k3 g4 (k5 + 1) q6 i7 q8 i9 (k5 + 1) (appGet k5 g11 (fun u45 => [(.int q39 n40), (.int q43 n44)]))) else none))))))))) (fun p35 => (tkIfc p35 none fun t36 x37 => (bif (flatP (.iface t36 x37)) then none else none)))))))))))) (fun p25 => (tkIfc p25 none fun t26 x27 => (bif (flatP (.iface t26 x27)) then some (.pan (.iface t26 x27)) else none)))))))))) else none) else none) else none) else none) else none) else none) else some (.ret (.tup [(.agg [(.row b1 k2 k3 g4), (.row false k5 2 (fun u17 => (g11 u17))), (.int q6 i7), (.int q8 i9)]), (i64 (0 : Int))]))) := by kernel_rfl
noncomputable def L45x0 (env : Env) (F : Nat) (c : Cav) (v : Sl Int) (a : Int) (b : Int) (d : Int) (g : Int) (fu : Nat) (i0 : Int) : Option Out := atLoop Try.prog (cfg F) env 45 [.r, .l, .r, .d] [] fu { tm := tmL 44 0 [(2, (.optr 0 0 0)), (3, (.optr 1 0 0)), (5, (i64 i0))], hp := [(.box 24 (eCav c) true), (.box 84 [(sl eInt 1 v), (i64 a), (i64 b), (i64 d), (i64 g)] true)] }
theorem t45 (env : Env) (F : Nat) (c : Cav) (v : Sl Int) (a : Int) (b : Int) (d : Int) (g : Int) : (evFun Try.prog (cfg F) env 45 [(.agg (eCav c)), (.agg [(sl eInt 1 v), (i64 a), (i64 b), (i64 d), (i64 g)])]) = (L45x0 env F c v a b d g F (0 : Int)) := by kernel_rfl
theorem L45x0s (env : Env) (F : Nat) (c : Cav) (v : Sl Int) (a : Int) (b : Int) (d : Int) (g : Int) (fu : Nat) (i0 : Int) : L45x0 env F c v a b d g (fu + 1) i0 = (bif (decide (i0 < (((Sl.len v) : Nat) : Int))) then (bif (decide ((0 : Int) ≤ i0)) then (bif (decide (i0 < (((Sl.len v) : Nat) : Int))) then (bif (decide ((Sl.el v (Int.toNat i0)) < (0 : Int))) then some (.ret (.bool false)) else (bif (decide ((0 : Int) ≤ i0)) then (bif (decide (i0 < (((Sl.len v) : Nat) : Int))) then (bif (decide ((Sl.el v (Int.toNat i0)) > (100000000000000 : Int))) then some (.ret (.bool false)) else (L45x0 env F c v a b d g fu (IntKind.wrap .i64 (i0 + (1 : Int))))) else none) else none)) else none) else none) else (bif ((((Sl.len v) : Nat) : Int) == (((Sl.len (Cav.slices c)) : Nat) : Int)) then (bif (decide (a ≥ (0 : Int))) then some (.ret (.bool (decide (a ≤ (100000000000000 : Int))))) else some (.ret (.bool false))) else some (.ret (.bool false)))) := by kernel_rfl
noncomputable def L46x0 (env : Env) (F : Nat) (v : Sl Int) (w : Sl Int) (a : Int) (b : Int) (d : Int) (g : Int) (n : Int) (fu : Nat) (i0 : Int) (i1 : Int) : Option Out := atLoop Try.prog (cfg F) env 46 [.r, .r, .l, .r, .d] [] fu { tm := tmL 39 0 [(1, (sl eInt 1 w)), (3, (.optr 0 0 0)), (7, (i64 i0)), (8, (i64 i1))], hp := [(.box 84 [(sl eInt 1 v), (i64 a), (i64 b), (i64 d), (i64 g)] true)] }
theorem t46 (env : Env) (F : Nat) (v : Sl Int) (w : Sl Int) (a : Int) (b : Int) (d : Int) (g : Int) (n : Int) : (evFun Try.prog (cfg F) env 46 [(.agg [(sl eInt 1 v), (i64 a), (i64 b), (i64 d), (i64 g)]), (sl eInt 1 w), (i64 n)]) = (L46x0 env F v w a b d g n F (IntKind.wrap .i64 (n * a)) (0 : Int)) := by kernel_rfl
theorem L46x0s (env : Env) (F : Nat) (v : Sl Int) (w : Sl Int) (a : Int) (b : Int) (d : Int) (g : Int) (n : Int) (fu : Nat) (i0 : Int) (i1 : Int) : L46x0 env F v w a b d g n (fu + 1) i0 i1 = (bif (decide (i1 < (((Sl.len w) : Nat) : Int))) then (bif (decide (i1 < (((Sl.len v) : Nat) : Int))) then (bif (decide ((0 : Int) ≤ i1)) then (bif (decide (i1 < (((Sl.len w) : Nat) : Int))) then (bif (decide ((0 : Int) ≤ i1)) then (bif (decide (i1 < (((Sl.len v) : Nat) : Int))) then (L46x0 env F v w a b d g n fu (IntKind.wrap .i64 (i0 + (IntKind.wrap .i64 ((Sl.el w (Int.toNat i1)) * (Sl.el v (Int.toNat i1)))))) (IntKind.wrap .i64 (i1 + (1 : Int)))) else none) else none) else none) else none) else some (.ret (i64 i0))) else some (.ret (i64 i0))) := by kernel_rfl
noncomputable def L47x0 (env : Env) (F : Nat) (c : Cav) (l : Sl Stg) (t : Truth) (fu : Nat) (i0 : Int) : Option Out := atLoop Try.prog (cfg F) env 47 [.r, .r, .l, .r, .d] [] fu { tm := tmL 101 0 [(3, (.optr 0 0 0)), (5, (.optr 1 0 0)), (7, (i64 i0))], hp := [(.box 24 (eCav c) true), (.box 82 (eTruth t) true)] }
noncomputable def L47x1 (env : Env) (F : Nat) (c : Cav) (l : Sl Stg) (t : Truth) (fu : Nat) (i0 : Int) : Option Out := atLoop Try.prog (cfg F) env 47 [.r, .r, .r, .l, .r, .d] [] fu { tm := tmL 101 0 [(3, (.optr 0 0 0)), (5, (.optr 1 0 0)), (8, (i64 i0))], hp := [(.box 24 (eCav c) true), (.box 82 (eTruth t) true)] }
noncomputable def L47x2 (env : Env) (F : Nat) (c : Cav) (l : Sl Stg) (t : Truth) (m0 : Nat) (fu : Nat) (i0 : Int) (i1 : Int) : Option Out := atLoop Try.prog (cfg F) env 47 [.r, .r, .r, .l, .r, .d, .d, .r, .l, .d, .r, .r, .d] [m0] fu { tm := tmL 101 0 [(3, (.optr 0 0 0)), (5, (.optr 1 0 0)), (8, (i64 i0)), (9, (i64 i1))], hp := [(.box 24 (eCav c) true), (.box 82 (eTruth t) true)] }
theorem t47 (env : Env) (F : Nat) (c : Cav) (l : Sl Stg) (t : Truth) : (evFun Try.prog (cfg F) env 47 [(.agg (eCav c)), (sl eStg 4 l), (.agg (eTruth t))]) = (bif ((((Sl.len (Truth.vols t)) : Nat) : Int) != (((Sl.len (Cav.slices c)) : Nat) : Int)) then some (.ret (.bool false)) else (bif ((((Sl.len (Truth.rates t)) : Nat) : Int) != (((Sl.len l) : Nat) : Int)) then some (.ret (.bool false)) else (L47x0 env F c l t F (0 : Int)))) := by kernel_rfl
theorem L47x0s (env : Env) (F : Nat) (c : Cav) (l : Sl Stg) (t : Truth) (fu : Nat) (i0 : Int) : L47x0 env F c l t (fu + 1) i0 = (bif (decide (i0 < (((Sl.len (Truth.vols t)) : Nat) : Int))) then (bif (decide ((0 : Int) ≤ i0)) then (bif (decide (i0 < (((Sl.len (Truth.vols t)) : Nat) : Int))) then (bif (decide ((0 : Int) ≤ i0)) then (bif (decide (i0 < (((Sl.len (Cav.slices c)) : Nat) : Int))) then (bif (decide ((0 : Int) ≤ i0)) then (bif (decide (i0 < (((Sl.len (Cav.slices c)) : Nat) : Int))) then (tkOut (env.pf 64 [(i64 (Sl.el (Truth.vols t) (Int.toNat i0))), (i64 (Span.lo (Slc.vol (Sl.el (Cav.slices c) (Int.toNat i0))))), (i64 (Span.hi (Slc.vol (Sl.el (Cav.slices c) (Int.toNat i0)))))]) none (fun v7 => (tkBool v7 none fun b8 => (bif (!b8) then some (.ret (.bool false)) else (L47x0 env F c l t fu (IntKind.wrap .i64 (i0 + (1 : Int))))))) (fun p7 => (tkIfc p7 none fun t8 x9 => (bif (flatP (.iface t8 x9)) then some (.pan (.iface t8 x9)) else none)))) else none) else none) else none) else none) else none) else none) else (L47x1 env F c l t F (0 : Int))) := by kernel_rfl
theorem L47x1s (env : Env) (F : Nat) (c : Cav) (l : Sl Stg) (t : Truth) (fu : Nat) (i0 : Int) : L47x1 env F c l t (fu + 1) i0 = (bif (decide (i0 < (((Sl.len (Truth.rates t)) : Nat) : Int))) then (bif (decide ((0 : Int) ≤ i0)) then (bif (decide (i0 < (((Sl.len (Truth.rates t)) : Nat) : Int))) then (bif ((((Sl.len (Sl.el (Truth.rates t) (Int.toNat i0))) : Nat) : Int) != (((Sl.len (Cav.slices c)) : Nat) : Int)) then some (.ret (.bool false)) else (L47x2 env F c l t fu F i0 (0 : Int))) else none) else none) else some (.ret (.bool true))) := by kernel_rfl
theorem L47x2s (env : Env) (F : Nat) (c : Cav) (l : Sl Stg) (t : Truth) (m0 : Nat) (fu : Nat) (i0 : Int) (i1 : Int) : L47x2 env F c l t m0 (fu + 1) i0 i1 = (bif (decide (i1 < (((Sl.len (Cav.slices c)) : Nat) : Int))) then (bif (decide ((0 : Int) ≤ i0)) then (bif (decide (i0 < (((Sl.len (Truth.rates t)) : Nat) : Int))) then (bif (decide ((0 : Int) ≤ i1)) then (bif (decide (i1 < (((Sl.len (Sl.el (Truth.rates t) (Int.toNat i0))) : Nat) : Int))) then (bif (decide ((0 : Int) ≤ i1)) then (bif (decide (i1 < (((Sl.len (Cav.slices c)) : Nat) : Int))) then (bif (decide ((0 : Int) ≤ i1)) then (bif (decide (i1 < (((Sl.len (Cav.slices c)) : Nat) : Int))) then (tkOut (env.pf 64 [(i64 (Sl.el (Sl.el (Truth.rates t) (Int.toNat i0)) (Int.toNat i1))), (i64 (Span.lo (Slc.rate (Sl.el (Cav.slices c) (Int.toNat i1))))), (i64 (Span.hi (Slc.rate (Sl.el (Cav.slices c) (Int.toNat i1)))))]) none (fun v9 => (tkBool v9 none fun b10 => (bif (!b10) then some (.ret (.bool false)) else (L47x2 env F c l t m0 fu i0 (IntKind.wrap .i64 (i1 + (1 : Int))))))) (fun p9 => (tkIfc p9 none fun t10 x11 => (bif (flatP (.iface t10 x11)) then some (.pan (.iface t10 x11)) else none)))) else none) else none) else none) else none) else none) else none) else none) else none) else (L47x1 env F c l t m0 (IntKind.wrap .i64 (i0 + (1 : Int))))) := by kernel_rfl
noncomputable def L84x0 (env : Env) (F : Nat) (c : Cav) (l : Sl Stg) (fu : Nat) (i0 : Int) (g1 : Nat → List V) : Option Out := atLoop Try.prog (cfg F) env 84 [.r, .r, .l, .r, .d] [] fu { tm := tmL 46 0 [(2, (.optr 0 0 0)), (5, (.osl 1 0 (Int.toNat (((Sl.len (Cav.slices c)) : Nat) : Int)))), (15, (sl eStg 4 l)), (16, (i64 (((Sl.len l) : Nat) : Int))), (17, (i64 i0))], hp := [(.box 103 (eCav c) true), (.arr 31 2 (Int.toNat (((Sl.len (Cav.slices c)) : Nat) : Int)) g1 true)] }
noncomputable def L84x1 (env : Env) (F : Nat) (c : Cav) (l : Sl Stg) (m0 : Nat) (fu : Nat) (i0 : Int) (b1 : Bool) (k2 : Nat) (k3 : Nat) (g4 : Nat → List V) (i5 : Int) (i6 : Int) (g7 : Nat → List V) (i8 : Int) (i9 : Int) (i10 : Int) (i11 : Int) : Option Out := atLoop Try.prog (cfg F) env 84 [.r, .r, .l, .r, .d, .d, .r, .r, .l, .d, .r, .r, .d] [m0] fu { tm := tmL 46 0 [(2, (.optr 0 0 0)), (5, (.osl 1 0 (Int.toNat (((Sl.len (Cav.slices c)) : Nat) : Int)))), (7, (.optr 2 0 0)), (15, (sl eStg 4 l)), (16, (i64 (((Sl.len l) : Nat) : Int))), (17, (i64 i0)), (23, (.row b1 k2 k3 g4)), (24, (i64 i5)), (25, (i64 i6))], hp := [(.box 103 (eCav c) true), (.arr 31 2 (Int.toNat (((Sl.len (Cav.slices c)) : Nat) : Int)) g7 true), (.box 40 [(i64 i8), (i64 i9), (i64 i10), (i64 i11)] true)] }
theorem t84 (env : Env) (F : Nat) (c : Cav) (l : Sl Stg) : (evFun Try.prog (cfg F) env 84 [(.agg (eCav c)), (sl eStg 4 l)]) = (bif (decide ((0 : Int) ≤ (((Sl.len (Cav.slices c)) : Nat) : Int))) then (bif (decide ((((Sl.len (Cav.slices c)) : Nat) : Int) ≤ (((Sl.len (Cav.slices c)) : Nat) : Int))) then (bif (decide ((((16 : Nat) : Int) * (((Sl.len (Cav.slices c)) : Nat) : Int)) ≤ (281474976710656 : Int))) then (bif (decide ((((Sl.len (Cav.slices c)) : Nat) : Int) ≤ (9223372036854775807 : Int))) then (L84x0 env F c l F (0 : Int) (fun u4 => [(i64 (0 : Int)), (i64 (0 : Int))])) else none) else none) else none) else none) := by kernel_rfl
theorem L84x0s (env : Env) (F : Nat) (c : Cav) (l : Sl Stg) (fu : Nat) (i0 : Int) (g1 : Nat → List V) : L84x0 env F c l (fu + 1) i0 g1 = (bif (decide (i0 < (((Sl.len l) : Nat) : Int))) then (bif (decide ((0 : Int) ≤ i0)) then (bif (decide (i0 < (((Sl.len l) : Nat) : Int))) then (tkOut (env.pf 82 [(.agg (eCav c)), (.agg (eStg (Sl.el l (Int.toNat i0))))]) none (fun v7 => (tkRow v7 none fun nl8 n9 wd10 g11 => (L84x1 env F c l fu F i0 nl8 n9 wd10 g11 ((n9 : Nat) : Int) (0 : Int) g1 (Stg.water (Sl.el l (Int.toNat i0))) (Stg.into (Sl.el l (Int.toNat i0))) (Stg.out (Sl.el l (Int.toNat i0))) (Stg.blanket (Sl.el l (Int.toNat i0)))))) (fun p7 => (tkIfc p7 none fun t8 x9 => (bif (flatP (.iface t8 x9)) then some (.pan (.iface t8 x9)) else none)))) else none) else none) else some (.ret (.row false (Int.toNat (((Sl.len (Cav.slices c)) : Nat) : Int)) 2 (fun u7 => (g1 u7))))) := by kernel_rfl
theorem L84x1s (env : Env) (F : Nat) (c : Cav) (l : Sl Stg) (m0 : Nat) (fu : Nat) (i0 : Int) (b1 : Bool) (k2 : Nat) (k3 : Nat) (g4 : Nat → List V) (i5 : Int) (i6 : Int) (g7 : Nat → List V) (i8 : Int) (i9 : Int) (i10 : Int) (i11 : Int) : L84x1 env F c l m0 (fu + 1) i0 b1 k2 k3 g4 i5 i6 g7 i8 i9 i10 i11 = (bif (decide (i6 < i5)) then (bif (k3 == 2) then (bif (decide ((0 : Int) ≤ i6)) then (bif (decide (i6 < ((k2 : Nat) : Int))) then (bif ((List.length (List.take 2 (g4 (Int.toNat i6)))) == 2) then (tkCons (List.take 2 (g4 (Int.toNat i6))) none fun v18 r19 => (tkInt v18 none fun q20 n21 => (tkCons r19 none fun v22 r23 => (tkInt v22 none fun q24 n25 => (tkNil r23 none ((bif (decide ((0 : Int) ≤ i6)) then (bif (decide (i6 < (((Int.toNat (((Sl.len (Cav.slices c)) : Nat) : Int)) : Nat) : Int))) then (bif ((List.length (List.take 2 (g7 (Int.toNat i6)))) == 2) then (tkCons (List.take 2 (g7 (Int.toNat i6))) none fun v26 r27 => (tkInt v26 none fun q28 n29 => (tkCons r27 none fun v30 r31 => (tkInt v30 none fun q32 n33 => (tkNil r31 none ((tkOut (env.pf 86 [(.agg [(.int q20 n21), (.int q24 n25)]), (i64 i8)]) none (fun v34 => (tkAgg v34 none fun l35 => (tkCons l35 none fun v36 r37 => (tkInt v36 none fun q38 n39 => (tkCons r37 none fun v40 r41 => (tkInt v40 none fun q42 n43 => (tkNil r41 none ((tkOut (env.pf 85 [(.row false 2 2 (fun u44 => (List.take 2 (List.drop ((Min.min u44 1) * 2) [(.int q28 n29), (.int q32 n33), (.int q38 n39), (.int q42 n43)]))))]) none (fun v44 => (tkAgg v44 none fun l45 => (tkCons l45 none fun v46 r47 => (tkInt v46 none fun q48 n49 => (tkCons r47 none fun v50 r51 => (tkInt v50 none fun q52 n53 => (tkNil r51 none ((bif (decide ((0 : Int) ≤ i6)) then (bif (decide (i6 < (((Int.toNat (((Sl.len (Cav.slices c)) : Nat) : Int)) : Nat) : Int))) then (L84x1 env F c l m0 fu i0 b1 k2 k3 g4 i5 (IntKind.wrap .i64 (i6 + (1 : Int))) (updGet g7 (Int.toNat i6) 0 [(.int q48 n49), (.int q52 n53)]) i8 i9 i10 i11) else none) else none))))))))) (fun p44 => (tkIfc p44 none fun t45 x46 => (bif (flatP (.iface t45 x46)) then none else none)))))))))))) (fun p34 => (tkIfc p34 none fun t35 x36 => (bif (flatP (.iface t35 x36)) then some (.pan (.iface t35 x36)) else none)))))))))) else none) else none) else none))))))) else none) else none) else none) else none) else (L84x0 env F c l m0 (IntKind.wrap .i64 (i0 + (1 : Int))) g7)) := by kernel_rfl
noncomputable def L87x0 (env : Env) (F : Nat) (c : Cav) (l : Sl Stg) (t : Truth) (fu : Nat) (i0 : Int) : Option Out := atLoop Try.prog (cfg F) env 87 [.r, .r, .l, .r, .d] [] fu { tm := tmL 91 0 [(3, (.optr 0 0 0)), (5, (.optr 1 0 0)), (32, (sl eInt 1 (Truth.vols t))), (33, (i64 (((Sl.len (Truth.vols t)) : Nat) : Int))), (34, (i64 i0))], hp := [(.box 103 (eCav c) true), (.box 82 (eTruth t) true)] }
noncomputable def L87x1 (env : Env) (F : Nat) (c : Cav) (l : Sl Stg) (t : Truth) (fu : Nat) (i0 : Int) : Option Out := atLoop Try.prog (cfg F) env 87 [.r, .r, .r, .l, .r, .d] [] fu { tm := tmL 91 0 [(3, (.optr 0 0 0)), (55, (sl eIL 1 (Truth.rates t))), (56, (i64 (((Sl.len (Truth.rates t)) : Nat) : Int))), (57, (i64 i0))], hp := [(.box 103 (eCav c) true)] }
noncomputable def L87x2 (env : Env) (F : Nat) (c : Cav) (l : Sl Stg) (t : Truth) (m0 : Nat) (fu : Nat) (i0 : Int) (b1 : Bool) (k2 : Nat) (g3 : Nat → List V) (i4 : Int) (i5 : Int) : Option Out := atLoop Try.prog (cfg F) env 87 [.r, .r, .r, .l, .r, .d, .d, .r, .r, .l, .d, .r, .r, .r, .d] [m0] fu { tm := tmL 91 0 [(3, (.optr 0 0 0)), (55, (sl eIL 1 (Truth.rates t))), (56, (i64 (((Sl.len (Truth.rates t)) : Nat) : Int))), (57, (i64 i0)), (68, (.row b1 k2 1 g3)), (69, (i64 i4)), (70, (i64 i5))], hp := [(.box 103 (eCav c) true)] }
theorem t87 (env : Env) (F : Nat) (c : Cav) (l : Sl Stg) (t : Truth) : (evFun Try.prog (cfg F) env 87 [(.agg (eCav c)), (sl eStg 4 l), (.agg (eTruth t))]) = (bif ((((Sl.len (Truth.vols t)) : Nat) : Int) != (((Sl.len (Cav.slices c)) : Nat) : Int)) then some (.ret (.bool false)) else (bif ((((Sl.len (Truth.rates t)) : Nat) : Int) != (((Sl.len l) : Nat) : Int)) then some (.ret (.bool false)) else (L87x0 env F c l t F (0 : Int)))) := by kernel_rfl
theorem L87x0s (env : Env) (F : Nat) (c : Cav) (l : Sl Stg) (t : Truth) (fu : Nat) (i0 : Int) : L87x0 env F c l t (fu + 1) i0 = (bif (decide (i0 < (((Sl.len (Truth.vols t)) : Nat) : Int))) then (bif (decide ((0 : Int) ≤ i0)) then (bif (decide (i0 < (((Sl.len (Truth.vols t)) : Nat) : Int))) then (bif (decide ((0 : Int) ≤ i0)) then (bif (decide (i0 < (((Sl.len (Cav.slices c)) : Nat) : Int))) then (tkOut (env.pf 59 [(i64 (Sl.el (Truth.vols t) (Int.toNat i0))), (i64 (Span.lo (Slc.vol (Sl.el (Cav.slices c) (Int.toNat i0))))), (i64 (Span.hi (Slc.vol (Sl.el (Cav.slices c) (Int.toNat i0)))))]) none (fun v7 => (tkBool v7 none fun b8 => (bif (!b8) then some (.ret (.bool false)) else (L87x0 env F c l t fu (IntKind.wrap .i64 (i0 + (1 : Int))))))) (fun p7 => (tkIfc p7 none fun t8 x9 => (bif (flatP (.iface t8 x9)) then some (.pan (.iface t8 x9)) else none)))) else none) else none) else none) else none) else (L87x1 env F c l t F (0 : Int))) := by kernel_rfl
theorem L87x1s (env : Env) (F : Nat) (c : Cav) (l : Sl Stg) (t : Truth) (fu : Nat) (i0 : Int) : L87x1 env F c l t (fu + 1) i0 = (bif (decide (i0 < (((Sl.len (Truth.rates t)) : Nat) : Int))) then (bif (decide ((0 : Int) ≤ i0)) then (bif (decide (i0 < (((Sl.len (Truth.rates t)) : Nat) : Int))) then (bif ((((Sl.len (Sl.el (Truth.rates t) (Int.toNat i0))) : Nat) : Int) != (((Sl.len (Cav.slices c)) : Nat) : Int)) then some (.ret (.bool false)) else (L87x2 env F c l t fu F i0 (Sl.nl (Sl.el (Truth.rates t) (Int.toNat i0))) (Sl.len (Sl.el (Truth.rates t) (Int.toNat i0))) (fun u7 => [(i64 (Sl.el (Sl.el (Truth.rates t) (Int.toNat i0)) u7))]) (((Sl.len (Sl.el (Truth.rates t) (Int.toNat i0))) : Nat) : Int) (0 : Int))) else none) else none) else some (.ret (.bool true))) := by kernel_rfl
theorem L87x2s (env : Env) (F : Nat) (c : Cav) (l : Sl Stg) (t : Truth) (m0 : Nat) (fu : Nat) (i0 : Int) (b1 : Bool) (k2 : Nat) (g3 : Nat → List V) (i4 : Int) (i5 : Int) : L87x2 env F c l t m0 (fu + 1) i0 b1 k2 g3 i4 i5 = (bif (decide (i5 < i4)) then (bif (decide ((0 : Int) ≤ i5)) then (bif (decide (i5 < ((k2 : Nat) : Int))) then (tkCons (g3 (Int.toNat i5)) none fun v13 r14 => (tkInt v13 none fun q15 n16 => (bif (decide ((0 : Int) ≤ i5)) then (bif (decide (i5 < (((Sl.len (Cav.slices c)) : Nat) : Int))) then (tkOut (env.pf 59 [(.int q15 n16), (i64 (Span.lo (Slc.rate (Sl.el (Cav.slices c) (Int.toNat i5))))), (i64 (Span.hi (Slc.rate (Sl.el (Cav.slices c) (Int.toNat i5)))))]) none (fun v17 => (tkBool v17 none fun b18 => (bif (!b18) then some (.ret (.bool false)) else (L87x2 env F c l t m0 fu i0 b1 k2 g3 i4 (IntKind.wrap .i64 (i5 + (1 : Int))))))) (fun p17 => (tkIfc p17 none fun t18 x19 => (bif (flatP (.iface t18 x19)) then some (.pan (.iface t18 x19)) else none)))) else none) else none))) else none) else none) else (L87x1 env F c l t m0 (IntKind.wrap .i64 (i0 + (1 : Int))))) := by kernel_rfl
noncomputable def L44x0 (env : Env) (F : Nat) (c : Cav) (l : Sl Stg) (t : Truth) (fu : Nat) (k0 : Nat) (g1 : Nat → List V) : Option Out := atLoop Try.prog (cfg F) env 44 [.r, .r, .r, .r, .r, .l, .r, .d] [] fu { tm := tmL 145 0 [(3, (.optr 0 0 0)), (5, (.optr 1 0 0)), (6, (.optr 2 0 0)), (10, (.optr 3 0 0)), (39, (sl eStg 4 l)), (40, (i64 (((Sl.len l) : Nat) : Int))), (41, (i64 (0 : Int)))], hp := [(.box 24 (eCav c) true), (.box 82 (eTruth t) true), (.box 84 [(.row true 0 0 (fun u8 => [])), (i64 (0 : Int)), (i64 (0 : Int)), (i64 (0 : Int)), (i64 (0 : Int))] true), (.box 84 [(.row true 0 k0 g1), (i64 (0 : Int)), (i64 (0 : Int)), (i64 (0 : Int)), (i64 (0 : Int))] true)] }
noncomputable def L44x1 (env : Env) (F : Nat) (c : Cav) (l : Sl Stg) (t : Truth) (fu : Nat) (i0 : Int) (k1 : Nat) (i2 : Int) (i3 : Int) (i4 : Int) (i5 : Int) (k6 : Nat) (g7 : Nat → List V) : Option Out := atLoop Try.prog (cfg F) env 44 [.r, .r, .r, .r, .r, .l, .r, .d] [] fu { tm := tmL 145 0 [(3, (.optr 0 0 0)), (5, (.optr 1 0 0)), (6, (.optr 2 0 0)), (10, (.optr 3 0 0)), (39, (sl eStg 4 l)), (40, (i64 (((Sl.len l) : Nat) : Int))), (41, (i64 i0))], hp := [(.box 24 (eCav c) true), (.box 82 (eTruth t) true), (.box 84 [(.row true 0 0 (fun u14 => [])), (i64 (0 : Int)), (i64 (0 : Int)), (i64 (0 : Int)), (i64 (0 : Int))] true), (.box 84 [(.osl 4 0 k1), (i64 i2), (i64 i3), (i64 i4), (i64 i5)] true), (.arr 3 1 k6 g7 true)] }
noncomputable def L44x2 (env : Env) (F : Nat) (c : Cav) (l : Sl Stg) (t : Truth) (m0 : Nat) (fu : Nat) (g0 : Nat → List V) (i1 : Int) (q2 : IntKind) (i3 : Int) (k4 : Nat) (g5 : Nat → List V) (g6 : Nat → List V) : Option Out := atLoop Try.prog (cfg F) env 44 [.r, .r, .r, .r, .r, .l, .r, .d, .d, .r, .r, .l, .d, .r, .r, .l, .r, .d, .g 99, .r, .r, .r, .d] [m0] fu { tm := tmL 24 0 [(0, (.yld 0)), (1, (.rptr 1 4 g0 0 0)), (3, (i64 i1)), (4, (.int q2 i3))], hp := [.lp, (.box 24 (eCav c) true), (.box 82 (eTruth t) true), (.box 84 [(.row true 0 0 (fun u14 => [])), (i64 (0 : Int)), (i64 (0 : Int)), (i64 (0 : Int)), (i64 (0 : Int))] true), (.box 84 [(.row true 0 k4 g5), (i64 (0 : Int)), (i64 (0 : Int)), (i64 (0 : Int)), (i64 (0 : Int))] true), (.box 3 [(i64 (0 : Int))] true), (.box 40 (eStg (Sl.el l 0)) true), (.box 3 [(i64 (Cav.hold c))] true), (.box 3 [(i64 (0 : Int))] true), (.box 3 [(i64 (0 : Int))] true), (.box 3 [(i64 (0 : Int))] true)], ext := [(.yld 0), .top, .top, .top, (.optr 1 0 0), .top, (.optr 2 0 0), (.optr 3 0 0), .top, .top, .top, (.optr 4 0 0), (.optr 5 0 0), (.optr 6 0 0), (.optr 7 0 0), (.optr 8 0 0), (.optr 9 0 0), (.optr 10 0 0), .top, .top, .top, .top, .top, .top, .top, .top, .top, .top, .top, .top, .top, .top, .top, .top, .top, .top, .top, .top, .top, .top, (sl eStg 4 l), (i64 (((Sl.len l) : Nat) : Int)), (i64 (0 : Int)), (.bool (decide ((0 : Int) < (((Sl.len l) : Nat) : Int)))), (i64 (0 : Int)), (.rptr (Sl.len l) 4 (fun u14 => (eStg (Sl.el l u14))) 0 0), (.agg (eStg (Sl.el l 0))), (.optr 1 0 1), (i64 (Cav.hold c)), (.agg (eStg (Sl.el l 0))), (.fn (.func 99) [] [(.rptr 1 4 g6 0 0)]), .top, .top, .top, .top, .top, .top, .top, .top, .top, .top, .top, .top, .top, .top, .top, .top, .top, .top, .top, .top, .top, .top, .top, .top, .top, .top, .top, .top, .top, .top, .top, .top, .top, .top, .top, .top, .top, .top, .top, .top, .top, .top, .top, .top, .top, .top, .top, .top, .top, .top, .top, .top, .top, .top, .top, .top, .top, .top, .top, .top, .top, .top, .top, .top, .top, .top, .top, .top, .top, .top, .top, .top, .top, .top, .top, .top, .top, .top, .top, .top, .top, .top, .top, .top, .top, .top, .top, .top, .top, .top, .top, .top, .top, .top, .top] }
noncomputable def L44x3 (env : Env) (F : Nat) (c : Cav) (l : Sl Stg) (t : Truth) (m0 : Nat) (fu : Nat) (g0 : Nat → List V) (i1 : Int) (q2 : IntKind) (i3 : Int) (k4 : Nat) (i5 : Int) (i6 : Int) (i7 : Int) (i8 : Int) (i9 : Int) (i10 : Int) (i11 : Int) (i12 : Int) (i13 : Int) (i14 : Int) (q15 : IntKind) (i16 : Int) (q17 : IntKind) (i18 : Int) (q19 : IntKind) (i20 : Int) (k21 : Nat) (g22 : Nat → List V) (i23 : Int) (b24 : Bool) (i25 : Int) (k26 : Nat) (i27 : Int) (i28 : Int) (i29 : Int) (i30 : Int) (i31 : Int) (i32 : Int) (i33 : Int) (i34 : Int) (g35 : Nat → List V) : Option Out := atLoop Try.prog (cfg F) env 44 [.r, .r, .r, .r, .r, .l, .r, .d, .d, .r, .r, .l, .d, .r, .r, .l, .r, .d, .g 99, .r, .r, .r, .d] [m0] fu { tm := tmL 24 0 [(0, (.yld 0)), (1, (.rptr 1 4 g0 0 0)), (3, (i64 i1)), (4, (.int q2 i3))], hp := [.lp, (.box 24 (eCav c) true), (.box 82 (eTruth t) true), (.box 84 [(.row true 0 0 (fun u43 => [])), (i64 (0 : Int)), (i64 (0 : Int)), (i64 (0 : Int)), (i64 (0 : Int))] true), (.box 84 [(.osl 11 0 k4), (i64 i5), (i64 i6), (i64 i7), (i64 i8)] true), (.box 3 [(i64 i9)] true), (.box 40 [(i64 i10), (i64 i11), (i64 i12), (i64 i13)] true), (.box 3 [(i64 i14)] true), (.box 3 [(.int q15 i16)] true), (.box 3 [(.int q17 i18)] true), (.box 3 [(.int q19 i20)] true), (.arr 3 1 k21 g22 true)], ext := [(.yld 0), .top, .top, .top, (.optr 1 0 0), .top, (.optr 2 0 0), (.optr 3 0 0), .top, .top, .top, (.optr 4 0 0), (.optr 5 0 0), (.optr 6 0 0), (.optr 7 0 0), (.optr 8 0 0), (.optr 9 0 0), (.optr 10 0 0), .top, .top, .top, .top, .top, .top, .top, .top, .top, .top, .top, .top, .top, .top, .top, .top, .top, .top, .top, .top, .top, .top, (sl eStg 4 l), (i64 (((Sl.len l) : Nat) : Int)), (i64 i23), (.bool b24), (i64 i25), (.rptr (Sl.len l) 4 (fun u43 => (eStg (Sl.el l u43))) k26 0), (.agg [(i64 i27), (i64 i28), (i64 i29), (i64 i30)]), (.optr 1 0 1), (i64 (Cav.hold c)), (.agg [(i64 i31), (i64 i32), (i64 i33), (i64 i34)]), (.fn (.func 99) [] [(.rptr 1 4 g35 0 0)]), .top, .top, .top, .top, .top, .top, .top, .top, .top, .top, .top, .top, .top, .top, .top, .top, .top, .top, .top, .top, .top, .top, .top, .top, .top, .top, .top, .top, .top, .top, .top, .top, .top, .top, .top, .top, .top, .top, .top, .top, .top, .top, .top, .top, .top, .top, .top, .top, .top, .top, .top, .top, .top, .top, .top, .top, .top, .top, .top, .top, .top, .top, .top, .top, .top, .top, .top, .top, .top, .top, .top, .top, .top, .top, .top, .top, .top, .top, .top, .top, .top, .top, .top, .top, .top, .top, .top, .top, .top, .top, .top, .top, .top, .top, .top] }
theorem t44 (env : Env) (F : Nat) (c : Cav) (l : Sl Stg) (t : Truth) : (evFun Try.prog (cfg F) env 44 [(.agg (eCav c)), (sl eStg 4 l), (.agg (eTruth t))]) = (tkOut (env.pf 57 [(.agg (eCav c)), (sl eStg 4 l)]) none (fun v5 => (tkInt v5 none fun q6 n7 => (bif (decide (q6 = .i64)) then (bif (n7 != (0 : Int)) then some (.ret (.tup [(.agg [(.row true 0 0 (fun u8 => [])), (i64 (0 : Int)), (i64 (0 : Int)), (i64 (0 : Int)), (i64 (0 : Int))]), (.int q6 n7)])) else (tkOut (env.pf 87 [(.agg (eCav c)), (sl eStg 4 l), (.agg (eTruth t))]) none (fun v8 => (tkBool v8 none fun b9 => (bif (!b9) then some (.ret (.tup [(.agg [(.row true 0 0 (fun u10 => [])), (i64 (0 : Int)), (i64 (0 : Int)), (i64 (0 : Int)), (i64 (0 : Int))]), (i64 (2 : Int))])) else (tkHv (env.hv 79 [(sl eInt 1 (Truth.vols t))] []) none fun v10 h11 => (tkSl v10 none (fun nl12 n13 wd14 g15 => (bif (nl12 && (Nat.beq n13 0)) then (tkSNil h11 none ((L44x0 env F c l t F wd14 g15))) else none)) (fun b12 lo13 n14 => (bif ((Nat.beq b12 0) && (Nat.beq lo13 0)) then (tkSCons h11 none fun s15 r16 => (tkSNil r16 none ((tkArr s15 none fun e17 wd18 n19 g20 wr21 => (bif (((Nat.beq e17 3) && (Nat.beq wd18 1)) && (wr21 == true)) then (L44x1 env F c l t F (0 : Int) n14 (0 : Int) (0 : Int) (0 : Int) (0 : Int) n19 g20) else none))))) else none))))))) (fun p8 => (tkIfc p8 none fun t9 x10 => (bif (flatP (.iface t9 x10)) then some (.pan (.iface t9 x10)) else none))))) else none))) (fun p5 => (tkIfc p5 none fun t6 x7 => (bif (flatP (.iface t6 x7)) then some (.pan (.iface t6 x7)) else none)))) := by kernel_rfl
theorem L44x0s (env : Env) (F : Nat) (c : Cav) (l : Sl Stg) (t : Truth) (fu : Nat) (k0 : Nat) (g1 : Nat → List V) : L44x0 env F c l t (fu + 1) k0 g1 = (bif (decide ((0 : Int) < (((Sl.len l) : Nat) : Int))) then (bif (decide ((0 : Int) < (((Sl.len l) : Nat) : Int))) then (tkOut (env.pf 68 [(.agg (eStg (Sl.el l 0)))]) none (fun v8 => (tkFn v8 none fun f9 a10 c11 => (bif (Nat.beq f9 99) then (tkNil a10 none ((tkCons c11 none fun v12 r13 => (tkPtr v12 none fun n14 wd15 g16 i17 off18 => (bif (((Nat.beq n14 1) && (Nat.beq wd15 4)) && ((Nat.beq i17 0) && (Nat.beq off18 0))) then (tkCons (g16 0) none fun v19 r20 => (tkInt v19 none fun q21 n22 => (tkCons r20 none fun v23 r24 => (tkInt v23 none fun q25 n26 => (tkCons r24 none fun v27 r28 => (tkInt v27 none fun q29 n30 => (tkCons r28 none fun v31 r32 => (tkInt v31 none fun q33 n34 => (tkNil r32 none ((tkNil r13 none ((bif (decide (q29 = q25)) then (bif (decide (n30 < n26)) then (L44x2 env F c l t fu F (fun u35 => [(.int q21 n22), (.int q25 n26), (.int q29 n30), (.int q33 n34)]) (-(1 : Int)) q25 n26 k0 g1 (fun u35 => [(.int q21 n22), (.int q25 n26), (.int q29 n30), (.int q33 n34)])) else (L44x2 env F c l t fu F (fun u35 => [(.int q21 n22), (.int q25 n26), (.int q29 n30), (.int q33 n34)]) (1 : Int) q25 n26 k0 g1 (fun u35 => [(.int q21 n22), (.int q25 n26), (.int q29 n30), (.int q33 n34)]))) else none))))))))))))) else none))))) else none))) (fun p8 => (tkIfc p8 none fun t9 x10 => (bif (flatP (.iface t9 x10)) then some (.pan (.iface t9 x10)) else none)))) else none) else some (.ret (.tup [(.agg [(.row true 0 k0 g1), (i64 (0 : Int)), (i64 (0 : Int)), (i64 (0 : Int)), (i64 (0 : Int))]), (i64 (0 : Int))]))) := by kernel_rfl
theorem L44x1s (env : Env) (F : Nat) (c : Cav) (l : Sl Stg) (t : Truth) (fu : Nat) (i0 : Int) (k1 : Nat) (i2 : Int) (i3 : Int) (i4 : Int) (i5 : Int) (k6 : Nat) (g7 : Nat → List V) : L44x1 env F c l t (fu + 1) i0 k1 i2 i3 i4 i5 k6 g7 = (bif (decide (i0 < (((Sl.len l) : Nat) : Int))) then (bif (decide ((0 : Int) ≤ i0)) then (bif (decide (i0 < (((Sl.len l) : Nat) : Int))) then (tkOut (env.pf 68 [(.agg (eStg (Sl.el l (Int.toNat i0))))]) none (fun v14 => (tkFn v14 none fun f15 a16 c17 => (bif (Nat.beq f15 99) then (tkNil a16 none ((tkCons c17 none fun v18 r19 => (tkPtr v18 none fun n20 wd21 g22 i23 off24 => (bif (((Nat.beq n20 1) && (Nat.beq wd21 4)) && ((Nat.beq i23 0) && (Nat.beq off24 0))) then (tkCons (g22 0) none fun v25 r26 => (tkInt v25 none fun q27 n28 => (tkCons r26 none fun v29 r30 => (tkInt v29 none fun q31 n32 => (tkCons r30 none fun v33 r34 => (tkInt v33 none fun q35 n36 => (tkCons r34 none fun v37 r38 => (tkInt v37 none fun q39 n40 => (tkNil r38 none ((tkNil r19 none ((bif (decide (q35 = q31)) then (bif (decide (n36 < n32)) then (L44x3 env F c l t fu F (fun u41 => [(.int q27 n28), (.int q31 n32), (.int q35 n36), (.int q39 n40)]) (-(1 : Int)) q31 n32 k1 i2 i3 i4 i5 i0 (Stg.water (Sl.el l (Int.toNat i0))) (Stg.into (Sl.el l (Int.toNat i0))) (Stg.out (Sl.el l (Int.toNat i0))) (Stg.blanket (Sl.el l (Int.toNat i0))) (Cav.hold c) .i64 (0 : Int) .i64 (0 : Int) .i64 (0 : Int) k6 g7 i0 (decide (i0 < (((Sl.len l) : Nat) : Int))) i0 (Int.toNat i0) (Stg.water (Sl.el l (Int.toNat i0))) (Stg.into (Sl.el l (Int.toNat i0))) (Stg.out (Sl.el l (Int.toNat i0))) (Stg.blanket (Sl.el l (Int.toNat i0))) (Stg.water (Sl.el l (Int.toNat i0))) (Stg.into (Sl.el l (Int.toNat i0))) (Stg.out (Sl.el l (Int.toNat i0))) (Stg.blanket (Sl.el l (Int.toNat i0))) (fun u41 => [(.int q27 n28), (.int q31 n32), (.int q35 n36), (.int q39 n40)])) else (L44x3 env F c l t fu F (fun u41 => [(.int q27 n28), (.int q31 n32), (.int q35 n36), (.int q39 n40)]) (1 : Int) q31 n32 k1 i2 i3 i4 i5 i0 (Stg.water (Sl.el l (Int.toNat i0))) (Stg.into (Sl.el l (Int.toNat i0))) (Stg.out (Sl.el l (Int.toNat i0))) (Stg.blanket (Sl.el l (Int.toNat i0))) (Cav.hold c) .i64 (0 : Int) .i64 (0 : Int) .i64 (0 : Int) k6 g7 i0 (decide (i0 < (((Sl.len l) : Nat) : Int))) i0 (Int.toNat i0) (Stg.water (Sl.el l (Int.toNat i0))) (Stg.into (Sl.el l (Int.toNat i0))) (Stg.out (Sl.el l (Int.toNat i0))) (Stg.blanket (Sl.el l (Int.toNat i0))) (Stg.water (Sl.el l (Int.toNat i0))) (Stg.into (Sl.el l (Int.toNat i0))) (Stg.out (Sl.el l (Int.toNat i0))) (Stg.blanket (Sl.el l (Int.toNat i0))) (fun u41 => [(.int q27 n28), (.int q31 n32), (.int q35 n36), (.int q39 n40)]))) else none))))))))))))) else none))))) else none))) (fun p14 => (tkIfc p14 none fun t15 x16 => (bif (flatP (.iface t15 x16)) then some (.pan (.iface t15 x16)) else none)))) else none) else none) else some (.ret (.tup [(.agg [(.row false k1 1 (fun u14 => (g7 u14))), (i64 i2), (i64 i3), (i64 i4), (i64 i5)]), (i64 (0 : Int))]))) := by kernel_rfl
theorem L44x2s (env : Env) (F : Nat) (c : Cav) (l : Sl Stg) (t : Truth) (m0 : Nat) (fu : Nat) (g0 : Nat → List V) (i1 : Int) (q2 : IntKind) (i3 : Int) (k4 : Nat) (g5 : Nat → List V) (g6 : Nat → List V) : L44x2 env F c l t m0 (fu + 1) g0 i1 q2 i3 k4 g5 g6 = (bif (decide ((0 : Int) < (((Sl.len (Truth.rates t)) : Nat) : Int))) then (bif (decide ((0 : Int) ≤ i3)) then (bif (decide (i3 < (((Sl.len (Sl.el (Truth.rates t) 0)) : Nat) : Int))) then (tkOut (env.pf 88 [(.row false 2 1 (fun u14 => (List.take 1 (List.drop ((Min.min u14 1) * 1) [(i64 (0 : Int)), (i64 (IntKind.wrap .i64 ((if (Cav.hold c) < (Sl.el (Sl.el (Truth.rates t) 0) (Int.toNat i3)) then (Cav.hold c) else (Sl.el (Sl.el (Truth.rates t) 0) (Int.toNat i3))) * (Stg.water (Sl.el l 0)))))]))))]) none (fun v14 => (tkInt v14 none fun q15 n16 => (bif (k4 == 1) then (bif (decide ((0 : Int) ≤ i3)) then (bif (decide (i3 < ((0 : Nat) : Int))) then (tkCons (g5 (Int.toNat i3)) none fun v17 r18 => (tkInt v17 none fun q19 n20 => (bif (decide ((0 : Int) ≤ i3)) then (bif (decide (i3 < (((Sl.len (Cav.slices c)) : Nat) : Int))) then (bif (decide (q19 = .i64)) then (bif (k4 == 1) then (bif (decide ((0 : Int) ≤ i3)) then (bif (decide (i3 < ((0 : Nat) : Int))) then none else none) else none) else none) else none) else none) else none))) else none) else none) else none))) (fun p14 => (tkIfc p14 none fun t15 x16 => (bif (flatP (.iface t15 x16)) then none else none)))) else none) else none) else none) := by kernel_rfl
theorem L44x3s (env : Env) (F : Nat) (c : Cav) (l : Sl Stg) (t : Truth) (m0 : Nat) (fu : Nat) (g0 : Nat → List V) (i1 : Int) (q2 : IntKind) (i3 : Int) (k4 : Nat) (i5 : Int) (i6 : Int) (i7 : Int) (i8 : Int) (i9 : Int) (i10 : Int) (i11 : Int) (i12 : Int) (i13 : Int) (i14 : Int) (q15 : IntKind) (i16 : Int) (q17 : IntKind) (i18 : Int) (q19 : IntKind) (i20 : Int) (k21 : Nat) (g22 : Nat → List V) (i23 : Int) (b24 : Bool) (i25 : Int) (k26 : Nat) (i27 : Int) (i28 : Int) (i29 : Int) (i30 : Int) (i31 : Int) (i32 : Int) (i33 : Int) (i34 : Int) (g35 : Nat → List V) : L44x3 env F c l t m0 (fu + 1) g0 i1 q2 i3 k4 i5 i6 i7 i8 i9 i10 i11 i12 i13 i14 q15 i16 q17 i18 q19 i20 k21 g22 i23 b24 i25 k26 i27 i28 i29 i30 i31 i32 i33 i34 g35 = (bif (decide ((0 : Int) ≤ i9)) then (bif (decide (i9 < (((Sl.len (Truth.rates t)) : Nat) : Int))) then (bif (decide ((0 : Int) ≤ i3)) then (bif (decide (i3 < (((Sl.len (Sl.el (Truth.rates t) (Int.toNat i9))) : Nat) : Int))) then (tkOut (env.pf 88 [(.row false 2 1 (fun u43 => (List.take 1 (List.drop ((Min.min u43 1) * 1) [(.int q19 i20), (i64 (IntKind.wrap .i64 ((if i14 < (Sl.el (Sl.el (Truth.rates t) (Int.toNat i9)) (Int.toNat i3)) then i14 else (Sl.el (Sl.el (Truth.rates t) (Int.toNat i9)) (Int.toNat i3))) * i10)))]))))]) none (fun v43 => (tkInt v43 none fun q44 n45 => (bif (decide ((0 : Int) ≤ i3)) then (bif (decide (i3 < ((k4 : Nat) : Int))) then (tkCons (g22 (Int.toNat i3)) none fun v46 r47 => (tkInt v46 none fun q48 n49 => (bif (decide ((0 : Int) ≤ i3)) then (bif (decide (i3 < (((Sl.len (Cav.slices c)) : Nat) : Int))) then (bif (decide (q48 = .i64)) then (bif (decide ((0 : Int) ≤ i3)) then (bif (decide (i3 < ((k4 : Nat) : Int))) then (bif (decide ((0 : Int) ≤ i3)) then (bif (decide (i3 < (((Sl.len (Cav.slices c)) : Nat) : Int))) then (tkOut (env.pf 88 [(.row false 2 1 (fun u50 => (List.take 1 (List.drop ((Min.min u50 1) * 1) [(.int q15 i16), (i64 (IntKind.wrap .i64 ((IntKind.wrap .i64 ((if i14 < (Sl.el (Sl.el (Truth.rates t) (Int.toNat i9)) (Int.toNat i3)) then i14 else (Sl.el (Sl.el (Truth.rates t) (Int.toNat i9)) (Int.toNat i3))) * i10)) * (Slc.opn (Sl.el (Cav.slices c) (Int.toNat i3))))))]))))]) none (fun v50 => (tkInt v50 none fun q51 n52 => (bif (decide ((0 : Int) ≤ i3)) then (bif (decide (i3 < (((Sl.len (Cav.slices c)) : Nat) : Int))) then (tkOut (env.pf 88 [(.row false 2 1 (fun u53 => (List.take 1 (List.drop ((Min.min u53 1) * 1) [(.int q17 i18), (i64 (IntKind.wrap .i64 ((IntKind.wrap .i64 ((if i14 < (Sl.el (Sl.el (Truth.rates t) (Int.toNat i9)) (Int.toNat i3)) then i14 else (Sl.el (Sl.el (Truth.rates t) (Int.toNat i9)) (Int.toNat i3))) * i10)) * (Slc.fall (Sl.el (Cav.slices c) (Int.toNat i3))))))]))))]) none (fun v53 => (tkInt v53 none fun q54 n55 => (tkCons (List.drop 2 (g0 0)) none fun v56 r57 => (tkInt v56 none fun q58 n59 => (bif (decide (q2 = q58)) then (bif (i3 != n59) then (bif (decide (q2 = .i64)) then (L44x3 env F c l t m0 fu g0 i1 q2 (IntKind.wrap q2 (i3 + i1)) k4 i5 i6 i7 i8 i9 i10 i11 i12 i13 (IntKind.wrap .i64 (i14 - (if i14 < (Sl.el (Sl.el (Truth.rates t) (Int.toNat i9)) (Int.toNat i3)) then i14 else (Sl.el (Sl.el (Truth.rates t) (Int.toNat i9)) (Int.toNat i3))))) q51 n52 q54 n55 q44 n45 k21 (updGet g22 (Int.toNat i3) 0 [(.int q48 (IntKind.wrap q48 (n49 + (IntKind.wrap .i64 ((IntKind.wrap .i64 ((if i14 < (Sl.el (Sl.el (Truth.rates t) (Int.toNat i9)) (Int.toNat i3)) then i14 else (Sl.el (Sl.el (Truth.rates t) (Int.toNat i9)) (Int.toNat i3))) * i10)) * (Slc.opn (Sl.el (Cav.slices c) (Int.toNat i3))))))))]) i23 b24 i25 k26 i27 i28 i29 i30 i31 i32 i33 i34 g35) else none) else (bif (decide (.i64 = q54)) then (bif (decide (.i64 = q44)) then (bif (decide (.i64 = q51)) then (bif (decide (.i64 = q54)) then (bif (decide (.i64 = q44)) then (bif (decide (q51 = q54)) then (bif (decide (.i64 = q51)) then (L44x1 env F c l t m0 (IntKind.wrap .i64 (i23 + (1 : Int))) k4 (IntKind.wrap .i64 (i5 + n55)) (IntKind.wrap .i64 (i6 + n45)) (IntKind.wrap .i64 (i7 + (IntKind.wrap .i64 ((IntKind.wrap .i64 ((IntKind.wrap .i64 ((1000000 : Int) * i10)) - n52)) + n55)))) (IntKind.wrap .i64 (i8 + (IntKind.wrap .i64 ((IntKind.wrap .i64 ((1000000 : Int) * n45)) - (IntKind.wrap .i64 ((Cav.hold c) * (IntKind.wrap q51 (n52 - n55)))))))) k21 (updGet g22 (Int.toNat i3) 0 [(.int q48 (IntKind.wrap q48 (n49 + (IntKind.wrap .i64 ((IntKind.wrap .i64 ((if i14 < (Sl.el (Sl.el (Truth.rates t) (Int.toNat i9)) (Int.toNat i3)) then i14 else (Sl.el (Sl.el (Truth.rates t) (Int.toNat i9)) (Int.toNat i3))) * i10)) * (Slc.opn (Sl.el (Cav.slices c) (Int.toNat i3))))))))])) else none) else none) else none) else none) else none) else none) else none)) else none))))) (fun p53 => (tkIfc p53 none fun t54 x55 => (bif (flatP (.iface t54 x55)) then none else none)))) else none) else none))) (fun p50 => (tkIfc p50 none fun t51 x52 => (bif (flatP (.iface t51 x52)) then none else none)))) else none) else none) else none) else none) else none) else none) else none))) else none) else none))) (fun p43 => (tkIfc p43 none fun t44 x45 => (bif (flatP (.iface t44 x45)) then none else none)))) else none) else none) else none) else none) := by kernel_rfl
theorem t4 (env : Env) (F : Nat) (c : Cav) (s : Stg) : (evFun Try.prog (cfg F) env 4 [(.agg (eCav c)), (.agg (eStg s))]) = (tkOut (env.pf 19 [(.agg (eCav c))]) none (fun v4 => (tkBool v4 none fun b5 => (bif (!b5) then (tkOut (env.pf 21 []) none (fun v6 => (tkBool v6 none fun b7 => some (.ret (.bool b7)))) (fun p6 => (tkIfc p6 none fun t7 x8 => (bif (flatP (.iface t7 x8)) then some (.pan (.iface t7 x8)) else none)))) else (tkOut (env.pf 26 [(.agg (eCav c)), (.agg (eStg s))]) none (fun v6 => (tkTup v6 none fun l7 => (tkCons l7 none fun v8 r9 => (tkAgg v8 none fun l10 => (tkCons l10 none fun v11 r12 => (tkInt v11 none fun q13 n14 => (tkCons r12 none fun v15 r16 => (tkInt v15 none fun q17 n18 => (tkNil r16 none ((tkCons r9 none fun v19 r20 => (tkAgg v19 none fun l21 => (tkCons l21 none fun v22 r23 => (tkInt v22 none fun q24 n25 => (tkCons r23 none fun v26 r27 => (tkInt v26 none fun q28 n29 => (tkNil r27 none ((tkCons r20 none fun v30 r31 => (tkInt v30 none fun q32 n33 => (tkNil r31 none ((tkOut (env.pf 27 [(.agg (eCav c))]) none (fun v34 => (tkBool v34 none fun b35 => (bif (!b35) then (bif (decide (q32 = .i64)) then (bif (n33 == (2 : Int)) then (bif (decide (q13 = .i64)) then (bif (decide (q17 = .i64)) then (bif ((n14 == (0 : Int)) && ((n18 == (0 : Int)) && true)) then (bif (decide (q24 = .i64)) then (bif (decide (q28 = .i64)) then (bif ((n25 == (0 : Int)) && ((n29 == (0 : Int)) && true)) then (tkOut (env.pf 21 []) none (fun v36 => (tkBool v36 none fun b37 => some (.ret (.bool b37)))) (fun p36 => (tkIfc p36 none fun t37 x38 => (bif (flatP (.iface t37 x38)) then some (.pan (.iface t37 x38)) else none)))) else some (.ret (.bool false))) else none) else none) else some (.ret (.bool false))) else none) else none) else some (.ret (.bool false))) else none) else (tkOut (env.pf 28 [(.agg (eCav c)), (.agg (eStg s))]) none (fun v36 => (tkBool v36 none fun b37 => (bif (!b37) then (bif (decide (q32 = .i64)) then (bif (n33 == (2 : Int)) then (bif (decide (q13 = .i64)) then (bif (decide (q17 = .i64)) then (bif ((n14 == (0 : Int)) && ((n18 == (0 : Int)) && true)) then (bif (decide (q24 = .i64)) then (bif (decide (q28 = .i64)) then (bif ((n25 == (0 : Int)) && ((n29 == (0 : Int)) && true)) then (tkOut (env.pf 21 []) none (fun v38 => (tkBool v38 none fun b39 => some (.ret (.bool b39)))) (fun p38 => (tkIfc p38 none fun t39 x40 => (bif (flatP (.iface t39 x40)) then some (.pan (.iface t39 x40)) else none)))) else some (.ret (.bool false))) else none) else none) else some (.ret (.bool false))) else none) else none) else some (.ret (.bool false))) else none) else (tkOut (env.pf 29 [(.agg (eCav c)), (.agg (eStg s))]) none (fun v38 => (tkTup v38 none fun l39 => (tkCons l39 none fun v40 r41 => (tkAgg v40 none fun l42 => (tkCons l42 none fun v43 r44 => (tkInt v43 none fun q45 n46 => (tkCons r44 none fun v47 r48 => (tkInt v47 none fun q49 n50 => (tkNil r48 none ((tkCons r41 none fun v51 r52 => (tkAgg v51 none fun l53 => (tkCons l53 none fun v54 r55 => (tkInt v54 none fun q56 n57 => (tkCons r55 none fun v58 r59 => (tkInt v58 none fun q60 n61 => (tkNil r59 none ((tkNil r52 none ((bif (decide (q32 = .i64)) then (bif (n33 == (0 : Int)) then (bif (decide (q13 = q45)) then (bif (decide (q17 = q49)) then (bif ((n14 == n46) && ((n18 == n50) && true)) then (bif (decide (q24 = q56)) then (bif (decide (q28 = q60)) then (bif ((n25 == n57) && ((n29 == n61) && true)) then (tkOut (env.pf 21 []) none (fun v62 => (tkBool v62 none fun b63 => some (.ret (.bool b63)))) (fun p62 => (tkIfc p62 none fun t63 x64 => (bif (flatP (.iface t63 x64)) then some (.pan (.iface t63 x64)) else none)))) else some (.ret (.bool false))) else none) else none) else some (.ret (.bool false))) else none) else none) else some (.ret (.bool false))) else none))))))))))))))))))))) (fun p38 => (tkIfc p38 none fun t39 x40 => (bif (flatP (.iface t39 x40)) then some (.pan (.iface t39 x40)) else none))))))) (fun p36 => (tkIfc p36 none fun t37 x38 => (bif (flatP (.iface t37 x38)) then some (.pan (.iface t37 x38)) else none))))))) (fun p34 => (tkIfc p34 none fun t35 x36 => (bif (flatP (.iface t35 x36)) then some (.pan (.iface t35 x36)) else none)))))))))))))))))))))))))) (fun p6 => (tkIfc p6 none fun t7 x8 => (bif (flatP (.iface t7 x8)) then some (.pan (.iface t7 x8)) else none))))))) (fun p4 => (tkIfc p4 none fun t5 x6 => (bif (flatP (.iface t5 x6)) then some (.pan (.iface t5 x6)) else none)))) := by kernel_rfl
theorem t3 (env : Env) (F : Nat) (c : Cav) (l : Sl Stg) (w : Sl Int) (n : Int) : (evFun Try.prog (cfg F) env 3 [(.agg (eCav c)), (sl eStg 4 l), (sl eInt 1 w), (i64 n)]) = (tkOut (env.pf 19 [(.agg (eCav c))]) none (fun v6 => (tkBool v6 none fun b7 => (bif (!b7) then (tkOut (env.pf 21 []) none (fun v8 => (tkBool v8 none fun b9 => some (.ret (.bool b9)))) (fun p8 => (tkIfc p8 none fun t9 x10 => (bif (flatP (.iface t9 x10)) then some (.pan (.iface t9 x10)) else none)))) else (bif (decide ((((Sl.len l) : Nat) : Int) > (20 : Int))) then (tkOut (env.pf 21 []) none (fun v8 => (tkBool v8 none fun b9 => some (.ret (.bool b9)))) (fun p8 => (tkIfc p8 none fun t9 x10 => (bif (flatP (.iface t9 x10)) then some (.pan (.iface t9 x10)) else none)))) else (bif (decide ((((Sl.len w) : Nat) : Int) > (20 : Int))) then (tkOut (env.pf 21 []) none (fun v8 => (tkBool v8 none fun b9 => some (.ret (.bool b9)))) (fun p8 => (tkIfc p8 none fun t9 x10 => (bif (flatP (.iface t9 x10)) then some (.pan (.iface t9 x10)) else none)))) else (tkOut (env.pf 20 [(.agg (eCav c)), (sl eStg 4 l), (i64 (5 : Int)), (i64 (60 : Int)), (i64 (4 : Int))]) none (fun v8 => (tkBool v8 none fun b9 => (bif (!b9) then (tkOut (env.pf 21 []) none (fun v10 => (tkBool v10 none fun b11 => some (.ret (.bool b11)))) (fun p10 => (tkIfc p10 none fun t11 x12 => (bif (flatP (.iface t11 x12)) then some (.pan (.iface t11 x12)) else none)))) else (tkOut (env.pf 22 [(.agg (eCav c)), (sl eStg 4 l), (sl eInt 1 w), (i64 n)]) none (fun v10 => (tkTup v10 none fun l11 => (tkCons l11 none fun v12 r13 => (tkAgg v12 none fun l14 => (tkCons l14 none fun v15 r16 => (tkInt v15 none fun q17 n18 => (tkCons r16 none fun v19 r20 => (tkInt v19 none fun q21 n22 => (tkNil r20 none ((tkCons r13 none fun v23 r24 => (tkInt v23 none fun q25 n26 => (tkNil r24 none ((tkOut (env.pf 24 [(.agg (eCav c)), (sl eInt 1 w), (i64 n)]) none (fun v27 => (tkBool v27 none fun b28 => (tkOut (env.pf 23 [(.agg (eCav c)), (sl eStg 4 l), (.bool b28)]) none (fun v29 => (tkInt v29 none fun q30 n31 => (bif (decide (q30 = .i64)) then (bif (n31 != (0 : Int)) then (bif (decide (q25 = q30)) then (bif (n26 == n31) then (bif (decide (q17 = .i64)) then (bif (decide (q21 = .i64)) then (bif ((n18 == (0 : Int)) && ((n22 == (0 : Int)) && true)) then (tkOut (env.pf 21 []) none (fun v32 => (tkBool v32 none fun b33 => some (.ret (.bool b33)))) (fun p32 => (tkIfc p32 none fun t33 x34 => (bif (flatP (.iface t33 x34)) then some (.pan (.iface t33 x34)) else none)))) else some (.ret (.bool false))) else none) else none) else some (.ret (.bool false))) else none) else (bif (decide (q25 = .i64)) then (bif (n26 == (0 : Int)) then (tkOut (env.pf 25 [(.agg (eCav c)), (sl eStg 4 l), (sl eInt 1 w), (i64 n)]) none (fun v32 => (tkAgg v32 none fun l33 => (tkCons l33 none fun v34 r35 => (tkInt v34 none fun q36 n37 => (tkCons r35 none fun v38 r39 => (tkInt v38 none fun q40 n41 => (tkNil r39 none ((bif (decide (q17 = q36)) then (bif (decide (q21 = q40)) then (bif ((n18 == n37) && ((n22 == n41) && true)) then (tkOut (env.pf 21 []) none (fun v42 => (tkBool v42 none fun b43 => some (.ret (.bool b43)))) (fun p42 => (tkIfc p42 none fun t43 x44 => (bif (flatP (.iface t43 x44)) then some (.pan (.iface t43 x44)) else none)))) else some (.ret (.bool false))) else none) else none))))))))) (fun p32 => (tkIfc p32 none fun t33 x34 => (bif (flatP (.iface t33 x34)) then some (.pan (.iface t33 x34)) else none)))) else some (.ret (.bool false))) else none)) else none))) (fun p29 => (tkIfc p29 none fun t30 x31 => (bif (flatP (.iface t30 x31)) then some (.pan (.iface t30 x31)) else none)))))) (fun p27 => (tkIfc p27 none fun t28 x29 => (bif (flatP (.iface t28 x29)) then some (.pan (.iface t28 x29)) else none)))))))))))))))))) (fun p10 => (tkIfc p10 none fun t11 x12 => (bif (flatP (.iface t11 x12)) then some (.pan (.iface t11 x12)) else none))))))) (fun p8 => (tkIfc p8 none fun t9 x10 => (bif (flatP (.iface t9 x10)) then some (.pan (.iface t9 x10)) else none))))))))) (fun p6 => (tkIfc p6 none fun t7 x8 => (bif (flatP (.iface t7 x8)) then some (.pan (.iface t7 x8)) else none)))) := by kernel_rfl
noncomputable def L17x0 (env : Env) (F : Nat) (c : Cav) (l : Sl Stg) (t : Truth) (w : Sl Int) (n : Int) (fu : Nat) (i0 : Int) (b1 : Bool) (k2 : Nat) (k3 : Nat) (g4 : Nat → List V) (b5 : Bool) (k6 : Nat) (k7 : Nat) (g8 : Nat → List V) (q9 : IntKind) (i10 : Int) (q11 : IntKind) (i12 : Int) (q13 : IntKind) (i14 : Int) (q15 : IntKind) (i16 : Int) (b17 : Bool) (k18 : Nat) (k19 : Nat) (g20 : Nat → List V) (q21 : IntKind) (i22 : Int) (q23 : IntKind) (i24 : Int) (q25 : IntKind) (i26 : Int) (q27 : IntKind) (i28 : Int) : Option Out := atLoop Try.prog (cfg F) env 17 [.r, .r, .r, .r, .r, .r, .l, .r, .d] [] fu { tm := tmL 261 0 [(1, (sl eStg 4 l)), (3, (sl eInt 1 w)), (4, (i64 n)), (5, (.optr 0 0 0)), (7, (.optr 1 0 0)), (11, (.optr 2 0 0)), (13, (.optr 3 0 0)), (15, (.optr 4 0 0)), (17, (i64 i0))], hp := [(.box 24 (eCav c) true), (.box 82 (eTruth t) true), (.box 72 [(.row b1 k2 k3 g4), (.row b5 k6 k7 g8), (.int q9 i10), (.int q11 i12)] true), (.box 31 [(.int q13 i14), (.int q15 i16)] true), (.box 84 [(.row b17 k18 k19 g20), (.int q21 i22), (.int q23 i24), (.int q25 i26), (.int q27 i28)] true)] }
noncomputable def L17x1 (env : Env) (F : Nat) (c : Cav) (l : Sl Stg) (t : Truth) (w : Sl Int) (n : Int) (m0 : Nat) (fu : Nat) (i0 : Int) (i1 : Int) (i2 : Int) (b3 : Bool) (k4 : Nat) (k5 : Nat) (g6 : Nat → List V) (b7 : Bool) (k8 : Nat) (k9 : Nat) (g10 : Nat → List V) (q11 : IntKind) (i12 : Int) (q13 : IntKind) (i14 : Int) (q15 : IntKind) (i16 : Int) (q17 : IntKind) (i18 : Int) (b19 : Bool) (k20 : Nat) (k21 : Nat) (g22 : Nat → List V) (q23 : IntKind) (i24 : Int) (q25 : IntKind) (i26 : Int) (q27 : IntKind) (i28 : Int) (q29 : IntKind) (i30 : Int) : Option Out := atLoop Try.prog (cfg F) env 17 [.r, .r, .r, .r, .r, .r, .l, .r, .d, .d, .r, .l, .d, .r, .l, .r, .d] [m0] fu { tm := tmL 261 0 [(1, (sl eStg 4 l)), (3, (sl eInt 1 w)), (4, (i64 n)), (5, (.optr 0 0 0)), (7, (.optr 1 0 0)), (11, (.optr 2 0 0)), (13, (.optr 3 0 0)), (15, (.optr 4 0 0)), (17, (i64 i0)), (18, (i64 i1)), (19, (i64 i2))], hp := [(.box 24 (eCav c) true), (.box 82 (eTruth t) true), (.box 72 [(.row b3 k4 k5 g6), (.row b7 k8 k9 g10), (.int q11 i12), (.int q13 i14)] true), (.box 31 [(.int q15 i16), (.int q17 i18)] true), (.box 84 [(.row b19 k20 k21 g22), (.int q23 i24), (.int q25 i26), (.int q27 i28), (.int q29 i30)] true)] }
theorem t17 (env : Env) (F : Nat) (c : Cav) (l : Sl Stg) (t : Truth) (w : Sl Int) (n : Int) : (evFun Try.prog (cfg F) env 17 [(.agg (eCav c)), (sl eStg 4 l), (.agg (eTruth t)), (sl eInt 1 w), (i64 n)]) = (tkOut (env.pf 19 [(.agg (eCav c))]) none (fun v7 => (tkBool v7 none fun b8 => (bif (!b8) then (tkOut (env.pf 21 []) none (fun v9 => (tkBool v9 none fun b10 => some (.ret (.bool b10)))) (fun p9 => (tkIfc p9 none fun t10 x11 => (bif (flatP (.iface t10 x11)) then some (.pan (.iface t10 x11)) else none)))) else (bif (decide ((((Sl.len l) : Nat) : Int) > (20 : Int))) then (tkOut (env.pf 21 []) none (fun v9 => (tkBool v9 none fun b10 => some (.ret (.bool b10)))) (fun p9 => (tkIfc p9 none fun t10 x11 => (bif (flatP (.iface t10 x11)) then some (.pan (.iface t10 x11)) else none)))) else (bif (decide ((((Sl.len w) : Nat) : Int) > (20 : Int))) then (tkOut (env.pf 21 []) none (fun v9 => (tkBool v9 none fun b10 => some (.ret (.bool b10)))) (fun p9 => (tkIfc p9 none fun t10 x11 => (bif (flatP (.iface t10 x11)) then some (.pan (.iface t10 x11)) else none)))) else (bif (decide ((((Sl.len (Truth.vols t)) : Nat) : Int) > (20 : Int))) then (tkOut (env.pf 21 []) none (fun v9 => (tkBool v9 none fun b10 => some (.ret (.bool b10)))) (fun p9 => (tkIfc p9 none fun t10 x11 => (bif (flatP (.iface t10 x11)) then some (.pan (.iface t10 x11)) else none)))) else (bif (decide ((((Sl.len (Truth.rates t)) : Nat) : Int) > (20 : Int))) then (tkOut (env.pf 21 []) none (fun v9 => (tkBool v9 none fun b10 => some (.ret (.bool b10)))) (fun p9 => (tkIfc p9 none fun t10 x11 => (bif (flatP (.iface t10 x11)) then some (.pan (.iface t10 x11)) else none)))) else (tkOut (env.pf 24 [(.agg (eCav c)), (sl eInt 1 w), (i64 n)]) none (fun v9 => (tkBool v9 none fun b10 => (tkOut (env.pf 23 [(.agg (eCav c)), (sl eStg 4 l), (.bool b10)]) none (fun v11 => (tkInt v11 none fun q12 n13 => (bif (decide (q12 = .i64)) then (bif (n13 != (0 : Int)) then (tkOut (env.pf 21 []) none (fun v14 => (tkBool v14 none fun b15 => some (.ret (.bool b15)))) (fun p14 => (tkIfc p14 none fun t15 x16 => (bif (flatP (.iface t15 x16)) then some (.pan (.iface t15 x16)) else none)))) else (tkOut (env.pf 20 [(.agg (eCav c)), (sl eStg 4 l), (i64 (5 : Int)), (i64 (100 : Int)), (i64 (8 : Int))]) none (fun v14 => (tkBool v14 none fun b15 => (bif (!b15) then (tkOut (env.pf 21 []) none (fun v16 => (tkBool v16 none fun b17 => some (.ret (.bool b17)))) (fun p16 => (tkIfc p16 none fun t17 x18 => (bif (flatP (.iface t17 x18)) then some (.pan (.iface t17 x18)) else none)))) else (tkOut (env.pf 47 [(.agg (eCav c)), (sl eStg 4 l), (.agg (eTruth t))]) none (fun v16 => (tkBool v16 none fun b17 => (bif (!b17) then (tkOut (env.pf 21 []) none (fun v18 => (tkBool v18 none fun b19 => some (.ret (.bool b19)))) (fun p18 => (tkIfc p18 none fun t19 x20 => (bif (flatP (.iface t19 x20)) then some (.pan (.iface t19 x20)) else none)))) else (tkOut (env.pf 42 [(.agg (eCav c)), (sl eStg 4 l)]) none (fun v18 => (tkTup v18 none fun l19 => (tkCons l19 none fun v20 r21 => (tkAgg v20 none fun l22 => (tkCons l22 none fun v23 r24 => (tkRow v23 none fun nl25 n26 wd27 g28 => (tkCons r24 none fun v29 r30 => (tkRow v29 none fun nl31 n32 wd33 g34 => (tkCons r30 none fun v35 r36 => (tkInt v35 none fun q37 n38 => (tkCons r36 none fun v39 r40 => (tkInt v39 none fun q41 n42 => (tkNil r40 none ((tkCons r21 none fun v43 r44 => (tkInt v43 none fun q45 n46 => (tkNil r44 none ((tkOut (env.pf 22 [(.agg (eCav c)), (sl eStg 4 l), (sl eInt 1 w), (i64 n)]) none (fun v47 => (tkTup v47 none fun l48 => (tkCons l48 none fun v49 r50 => (tkAgg v49 none fun l51 => (tkCons l51 none fun v52 r53 => (tkInt v52 none fun q54 n55 => (tkCons r53 none fun v56 r57 => (tkInt v56 none fun q58 n59 => (tkNil r57 none ((tkCons r50 none fun v60 r61 => (tkInt v60 none fun q62 n63 => (tkNil r61 none ((tkOut (env.pf 44 [(.agg (eCav c)), (sl eStg 4 l), (.agg (eTruth t))]) none (fun v64 => (tkTup v64 none fun l65 => (tkCons l65 none fun v66 r67 => (tkAgg v66 none fun l68 => (tkCons l68 none fun v69 r70 => (tkRow v69 none fun nl71 n72 wd73 g74 => (tkCons r70 none fun v75 r76 => (tkInt v75 none fun q77 n78 => (tkCons r76 none fun v79 r80 => (tkInt v79 none fun q81 n82 => (tkCons r80 none fun v83 r84 => (tkInt v83 none fun q85 n86 => (tkCons r84 none fun v87 r88 => (tkInt v87 none fun q89 n90 => (tkNil r88 none ((tkCons r67 none fun v91 r92 => (tkInt v91 none fun q93 n94 => (tkNil r92 none ((bif (decide (q45 = .i64)) then (bif (n46 != (0 : Int)) then some (.ret (.bool false)) else (bif (decide (q62 = .i64)) then (bif (n63 != (0 : Int)) then some (.ret (.bool false)) else (bif (decide (q93 = .i64)) then (bif (n94 != (0 : Int)) then some (.ret (.bool false)) else (bif (((n26 : Nat) : Int) != (((Sl.len (Cav.slices c)) : Nat) : Int)) then some (.ret (.bool false)) else (bif (((n32 : Nat) : Int) != (((Sl.len (Cav.slices c)) : Nat) : Int)) then some (.ret (.bool false)) else (tkOut (env.pf 45 [(.agg (eCav c)), (.agg [(.row nl71 n72 wd73 g74), (.int q77 n78), (.int q81 n82), (.int q85 n86), (.int q89 n90)])]) none (fun v95 => (tkBool v95 none fun b96 => (bif (!b96) then some (.ret (.bool false)) else (L17x0 env F c l t w n F (0 : Int) nl25 n26 wd27 g28 nl31 n32 wd33 g34 q37 n38 q41 n42 q54 n55 q58 n59 nl71 n72 wd73 g74 q77 n78 q81 n82 q85 n86 q89 n90)))) (fun p95 => (tkIfc p95 none fun t96 x97 => (bif (flatP (.iface t96 x97)) then some (.pan (.iface t96 x97)) else none))))))) else none)) else none)) else none))))))))))))))))))))) (fun p64 => (tkIfc p64 none fun t65 x66 => (bif (flatP (.iface t65 x66)) then some (.pan (.iface t65 x66)) else none)))))))))))))))))) (fun p47 => (tkIfc p47 none fun t48 x49 => (bif (flatP (.iface t48 x49)) then some (.pan (.iface t48 x49)) else none)))))))))))))))))))))) (fun p18 => (tkIfc p18 none fun t19 x20 => (bif (flatP (.iface t19 x20)) then some (.pan (.iface t19 x20)) else none))))))) (fun p16 => (tkIfc p16 none fun t17 x18 => (bif (flatP (.iface t17 x18)) then some (.pan (.iface t17 x18)) else none))))))) (fun p14 => (tkIfc p14 none fun t15 x16 => (bif (flatP (.iface t15 x16)) then some (.pan (.iface t15 x16)) else none))))) else none))) (fun p11 => (tkIfc p11 none fun t12 x13 => (bif (flatP (.iface t12 x13)) then some (.pan (.iface t12 x13)) else none)))))) (fun p9 => (tkIfc p9 none fun t10 x11 => (bif (flatP (.iface t10 x11)) then some (.pan (.iface t10 x11)) else none))))))))))) (fun p7 => (tkIfc p7 none fun t8 x9 => (bif (flatP (.iface t8 x9)) then some (.pan (.iface t8 x9)) else none)))) := by kernel_rfl
theorem L17x0s (env : Env) (F : Nat) (c : Cav) (l : Sl Stg) (t : Truth) (w : Sl Int) (n : Int) (fu : Nat) (i0 : Int) (b1 : Bool) (k2 : Nat) (k3 : Nat) (g4 : Nat → List V) (b5 : Bool) (k6 : Nat) (k7 : Nat) (g8 : Nat → List V) (q9 : IntKind) (i10 : Int) (q11 : IntKind) (i12 : Int) (q13 : IntKind) (i14 : Int) (q15 : IntKind) (i16 : Int) (b17 : Bool) (k18 : Nat) (k19 : Nat) (g20 : Nat → List V) (q21 : IntKind) (i22 : Int) (q23 : IntKind) (i24 : Int) (q25 : IntKind) (i26 : Int) (q27 : IntKind) (i28 : Int) : L17x0 env F c l t w n (fu + 1) i0 b1 k2 k3 g4 b5 k6 k7 g8 q9 i10 q11 i12 q13 i14 q15 i16 b17 k18 k19 g20 q21 i22 q23 i24 q25 i26 q27 i28 = (bif (decide (i0 < (((Sl.len (Cav.slices c)) : Nat) : Int))) then (L17x1 env F c l t w n fu F i0 (0 : Int) (0 : Int) b1 k2 k3 g4 b5 k6 k7 g8 q9 i10 q11 i12 q13 i14 q15 i16 b17 k18 k19 g20 q21 i22 q23 i24 q25 i26 q27 i28) else (tkOut (env.pf 46 [(.agg [(.row b17 k18 k19 g20), (.int q21 i22), (.int q23 i24), (.int q25 i26), (.int q27 i28)]), (sl eInt 1 w), (i64 n)]) none (fun v37 => (tkInt v37 none fun q38 n39 => (bif (decide (q21 = q9)) then (bif (decide (i22 ≥ i10)) then (bif (decide (q21 = q11)) then (bif (decide (i22 ≤ i12)) then (bif (decide (q38 = q13)) then (bif (decide (n39 ≥ i14)) then (bif (decide (q38 = q15)) then (bif (decide (n39 ≤ i16)) then (tkOut (env.pf 21 []) none (fun v40 => (tkBool v40 none fun b41 => some (.ret (.bool b41)))) (fun p40 => (tkIfc p40 none fun t41 x42 => (bif (flatP (.iface t41 x42)) then some (.pan (.iface t41 x42)) else none)))) else some (.ret (.bool false))) else none) else some (.ret (.bool false))) else none) else some (.ret (.bool false))) else none) else some (.ret (.bool false))) else none))) (fun p37 => (tkIfc p37 none fun t38 x39 => (bif (flatP (.iface t38 x39)) then some (.pan (.iface t38 x39)) else none))))) := by kernel_rfl
theorem L17x1s (env : Env) (F : Nat) (c : Cav) (l : Sl Stg) (t : Truth) (w : Sl Int) (n : Int) (m0 : Nat) (fu : Nat) (i0 : Int) (i1 : Int) (i2 : Int) (b3 : Bool) (k4 : Nat) (k5 : Nat) (g6 : Nat → List V) (b7 : Bool) (k8 : Nat) (k9 : Nat) (g10 : Nat → List V) (q11 : IntKind) (i12 : Int) (q13 : IntKind) (i14 : Int) (q15 : IntKind) (i16 : Int) (q17 : IntKind) (i18 : Int) (b19 : Bool) (k20 : Nat) (k21 : Nat) (g22 : Nat → List V) (q23 : IntKind) (i24 : Int) (q25 : IntKind) (i26 : Int) (q27 : IntKind) (i28 : Int) (q29 : IntKind) (i30 : Int) : L17x1 env F c l t w n m0 (fu + 1) i0 i1 i2 b3 k4 k5 g6 b7 k8 k9 g10 q11 i12 q13 i14 q15 i16 q17 i18 b19 k20 k21 g22 q23 i24 q25 i26 q27 i28 q29 i30 = (bif (decide (i2 < (((Sl.len l) : Nat) : Int))) then (bif (decide ((0 : Int) ≤ i2)) then (bif (decide (i2 < (((Sl.len l) : Nat) : Int))) then (bif (decide ((0 : Int) ≤ i2)) then (bif (decide (i2 < (((Sl.len l) : Nat) : Int))) then (bif (decide ((0 : Int) ≤ i2)) then (bif (decide (i2 < (((Sl.len (Truth.rates t)) : Nat) : Int))) then (tkOut (env.pf 50 [(.agg (eCav c)), (.agg (eStg (Sl.el l (Int.toNat i2)))), (sl eInt 1 (Sl.el (Truth.rates t) (Int.toNat i2)))]) none (fun v40 => (tkRow v40 none fun nl41 n42 wd43 g44 => (bif (wd43 == 1) then (bif (decide ((0 : Int) ≤ i0)) then (bif (decide (i0 < ((n42 : Nat) : Int))) then (tkCons (g44 (Int.toNat i0)) none fun v45 r46 => (tkInt v45 none fun q47 n48 => (bif (decide (.i64 = q47)) then (L17x1 env F c l t w n m0 fu i0 (IntKind.wrap .i64 (i1 + (IntKind.wrap .i64 ((Stg.water (Sl.el l (Int.toNat i2))) * n48)))) (IntKind.wrap .i64 (i2 + (1 : Int))) b3 k4 k5 g6 b7 k8 k9 g10 q11 i12 q13 i14 q15 i16 q17 i18 b19 k20 k21 g22 q23 i24 q25 i26 q27 i28 q29 i30) else none))) else none) else none) else none))) (fun p40 => (tkIfc p40 none fun t41 x42 => (bif (flatP (.iface t41 x42)) then none else none)))) else none) else none) else none) else none) else none) else none) else (bif (k21 == 1) then (bif (decide ((0 : Int) ≤ i0)) then (bif (decide (i0 < ((k20 : Nat) : Int))) then (tkCons (g22 (Int.toNat i0)) none fun v40 r41 => (tkInt v40 none fun q42 n43 => (bif (k9 == 2) then (bif (decide ((0 : Int) ≤ i0)) then (bif (decide (i0 < ((k8 : Nat) : Int))) then (tkCons (g10 (Int.toNat i0)) none fun v44 r45 => (tkInt v44 none fun q46 n47 => (bif (decide (q42 = q46)) then (bif (decide (n43 < n47)) then some (.ret (.bool false)) else (bif (k21 == 1) then (bif (decide ((0 : Int) ≤ i0)) then (bif (decide (i0 < ((k20 : Nat) : Int))) then (tkCons (g22 (Int.toNat i0)) none fun v48 r49 => (tkInt v48 none fun q50 n51 => (bif (k9 == 2) then (bif (decide ((0 : Int) ≤ i0)) then (bif (decide (i0 < ((k8 : Nat) : Int))) then (tkCons (List.drop 1 (g10 (Int.toNat i0))) none fun v52 r53 => (tkInt v52 none fun q54 n55 => (bif (decide (q50 = q54)) then (bif (decide (n51 > n55)) then some (.ret (.bool false)) else (bif (k5 == 2) then (bif (decide ((0 : Int) ≤ i0)) then (bif (decide (i0 < ((k4 : Nat) : Int))) then (tkCons (g6 (Int.toNat i0)) none fun v56 r57 => (tkInt v56 none fun q58 n59 => (bif (decide (.i64 = q58)) then (bif (decide (i1 < n59)) then some (.ret (.bool false)) else (bif (k5 == 2) then (bif (decide ((0 : Int) ≤ i0)) then (bif (decide (i0 < ((k4 : Nat) : Int))) then (tkCons (List.drop 1 (g6 (Int.toNat i0))) none fun v60 r61 => (tkInt v60 none fun q62 n63 => (bif (decide (.i64 = q62)) then (bif (decide (i1 > n63)) then some (.ret (.bool false)) else (bif (k21 == 1) then (bif (decide ((0 : Int) ≤ i0)) then (bif (decide (i0 < ((k20 : Nat) : Int))) then (tkCons (g22 (Int.toNat i0)) none fun v64 r65 => (tkInt v64 none fun q66 n67 => (bif (decide ((0 : Int) ≤ i0)) then (bif (decide (i0 < (((Sl.len (Truth.vols t)) : Nat) : Int))) then (bif (decide ((0 : Int) ≤ i0)) then (bif (decide (i0 < (((Sl.len (Cav.slices c)) : Nat) : Int))) then (bif (decide (q66 = .i64)) then (bif (n67 != (IntKind.wrap .i64 ((Sl.el (Truth.vols t) (Int.toNat i0)) + (IntKind.wrap .i64 ((Slc.opn (Sl.el (Cav.slices c) (Int.toNat i0))) * i1))))) then some (.ret (.bool false)) else (L17x0 env F c l t w n m0 (IntKind.wrap .i64 (i0 + (1 : Int))) b3 k4 k5 g6 b7 k8 k9 g10 q11 i12 q13 i14 q15 i16 q17 i18 b19 k20 k21 g22 q23 i24 q25 i26 q27 i28 q29 i30)) else none) else none) else none) else none) else none))) else none) else none) else none)) else none))) else none) else none) else none)) else none))) else none) else none) else none)) else none))) else none) else none) else none))) else none) else none) else none)) else none))) else none) else none) else none))) else none) else none) else none)) := by kernel_rfl
end Go.Sim.Le


namespace Go.Sim.Le
open Go.Proofs
theorem fitInt {k : IntKind} {c : V} (h : Fit (.int k) c) : ∃ n, c = .int k n ∧ k.min ≤ n ∧ n ≤ k.max := by
  cases h with
  | int h => exact ⟨_, rfl, h⟩
theorem fitL_nil {cs : List V} (h : FitL [] cs) : cs = [] := by
  have := h.1
  exact List.eq_nil_of_length_eq_zero this
theorem fitL_cons {s : Sh} {l : List Sh} {cs : List V} (h : FitL (s :: l) cs) : ∃ c cs', cs = c :: cs' ∧ Fit s c ∧ FitL l cs' := by
  obtain ⟨h1, h2⟩ := h
  cases cs with
  | nil => simp at h1
  | cons c cs' => exact ⟨c, cs', rfl, h2 0 s c rfl rfl, by simpa using h1, fun j s' c' g1 g2 => h2 (j + 1) s' c' (by simpa using g1) (by simpa using g2)⟩
theorem fitL_int {k : IntKind} {l : List Sh} {cs : List V} (h : FitL (.int k :: l) cs) : ∃ n cs', cs = .int k n :: cs' ∧ FitL l cs' := by
  obtain ⟨c, cs', rfl, h1, h2⟩ := fitL_cons h
  obtain ⟨n, rfl, _⟩ := fitInt h1
  exact ⟨n, cs', rfl, h2⟩
abbrev SlOk {α : Type} (s : Sl α) : Prop := s.len ≤ 140737488355328 ∧ (s.nl = true → s.len = 0)
theorem fitRow {α : Type} {e : α → List V} {P : α → Prop} {l : List Sh} (dec : ∀ cs, FitL l cs → ∃ a : α, cs = e a ∧ P a) {c : V} (h : Fit (.row l) c) : ∃ s : Sl α, c = sl e l.length s ∧ SlOk s ∧ ∀ i, P (s.el i) := by
  cases h with
  | row h hn hl hf =>
    rename_i nl len get
    have hx : ∀ i, ∃ a : α, get i = e a ∧ P a := fun i => dec _ ⟨hl i, hf i⟩
    refine ⟨⟨nl, len, fun i => (hx i).choose⟩, ?_, ⟨h, hn⟩, fun i => (hx i).choose_spec.2⟩
    show V.row nl len l.length get = V.row nl len l.length fun i => e (hx i).choose
    congr 1
    funext i
    exact (hx i).choose_spec.1
theorem fitL_row {α : Type} {e : α → List V} {P : α → Prop} {l r : List Sh} (dec : ∀ cs, FitL l cs → ∃ a : α, cs = e a ∧ P a) {cs : List V} (h : FitL (.row l :: r) cs) : ∃ (s : Sl α) (cs' : List V), cs = sl e l.length s :: cs' ∧ SlOk s ∧ (∀ i, P (s.el i)) ∧ FitL r cs' := by
  obtain ⟨c, cs', rfl, h1, h2⟩ := fitL_cons h
  obtain ⟨s, rfl, h3, h4⟩ := fitRow dec h1
  exact ⟨s, cs', rfl, h3, h4, h2⟩
abbrev i8 : Sh := .int .i64
abbrev shSlc : List Sh := [i8, i8, i8, i8, i8, i8, i8]
abbrev shCav : List Sh := [.row shSlc, i8, i8]
abbrev shStg : List Sh := [i8, i8, i8, i8]
abbrev shTruth : List Sh := [.row [i8], .row [.row [i8]]]
theorem decInt (cs : List V) (h : FitL [i8] cs) : ∃ n : Int, cs = eInt n ∧ I64 n := by
  obtain ⟨c, cs', rfl, h1, h2⟩ := fitL_cons h
  obtain ⟨n, rfl, m1, m2⟩ := fitInt h1
  obtain rfl := fitL_nil h2
  refine ⟨n, rfl, ?_⟩
  exact ⟨m1, m2⟩
theorem decIL (cs : List V) (h : FitL [.row [i8]] cs) : ∃ s : Sl Int, cs = eIL s ∧ SlOk s := by
  obtain ⟨s, _, rfl, h1, _, h2⟩ := fitL_row decInt h
  obtain rfl := fitL_nil h2
  exact ⟨s, rfl, h1⟩
theorem decSlc (cs : List V) (h : FitL shSlc cs) : ∃ c : Slc, cs = eSlc c ∧ True := by
  obtain ⟨a0, _, rfl, h1⟩ := fitL_int h
  obtain ⟨a1, _, rfl, h2⟩ := fitL_int h1
  obtain ⟨a2, _, rfl, h3⟩ := fitL_int h2
  obtain ⟨a3, _, rfl, h4⟩ := fitL_int h3
  obtain ⟨a4, _, rfl, h5⟩ := fitL_int h4
  obtain ⟨a5, _, rfl, h6⟩ := fitL_int h5
  obtain ⟨a6, _, rfl, h7⟩ := fitL_int h6
  obtain rfl := fitL_nil h7
  exact ⟨⟨⟨a0, a1⟩, a2, a3, ⟨a4, a5⟩, a6⟩, rfl, trivial⟩
theorem decStg (cs : List V) (h : FitL shStg cs) : ∃ c : Stg, cs = eStg c ∧ True := by
  obtain ⟨a0, _, rfl, h1⟩ := fitL_int h
  obtain ⟨a1, _, rfl, h2⟩ := fitL_int h1
  obtain ⟨a2, _, rfl, h3⟩ := fitL_int h2
  obtain ⟨a3, _, rfl, h4⟩ := fitL_int h3
  obtain rfl := fitL_nil h4
  exact ⟨⟨a0, a1, a2, a3⟩, rfl, trivial⟩
theorem decCav (cs : List V) (h : FitL shCav cs) : ∃ c : Cav, cs = eCav c ∧ SlOk c.slices := by
  obtain ⟨a, _, rfl, h0, _, h1⟩ := fitL_row decSlc h
  obtain ⟨b, _, rfl, h2⟩ := fitL_int h1
  obtain ⟨d, _, rfl, h3⟩ := fitL_int h2
  obtain rfl := fitL_nil h3
  exact ⟨⟨a, b, d⟩, rfl, h0⟩
theorem decTruth (cs : List V) (h : FitL shTruth cs) : ∃ t : Truth, cs = eTruth t ∧ SlOk t.vols ∧ SlOk t.rates ∧ ∀ i, SlOk (t.rates.el i) := by
  obtain ⟨a, _, rfl, h0, _, h1⟩ := fitL_row decInt h
  obtain ⟨b, _, rfl, h2, h3, h4⟩ := fitL_row decIL h1
  obtain rfl := fitL_nil h4
  exact ⟨⟨a, b⟩, rfl, h0, h2, h3⟩
theorem own : ownKnob Try.prog.godebug = none := by kernel_rfl
end Go.Sim.Le


namespace Go.Sim.Le
open Go.Proofs
variable (F d : Nat)
theorem s19 (c : Cav) : (E F (d + 1)).pf 19 [.agg (eCav c)] = some (.ret (.bool (decide (c.slices.len ≤ 20)))) := by
  rw [E_pf, t19]
  refine b3 (b2 ?_)
  simp only [decide_eq_true_iff]
  omega
theorem z0' {α : Type} (a b : α) : (bif ((0 : Int) != 0) then a else b) = b := rfl
theorem s4 (c : Cav) (s : Stg) (hB : c.slices.len < Big) (hCF : c.slices.len < F) (hF : 1000000000 < F) : (E F (d + 102)).pf 4 [.agg (eCav c), .agg (eStg s)] = some (.ret (.bool true)) := by
  have q19 : (E F (d + 101)).pf 19 [.agg (eCav c)] = _ := s19 F (d + 100) c
  have q21 : (E F (d + 101)).pf 21 [] = _ := s21 F (d + 82) hF
  have q26 : (E F (d + 101)).pf 26 [.agg (eCav c), .agg (eStg s)] = _ := s26 F (d + 95) c s hB hCF hF
  have q27 : (E F (d + 101)).pf 27 [.agg (eCav c)] = _ := s27 F (d + 99) c hB hCF
  have q28 : (E F (d + 101)).pf 28 [.agg (eCav c), .agg (eStg s)] = _ := s28 F (d + 99) c s hB
  rw [E_pf, t4]
  by_cases h0 : c.slices.len ≤ 20
  · rw [decide_eq_true h0] at q19
    by_cases h1 : CavOk c
    · rw [decide_eq_true h1] at q27
      by_cases h2 : StgOk c.slices.len s
      · rw [decide_eq_true h2] at q28
        rw [if_pos ⟨h1, h2⟩] at q26
        have q29 : (E F (d + 101)).pf 29 [.agg (eCav c), .agg (eStg s)] = _ := s29 F d h1 h2 (by omega)
        simp only [q19, q26, q27, q28, q29, q21, tkOut_ret, tkBool_b, tkTup_t, tkAgg_a, tkCons_c, tkInt_i, tkNil_n, Bool.not_true, pF, decide_true, pT, beq_self_eq_true, Bool.and_self]
      · rw [decide_eq_false h2] at q28
        rw [if_neg (fun h => h2 h.2)] at q26
        simp only [q19, q26, q27, q28, q21, tkOut_ret, tkBool_b, tkTup_t, tkAgg_a, tkCons_c, tkInt_i, tkNil_n, Bool.not_true, Bool.not_false, pF, decide_true, pT, beq_self_eq_true, Bool.and_self]
    · rw [decide_eq_false h1] at q27
      rw [if_neg (fun h => h1 h.1)] at q26
      simp only [q19, q26, q27, q21, tkOut_ret, tkBool_b, tkTup_t, tkAgg_a, tkCons_c, tkInt_i, tkNil_n, Bool.not_true, Bool.not_false, pF, decide_true, pT, beq_self_eq_true, Bool.and_self]
  · rw [decide_eq_false h0] at q19
    simp only [q19, q21, tkOut_ret, tkBool_b, Bool.not_false, pT]
theorem lenB {n : Nat} (h : n ≤ 140737488355328) : n < Big := by show n < 4611686018427387904; omega
end Go.Sim.Le


namespace Go.Sim.Le
open Go.Proofs
variable (F d : Nat)
theorem s20 (c : Cav) (l : Sl Stg) (x y z : Int) (hC : c.slices.len < Big) (hCF : c.slices.len < F) (hB : l.len < Big) (hF : l.len < F) : (E F (d + 5)).pf 20 [.agg (eCav c), sl eStg 4 l, .int .i64 x, .int .i64 y, .int .i64 z] = some (.ret (.bool (decide (errP c l true ≠ 0 ∨ (c.slices.len : Int) ≤ x ∧ c.hold ≤ y ∧ (l.len : Int) ≤ z)))) := by
  rw [E_pf, t20]
  simp only [s23 F d c l true hC hCF hB hF, tkOut_ret, tkInt_i, decide_true, pT]
  by_cases h0 : errP c l true = 0
  · rw [h0, show ((0 : Int) != 0) = false from rfl, pF]
    by_cases h1 : (c.slices.len : Int) ≤ x
    · by_cases h2 : c.hold ≤ y
      · rw [decide_eq_true h1, decide_eq_true h2, pT, pT]
        exact b3 (b2 (by simp [h1, h2]))
      · rw [decide_eq_true h1, decide_eq_false h2, pT, pF]
        exact b3 (b2 (by simp [h2]))
    · rw [decide_eq_false h1, pF]
      exact b3 (b2 (by simp [h1]))
  · rw [show (errP c l true != 0) = true by simpa using h0, pT]
    exact b3 (b2 (by simp [h0]))
theorem s3 (c : Cav) (l : Sl Stg) (w : Sl Int) (n : Int) (hC : c.slices.len < Big) (hCF : c.slices.len < F) (hB : l.len < Big) (hLF : l.len < F) (hW : w.len < Big) (hWF : w.len < F) (hF : 1000000000 < F) : (E F (d + 20)).pf 3 [.agg (eCav c), sl eStg 4 l, sl eInt 1 w, .int .i64 n] = some (.ret (.bool true)) := by
  have q19 : (E F (d + 19)).pf 19 [.agg (eCav c)] = _ := s19 F (d + 18) c
  have q21 : (E F (d + 19)).pf 21 [] = _ := s21 F d hF
  have q20 : (E F (d + 19)).pf 20 [.agg (eCav c), sl eStg 4 l, .int .i64 5, .int .i64 60, .int .i64 4] = _ := s20 F (d + 14) c l 5 60 4 hC hCF hB hLF
  have q22 : (E F (d + 19)).pf 22 [.agg (eCav c), sl eStg 4 l, sl eInt 1 w, .int .i64 n] = _ := s22 F (d + 4) c l w n hC hCF hB hLF hW hWF (by omega)
  have q24 : (E F (d + 19)).pf 24 [.agg (eCav c), sl eInt 1 w, .int .i64 n] = _ := s24 F (d + 17) c w n hC hW hWF
  have q23 : (E F (d + 19)).pf 23 [.agg (eCav c), sl eStg 4 l, .bool (decide (WtOk c w n))] = _ := s23 F (d + 15) c l (decide (WtOk c w n)) hC hCF hB hLF
  rw [E_pf, t3]
  by_cases h0 : c.slices.len ≤ 20
  · rw [decide_eq_true h0] at q19
    by_cases h1 : (l.len : Int) > 20
    · simp only [q19, q21, tkOut_ret, tkBool_b, Bool.not_true, pF, decide_eq_true h1, pT]
    by_cases h2 : (w.len : Int) > 20
    · simp only [q19, q21, tkOut_ret, tkBool_b, Bool.not_true, pF, decide_eq_false h1, decide_eq_true h2, pT]
    simp only [q19, q20, tkOut_ret, tkBool_b, Bool.not_true, pF, decide_eq_false h1, decide_eq_false h2]
    generalize decide (errP c l true ≠ 0 ∨ (c.slices.len : Int) ≤ 5 ∧ c.hold ≤ 60 ∧ (l.len : Int) ≤ 4) = e
    cases e with
    | false => simp only [q21, tkOut_ret, tkBool_b, Bool.not_false, pT]
    | true =>
      by_cases h3 : errP c l (decide (WtOk c w n)) = 0
      · obtain ⟨h8, hc, hl, hw⟩ := errP_0.1 h3
        have hw' : WtOk c w n := of_decide_eq_true hw
        have hm : MeaOk c ⟨w, n⟩ := ⟨hw'.2.1, fun i hi => hw'.1 i (by rw [hw'.2.1]; exact hi), hw'.2.2.1, hw'.2.2.2⟩
        have q25 : (E F (d + 19)).pf 25 [.agg (eCav c), sl eStg 4 l, sl eInt 1 w, .int .i64 n] = _ := s25 F (d + 14) hc hm l (by omega) hl (by omega)
        rw [if_pos h3] at q22
        rw [h3] at q23
        simp only [q21, q22, q23, q24, q25, tkOut_ret, tkBool_b, tkTup_t, tkAgg_a, tkCons_c, tkInt_i, tkNil_n, Bool.not_true, pF, decide_true, pT, z0', beq_self_eq_true, Bool.and_self]
      · rw [if_neg h3] at q22
        have e1 : (errP c l (decide (WtOk c w n)) != 0) = true := by simpa using h3
        simp only [q21, q22, q23, q24, tkOut_ret, tkBool_b, tkTup_t, tkAgg_a, tkCons_c, tkInt_i, tkNil_n, Bool.not_true, pF, decide_true, pT, e1, beq_self_eq_true, Bool.and_self]
  · rw [decide_eq_false h0] at q19
    simp only [q19, q21, tkOut_ret, tkBool_b, Bool.not_false, pT]
end Go.Sim.Le


namespace Go.Sim.Le
open Go.Proofs
variable (F d : Nat)
def oneW (n u : Nat) : Int := if u = n then 1 else 0
def negW (q u : Nat) : Int := if u < q then -1 else 0
section
variable {c : Cav} (hc : CavOk c) (l : Sl Stg) (hL : l.len ≤ 300) (hs : ∀ i, i < l.len → StgOk c.slices.len (l.el i)) (hF : 400 < F)
include hc hL hs hF
def upW (b q u : Nat) : Int := if b ≤ u ∧ u < q then 1 else 0
end
end Go.Sim.Le


namespace Go.Sim.Le
open Go.Proofs
abbrev TruthOk (c : Cav) (n : Nat) (t : Truth) : Prop := t.vols.len = c.slices.len ∧ t.rates.len = n ∧ (∀ i, i < t.vols.len → (c.slices.el i).vol.lo ≤ t.vols.el i ∧ t.vols.el i ≤ (c.slices.el i).vol.hi) ∧
  ∀ k, k < t.rates.len → (t.rates.el k).len = c.slices.len ∧ ∀ i, i < c.slices.len → (c.slices.el i).rate.lo ≤ (t.rates.el k).el i ∧ (t.rates.el k).el i ≤ (c.slices.el i).rate.hi
variable (F d : Nat)
section
variable (c : Cav) (l : Sl Stg) (t : Truth) (hcl : c.slices.len < Big) (htl : t.rates.len < Big) (hCF : c.slices.len < F) (hTF : t.rates.len < F)
def rateB (k i : Nat) : Bool := decide ((c.slices.el i).rate.lo ≤ (t.rates.el k).el i ∧ (t.rates.el k).el i ≤ (c.slices.el i).rate.hi)
def rowB (k : Nat) : Bool := decide ((t.rates.el k).len = c.slices.len) && allF (rateB c t k) c.slices.len 0
theorem rowB_iff (k : Nat) : rowB c t k = true ↔ ((t.rates.el k).len = c.slices.len ∧ ∀ i, i < c.slices.len → (c.slices.el i).rate.lo ≤ (t.rates.el k).el i ∧ (t.rates.el k).el i ≤ (c.slices.el i).rate.hi) := by
  unfold rowB
  rw [allF_dec]
  simp only [Bool.and_eq_true, decide_eq_true_eq, rateB]
include hcl htl hCF hTF
theorem l87x2 (m0 k : Nat) (hk : (t.rates.el k).len = c.slices.len) (R : Option Out) : ∀ j i fu, i + j = c.slices.len → j < fu →
    (bif allF (rateB c t k) j i then L87x1 (E F (d + 1)) F c l t m0 (IntKind.i64.wrap ((k : Int) + 1)) else some (.ret (.bool false))) = R →
    L87x2 (E F (d + 1)) F c l t m0 fu k (t.rates.el k).nl (t.rates.el k).len (fun u => [.int .i64 ((t.rates.el k).el u)]) (t.rates.el k).len i = R := by
  have hB : c.slices.len < 4611686018427387904 := hcl
  intro j
  induction j with
  | zero =>
    intro i fu h hf K
    obtain ⟨fu, rfl⟩ : ∃ k, fu = k + 1 := ⟨fu - 1, by omega⟩
    rw [L87x2s, decide_eq_false (by omega), pF]
    simp only [allF, cond_true] at K
    exact K
  | succ j ih =>
    intro i fu h hf K
    obtain ⟨fu, rfl⟩ : ∃ k, fu = k + 1 := ⟨fu - 1, by omega⟩
    rw [L87x2s]
    simp (disch := omega) only [decide_eq_true, decide_true, pT, Int.toNat_natCast, tkCons_c, tkInt_i, s59, tkOut_ret, tkBool_b]
    simp only [allF] at K
    by_cases hr : (c.slices.el i).rate.lo ≤ (t.rates.el k).el i ∧ (t.rates.el k).el i ≤ (c.slices.el i).rate.hi
    · rw [show rateB c t k i = true from decide_eq_true hr, Bool.true_and] at K
      rw [decide_eq_true hr, Bool.not_true, pF, wrS (by omega)]
      exact ih (i + 1) fu (by omega) (by omega) K
    · rw [show rateB c t k i = false from decide_eq_false hr, Bool.false_and, cond_false] at K
      rw [decide_eq_false hr, Bool.not_false, pT]
      exact K
theorem l87x1 : ∀ j k fu, k + j = t.rates.len → j < fu → L87x1 (E F (d + 1)) F c l t fu k = some (.ret (.bool (allF (rowB c t) j k))) := by
  have hB : c.slices.len < 4611686018427387904 := hcl
  have hT : t.rates.len < 4611686018427387904 := htl
  intro j
  induction j with
  | zero =>
    intro k fu h hf
    obtain ⟨fu, rfl⟩ : ∃ k, fu = k + 1 := ⟨fu - 1, by omega⟩
    rw [L87x1s, decide_eq_false (by omega), pF]
    rfl
  | succ j ih =>
    intro k fu h hf
    obtain ⟨fu, rfl⟩ : ∃ k, fu = k + 1 := ⟨fu - 1, by omega⟩
    rw [L87x1s]
    simp (disch := omega) only [decide_eq_true, decide_true, pT, Int.toNat_natCast]
    by_cases hk : (t.rates.el k).len = c.slices.len
    · rw [show (((t.rates.el k).len : Int) != (c.slices.len : Int)) = false by rw [hk]; simp, pF]
      refine l87x2 F d c l t hcl htl hCF hTF fu k hk _ c.slices.len 0 F (by omega) (by omega) ?_
      simp only [allF, rowB, decide_eq_true hk, Bool.true_and]
      rw [wrS (by omega)]
      cases allF (rateB c t k) c.slices.len 0 with
      | true => rw [cond_true, Bool.true_and]; exact ih (k + 1) fu (by omega) (by omega)
      | false => rw [cond_false, Bool.false_and]
    · rw [show (((t.rates.el k).len : Int) != (c.slices.len : Int)) = true by simp; omega, pT]
      simp only [allF, rowB, decide_eq_false hk, Bool.false_and]
theorem l87x0 (hv : t.vols.len = c.slices.len) : ∀ j i fu, i + j = t.vols.len → j < fu → L87x0 (E F (d + 1)) F c l t fu i = some (.ret (.bool (allF (fun i => decide ((c.slices.el i).vol.lo ≤ t.vols.el i ∧ t.vols.el i ≤ (c.slices.el i).vol.hi)) j i && allF (rowB c t) t.rates.len 0))) := by
  have hB : c.slices.len < 4611686018427387904 := hcl
  intro j
  induction j with
  | zero =>
    intro i fu h hf
    obtain ⟨fu, rfl⟩ : ∃ k, fu = k + 1 := ⟨fu - 1, by omega⟩
    rw [L87x0s, decide_eq_false (by omega), pF]
    exact l87x1 F d c l t hcl htl hCF hTF t.rates.len 0 F (by omega) (by omega)
  | succ j ih =>
    intro i fu h hf
    obtain ⟨fu, rfl⟩ : ∃ k, fu = k + 1 := ⟨fu - 1, by omega⟩
    rw [L87x0s]
    simp (disch := omega) only [decide_eq_true (show (i : Int) < (t.vols.len : Int) by omega), decide_eq_true (show (i : Int) < (c.slices.len : Int) by omega), decide_eq_true (show (0 : Int) ≤ (i : Int) by omega), pT, Int.toNat_natCast, s59, tkOut_ret, tkBool_b]
    simp only [allF]
    cases decide ((c.slices.el i).vol.lo ≤ t.vols.el i ∧ t.vols.el i ≤ (c.slices.el i).vol.hi) with
    | true => rw [Bool.not_true, pF, wrS (by omega), Bool.true_and]; exact ih (i + 1) fu (by omega) (by omega)
    | false => rw [Bool.not_false, pT]; rfl
theorem s87 : (E F (d + 2)).pf 87 [.agg (eCav c), sl eStg 4 l, .agg (eTruth t)] = some (.ret (.bool (decide (TruthOk c l.len t)))) := by
  rw [E_pf, t87]
  by_cases hv : t.vols.len = c.slices.len
  · rw [show ((t.vols.len : Int) != (c.slices.len : Int)) = false by rw [hv]; simp, pF]
    by_cases hr : t.rates.len = l.len
    · rw [show ((t.rates.len : Int) != (l.len : Int)) = false by rw [hr]; simp, pF]
      refine (l87x0 F d c l t hcl htl hCF hTF hv t.vols.len 0 F (by omega) (by omega)).trans (b3 (b2 ?_))
      rw [allF_dec, allF_dec]
      simp only [Bool.and_eq_true, decide_eq_true_eq, rowB_iff]
      exact ⟨fun h => ⟨hv, hr, h.1, h.2⟩, fun h => ⟨h.2.2.1, h.2.2.2⟩⟩
    · rw [show ((t.rates.len : Int) != (l.len : Int)) = true by simp; omega, pT]
      exact b3 (Eq.symm (decide_eq_false fun h => hr h.2.1))
  · rw [show ((t.vols.len : Int) != (c.slices.len : Int)) = true by simp; omega, pT]
    exact b3 (Eq.symm (decide_eq_false fun h => hv h.1))
theorem l47x2 (m0 k : Nat) (hkr : k < t.rates.len) (hk : (t.rates.el k).len = c.slices.len) (R : Option Out) : ∀ j i fu, i + j = c.slices.len → j < fu →
    (bif allF (rateB c t k) j i then L47x1 (E F (d + 1)) F c l t m0 (IntKind.i64.wrap ((k : Int) + 1)) else some (.ret (.bool false))) = R →
    L47x2 (E F (d + 1)) F c l t m0 fu k i = R := by
  have hB : c.slices.len < 4611686018427387904 := hcl
  intro j
  induction j with
  | zero =>
    intro i fu h hf K
    obtain ⟨fu, rfl⟩ : ∃ k, fu = k + 1 := ⟨fu - 1, by omega⟩
    rw [L47x2s, decide_eq_false (by omega), pF]
    simp only [allF, cond_true] at K
    exact K
  | succ j ih =>
    intro i fu h hf K
    obtain ⟨fu, rfl⟩ : ∃ k, fu = k + 1 := ⟨fu - 1, by omega⟩
    rw [L47x2s]
    simp (disch := omega) only [decide_eq_true, decide_true, pT, Int.toNat_natCast, s64, tkOut_ret, tkBool_b]
    simp only [allF] at K
    by_cases hr : (c.slices.el i).rate.lo ≤ (t.rates.el k).el i ∧ (t.rates.el k).el i ≤ (c.slices.el i).rate.hi
    · rw [show rateB c t k i = true from decide_eq_true hr, Bool.true_and] at K
      rw [decide_eq_true hr, Bool.not_true, pF, wrS (by omega)]
      exact ih (i + 1) fu (by omega) (by omega) K
    · rw [show rateB c t k i = false from decide_eq_false hr, Bool.false_and, cond_false] at K
      rw [decide_eq_false hr, Bool.not_false, pT]
      exact K
theorem l47x1 : ∀ j k fu, k + j = t.rates.len → j < fu → L47x1 (E F (d + 1)) F c l t fu k = some (.ret (.bool (allF (rowB c t) j k))) := by
  have hB : c.slices.len < 4611686018427387904 := hcl
  have hT : t.rates.len < 4611686018427387904 := htl
  intro j
  induction j with
  | zero =>
    intro k fu h hf
    obtain ⟨fu, rfl⟩ : ∃ k, fu = k + 1 := ⟨fu - 1, by omega⟩
    rw [L47x1s, decide_eq_false (by omega), pF]
    rfl
  | succ j ih =>
    intro k fu h hf
    obtain ⟨fu, rfl⟩ : ∃ k, fu = k + 1 := ⟨fu - 1, by omega⟩
    rw [L47x1s]
    simp (disch := omega) only [decide_eq_true, decide_true, pT, Int.toNat_natCast]
    by_cases hk : (t.rates.el k).len = c.slices.len
    · rw [show (((t.rates.el k).len : Int) != (c.slices.len : Int)) = false by rw [hk]; simp, pF]
      refine l47x2 F d c l t hcl htl hCF hTF fu k (by omega) hk _ c.slices.len 0 F (by omega) (by omega) ?_
      simp only [allF, rowB, decide_eq_true hk, Bool.true_and]
      rw [wrS (by omega)]
      cases allF (rateB c t k) c.slices.len 0 with
      | true => rw [cond_true, Bool.true_and]; exact ih (k + 1) fu (by omega) (by omega)
      | false => rw [cond_false, Bool.false_and]
    · rw [show (((t.rates.el k).len : Int) != (c.slices.len : Int)) = true by simp; omega, pT]
      simp only [allF, rowB, decide_eq_false hk, Bool.false_and]
theorem l47x0 (hv : t.vols.len = c.slices.len) : ∀ j i fu, i + j = t.vols.len → j < fu → L47x0 (E F (d + 1)) F c l t fu i = some (.ret (.bool (allF (fun i => decide ((c.slices.el i).vol.lo ≤ t.vols.el i ∧ t.vols.el i ≤ (c.slices.el i).vol.hi)) j i && allF (rowB c t) t.rates.len 0))) := by
  have hB : c.slices.len < 4611686018427387904 := hcl
  intro j
  induction j with
  | zero =>
    intro i fu h hf
    obtain ⟨fu, rfl⟩ : ∃ k, fu = k + 1 := ⟨fu - 1, by omega⟩
    rw [L47x0s, decide_eq_false (by omega), pF]
    exact l47x1 F d c l t hcl htl hCF hTF t.rates.len 0 F (by omega) (by omega)
  | succ j ih =>
    intro i fu h hf
    obtain ⟨fu, rfl⟩ : ∃ k, fu = k + 1 := ⟨fu - 1, by omega⟩
    rw [L47x0s]
    simp (disch := omega) only [decide_eq_true (show (i : Int) < (t.vols.len : Int) by omega), decide_eq_true (show (i : Int) < (c.slices.len : Int) by omega), decide_eq_true (show (0 : Int) ≤ (i : Int) by omega), pT, Int.toNat_natCast, s64, tkOut_ret, tkBool_b]
    simp only [allF]
    cases decide ((c.slices.el i).vol.lo ≤ t.vols.el i ∧ t.vols.el i ≤ (c.slices.el i).vol.hi) with
    | true => rw [Bool.not_true, pF, wrS (by omega), Bool.true_and]; exact ih (i + 1) fu (by omega) (by omega)
    | false => rw [Bool.not_false, pT]; rfl
theorem s47 : (E F (d + 2)).pf 47 [.agg (eCav c), sl eStg 4 l, .agg (eTruth t)] = some (.ret (.bool (decide (TruthOk c l.len t)))) := by
  rw [E_pf, t47]
  by_cases hv : t.vols.len = c.slices.len
  · rw [show ((t.vols.len : Int) != (c.slices.len : Int)) = false by rw [hv]; simp, pF]
    by_cases hr : t.rates.len = l.len
    · rw [show ((t.rates.len : Int) != (l.len : Int)) = false by rw [hr]; simp, pF]
      refine (l47x0 F d c l t hcl htl hCF hTF hv t.vols.len 0 F (by omega) (by omega)).trans (b3 (b2 ?_))
      rw [allF_dec, allF_dec]
      simp only [Bool.and_eq_true, decide_eq_true_eq, rowB_iff]
      exact ⟨fun h => ⟨hv, hr, h.1, h.2⟩, fun h => ⟨h.2.2.1, h.2.2.2⟩⟩
    · rw [show ((t.rates.len : Int) != (l.len : Int)) = true by simp; omega, pT]
      exact b3 (Eq.symm (decide_eq_false fun h => hr h.2.1))
  · rw [show ((t.vols.len : Int) != (c.slices.len : Int)) = true by simp; omega, pT]
    exact b3 (Eq.symm (decide_eq_false fun h => hv h.1))
end
end Go.Sim.Le


namespace Go.Sim.Le
open Go.Proofs
abbrev wK (t : Truth) (j : Nat) : Nat → Int := (t.rates.el j).el
abbrev opnF (c : Cav) (i : Nat) : Int := (c.slices.el i).opn
abbrev fallF (c : Cav) (i : Nat) : Int := (c.slices.el i).fall
def volS (c : Cav) (l : Nat → Stg) (t : Truth) : Nat → Nat → Int
  | 0 => t.vols.el
  | j + 1 => fun i => volS c l t j i + opnF c i * (takeRow c (l j) (wK t j) (pathN (l j)) i * (l j).water)
def tkE (c : Cav) (l : Nat → Stg) (t : Truth) (j : Nat) : Int × Int := tkT c (l j) (wK t j) (pathN (l j))
def saltP (c : Cav) (l : Nat → Stg) (t : Truth) : Nat → Int
  | 0 => 0
  | j + 1 => saltP c l t j + (l j).water * (tkE c l t j).1
def sumpS (c : Cav) (l : Nat → Stg) (t : Truth) : Nat → Int
  | 0 => 0
  | j + 1 => sumpS c l t j + (l j).water * pathSum c (l j) (wK t j) (fallF c) (pathN (l j))
def brineS (c : Cav) (l : Nat → Stg) (t : Truth) : Nat → Int
  | 0 => 0
  | j + 1 => brineS c l t j + (1000000 * (l j).water - (l j).water * (tkE c l t j).2)
def outS (c : Cav) (l : Nat → Stg) (t : Truth) : Nat → Int
  | 0 => 0
  | j + 1 => outS c l t j + (1000000 * ((l j).water * (tkE c l t j).1) - c.hold * ((l j).water * (tkE c l t j).2))
def endV (c : Cav) (l : Nat → Stg) (t : Truth) (n : Nat) : List V := [sl eInt 1 ⟨false, c.slices.len, volS c l t n⟩, .int .i64 (sumpS c l t n), .int .i64 (saltP c l t n), .int .i64 (brineS c l t n), .int .i64 (outS c l t n)]
section
variable {c : Cav} (hc : CavOk c) {s : Stg} (hs : StgOk c.slices.len s) (w : Nat → Int) (hw : RatesOk c w)
include hc hs hw
theorem pathSum_in (g : Nat → Int) (hg : ∀ i, i < c.slices.len → 0 ≤ g i ∧ g i ≤ 3000) : ∀ k, k ≤ pathN s → 0 ≤ pathSum c s w g k ∧ pathSum c s w g k ≤ 3000 * (tkT c s w k).1 := by
  intro k
  induction k with
  | zero => intro _; simp [pathSum, tkT]
  | succ k ih =>
    intro h
    have i := ih (by omega)
    have hin := pathAt_in hs (k := k) (by omega)
    have hn := takeN_in hc hs w hw (k := k) (by omega)
    have hgi := hg (pathAt s k).toNat (by omega)
    have m1 : 0 ≤ g (pathAt s k).toNat * takeN c s w k := Int.mul_nonneg hgi.1 hn.1
    have m2 : g (pathAt s k).toNat * takeN c s w k ≤ 3000 * takeN c s w k := Int.mul_le_mul_of_nonneg_right hgi.2 hn.1
    simp only [pathSum, tkT]
    unfold takeN at *
    omega
omit hc hs hw in
theorem pathSum_sub : ∀ k, pathSum c s w (opnF c) k - pathSum c s w (fallF c) k = (tkT c s w k).2 := by
  intro k
  induction k with
  | zero => rfl
  | succ k ih =>
    simp only [pathSum, tkT]
    rw [← ih]
    have : (opnF c (pathAt s k).toNat) * takeN c s w k - (fallF c (pathAt s k).toNat) * takeN c s w k = min (w (pathAt s k).toNat) (c.hold - (tkT c s w k).1) * oAt c s k := by
      rw [← Int.sub_mul, Int.mul_comm]; rfl
    omega
end
theorem opn_in {c : Cav} (hc : CavOk c) : ∀ i, i < c.slices.len → 0 ≤ opnF c i ∧ opnF c i ≤ 3000 := fun i hi => by
  have : 1000 ≤ (c.slices.el i).opn ∧ (c.slices.el i).opn ≤ 3000 := (hc.2.2.2 i hi).2.1
  exact ⟨by show 0 ≤ (c.slices.el i).opn; omega, this.2⟩
theorem fall_in {c : Cav} (hc : CavOk c) : ∀ i, i < c.slices.len → 0 ≤ fallF c i ∧ fallF c i ≤ 3000 := fun i hi => by
  have h1 : 1000 ≤ (c.slices.el i).opn ∧ (c.slices.el i).opn ≤ 3000 := (hc.2.2.2 i hi).2.1
  have h2 : 0 ≤ (c.slices.el i).fall ∧ (c.slices.el i).fall ≤ (c.slices.el i).opn - 1 := (hc.2.2.2 i hi).2.2.1
  exact ⟨h2.1, by show (c.slices.el i).fall ≤ 3000; omega⟩
theorem truth_rates {c : Cav} {n : Nat} {t : Truth} (ht : TruthOk c n t) {j : Nat} (hj : j < n) : RatesOk c (wK t j) := fun i hi => (ht.2.2.2 j (by rw [ht.2.1]; exact hj)).2 i hi
theorem mulnn {a b x y : Int} (h1 : 0 ≤ a) (h2 : a ≤ x) (h3 : 0 ≤ b) (h4 : b ≤ y) : 0 ≤ a * b ∧ a * b ≤ x * y := ⟨Int.mul_nonneg h1 h3, Int.mul_le_mul h2 h4 h3 (by omega)⟩
section
variable {c : Cav} (hc : CavOk c) {n : Nat} {l : Nat → Stg} (hl : ∀ i, i < n → StgOk c.slices.len (l i)) {t : Truth} (ht : TruthOk c n t)
include hc hl ht
theorem vol_bd {i : Nat} (hi : i < c.slices.len) : ∀ j, j ≤ n → 0 ≤ volS c l t j i ∧ volS c l t j i ≤ 10000000000000 + 900000000000 * j := by
  intro j
  induction j with
  | zero =>
    intro _
    have h1 := ht.2.2.1 i (by rw [ht.1]; exact hi)
    have h2 : SpanIn (c.slices.el i).vol 0 10000000000000 := (hc.2.2.2 i hi).1
    unfold SpanIn at h2
    simp only [volS]
    omega
  | succ j ih =>
    intro h
    have i1 := ih (by omega)
    have hs := hl j (by omega)
    have h1 := takeRow_in hc hs (wK t j) (truth_rates ht (by omega)) (pathN (l j)) (Nat.le_refl _) i
    have hwa := hs.1
    have ho := opn_in hc i hi
    have m1 := mulnn (a := takeRow c (l j) (wK t j) (pathN (l j)) i) (b := (l j).water) (x := 300) (y := 1000000) h1.1 h1.2 (by omega) (by omega)
    have m2 := mulnn (a := opnF c i) (b := takeRow c (l j) (wK t j) (pathN (l j)) i * (l j).water) (x := 3000) (y := 300000000) ho.1 ho.2 m1.1 (by omega)
    simp only [volS]
    omega
theorem tkE_in {j : Nat} (hj : j < n) : (0 ≤ (tkE c l t j).1 ∧ (tkE c l t j).1 ≤ 300) ∧ (0 ≤ (tkE c l t j).2 ∧ (tkE c l t j).2 ≤ 900000) ∧ (0 ≤ (l j).water * (tkE c l t j).1 ∧ (l j).water * (tkE c l t j).1 ≤ 300000000) ∧ 0 ≤ (l j).water * (tkE c l t j).2 ∧ (l j).water * (tkE c l t j).2 ≤ 900000000000 := by
  have hs := hl j hj
  have hr := reach_in hc hs (take_reach hc hs (wK t j) (truth_rates ht hj) (pathN (l j)) (Nat.le_refl _)) (Nat.le_refl _)
  have hH := hc.2.1
  have hwa := hs.1
  unfold tkE
  have m1 := mulnn (a := (l j).water) (b := (tkT c (l j) (wK t j) (pathN (l j))).1) (x := 1000000) (y := 300) (by omega) (by omega) (by omega) (by omega)
  have m2 := mulnn (a := (l j).water) (b := (tkT c (l j) (wK t j) (pathN (l j))).2) (x := 1000000) (y := 900000) (by omega) (by omega) (by omega) (by omega)
  exact ⟨by omega, by omega, by omega, by omega⟩
theorem sums_in : ∀ j, j ≤ n → (0 ≤ saltP c l t j ∧ saltP c l t j ≤ 300000000 * j) ∧ (0 ≤ sumpS c l t j ∧ sumpS c l t j ≤ 900000000000 * j) ∧ (0 ≤ brineS c l t j ∧ brineS c l t j ≤ 1000000000000 * j) ∧ (-(270000000000000 * j) ≤ outS c l t j ∧ outS c l t j ≤ 300000000000000 * j) := by
  intro j
  induction j with
  | zero => intro _; simp [saltP, sumpS, brineS, outS]
  | succ j ih =>
    intro h
    have i := ih (by omega)
    have hs := hl j (by omega)
    have hwa := hs.1
    have hH := hc.2.1
    have ht1 := tkE_in hc hl ht (j := j) (by omega)
    have hps := pathSum_in hc hs (wK t j) (truth_rates ht (by omega)) (fallF c) (fall_in hc) (pathN (l j)) (Nat.le_refl _)
    have he : (tkT c (l j) (wK t j) (pathN (l j))).1 = (tkE c l t j).1 := rfl
    rw [he] at hps
    have m1 := mulnn (a := (l j).water) (b := pathSum c (l j) (wK t j) (fallF c) (pathN (l j))) (x := 1000000) (y := 900000) (by omega) (by omega) (by omega) (by omega)
    have m2 := mulnn (a := c.hold) (b := (l j).water * (tkE c l t j).2) (x := 300) (y := 900000000000) (by omega) (by omega) (by omega) (by omega)
    have m3 : (l j).water * (tkE c l t j).2 ≤ (l j).water * 900000 := Int.mul_le_mul_of_nonneg_left (by omega) (by omega)
    simp only [saltP, sumpS, brineS, outS]
    omega
end
variable (F d : Nat)
theorem s88g (a b : Int) (hF : 20 < F) (h1 : I64 a) (h3 : I64 (a + b)) :
    (E F (d + 3)).pf 88 [.row false 2 1 (fun u => List.take 1 (List.drop (Min.min u 1 * 1) [V.int .i64 a, V.int .i64 b]))] = some (.ret (.int .i64 (a + b))) := s88 F (d + 2) a b hF h1 h3
section
variable {c : Cav} (hc : CavOk c) {l : Sl Stg} (hL : l.len ≤ 300) (hl : ∀ i, i < l.len → StgOk c.slices.len (l.el i)) {t : Truth} (ht : TruthOk c l.len t) (hF : 400 < F)
include hc hL hl ht hF
theorem l44x3 (m0 jj : Nat) (hj : jj < l.len) (b0 : Bool) (y1 : Int) (y2 : Nat) (y3 y4 y5 y6 y7 y8 y9 y10 : Int) : ∀ j k fu, k + 1 + j = pathN (l.el jj) → j < fu →
    L44x3 (E F (d + 3)) F c l t m0 fu (fun _ => eStg (l.el jj)) (stepOf (l.el jj)) .i64 (pathAt (l.el jj) k) c.slices.len (sumpS c l.el t jj) (saltP c l.el t jj) (brineS c l.el t jj) (outS c l.el t jj) jj (l.el jj).water (l.el jj).into (l.el jj).out (l.el jj).blanket
      (c.hold - (tkT c (l.el jj) (wK t jj) k).1) .i64 ((l.el jj).water * pathSum c (l.el jj) (wK t jj) (opnF c) k) .i64 ((l.el jj).water * pathSum c (l.el jj) (wK t jj) (fallF c) k) .i64 ((l.el jj).water * (tkT c (l.el jj) (wK t jj) k).1) c.slices.len
      (fun i => eInt (volS c l.el t jj i + opnF c i * (takeRow c (l.el jj) (wK t jj) k i * (l.el jj).water))) jj b0 y1 y2 y3 y4 y5 y6 y7 y8 y9 y10 (fun _ => eStg (l.el jj))
    = L44x1 (E F (d + 3)) F c l t m0 ((jj + 1 : Nat) : Int) c.slices.len (sumpS c l.el t (jj + 1)) (saltP c l.el t (jj + 1)) (brineS c l.el t (jj + 1)) (outS c l.el t (jj + 1)) c.slices.len (fun i => eInt (volS c l.el t (jj + 1) i)) := by
  have hs := hl jj hj
  have hw := truth_rates ht hj
  have hp := pathN_le hs
  have hcl := hc.1
  have hH := hc.2.1
  have hwa := hs.1
  have htr := ht.2.2.2 jj (by rw [ht.2.1]; exact hj)
  have htl := ht.2.1
  have hsum := sums_in hc hl ht jj (by omega)
  have hsum' := sums_in hc hl ht (jj + 1) (by omega)
  have htr1 := htr.1
  intro j
  induction j with
  | zero =>
    intro k fu h hf
    obtain ⟨fu, rfl⟩ : ∃ k, fu = k + 1 := ⟨fu - 1, by omega⟩
    have hin := pathAt_in hs (k := k) (by omega)
    have hr := reach_in hc hs (take_reach hc hs (wK t jj) hw k (by omega)) (by omega)
    have hr' := reach_in hc hs (take_reach hc hs (wK t jj) hw (k + 1) (by omega)) (by omega)
    have hn := takeN_in hc hs (wK t jj) hw (k := k) (by omega)
    have hno : min ((t.rates.el jj).el (pathAt (l.el jj) k).toNat) (c.hold - (tkT c (l.el jj) (wK t jj) k).1) = takeN c (l.el jj) (wK t jj) k := rfl
    have hv := vol_bd hc hl ht (i := (pathAt (l.el jj) k).toNat) (by omega) jj (by omega)
    have ho : 0 ≤ (c.slices.el (pathAt (l.el jj) k).toNat).opn ∧ (c.slices.el (pathAt (l.el jj) k).toNat).opn ≤ 3000 := opn_in hc (pathAt (l.el jj) k).toNat (by omega)
    have hfa : 0 ≤ (c.slices.el (pathAt (l.el jj) k).toNat).fall ∧ (c.slices.el (pathAt (l.el jj) k).toNat).fall ≤ 3000 := fall_in hc (pathAt (l.el jj) k).toNat (by omega)
    have p1 := pathSum_in hc hs (wK t jj) hw (opnF c) (opn_in hc) k (by omega)
    have p2 := pathSum_in hc hs (wK t jj) hw (fallF c) (fall_in hc) k (by omega)
    have p1' := pathSum_in hc hs (wK t jj) hw (opnF c) (opn_in hc) (k + 1) (by omega)
    have p2' := pathSum_in hc hs (wK t jj) hw (fallF c) (fall_in hc) (k + 1) (by omega)
    have ht0 : takeRow c (l.el jj) (wK t jj) k (pathAt (l.el jj) k).toNat = 0 := takeRow_0 hs (wK t jj) k k (Nat.le_refl _) (by omega)
    have q1 := mulnn (a := takeN c (l.el jj) (wK t jj) k) (b := (l.el jj).water) (x := 300) (y := 1000000) hn.1 hn.2.1 (by omega) (by omega)
    have q2 := mulnn (a := takeN c (l.el jj) (wK t jj) k * (l.el jj).water) (b := (c.slices.el (pathAt (l.el jj) k).toNat).opn) (x := 300000000) (y := 3000) q1.1 (by omega) ho.1 ho.2
    have q3 := mulnn (a := takeN c (l.el jj) (wK t jj) k * (l.el jj).water) (b := (c.slices.el (pathAt (l.el jj) k).toNat).fall) (x := 300000000) (y := 3000) q1.1 (by omega) hfa.1 hfa.2
    have r1 := mulnn (a := (l.el jj).water) (b := (tkT c (l.el jj) (wK t jj) k).1) (x := 1000000) (y := 300) (by omega) (by omega) (by omega) (by omega)
    have r2 := mulnn (a := (l.el jj).water) (b := pathSum c (l.el jj) (wK t jj) (opnF c) k) (x := 1000000) (y := 900000) (by omega) (by omega) (by omega) (by omega)
    have r3 := mulnn (a := (l.el jj).water) (b := pathSum c (l.el jj) (wK t jj) (fallF c) k) (x := 1000000) (y := 900000) (by omega) (by omega) (by omega) (by omega)
    have es1 : (l.el jj).water * (tkT c (l.el jj) (wK t jj) k).1 + takeN c (l.el jj) (wK t jj) k * (l.el jj).water = (l.el jj).water * (tkT c (l.el jj) (wK t jj) (k + 1)).1 := by
      show _ = (l.el jj).water * ((tkT c (l.el jj) (wK t jj) k).1 + takeN c (l.el jj) (wK t jj) k)
      rw [Int.mul_add, Int.mul_comm (takeN c (l.el jj) (wK t jj) k)]
    have es2 : (l.el jj).water * pathSum c (l.el jj) (wK t jj) (opnF c) k + takeN c (l.el jj) (wK t jj) k * (l.el jj).water * (c.slices.el (pathAt (l.el jj) k).toNat).opn = (l.el jj).water * pathSum c (l.el jj) (wK t jj) (opnF c) (k + 1) := by
      show _ = (l.el jj).water * (pathSum c (l.el jj) (wK t jj) (opnF c) k + (c.slices.el (pathAt (l.el jj) k).toNat).opn * takeN c (l.el jj) (wK t jj) k)
      rw [Int.mul_add, Int.mul_comm (takeN c (l.el jj) (wK t jj) k), Int.mul_assoc, Int.mul_comm (takeN c (l.el jj) (wK t jj) k)]
    have es3 : (l.el jj).water * pathSum c (l.el jj) (wK t jj) (fallF c) k + takeN c (l.el jj) (wK t jj) k * (l.el jj).water * (c.slices.el (pathAt (l.el jj) k).toNat).fall = (l.el jj).water * pathSum c (l.el jj) (wK t jj) (fallF c) (k + 1) := by
      show _ = (l.el jj).water * (pathSum c (l.el jj) (wK t jj) (fallF c) k + (c.slices.el (pathAt (l.el jj) k).toNat).fall * takeN c (l.el jj) (wK t jj) k)
      rw [Int.mul_add, Int.mul_comm (takeN c (l.el jj) (wK t jj) k), Int.mul_assoc, Int.mul_comm (takeN c (l.el jj) (wK t jj) k)]
    have eu : updGet (fun i => eInt (volS c l.el t jj i + opnF c i * (takeRow c (l.el jj) (wK t jj) k i * (l.el jj).water))) (pathAt (l.el jj) k).toNat 0 [V.int .i64 (volS c l.el t jj (pathAt (l.el jj) k).toNat + takeN c (l.el jj) (wK t jj) k * (l.el jj).water * (c.slices.el (pathAt (l.el jj) k).toNat).opn)] =
        fun i => eInt (volS c l.el t jj i + opnF c i * (takeRow c (l.el jj) (wK t jj) (k + 1) i * (l.el jj).water)) := by
      refine (upd_int _ _ _).trans ?_
      funext i
      refine congrArg eInt ?_
      by_cases hi : i = (pathAt (l.el jj) k).toNat
      · rw [if_pos hi, hi]
        simp only [takeRow, if_pos]
        rw [Int.mul_comm (takeN c (l.el jj) (wK t jj) k * (l.el jj).water)]
      · rw [if_neg hi]
        simp only [takeRow, if_neg hi]
    have hk' : k = pathN (l.el jj) - 1 := by omega
    have e1 : pathAt (l.el jj) k = (l.el jj).out := by rw [hk', pathAt_last]
    have e2 : k + 1 = pathN (l.el jj) := by omega
    have ebif : (pathAt (l.el jj) k != (l.el jj).out) = false := by simp [e1]
    rw [L44x3s]
    have hA : decide ((0 : Int) ≤ (jj : Int)) = true := decide_eq_true (Int.natCast_nonneg _)
    have hB : decide ((jj : Int) < (t.rates.len : Int)) = true := decide_eq_true (by rw [htl]; exact Int.ofNat_lt.2 hj)
    have hC : decide ((0 : Int) ≤ pathAt (l.el jj) k) = true := decide_eq_true hin.1
    have hD : decide (pathAt (l.el jj) k < ((t.rates.el jj).len : Int)) = true := decide_eq_true (by rw [htr1]; exact hin.2)
    have hE : decide (pathAt (l.el jj) k < (c.slices.len : Int)) = true := decide_eq_true hin.2
    have w1 : IntKind.i64.wrap (takeN c (l.el jj) (wK t jj) k * (l.el jj).water) = takeN c (l.el jj) (wK t jj) k * (l.el jj).water := wr (by omega)
    have w2 : IntKind.i64.wrap (takeN c (l.el jj) (wK t jj) k * (l.el jj).water * (c.slices.el (pathAt (l.el jj) k).toNat).opn) = takeN c (l.el jj) (wK t jj) k * (l.el jj).water * (c.slices.el (pathAt (l.el jj) k).toNat).opn := wr (by omega)
    have w3 : IntKind.i64.wrap (takeN c (l.el jj) (wK t jj) k * (l.el jj).water * (c.slices.el (pathAt (l.el jj) k).toNat).fall) = takeN c (l.el jj) (wK t jj) k * (l.el jj).water * (c.slices.el (pathAt (l.el jj) k).toNat).fall := wr (by omega)
    have w4 : IntKind.i64.wrap (volS c l.el t jj (pathAt (l.el jj) k).toNat + takeN c (l.el jj) (wK t jj) k * (l.el jj).water * (c.slices.el (pathAt (l.el jj) k).toNat).opn) = volS c l.el t jj (pathAt (l.el jj) k).toNat + takeN c (l.el jj) (wK t jj) k * (l.el jj).water * (c.slices.el (pathAt (l.el jj) k).toNat).opn := wr (by omega)
    have e88a := s88g F d ((l.el jj).water * (tkT c (l.el jj) (wK t jj) k).1) (takeN c (l.el jj) (wK t jj) k * (l.el jj).water) (by omega) (by omega) (by omega)
    have e88b := s88g F d ((l.el jj).water * pathSum c (l.el jj) (wK t jj) (opnF c) k) (takeN c (l.el jj) (wK t jj) k * (l.el jj).water * (c.slices.el (pathAt (l.el jj) k).toNat).opn) (by omega) (by omega) (by omega)
    have e88c := s88g F d ((l.el jj).water * pathSum c (l.el jj) (wK t jj) (fallF c) k) (takeN c (l.el jj) (wK t jj) k * (l.el jj).water * (c.slices.el (pathAt (l.el jj) k).toNat).fall) (by omega) (by omega) (by omega)
    simp only [hA, hB, hC, hD, hE, decide_true, pT, Int.toNat_natCast, mnE, hno, w1, w2, w3, e88a, e88b, e88c, tkOut_ret, tkInt_i, tkCons_c, List.drop, ht0, Int.zero_mul, Int.mul_zero, Int.add_zero, w4]
    rw [es1, es2, es3, eu]
    rw [ebif, pF, e2]
    rw [e2] at p1' p2' hr'
    have hT := tkE_in hc hl ht hj
    have eT1 : (tkT c (l.el jj) (wK t jj) (pathN (l.el jj))).1 = (tkE c l.el t jj).1 := rfl
    have eT2 : (tkT c (l.el jj) (wK t jj) (pathN (l.el jj))).2 = (tkE c l.el t jj).2 := rfl
    have eq3 : (l.el jj).water * pathSum c (l.el jj) (wK t jj) (opnF c) (pathN (l.el jj)) - (l.el jj).water * pathSum c (l.el jj) (wK t jj) (fallF c) (pathN (l.el jj)) = (l.el jj).water * (tkE c l.el t jj).2 := by
      rw [← Int.mul_sub, pathSum_sub]; rfl
    rw [eT1] at p1' p2' hr' ⊢
    have f2 := mulnn (a := (l.el jj).water) (b := pathSum c (l.el jj) (wK t jj) (opnF c) (pathN (l.el jj))) (x := 1000000) (y := 900000) (by omega) (by omega) (by omega) (by omega)
    have f3 := mulnn (a := (l.el jj).water) (b := pathSum c (l.el jj) (wK t jj) (fallF c) (pathN (l.el jj))) (x := 1000000) (y := 900000) (by omega) (by omega) (by omega) (by omega)
    have f4 := mulnn (a := c.hold) (b := (l.el jj).water * (tkE c l.el t jj).2) (x := 300) (y := 900000000000) (by omega) (by omega) (by omega) (by omega)
    clear q1 q2 q3 r1 r2 r3 es1 es2 es3 eu w1 w2 w3 w4 e88a e88b e88c hA hB hC hD hE hno ht0 p1 p2 hv ho hfa hn hr
    simp only [sumpS, saltP, brineS, outS] at hsum'
    generalize (l.el jj).water * pathSum c (l.el jj) (wK t jj) (opnF c) (pathN (l.el jj)) = Rm at *
    generalize hFl : (l.el jj).water * pathSum c (l.el jj) (wK t jj) (fallF c) (pathN (l.el jj)) = Fl at *
    rw [wr (n := Rm - Fl) (by omega), eq3]
    have eb : 1000000 * (l.el jj).water - Rm + Fl = 1000000 * (l.el jj).water - (l.el jj).water * (tkE c l.el t jj).2 := by omega
    rw [wr (n := 1000000 * (l.el jj).water) (by omega), wr (n := 1000000 * (l.el jj).water - Rm) (by omega), eb, wr (n := 1000000 * (l.el jj).water - (l.el jj).water * (tkE c l.el t jj).2) (by omega)]
    rw [wr (n := 1000000 * ((l.el jj).water * (tkE c l.el t jj).1)) (by omega), wr (n := c.hold * ((l.el jj).water * (tkE c l.el t jj).2)) (by omega), wr (n := 1000000 * ((l.el jj).water * (tkE c l.el t jj).1) - c.hold * ((l.el jj).water * (tkE c l.el t jj).2)) (by omega)]
    rw [wr (n := sumpS c l.el t jj + Fl) (by omega), wr (n := saltP c l.el t jj + (l.el jj).water * (tkE c l.el t jj).1) (by omega), wr (n := brineS c l.el t jj + (1000000 * (l.el jj).water - (l.el jj).water * (tkE c l.el t jj).2)) (by omega), wr (n := outS c l.el t jj + (1000000 * ((l.el jj).water * (tkE c l.el t jj).1) - c.hold * ((l.el jj).water * (tkE c l.el t jj).2))) (by omega), wrS (by omega)]
    rw [← hFl]
    rfl
  | succ j ih =>
    intro k fu h hf
    obtain ⟨fu, rfl⟩ : ∃ k, fu = k + 1 := ⟨fu - 1, by omega⟩
    have hin := pathAt_in hs (k := k) (by omega)
    have hr := reach_in hc hs (take_reach hc hs (wK t jj) hw k (by omega)) (by omega)
    have hr' := reach_in hc hs (take_reach hc hs (wK t jj) hw (k + 1) (by omega)) (by omega)
    have hn := takeN_in hc hs (wK t jj) hw (k := k) (by omega)
    have hno : min ((t.rates.el jj).el (pathAt (l.el jj) k).toNat) (c.hold - (tkT c (l.el jj) (wK t jj) k).1) = takeN c (l.el jj) (wK t jj) k := rfl
    have hv := vol_bd hc hl ht (i := (pathAt (l.el jj) k).toNat) (by omega) jj (by omega)
    have ho : 0 ≤ (c.slices.el (pathAt (l.el jj) k).toNat).opn ∧ (c.slices.el (pathAt (l.el jj) k).toNat).opn ≤ 3000 := opn_in hc (pathAt (l.el jj) k).toNat (by omega)
    have hfa : 0 ≤ (c.slices.el (pathAt (l.el jj) k).toNat).fall ∧ (c.slices.el (pathAt (l.el jj) k).toNat).fall ≤ 3000 := fall_in hc (pathAt (l.el jj) k).toNat (by omega)
    have p1 := pathSum_in hc hs (wK t jj) hw (opnF c) (opn_in hc) k (by omega)
    have p2 := pathSum_in hc hs (wK t jj) hw (fallF c) (fall_in hc) k (by omega)
    have p1' := pathSum_in hc hs (wK t jj) hw (opnF c) (opn_in hc) (k + 1) (by omega)
    have p2' := pathSum_in hc hs (wK t jj) hw (fallF c) (fall_in hc) (k + 1) (by omega)
    have ht0 : takeRow c (l.el jj) (wK t jj) k (pathAt (l.el jj) k).toNat = 0 := takeRow_0 hs (wK t jj) k k (Nat.le_refl _) (by omega)
    have q1 := mulnn (a := takeN c (l.el jj) (wK t jj) k) (b := (l.el jj).water) (x := 300) (y := 1000000) hn.1 hn.2.1 (by omega) (by omega)
    have q2 := mulnn (a := takeN c (l.el jj) (wK t jj) k * (l.el jj).water) (b := (c.slices.el (pathAt (l.el jj) k).toNat).opn) (x := 300000000) (y := 3000) q1.1 (by omega) ho.1 ho.2
    have q3 := mulnn (a := takeN c (l.el jj) (wK t jj) k * (l.el jj).water) (b := (c.slices.el (pathAt (l.el jj) k).toNat).fall) (x := 300000000) (y := 3000) q1.1 (by omega) hfa.1 hfa.2
    have r1 := mulnn (a := (l.el jj).water) (b := (tkT c (l.el jj) (wK t jj) k).1) (x := 1000000) (y := 300) (by omega) (by omega) (by omega) (by omega)
    have r2 := mulnn (a := (l.el jj).water) (b := pathSum c (l.el jj) (wK t jj) (opnF c) k) (x := 1000000) (y := 900000) (by omega) (by omega) (by omega) (by omega)
    have r3 := mulnn (a := (l.el jj).water) (b := pathSum c (l.el jj) (wK t jj) (fallF c) k) (x := 1000000) (y := 900000) (by omega) (by omega) (by omega) (by omega)
    have es1 : (l.el jj).water * (tkT c (l.el jj) (wK t jj) k).1 + takeN c (l.el jj) (wK t jj) k * (l.el jj).water = (l.el jj).water * (tkT c (l.el jj) (wK t jj) (k + 1)).1 := by
      show _ = (l.el jj).water * ((tkT c (l.el jj) (wK t jj) k).1 + takeN c (l.el jj) (wK t jj) k)
      rw [Int.mul_add, Int.mul_comm (takeN c (l.el jj) (wK t jj) k)]
    have es2 : (l.el jj).water * pathSum c (l.el jj) (wK t jj) (opnF c) k + takeN c (l.el jj) (wK t jj) k * (l.el jj).water * (c.slices.el (pathAt (l.el jj) k).toNat).opn = (l.el jj).water * pathSum c (l.el jj) (wK t jj) (opnF c) (k + 1) := by
      show _ = (l.el jj).water * (pathSum c (l.el jj) (wK t jj) (opnF c) k + (c.slices.el (pathAt (l.el jj) k).toNat).opn * takeN c (l.el jj) (wK t jj) k)
      rw [Int.mul_add, Int.mul_comm (takeN c (l.el jj) (wK t jj) k), Int.mul_assoc, Int.mul_comm (takeN c (l.el jj) (wK t jj) k)]
    have es3 : (l.el jj).water * pathSum c (l.el jj) (wK t jj) (fallF c) k + takeN c (l.el jj) (wK t jj) k * (l.el jj).water * (c.slices.el (pathAt (l.el jj) k).toNat).fall = (l.el jj).water * pathSum c (l.el jj) (wK t jj) (fallF c) (k + 1) := by
      show _ = (l.el jj).water * (pathSum c (l.el jj) (wK t jj) (fallF c) k + (c.slices.el (pathAt (l.el jj) k).toNat).fall * takeN c (l.el jj) (wK t jj) k)
      rw [Int.mul_add, Int.mul_comm (takeN c (l.el jj) (wK t jj) k), Int.mul_assoc, Int.mul_comm (takeN c (l.el jj) (wK t jj) k)]
    have eu : updGet (fun i => eInt (volS c l.el t jj i + opnF c i * (takeRow c (l.el jj) (wK t jj) k i * (l.el jj).water))) (pathAt (l.el jj) k).toNat 0 [V.int .i64 (volS c l.el t jj (pathAt (l.el jj) k).toNat + takeN c (l.el jj) (wK t jj) k * (l.el jj).water * (c.slices.el (pathAt (l.el jj) k).toNat).opn)] =
        fun i => eInt (volS c l.el t jj i + opnF c i * (takeRow c (l.el jj) (wK t jj) (k + 1) i * (l.el jj).water)) := by
      refine (upd_int _ _ _).trans ?_
      funext i
      refine congrArg eInt ?_
      by_cases hi : i = (pathAt (l.el jj) k).toNat
      · rw [if_pos hi, hi]
        simp only [takeRow, if_pos]
        rw [Int.mul_comm (takeN c (l.el jj) (wK t jj) k * (l.el jj).water)]
      · rw [if_neg hi]
        simp only [takeRow, if_neg hi]
    have hne : (pathAt (l.el jj) k != (l.el jj).out) = true := by
      have := pathAt_ne (l.el jj) (k := k) (by omega)
      simpa using this
    have hS : pathAt (l.el jj) k + stepOf (l.el jj) = pathAt (l.el jj) (k + 1) := by rw [← pathAt_S]
    have hin2 := pathAt_in hs (k := k + 1) (by omega)
    rw [L44x3s]
    have hA : decide ((0 : Int) ≤ (jj : Int)) = true := decide_eq_true (Int.natCast_nonneg _)
    have hB : decide ((jj : Int) < (t.rates.len : Int)) = true := decide_eq_true (by rw [htl]; exact Int.ofNat_lt.2 hj)
    have hC : decide ((0 : Int) ≤ pathAt (l.el jj) k) = true := decide_eq_true hin.1
    have hD : decide (pathAt (l.el jj) k < ((t.rates.el jj).len : Int)) = true := decide_eq_true (by rw [htr1]; exact hin.2)
    have hE : decide (pathAt (l.el jj) k < (c.slices.len : Int)) = true := decide_eq_true hin.2
    have w1 : IntKind.i64.wrap (takeN c (l.el jj) (wK t jj) k * (l.el jj).water) = takeN c (l.el jj) (wK t jj) k * (l.el jj).water := wr (by omega)
    have w2 : IntKind.i64.wrap (takeN c (l.el jj) (wK t jj) k * (l.el jj).water * (c.slices.el (pathAt (l.el jj) k).toNat).opn) = takeN c (l.el jj) (wK t jj) k * (l.el jj).water * (c.slices.el (pathAt (l.el jj) k).toNat).opn := wr (by omega)
    have w3 : IntKind.i64.wrap (takeN c (l.el jj) (wK t jj) k * (l.el jj).water * (c.slices.el (pathAt (l.el jj) k).toNat).fall) = takeN c (l.el jj) (wK t jj) k * (l.el jj).water * (c.slices.el (pathAt (l.el jj) k).toNat).fall := wr (by omega)
    have w4 : IntKind.i64.wrap (volS c l.el t jj (pathAt (l.el jj) k).toNat + takeN c (l.el jj) (wK t jj) k * (l.el jj).water * (c.slices.el (pathAt (l.el jj) k).toNat).opn) = volS c l.el t jj (pathAt (l.el jj) k).toNat + takeN c (l.el jj) (wK t jj) k * (l.el jj).water * (c.slices.el (pathAt (l.el jj) k).toNat).opn := wr (by omega)
    have e88a := s88g F d ((l.el jj).water * (tkT c (l.el jj) (wK t jj) k).1) (takeN c (l.el jj) (wK t jj) k * (l.el jj).water) (by omega) (by omega) (by omega)
    have e88b := s88g F d ((l.el jj).water * pathSum c (l.el jj) (wK t jj) (opnF c) k) (takeN c (l.el jj) (wK t jj) k * (l.el jj).water * (c.slices.el (pathAt (l.el jj) k).toNat).opn) (by omega) (by omega) (by omega)
    have e88c := s88g F d ((l.el jj).water * pathSum c (l.el jj) (wK t jj) (fallF c) k) (takeN c (l.el jj) (wK t jj) k * (l.el jj).water * (c.slices.el (pathAt (l.el jj) k).toNat).fall) (by omega) (by omega) (by omega)
    simp only [hA, hB, hC, hD, hE, decide_true, pT, Int.toNat_natCast, mnE, hno, w1, w2, w3, e88a, e88b, e88c, tkOut_ret, tkInt_i, tkCons_c, List.drop, ht0, Int.zero_mul, Int.mul_zero, Int.add_zero, w4]
    rw [es1, es2, es3, eu]
    rw [hne, pT, hS, wr (n := pathAt (l.el jj) (k + 1)) (by omega), wr (n := c.hold - (tkT c (l.el jj) (wK t jj) k).1 - takeN c (l.el jj) (wK t jj) k) (by omega)]
    rw [show c.hold - (tkT c (l.el jj) (wK t jj) k).1 - takeN c (l.el jj) (wK t jj) k = c.hold - (tkT c (l.el jj) (wK t jj) (k + 1)).1 by
      show _ = c.hold - ((tkT c (l.el jj) (wK t jj) k).1 + takeN c (l.el jj) (wK t jj) k); omega]
    exact ih (k + 1) fu (by omega) (by omega)
theorem l44x1 : ∀ j k fu, k + j = l.len → j < fu →
    L44x1 (E F (d + 3)) F c l t fu k c.slices.len (sumpS c l.el t k) (saltP c l.el t k) (brineS c l.el t k) (outS c l.el t k) c.slices.len (fun i => eInt (volS c l.el t k i)) = some (.ret (.tup [.agg (endV c l.el t l.len), .int .i64 0])) := by
  intro j
  induction j with
  | zero =>
    intro k fu h hf
    obtain ⟨fu, rfl⟩ : ∃ k, fu = k + 1 := ⟨fu - 1, by omega⟩
    have hk : k = l.len := by omega
    subst hk
    rw [L44x1s, decide_eq_false (by omega), pF]
    rfl
  | succ j ih =>
    intro k fu h hf
    obtain ⟨fu, rfl⟩ : ∃ k, fu = k + 1 := ⟨fu - 1, by omega⟩
    have hs := hl k (by omega)
    have hp := pathN_le hs
    have hp1 := pathN_pos (l.el k)
    have hcl := hc.1
    have hH := hc.2.1
    have e := fun b0 y1 y2 y3 y4 y5 y6 y7 y8 y9 y10 => l44x3 F d hc hL hl ht hF fu k (by omega) b0 y1 y2 y3 y4 y5 y6 y7 y8 y9 y10 (pathN (l.el k) - 1) 0 F (by omega) (by omega)
    have e2 := ih (k + 1) fu (by omega) (by omega)
    have ev : (fun i => eInt (volS c l.el t k i + opnF c i * (takeRow c (l.el k) (wK t k) 0 i * (l.el k).water))) = fun i => eInt (volS c l.el t k i) := by
      funext i
      simp only [takeRow, Int.zero_mul, Int.mul_zero, Int.add_zero]
    simp only [ev, tkT, pathSum, Int.mul_zero, Int.sub_zero, pathAt_0] at e
    have q68 : (E F (d + 3)).pf 68 [.agg (eStg (l.el k))] = _ := s68 F (d + 2) (l.el k)
    rw [L44x1s]
    simp (disch := omega) only [decide_eq_true (show (k : Int) < (l.len : Int) by omega), decide_eq_true (show (0 : Int) ≤ (k : Int) by omega), pT, Int.toNat_natCast, q68, tkOut_ret, tkFn_f, tkNil_n, tkCons_c, tkPtr_p, tkInt_i, Nat.beq_refl, Bool.and_self, decide_true]
    unfold stepOf at e
    by_cases hd : (l.el k).out < (l.el k).into
    · simp only [if_pos hd] at e
      rw [decide_eq_true hd, pT]
      exact (e _ _ _ _ _ _ _ _ _ _ _).trans e2
    · simp only [if_neg hd] at e
      rw [decide_eq_false hd, pF]
      exact (e _ _ _ _ _ _ _ _ _ _ _).trans e2
end
theorem s79w (w : Sl Int) (hnl : w.nl = false) (h0 : 0 < w.len) (h1 : w.len ≤ 300) : (E F (d + 1)).hv 79 [sl eInt 1 w] [] = some (.ret (.osl 0 0 w.len), [.arr 3 1 w.len (fun i => eInt (w.el i)) true]) := by
  rw [E_hv, t79, hnl]
  simp only [pF, Nat.zero_add]
  rw [show (w.len == 0) = false by rw [beq_eq_false_iff_ne]; omega, pF, decide_eq_true (by omega), pT]
  rfl
theorem s44 (c : Cav) (l : Sl Stg) (t : Truth) (hC : c.slices.len < Big) (hCF : c.slices.len < F) (hB : l.len < Big) (hLF : l.len < F) (hT : t.rates.len < Big) (hTF : t.rates.len < F) (hnl : t.vols.nl = true → t.vols.len = 0) (hF : 400 < F) :
    (E F (d + 8)).pf 44 [.agg (eCav c), sl eStg 4 l, .agg (eTruth t)] = some (.ret (.tup (if errP c l true = 0 ∧ TruthOk c l.len t then [.agg (endV c l.el t l.len), .int .i64 0] else [.agg [.row true 0 0 (fun _ => []), .int .i64 0, .int .i64 0, .int .i64 0, .int .i64 0], .int .i64 (if errP c l true = 0 then 2 else errP c l true)]))) := by
  have q87 : (E F (d + 7)).pf 87 [.agg (eCav c), sl eStg 4 l, .agg (eTruth t)] = _ := s87 F (d + 5) c l t hC hT hCF hTF
  rw [E_pf, t44]
  simp only [s57e F d c l hC hCF hB hLF, tkOut_ret, tkInt_i, decide_true, pT]
  by_cases h0 : errP c l true = 0
  · obtain ⟨h8, hc, hl, _⟩ := errP_0.1 h0
    rw [h0, show ((0 : Int) != 0) = false from rfl, pF, q87]
    simp only [tkOut_ret, tkBool_b]
    by_cases ht : TruthOk c l.len t
    · rw [decide_eq_true ht, Bool.not_true, pF, if_pos ⟨trivial, ht⟩]
      have hcl := hc.1
      have hvl := ht.1
      have hn : t.vols.nl = false := by
        cases h : t.vols.nl with
        | false => rfl
        | true => have := hnl h; omega
      have q79 : (E F (d + 7)).hv 79 [sl eInt 1 t.vols] [] = _ := s79w F (d + 6) t.vols hn (by omega) (by omega)
      simp only [q79, tkHv_h, tkSl_o, Nat.beq_refl, Bool.and_self, beq_self_eq_true, pT, tkSCons_c, tkSNil_n, tkArr_a]
      rw [hvl]
      exact l44x1 F (d + 4) hc (by omega) hl ht hF l.len 0 F (by omega) (by omega)
    · rw [decide_eq_false ht, Bool.not_false, pT, if_neg (fun h => ht h.2), if_pos trivial]
  · rw [show (errP c l true != 0) = true by simpa using h0, pT, if_neg (fun h => h0 h.1), if_neg h0]
end Go.Sim.Le


namespace Go.Sim.Le
open Go.Proofs
variable (F d : Nat)
section
variable {c : Cav} (hc : CavOk c) {l : Sl Stg} (hL : l.len ≤ 300) (hl : ∀ i, i < l.len → StgOk c.slices.len (l.el i)) {t : Truth} (ht : TruthOk c l.len t) (hF : 400 < F)
include hc hL hl ht hF
end
end Go.Sim.Le


namespace Go.Sim.Le
open Go.Proofs
variable (F d : Nat)
end Go.Sim.Le


namespace Go.Sim.Le
open Go.Proofs
theorem sumF_add (f g : Nat → Int) : ∀ n, sumF (fun i => f i + g i) n = sumF f n + sumF g n
  | 0 => rfl
  | n + 1 => by simp only [sumF]; rw [sumF_add f g n]; omega
def watT (l : Nat → Stg) : Nat → Int
  | 0 => 0
  | j + 1 => watT l j + (l j).water
def roomS (c : Cav) (l : Nat → Stg) (t : Truth) : Nat → Int
  | 0 => 0
  | j + 1 => roomS c l t j + (l j).water * (tkE c l t j).2
section
variable {c : Cav} (hc : CavOk c) {n : Nat} {l : Nat → Stg} (hl : ∀ i, i < n → StgOk c.slices.len (l i)) {t : Truth} (ht : TruthOk c n t)
include hc hl ht
end
variable (F d : Nat)
section
variable {c : Cav} (hc : CavOk c) {l : Sl Stg} (hL : l.len ≤ 8) (hl : ∀ i, i < l.len → StgOk c.slices.len (l.el i)) {t : Truth} (ht : TruthOk c l.len t) (hF : 1000000000 < F)
include hc hL hl ht hF
theorem l45 (a b x y : Int) (ha : 0 ≤ a ∧ a ≤ 100000000000000) : ∀ j i fu, i + j = c.slices.len → j < fu →
    L45x0 (E F d) F c ⟨false, c.slices.len, volS c l.el t l.len⟩ a b x y fu i = some (.ret (.bool true)) := by
  have hcl := hc.1
  intro j
  induction j with
  | zero =>
    intro i fu h hf
    obtain ⟨fu, rfl⟩ : ∃ k, fu = k + 1 := ⟨fu - 1, by omega⟩
    rw [L45x0s, decide_eq_false (by show ¬ (i : Int) < (c.slices.len : Int); omega), pF]
    rw [show (((c.slices.len : Nat) : Int) == ((c.slices.len : Nat) : Int)) = true from beq_self_eq_true _, pT, decide_eq_true (show a ≥ 0 by omega), pT, decide_eq_true ha.2]
  | succ j ih =>
    intro i fu h hf
    obtain ⟨fu, rfl⟩ : ∃ k, fu = k + 1 := ⟨fu - 1, by omega⟩
    have hv := vol_bd hc hl ht (i := i) (by omega) l.len (Nat.le_refl _)
    rw [L45x0s]
    simp only [Int.toNat_natCast]
    rw [decide_eq_true (show (i : Int) < (c.slices.len : Int) by omega), decide_eq_true (show (0 : Int) ≤ (i : Int) by omega)]
    simp only [pT]
    rw [decide_eq_false (show ¬ volS c l.el t l.len i < 0 by omega), pF, decide_eq_false (show ¬ volS c l.el t l.len i > 100000000000000 by omega), pF, wrS (by omega)]
    exact ih (i + 1) fu (by omega) (by omega)
theorem s45 : (E F (d + 1)).pf 45 [.agg (eCav c), .agg (endV c l.el t l.len)] = some (.ret (.bool true)) := by
  have hcl := hc.1
  have hs := sums_in hc hl ht l.len (Nat.le_refl _)
  rw [E_pf]
  refine (t45 _ _ c ⟨false, c.slices.len, volS c l.el t l.len⟩ _ _ _ _).trans ?_
  exact l45 F d hc hL hl ht hF _ _ _ _ (by omega) c.slices.len 0 F (by omega) (by omega)
end
end Go.Sim.Le


namespace Go.Sim.Le
open Go.Proofs
variable (F d : Nat)
end Go.Sim.Le


namespace Go.Sim.Le
open Go.Proofs
def saltS (c : Cav) (l : Nat → Stg) : Nat → Nat → Span
  | 0, _ => ⟨0, 0⟩
  | j + 1, k => addS (saltS c l j k) (timesS (rtRow c (l j) (pathN (l j)) k) (l j).water)
def volK (c : Cav) (l : Nat → Stg) (n k : Nat) : Span := addS (c.slices.el k).vol (timesS (saltS c l n k) (c.slices.el k).opn)
section
variable {c : Cav} (hc : CavOk c) {l : Nat → Stg} {n : Nat} (hl : ∀ i, i < n → StgOk c.slices.len (l i))
include hc hl
theorem salt_step {j : Nat} (hj : j < n) (k : Nat) : (0 ≤ (l j).water * (rtRow c (l j) (pathN (l j)) k).lo ∧ (l j).water * (rtRow c (l j) (pathN (l j)) k).lo ≤ (l j).water * (rtRow c (l j) (pathN (l j)) k).hi ∧ (l j).water * (rtRow c (l j) (pathN (l j)) k).hi ≤ 300000000) ∧ timesS (rtRow c (l j) (pathN (l j)) k) (l j).water = ⟨(l j).water * (rtRow c (l j) (pathN (l j)) k).lo, (l j).water * (rtRow c (l j) (pathN (l j)) k).hi⟩ := by
  have hs := hl j hj
  have hr := rtRow_in hc hs (pathN (l j)) (Nat.le_refl _) k
  have hwa := hs.1
  have m1 := mulnn (a := (l j).water) (b := (rtRow c (l j) (pathN (l j)) k).hi) (x := 1000000) (y := 300) (by omega) (by omega) (by omega) (by omega)
  have m2 := Int.mul_le_mul_of_nonneg_left hr.2.1 (show 0 ≤ (l j).water by omega)
  have m3 : 0 ≤ (l j).water * (rtRow c (l j) (pathN (l j)) k).lo := Int.mul_nonneg (by omega) (by omega)
  refine ⟨by omega, ?_⟩
  unfold timesS
  rw [if_neg (by omega)]
theorem salt_in (k : Nat) : ∀ j, j ≤ n → 0 ≤ (saltS c l j k).lo ∧ (saltS c l j k).lo ≤ (saltS c l j k).hi ∧ (saltS c l j k).hi ≤ 300000000 * j
  | 0, _ => by simp [saltS]
  | j + 1, h => by
    have i := salt_in k j (by omega)
    have hs := salt_step hc hl (j := j) (by omega) k
    simp only [saltS]
    rw [hs.2]
    simp only [addS]
    omega
theorem volK_in (h8 : n ≤ 8) {k : Nat} (hk : k < c.slices.len) : timesS (saltS c l n k) (c.slices.el k).opn = ⟨(c.slices.el k).opn * (saltS c l n k).lo, (c.slices.el k).opn * (saltS c l n k).hi⟩ ∧ 0 ≤ (c.slices.el k).opn * (saltS c l n k).lo ∧ (c.slices.el k).opn * (saltS c l n k).lo ≤ (c.slices.el k).opn * (saltS c l n k).hi ∧ (c.slices.el k).opn * (saltS c l n k).hi ≤ 7200000000000 := by
  have i := salt_in hc hl k n (Nat.le_refl _)
  have ho : 1000 ≤ (c.slices.el k).opn ∧ (c.slices.el k).opn ≤ 3000 := (hc.2.2.2 k hk).2.1
  have m1 := mulnn (a := (c.slices.el k).opn) (b := (saltS c l n k).hi) (x := 3000) (y := 2400000000) (by omega) (by omega) (by omega) (by omega)
  have m2 := Int.mul_le_mul_of_nonneg_left i.2.1 (show 0 ≤ (c.slices.el k).opn by omega)
  have m3 : 0 ≤ (c.slices.el k).opn * (saltS c l n k).lo := Int.mul_nonneg (by omega) (by omega)
  refine ⟨?_, by omega⟩
  unfold timesS
  rw [if_neg (by omega)]
end
def saltSl (c : Cav) (l : Nat → Stg) (n : Nat) : Sl Span := ⟨false, c.slices.len, saltS c l n⟩
variable (F d : Nat)
section
variable {c : Cav} (hc : CavOk c) {l : Sl Stg} (h8 : l.len ≤ 8) (hl : ∀ i, i < l.len → StgOk c.slices.len (l.el i)) (hF : 400 < F)
include hc h8 hl hF
theorem l84x1 (j m0 : Nat) (hj : j < l.len) : ∀ r k fu, k + r = c.slices.len → r < fu →
    L84x1 (E F (d + 2)) F c l m0 fu j false c.slices.len 2 (fun i => eSpan (rtRow c (l.el j) (pathN (l.el j)) i)) c.slices.len k (fun i => eSpan (if i < k then saltS c l.el (j + 1) i else saltS c l.el j i)) (l.el j).water (l.el j).into (l.el j).out (l.el j).blanket
      = L84x0 (E F (d + 2)) F c l m0 ((j + 1 : Nat) : Int) (fun i => eSpan (if i < c.slices.len then saltS c l.el (j + 1) i else saltS c l.el j i)) := by
  have hcl := hc.1
  intro r
  induction r with
  | zero =>
    intro k fu h hf
    obtain ⟨fu, rfl⟩ : ∃ k, fu = k + 1 := ⟨fu - 1, by omega⟩
    rw [L84x1s, decide_eq_false (by omega), pF, wrS (by omega), show k = c.slices.len by omega]
  | succ r ih =>
    intro k fu h hf
    obtain ⟨fu, rfl⟩ : ∃ k, fu = k + 1 := ⟨fu - 1, by omega⟩
    have hst := salt_step hc hl hj k
    have hs := salt_in hc hl k j (by omega)
    have e3 := upd_span (fun i => if i < k then saltS c l.el (j + 1) i else saltS c l.el j i) k (addS (saltS c l.el j k) (timesS (rtRow c (l.el j) (pathN (l.el j)) k) (l.el j).water))
    have e4 : (fun i => eSpan (if i = k then addS (saltS c l.el j k) (timesS (rtRow c (l.el j) (pathN (l.el j)) k) (l.el j).water) else if i < k then saltS c l.el (j + 1) i else saltS c l.el j i)) = fun i => eSpan (if i < k + 1 then saltS c l.el (j + 1) i else saltS c l.el j i) := by
      funext i
      refine congrArg eSpan ?_
      by_cases h1 : i = k
      · subst h1; rw [if_pos rfl, if_pos (by omega)]; rfl
      · rw [if_neg h1]
        by_cases h2 : i < k
        · rw [if_pos h2, if_pos (by omega)]
        · rw [if_neg h2, if_neg (by omega)]
    rw [e4] at e3
    have q86 : (E F (d + 2)).pf 86 [.agg [.int .i64 (rtRow c (l.el j) (pathN (l.el j)) k).lo, .int .i64 (rtRow c (l.el j) (pathN (l.el j)) k).hi], .int .i64 (l.el j).water] = _ := s86 F (d + 1) (rtRow c (l.el j) (pathN (l.el j)) k) (l.el j).water (by constructor <;> omega) (by constructor <;> omega)
    have q85 := s85 F (d + 1) (saltS c l.el j k) (timesS (rtRow c (l.el j) (pathN (l.el j)) k) (l.el j).water) (by omega) (by constructor <;> omega) (by constructor <;> omega) (by rw [hst.2]; constructor <;> simp only <;> omega) (by rw [hst.2]; constructor <;> simp only <;> omega)
    rw [show d + 1 + 1 = d + 2 from rfl] at q85
    rw [L84x1s]
    simp (disch := omega) only [decide_eq_true, Int.toNat_natCast, pT, show ((2 : Nat) == 2) = true from rfl, List.take, List.length, show ((0 + 1 + 1 : Nat) == 2) = true from rfl, tkCons_c, tkInt_i, tkNil_n, if_neg (Nat.lt_irrefl k), q86, tkOut_ret, tkAgg_a]
    rw [q85]
    simp only [tkOut_ret, tkAgg_a, tkCons_c, tkInt_i, tkNil_n]
    rw [wrS (by omega)]
    simp only [eSpan] at e3
    rw [e3]
    exact ih (k + 1) fu (by omega) (by omega)
theorem l84x0 : ∀ r j fu (g : Nat → Span), j + r = l.len → r < fu → (∀ i, i < c.slices.len → g i = saltS c l.el j i) → (∀ i, ¬ i < c.slices.len → g i = saltS c l.el j i) →
    L84x0 (E F (d + 2)) F c l fu j (fun i => eSpan (g i)) = some (.ret (sl eSpan 2 (saltSl c l.el l.len))) := by
  have hcl := hc.1
  intro r
  induction r with
  | zero =>
    intro j fu g h hf hg hg2
    obtain ⟨fu, rfl⟩ : ∃ k, fu = k + 1 := ⟨fu - 1, by omega⟩
    have e : g = saltS c l.el l.len := by
      funext i
      rw [show l.len = j by omega]
      by_cases h : i < c.slices.len
      · exact hg i h
      · exact hg2 i h
    rw [L84x0s, decide_eq_false (by omega), pF, e]
    simp only [Int.toNat_natCast]
    rfl
  | succ r ih =>
    intro j fu g h hf hg hg2
    obtain ⟨fu, rfl⟩ : ∃ k, fu = k + 1 := ⟨fu - 1, by omega⟩
    have e : g = fun i => if i < 0 then saltS c l.el (j + 1) i else saltS c l.el j i := by
      funext i
      rw [if_neg (by omega)]
      by_cases h : i < c.slices.len
      · exact hg i h
      · exact hg2 i h
    have q82 : (E F (d + 2)).pf 82 [.agg (eCav c), .agg (eStg (l.el j))] = _ := s82 F d c hc (l.el j) (hl j (by omega)) (by omega)
    have e2 := l84x1 F d hc h8 hl hF j fu (by omega) c.slices.len 0 F (by omega) (by omega)
    rw [L84x0s]
    simp (disch := omega) only [decide_eq_true, Int.toNat_natCast, pT, q82, tkOut_ret, sl, rateSl, tkRow_r]
    rw [e]
    refine Eq.trans e2 ?_
    refine ih (j + 1) fu (fun i => if i < c.slices.len then saltS c l.el (j + 1) i else saltS c l.el j i) (by omega) (by omega) (fun i hi => if_pos hi) fun i hi => ?_
    rw [if_neg hi]
    have hz : ∀ j, j ≤ l.len → saltS c l.el j i = ⟨0, 0⟩ := by
      intro j
      induction j with
      | zero => intro _; rfl
      | succ j ih =>
        intro h
        have hr : ∀ k, k ≤ pathN (l.el j) → rtRow c (l.el j) k i = ⟨0, 0⟩ := by
          intro k
          induction k with
          | zero => intro _; rfl
          | succ k ih =>
            intro h2
            have hin := pathAt_in (hl j (by omega)) (k := k) (by omega)
            simp only [rtRow]
            rw [if_neg (by omega)]
            exact ih (by omega)
        simp only [saltS]
        rw [ih (by omega), hr _ (Nat.le_refl _)]
        simp [timesS, addS]
    rw [hz _ (by omega), hz _ (by omega)]
theorem s84 : (E F (d + 3)).pf 84 [.agg (eCav c), sl eStg 4 l] = some (.ret (sl eSpan 2 (saltSl c l.el l.len))) := by
  have hcl := hc.1
  rw [E_pf, t84]
  simp (disch := omega) only [decide_eq_true, decide_true, pT]
  exact l84x0 F d hc h8 hl hF l.len 0 F (fun _ => ⟨0, 0⟩) (by omega) (by omega) (fun _ _ => rfl) fun _ _ => rfl
theorem l42 (p : Span) : ∀ r k fu, k + 1 + r = c.slices.len → r < fu →
    L42x1 (E F (d + 14)) F c l fu ((k + 1 : Nat) : Int) false c.slices.len 2 (fun i => eSpan (saltS c l.el l.len i)) (k + 1) .i64 p.lo .i64 p.hi (k + 1) (gl eSpan ⟨0, 0⟩ (tabL (volK c l.el l.len) (k + 1)))
      = some (.ret (.tup [.agg [sl eSpan 2 (saltSl c l.el l.len), sl eSpan 2 (tabP (volK c l.el l.len) c.slices.len), .int .i64 p.lo, .int .i64 p.hi], .int .i64 0])) := by
  have hcl := hc.1
  intro r
  induction r with
  | zero =>
    intro k fu h hf
    obtain ⟨fu, rfl⟩ : ∃ k, fu = k + 1 := ⟨fu - 1, by omega⟩
    rw [L42x1s, decide_eq_false (by omega), pF, show k + 1 = c.slices.len by omega]
    rfl
  | succ r ih =>
    intro k fu h hf
    obtain ⟨fu, rfl⟩ : ∃ k, fu = k + 1 := ⟨fu - 1, by omega⟩
    have hv := volK_in hc hl h8 (k := k + 1) (by omega)
    have hvo : SpanIn (c.slices.el (k + 1)).vol 0 10000000000000 := (hc.2.2.2 (k + 1) (by omega)).1
    unfold SpanIn at hvo
    have q86 : (E F (d + 14)).pf 86 [.agg [.int .i64 (saltS c l.el l.len (k + 1)).lo, .int .i64 (saltS c l.el l.len (k + 1)).hi], .int .i64 (c.slices.el (k + 1)).opn] = _ := s86 F (d + 13) (saltS c l.el l.len (k + 1)) (c.slices.el (k + 1)).opn (by constructor <;> omega) (by constructor <;> omega)
    have q85 := s85 F (d + 13) (c.slices.el (k + 1)).vol (timesS (saltS c l.el l.len (k + 1)) (c.slices.el (k + 1)).opn) (by omega) (by constructor <;> omega) (by constructor <;> omega) (by rw [hv.1]; constructor <;> simp only <;> omega) (by rw [hv.1]; constructor <;> simp only <;> omega)
    rw [show d + 13 + 1 = d + 14 from rfl] at q85
    have e3 : appGet (k + 1) (gl eSpan ⟨0, 0⟩ (tabL (volK c l.el l.len) (k + 1))) (fun _ => eSpan (volK c l.el l.len (k + 1))) = gl eSpan ⟨0, 0⟩ (tabL (volK c l.el l.len) (k + 1 + 1)) := by
      refine (gl_snoc (m := volK c l.el l.len (k + 1)) (e := eSpan) (tabL_len _ (k + 1)) rfl).trans ?_
      rw [← tabL_S]
    rw [L42x1s]
    simp (disch := omega) only [decide_eq_true, Int.toNat_natCast, pT, show ((2 : Nat) == 2) = true from rfl, List.take, List.length, show ((0 + 1 + 1 : Nat) == 2) = true from rfl, tkCons_c, tkInt_i, tkNil_n, q86, tkOut_ret, tkAgg_a]
    rw [q85]
    simp only [tkOut_ret, tkAgg_a, tkCons_c, tkInt_i, tkNil_n]
    rw [wrS (by omega)]
    unfold volK at e3
    simp only [eSpan] at e3
    unfold volK
    rw [e3]
    exact ih (k + 1) fu (by omega) (by omega)
end
end Go.Sim.Le


namespace Go.Sim.Le
open Go.Proofs
def sumpM (c : Cav) : Mea := ⟨⟨false, c.slices.len, fun _ => 0⟩, 1⟩
theorem sumpM_ok (c : Cav) : MeaOk c (sumpM c) := ⟨rfl, fun i _ => by show -1000 ≤ (0 : Int) ∧ (0 : Int) ≤ 1000; omega, by show -1000 ≤ (1 : Int); omega, by show (1 : Int) ≤ 1000; omega⟩
def afterV (c : Cav) (l : Nat → Stg) (n : Nat) : List V := [sl eSpan 2 (saltSl c l n), sl eSpan 2 (tabP (volK c l n) c.slices.len), .int .i64 (boundS c l (sumpM c) n).lo, .int .i64 (boundS c l (sumpM c) n).hi]
def after0 : List V := [.row true 0 0 fun _ => [], .row true 0 0 fun _ => [], .int .i64 0, .int .i64 0]
variable (F d : Nat)
theorem s42 (c : Cav) (l : Sl Stg) (hC : c.slices.len < Big) (hCF : c.slices.len < F) (hB : l.len < Big) (hLF : l.len < F) (hF : 1000000000 < F) : (E F (d + 15)).pf 42 [.agg (eCav c), sl eStg 4 l] =
    some (.ret (.tup (if errP c l true = 0 then [.agg (afterV c l.el l.len), .int .i64 0] else [.agg after0, .int .i64 (errP c l true)]))) := by
  have q57 := s57 F (d + 7) c l hC hCF hB hLF
  rw [show d + 7 + 7 = d + 14 from rfl] at q57
  have e57 : (if 8 < l.len then (3 : Int) else if CavOk c ∧ ∀ i, i < l.len → StgOk c.slices.len (l.el i) then 0 else 2) = errP c l true := by
    unfold errP
    simp only [and_true]
  rw [e57] at q57
  rw [E_pf, t42]
  simp only [q57, tkOut_ret, tkInt_i, decide_true, pT]
  by_cases h0 : errP c l true = 0
  · obtain ⟨h8, hc, hl, _⟩ := errP_0.1 h0
    have hcl := hc.1
    have hv := volK_in hc hl h8 (k := 0) (by omega)
    have hvo : SpanIn (c.slices.el 0).vol 0 10000000000000 := (hc.2.2.2 0 (by omega)).1
    unfold SpanIn at hvo
    have q84 : (E F (d + 14)).pf 84 [.agg (eCav c), sl eStg 4 l] = _ := s84 F (d + 11) hc h8 hl (by omega)
    have q62 : (E F (d + 14)).pf 62 [.agg (eCav c), sl eStg 4 l, .agg (eMea (sumpM c))] = _ := s62 F d hc (sumpM_ok c) l (by omega) hl (by omega)
    have q86 : (E F (d + 14)).pf 86 [.agg [.int .i64 (saltS c l.el l.len 0).lo, .int .i64 (saltS c l.el l.len 0).hi], .int .i64 (c.slices.el 0).opn] = _ := s86 F (d + 13) (saltS c l.el l.len 0) (c.slices.el 0).opn (by constructor <;> omega) (by constructor <;> omega)
    have q85 := s85 F (d + 13) (c.slices.el 0).vol (timesS (saltS c l.el l.len 0) (c.slices.el 0).opn) (by omega) (by constructor <;> omega) (by constructor <;> omega) (by rw [hv.1]; constructor <;> simp only <;> omega) (by rw [hv.1]; constructor <;> simp only <;> omega)
    rw [show d + 13 + 1 = d + 14 from rfl] at q85
    obtain ⟨F, rfl⟩ : ∃ k, F = k + 1 := ⟨F - 1, by omega⟩
    have e := l42 (F + 1) d hc h8 hl (by omega) (boundS c l.el (sumpM c) l.len) (c.slices.len - 1) 0 F (by omega) (by omega)
    rw [h0, if_pos rfl]
    simp only [eMea, sumpM, sl, eInt] at q62
    simp only [sl] at q84 q62 ⊢
    simp only [sl, q84, tkRow_r, show ((0 : Int) != 0) = false from rfl, pF, saltSl]
    simp (disch := omega) only [decide_eq_true, decide_true, pT, Int.toNat_natCast, q62, tkOut_ret, tkAgg_a, tkCons_c, tkInt_i, tkNil_n, eSpan, tkRow_r]
    rw [L42x0s]
    simp (disch := omega) only [decide_eq_true, Int.toNat_natCast, pT, show ((2 : Nat) == 2) = true from rfl, List.take, List.length, show ((0 + 1 + 1 : Nat) == 2) = true from rfl, tkCons_c, tkInt_i, tkNil_n, q86, tkOut_ret, tkAgg_a]
    rw [q85]
    simp only [tkOut_ret, tkAgg_a, tkCons_c, tkInt_i, tkNil_n]
    rw [show tabL (volK c l.el l.len) (0 + 1) = [volK c l.el l.len 0] from rfl, ← gl_one rfl] at e
    exact e
  · rw [if_neg h0]
    have e1 : (errP c l true != 0) = true := by simpa using h0
    simp only [e1, pT]
    rfl
end Go.Sim.Le


namespace Go.Sim.Le
open Go.Proofs
theorem bestHi_le {f : Int → Int} {a H : Int} : ∀ j : Nat, (∀ n, a ≤ n → n ≤ a + j → f n ≤ H) → bestHi f a j ≤ H
  | 0, h => h a (by omega) (by omega)
  | j + 1, h => by
    have h1 := bestHi_le j fun n h1 h2 => h n h1 (by omega)
    have h2 := h (a + ((j + 1 : Nat) : Int)) (by omega) (by omega)
    simp only [bestHi]
    omega
theorem le_bestLo {f : Int → Int} {a H : Int} : ∀ j : Nat, (∀ n, a ≤ n → n ≤ a + j → H ≤ f n) → H ≤ bestLo f a j
  | 0, h => h a (by omega) (by omega)
  | j + 1, h => by
    have h1 := le_bestLo j fun n h1 h2 => h n h1 (by omega)
    have h2 := h (a + ((j + 1 : Nat) : Int)) (by omega) (by omega)
    simp only [bestLo]
    omega
theorem le_bestHi {f : Int → Int} {a : Int} {n : Int} (h1 : a ≤ n) : ∀ j : Nat, n ≤ a + j → f n ≤ bestHi f a j
  | 0, h => by rw [show n = a by omega]; exact Int.le_refl _
  | j + 1, h => by
    simp only [bestHi]
    by_cases h2 : n ≤ a + j
    · have := le_bestHi h1 (f := f) j h2; omega
    · rw [show n = a + ((j + 1 : Nat) : Int) by omega]; omega
theorem bestLo_le {f : Int → Int} {a : Int} {n : Int} (h1 : a ≤ n) : ∀ j : Nat, n ≤ a + j → bestLo f a j ≤ f n
  | 0, h => by rw [show n = a by omega]; exact Int.le_refl _
  | j + 1, h => by
    simp only [bestLo]
    by_cases h2 : n ≤ a + j
    · have := bestLo_le h1 (f := f) j h2; omega
    · rw [show n = a + ((j + 1 : Nat) : Int) by omega]; omega
theorem bestHi_at {f : Int → Int} {a : Int} {j : Nat} {n : Int} (h1 : a ≤ n) (h2 : n ≤ a + j) (h : ∀ k, a ≤ k → k ≤ a + j → f k ≤ f n) : bestHi f a j = f n := Int.le_antisymm (bestHi_le j h) (le_bestHi h1 j h2)
theorem bestLo_at {f : Int → Int} {a : Int} {j : Nat} {n : Int} (h1 : a ≤ n) (h2 : n ≤ a + j) (h : ∀ k, a ≤ k → k ≤ a + j → f n ≤ f k) : bestLo f a j = f n := Int.le_antisymm (bestLo_le h1 j h2) (le_bestLo j h)
def oneM (c : Cav) (u : Nat) : Mea := ⟨⟨false, c.slices.len, oneW u⟩, 0⟩
theorem oneM_gain (c : Cav) (u i : Nat) : gainI c (oneM c u) i = if i = u then (c.slices.el i).opn else 0 := by
  unfold gainI
  show (c.slices.el i).opn * oneW u i + (c.slices.el i).fall * 0 = _
  unfold oneW
  split <;> omega
theorem best0 {f : Int → Int} {a : Int} {j : Nat} (h : ∀ n, a ≤ n → n ≤ a + j → f n = 0) : bestHi f a j = 0 ∧ bestLo f a j = 0 := by
  have h0 := h a (by omega) (by omega)
  exact ⟨(bestHi_at (n := a) (by omega) (by omega) fun k h1 h2 => by rw [h k h1 h2, h0]; omega).trans h0, (bestLo_at (n := a) (by omega) (by omega) fun k h1 h2 => by rw [h k h1 h2, h0]; omega).trans h0⟩
section
variable {c : Cav} (hc : CavOk c) {s : Stg} (hs : StgOk c.slices.len s)
include hc hs
theorem rest_zero {m : Mea} : ∀ r, r ≤ pathN s → (∀ k, pathN s - r ≤ k → k < pathN s → gainI c m (pathAt s k).toNat = 0) → ∀ b, 0 ≤ b → restS c m s r b = ⟨0, 0⟩ := by
  intro r
  induction r with
  | zero => intro _ _ b _; rfl
  | succ r ih =>
    intro h hg b hb
    have ho : SpanIn (slAt c s (pathN s - (r + 1))).rate 0 300 := (slcOk_at hc hs (k := pathN s - (r + 1)) (by omega)).2.2.2.1
    unfold SpanIn at ho
    simp only [restS]
    rw [hg (pathN s - (r + 1)) (by omega) (by omega)]
    have hI := ih (by omega) fun k h1 h2 => hg k (by omega) h2
    have e1 := (best0 (f := fun n => (restS c m s r (b - n)).hi + n * 0) (a := min (slAt c s (pathN s - (r + 1))).rate.lo b) (j := (min (slAt c s (pathN s - (r + 1))).rate.hi b - min (slAt c s (pathN s - (r + 1))).rate.lo b).toNat) fun n h1 h2 => by
      show (restS c m s r (b - n)).hi + n * 0 = 0
      rw [hI (b - n) (by omega)]; simp).1
    have e2 := (best0 (f := fun n => (restS c m s r (b - n)).lo + n * 0) (a := min (slAt c s (pathN s - (r + 1))).rate.lo b) (j := (min (slAt c s (pathN s - (r + 1))).rate.hi b - min (slAt c s (pathN s - (r + 1))).rate.lo b).toNat) fun n h1 h2 => by
      show (restS c m s r (b - n)).lo + n * 0 = 0
      rw [hI (b - n) (by omega)]; simp).2
    rw [e1, e2]
theorem sumLo_mono {j : Nat} : ∀ q, j ≤ q → q ≤ pathN s → sumLo c s j ≤ sumLo c s q ∧ sumHi c s j ≤ sumHi c s q := by
  intro q
  induction q with
  | zero => intro h _; rw [show j = 0 by omega]; omega
  | succ q ih =>
    intro h hq
    by_cases h1 : j = q + 1
    · subst h1; omega
    · have h2 := ih (by omega) (by omega)
      have ho : SpanIn (slAt c s q).rate 0 300 := (slcOk_at hc hs (k := q) (by omega)).2.2.2.1
      unfold SpanIn at ho
      simp only [sumLo, sumHi]
      omega
theorem rest_one {u q : Nat} (hq : q < pathN s) (hu : (pathAt s q).toNat = u) : ∀ r, r ≤ pathN s → pathN s - r ≤ q → ∀ b, 0 ≤ b → restS c (oneM c u) s r b = ⟨(c.slices.el u).opn * min (slAt c s q).rate.lo (max 0 (b - (sumHi c s q - sumHi c s (pathN s - r)))), (c.slices.el u).opn * min (slAt c s q).rate.hi (max 0 (b - (sumLo c s q - sumLo c s (pathN s - r))))⟩ := by
  have hinu := pathAt_in hs hq
  have hop : 1000 ≤ (c.slices.el u).opn := (hc.2.2.2 u (by omega)).2.1.1
  intro r
  induction r with
  | zero => intro _ h; omega
  | succ r ih =>
    intro h hk b hb
    have ho : SpanIn (slAt c s (pathN s - (r + 1))).rate 0 300 := (slcOk_at hc hs (k := pathN s - (r + 1)) (by omega)).2.2.2.1
    unfold SpanIn at ho
    have hin := pathAt_in hs (k := pathN s - (r + 1)) (by omega)
    simp only [restS]
    rw [oneM_gain]
    by_cases hkq : pathN s - (r + 1) = q
    · have hz := rest_zero hc hs (m := oneM c u) r (by omega) fun k h1 h2 => by
        rw [oneM_gain, if_neg]
        intro he
        have hin2 := pathAt_in hs (k := k) (by omega)
        have := pathAt_inj (s := s) (j := k) (k := q) (by omega)
        omega
      rw [hkq] at ho ⊢
      rw [if_pos hu, hu]
      rw [show b - (sumHi c s q - sumHi c s q) = b by omega, show b - (sumLo c s q - sumLo c s q) = b by omega, show max 0 b = b by omega]
      generalize hg : (c.slices.el u).opn = g at hop ⊢
      have e1 := bestHi_at (f := fun n => (restS c (oneM c u) s r (b - n)).hi + n * g) (a := min (slAt c s q).rate.lo b) (j := (min (slAt c s q).rate.hi b - min (slAt c s q).rate.lo b).toNat) (n := min (slAt c s q).rate.hi b) (by omega) (by omega) fun k h1 h2 => by
        show (restS c (oneM c u) s r (b - k)).hi + k * g ≤ (restS c (oneM c u) s r (b - min (slAt c s q).rate.hi b)).hi + min (slAt c s q).rate.hi b * g
        rw [hz (b - k) (by omega), hz _ (by omega)]
        have := Int.mul_le_mul_of_nonneg_right (c := g) (show k ≤ min (slAt c s q).rate.hi b by omega) (by omega)
        simp only
        omega
      have e2 := bestLo_at (f := fun n => (restS c (oneM c u) s r (b - n)).lo + n * g) (a := min (slAt c s q).rate.lo b) (j := (min (slAt c s q).rate.hi b - min (slAt c s q).rate.lo b).toNat) (n := min (slAt c s q).rate.lo b) (by omega) (by omega) fun k h1 h2 => by
        show (restS c (oneM c u) s r (b - min (slAt c s q).rate.lo b)).lo + min (slAt c s q).rate.lo b * g ≤ (restS c (oneM c u) s r (b - k)).lo + k * g
        rw [hz (b - k) (by omega), hz _ (by omega)]
        have := Int.mul_le_mul_of_nonneg_right (c := g) (show min (slAt c s q).rate.lo b ≤ k by omega) (by omega)
        simp only
        omega
      rw [e1, e2]
      rw [hz _ (by omega), hz _ (by omega), Int.mul_comm g, Int.mul_comm g]
      simp
    · have hne : (pathAt s (pathN s - (r + 1))).toNat ≠ u := by
        intro he
        have := pathAt_inj (s := s) (j := pathN s - (r + 1)) (k := q) (by omega)
        omega
      have hI := ih (by omega) (by omega)
      have hS : pathN s - r = pathN s - (r + 1) + 1 := by omega
      rw [if_neg hne]
      rw [hS] at hI
      simp only [sumHi, sumLo] at hI
      generalize hkk : pathN s - (r + 1) = k at hI ho ⊢
      generalize hg : (c.slices.el u).opn = g at hop hI ⊢
      have e1 := bestHi_at (f := fun n => (restS c (oneM c u) s r (b - n)).hi + n * 0) (a := min (slAt c s k).rate.lo b) (j := (min (slAt c s k).rate.hi b - min (slAt c s k).rate.lo b).toNat) (n := min (slAt c s k).rate.lo b) (by omega) (by omega) fun n h1 h2 => by
        show (restS c (oneM c u) s r (b - n)).hi + n * 0 ≤ (restS c (oneM c u) s r (b - min (slAt c s k).rate.lo b)).hi + min (slAt c s k).rate.lo b * 0
        rw [hI (b - n) (by omega), hI _ (by omega)]
        simp only [Int.mul_zero, Int.add_zero]
        exact Int.mul_le_mul_of_nonneg_left (by omega) (by omega)
      have e2 := bestLo_at (f := fun n => (restS c (oneM c u) s r (b - n)).lo + n * 0) (a := min (slAt c s k).rate.lo b) (j := (min (slAt c s k).rate.hi b - min (slAt c s k).rate.lo b).toNat) (n := min (slAt c s k).rate.hi b) (by omega) (by omega) fun n h1 h2 => by
        show (restS c (oneM c u) s r (b - min (slAt c s k).rate.hi b)).lo + min (slAt c s k).rate.hi b * 0 ≤ (restS c (oneM c u) s r (b - n)).lo + n * 0
        rw [hI (b - n) (by omega), hI _ (by omega)]
        simp only [Int.mul_zero, Int.add_zero]
        exact Int.mul_le_mul_of_nonneg_left (by omega) (by omega)
      have hsm := sumLo_mono hc hs (j := k + 1) q (by omega) (by omega)
      simp only [sumLo, sumHi] at hsm
      rw [e1, e2]
      simp only [Int.mul_zero, Int.add_zero]
      rw [hI _ (by omega), hI _ (by omega)]
      simp only
      have a1 : min (slAt c s q).rate.lo (max 0 (b - min (slAt c s k).rate.hi b - (sumHi c s q - (sumHi c s k + (slAt c s k).rate.hi)))) = min (slAt c s q).rate.lo (max 0 (b - (sumHi c s q - sumHi c s k))) := by omega
      have a2 : min (slAt c s q).rate.hi (max 0 (b - min (slAt c s k).rate.lo b - (sumLo c s q - (sumLo c s k + (slAt c s k).rate.lo)))) = min (slAt c s q).rate.hi (max 0 (b - (sumLo c s q - sumLo c s k))) := by omega
      rw [a1, a2]
end
end Go.Sim.Le


namespace Go.Sim.Le
open Go.Proofs
section
variable {c : Cav} (hc : CavOk c)
include hc
theorem rtRow_at {s : Stg} (hs : StgOk c.slices.len s) {q : Nat} : ∀ k, q < k → k ≤ pathN s → rtRow c s k (pathAt s q).toNat = rtK c s q := by
  intro k
  induction k with
  | zero => intro h _; omega
  | succ k ih =>
    intro h hk
    simp only [rtRow]
    by_cases h1 : q = k
    · subst h1; rw [if_pos rfl]
    · have i1 := pathAt_in hs (k := k) (by omega)
      have i2 := pathAt_in hs (k := q) (by omega)
      rw [if_neg (fun e => by have := pathAt_inj (s := s) (j := q) (k := k) (by omega); omega)]
      exact ih (by omega) (by omega)
theorem rtRow_off {s : Stg} {u : Nat} : ∀ k, (∀ q, q < k → (pathAt s q).toNat ≠ u) → rtRow c s k u = ⟨0, 0⟩ := by
  intro k
  induction k with
  | zero => intro _; rfl
  | succ k ih =>
    intro h
    simp only [rtRow]
    rw [if_neg (fun e => h k (by omega) e.symm)]
    exact ih fun q hq => h q (by omega)
theorem grown_one {s : Stg} (hs : StgOk c.slices.len s) (u : Nat) : restS c (oneM c u) s (pathN s) c.hold = ⟨(c.slices.el u).opn * (rtRow c s (pathN s) u).lo, (c.slices.el u).opn * (rtRow c s (pathN s) u).hi⟩ := by
  have hH := hc.2.1
  by_cases h : ∃ q, q < pathN s ∧ (pathAt s q).toNat = u
  · obtain ⟨q, hq, hu⟩ := h
    rw [rest_one hc hs hq hu (pathN s) (Nat.le_refl _) (by omega) c.hold (by omega), ← hu, rtRow_at hc hs (pathN s) hq (Nat.le_refl _)]
    rw [Nat.sub_self]
    simp only [sumHi, sumLo, Int.sub_zero, rtK]
  · rw [rtRow_off hc (pathN s) fun q hq hu => h ⟨q, hq, hu⟩]
    rw [rest_zero hc hs (pathN s) (Nat.le_refl _) (fun k _ hk => by rw [oneM_gain, if_neg (fun e => h ⟨k, hk, e⟩)]) c.hold (by omega)]
    simp
theorem first_one {u : Nat} : ∀ k, firstS c (oneM c u) k = if u < k then (c.slices.el u).vol else ⟨0, 0⟩ := by
  intro k
  induction k with
  | zero => rfl
  | succ k ih =>
    simp only [firstS]
    rw [ih]
    show addS _ (timesS (c.slices.el k).vol (oneW u k)) = _
    unfold oneW
    by_cases h1 : k = u
    · subst h1
      rw [if_neg (by omega), if_pos rfl, if_pos (by omega)]
      simp [timesS, addS]
    · rw [if_neg h1]
      by_cases h2 : u < k
      · rw [if_pos h2, if_pos (by omega)]; simp [timesS, addS]
      · rw [if_neg h2, if_neg (by omega)]; simp [timesS, addS]
theorem bound_one {u : Nat} (hu : u < c.slices.len) {n : Nat} {l : Nat → Stg} (hl : ∀ i, i < n → StgOk c.slices.len (l i)) : ∀ k, k ≤ n → boundS c l (oneM c u) k = volK c l k u := by
  have hop : 1000 ≤ (c.slices.el u).opn := (hc.2.2.2 u hu).2.1.1
  have hno : ¬ (c.slices.el u).opn < 0 := by omega
  intro k
  induction k with
  | zero =>
    intro _
    simp only [boundS, volK, saltS]
    rw [first_one hc, if_pos hu]
    simp [timesS, addS]
  | succ k ih =>
    intro h
    have hs := hl k (by omega)
    have hwa := hs.1
    have hnw : ¬ (l k).water < 0 := by omega
    simp only [boundS, volK, saltS, grownS]
    rw [ih (by omega), grown_one hc hs u]
    simp only [volK, timesS, if_neg hno, if_neg hnw, addS, Int.mul_add, Int.mul_left_comm (l k).water, Int.add_assoc]
end
variable (F d : Nat)
section
variable {c : Cav} (hc : CavOk c) {l : Sl Stg} (h8 : l.len ≤ 8) (hl : ∀ i, i < l.len → StgOk c.slices.len (l.el i)) (hF : 1000000000 < F)
include hc h8 hl hF
def afterR (c : Cav) (l : Nat → Stg) (n : Nat) : List V := [sl eSpan 2 (tabP (saltS c l n) c.slices.len), sl eSpan 2 (tabP (volK c l n) c.slices.len), .int .i64 (boundS c l (sumpM c) n).lo, .int .i64 (boundS c l (sumpM c) n).hi]
end
end Go.Sim.Le


namespace Go.Sim.Le
open Go.Proofs
variable (F d : Nat)
end Go.Sim.Le


namespace Go.Sim.Le
open Go.Proofs
def rotF {α : Type} (l : Nat → α) (n q u : Nat) : α := if u < n - q then l (u + q) else l (u - (n - q))
def narrow (d : Int) (x : Slc) : Slc := { x with vol := ⟨x.vol.lo, x.vol.hi - min d (x.vol.hi - x.vol.lo)⟩, rate := ⟨x.rate.lo + min d (x.rate.hi - x.rate.lo), x.rate.hi⟩ }
def narrowC (d : Int) (c : Cav) : Cav := { c with slices := ⟨false, c.slices.len, fun u => if u < c.slices.len then narrow d (c.slices.el u) else c.slices.el u⟩ }
section
variable {d : Int} (hd : 0 ≤ d) {c : Cav} (hc : CavOk c) {s : Stg} (hs : StgOk c.slices.len s)
include hd hc hs
end
section
variable {d : Int} (hd : 0 ≤ d) {c : Cav} (hc : CavOk c) {l : Nat → Stg} {n : Nat} (hl : ∀ i, i < n → StgOk c.slices.len (l i))
include hd hc hl
end
def moreL (d : Int) (q : Nat) (l : Nat → Stg) (u : Nat) : Stg := if u = q then { l u with water := min 1000000 ((l u).water + d) } else l u
section
variable {d : Int} (hd : 0 ≤ d) {c : Cav} (hc : CavOk c) {l : Nat → Stg} {n : Nat} (hl : ∀ i, i < n → StgOk c.slices.len (l i)) (q : Nat)
include hd hl
include hc
end
end Go.Sim.Le


namespace Go.Sim.Le
open Go.Proofs
section
variable {d : Int} (hd : 0 ≤ d) {c : Cav} (hc : CavOk c) {s : Stg} (hs : StgOk c.slices.len s)
include hd hc hs
end
variable (F d : Nat)
section
variable {c : Cav} (hc : CavOk c) {l : Sl Stg} (h8 : l.len ≤ 8) (hl : ∀ i, i < l.len → StgOk c.slices.len (l.el i)) (hF : 1000000000 < F)
include hc h8 hl hF
end
end Go.Sim.Le


namespace Go.Sim.Le
open Go.Proofs
variable (F d : Nat)
end Go.Sim.Le


namespace Go.Sim.Le
open Go.Proofs
def trueM (c : Cav) (l : Nat → Stg) (t : Truth) (m : Mea) (j : Nat) : Int := sumF (fun i => m.weights.el i * volS c l t j i) c.slices.len + m.sump * sumpS c l t j
theorem timesS_mem {p : Span} {n x : Int} (h1 : p.lo ≤ x) (h2 : x ≤ p.hi) : (timesS p n).lo ≤ n * x ∧ n * x ≤ (timesS p n).hi := by
  unfold timesS
  by_cases h : n < 0
  · rw [if_pos h]
    exact ⟨Int.mul_le_mul_of_nonpos_left (by omega) h2, Int.mul_le_mul_of_nonpos_left (by omega) h1⟩
  · rw [if_neg h]
    exact ⟨Int.mul_le_mul_of_nonneg_left h1 (by omega), Int.mul_le_mul_of_nonneg_left h2 (by omega)⟩
section
variable {c : Cav} (hc : CavOk c) {s : Stg} (hs : StgOk c.slices.len s) (w : Nat → Int) (hw : RatesOk c w)
include hc hs hw
theorem play_rest (m : Mea) : ∀ r, r ≤ pathN s → (restS c m s r (c.hold - (tkT c s w (pathN s - r)).1)).lo ≤ pathSum c s w (gainI c m) (pathN s) - pathSum c s w (gainI c m) (pathN s - r) ∧ pathSum c s w (gainI c m) (pathN s) - pathSum c s w (gainI c m) (pathN s - r) ≤ (restS c m s r (c.hold - (tkT c s w (pathN s - r)).1)).hi := by
  intro r
  induction r with
  | zero => intro _; simp [restS]
  | succ r ih =>
    intro h
    have i := ih (by omega)
    have ho : SpanIn (slAt c s (pathN s - (r + 1))).rate 0 300 := (slcOk_at hc hs (k := pathN s - (r + 1)) (by omega)).2.2.2.1
    unfold SpanIn at ho
    have hin := pathAt_in hs (k := pathN s - (r + 1)) (by omega)
    have hwr : (slAt c s (pathN s - (r + 1))).rate.lo ≤ w (pathAt s (pathN s - (r + 1))).toNat ∧ w (pathAt s (pathN s - (r + 1))).toNat ≤ (slAt c s (pathN s - (r + 1))).rate.hi := hw _ (by omega)
    have hS : pathN s - r = pathN s - (r + 1) + 1 := by omega
    rw [hS] at i
    simp only [pathSum, tkT] at i
    simp only [restS]
    generalize hk : pathN s - (r + 1) = k at *
    have hn : min (w (pathAt s k).toNat) (c.hold - (tkT c s w k).1) = takeN c s w k := rfl
    rw [hn] at i
    have hn1 : min (slAt c s k).rate.lo (c.hold - (tkT c s w k).1) ≤ takeN c s w k := by unfold takeN; omega
    have hn2 : takeN c s w k ≤ min (slAt c s k).rate.hi (c.hold - (tkT c s w k).1) := by unfold takeN; omega
    generalize hg : gainI c m (pathAt s k).toNat = g at *
    rw [show c.hold - ((tkT c s w k).1 + takeN c s w k) = c.hold - (tkT c s w k).1 - takeN c s w k by omega] at i
    generalize hb : c.hold - (tkT c s w k).1 = b at *
    have e1 := le_bestHi (f := fun n => (restS c m s r (b - n)).hi + n * g) hn1 (min (slAt c s k).rate.hi b - min (slAt c s k).rate.lo b).toNat (by omega)
    have e2 := bestLo_le (f := fun n => (restS c m s r (b - n)).lo + n * g) hn1 (min (slAt c s k).rate.hi b - min (slAt c s k).rate.lo b).toNat (by omega)
    rw [Int.mul_comm g] at i
    omega
theorem play_grown (m : Mea) : (grownS c m s).lo ≤ s.water * pathSum c s w (gainI c m) (pathN s) ∧ s.water * pathSum c s w (gainI c m) (pathN s) ≤ (grownS c m s).hi := by
  have h := play_rest hc hs w hw m (pathN s) (Nat.le_refl _)
  rw [Nat.sub_self] at h
  simp only [tkT, pathSum, Int.sub_zero] at h
  unfold grownS
  exact timesS_mem h.1 h.2
end
theorem pathSum_lin {c : Cav} {s : Stg} {w : Nat → Int} (f g : Nat → Int) (x : Int) : ∀ k, pathSum c s w (fun i => f i + g i * x) k = pathSum c s w f k + x * pathSum c s w g k
  | 0 => by simp [pathSum]
  | k + 1 => by
    simp only [pathSum]
    rw [pathSum_lin f g x k, Int.add_mul, Int.mul_add]
    have : g (pathAt s k).toNat * x * takeN c s w k = x * (g (pathAt s k).toNat * takeN c s w k) := by rw [Int.mul_comm (g (pathAt s k).toNat), Int.mul_assoc]
    omega
section
variable {c : Cav} (hc : CavOk c) {n : Nat} {l : Nat → Stg} (hl : ∀ i, i < n → StgOk c.slices.len (l i)) {t : Truth} (ht : TruthOk c n t)
include hl in
theorem true_step (m : Mea) {j : Nat} (hj : j < n) : trueM c l t m (j + 1) = trueM c l t m j + (l j).water * pathSum c (l j) (wK t j) (gainI c m) (pathN (l j)) := by
  have hs := hl j hj
  have e1 : sumF (fun i => m.weights.el i * volS c l t (j + 1) i) c.slices.len = sumF (fun i => m.weights.el i * volS c l t j i) c.slices.len + (l j).water * pathSum c (l j) (wK t j) (fun i => (c.slices.el i).opn * m.weights.el i) (pathN (l j)) := by
    rw [← take_sum hs (wK t j) (fun i => (c.slices.el i).opn * m.weights.el i) (pathN (l j)) (Nat.le_refl _), ← sumF_mul, ← sumF_add]
    refine sumF_cong _ fun i _ => ?_
    simp only [volS, opnF]
    rw [Int.mul_add]
    congr 1
    rw [← Int.mul_assoc, Int.mul_comm (m.weights.el i), Int.mul_assoc]
    simp only [Int.mul_assoc]
  have e2 : pathSum c (l j) (wK t j) (gainI c m) (pathN (l j)) = pathSum c (l j) (wK t j) (fun i => (c.slices.el i).opn * m.weights.el i) (pathN (l j)) + m.sump * pathSum c (l j) (wK t j) (fallF c) (pathN (l j)) := pathSum_lin (fun i => (c.slices.el i).opn * m.weights.el i) (fallF c) m.sump _
  unfold trueM
  rw [e1, e2]
  simp only [sumpS]
  rw [Int.mul_add, Int.mul_add, Int.mul_left_comm m.sump]
  omega
include hc ht in
theorem true_first (m : Mea) : ∀ k, k ≤ c.slices.len → (firstS c m k).lo ≤ sumF (fun i => m.weights.el i * volS c l t 0 i) k ∧ sumF (fun i => m.weights.el i * volS c l t 0 i) k ≤ (firstS c m k).hi
  | 0, _ => by simp [firstS, sumF]
  | k + 1, h => by
    have i := true_first m k (by omega)
    have h1 := ht.2.2.1 k (by rw [ht.1]; omega)
    have h2 := timesS_mem (p := (c.slices.el k).vol) (n := m.weights.el k) h1.1 h1.2
    simp only [firstS, sumF, addS, volS]
    simp only [volS] at i
    omega
include hc hl ht
theorem true_in (m : Mea) : ∀ j, j ≤ n → (boundS c l m j).lo ≤ trueM c l t m j ∧ trueM c l t m j ≤ (boundS c l m j).hi
  | 0, _ => by
    have i := true_first hc ht (l := l) m c.slices.len (Nat.le_refl _)
    simp only [boundS, trueM, sumpS, Int.mul_zero, Int.add_zero]
    exact i
  | j + 1, h => by
    have i := true_in m j (by omega)
    have hg := play_grown hc (hl j (by omega)) (wK t j) (truth_rates ht (by omega)) m
    rw [true_step hl m (by omega)]
    simp only [boundS, addS]
    omega
end
theorem sumF_one (f : Nat → Int) (u : Nat) : ∀ n, sumF (fun i => oneW u i * f i) n = if u < n then f u else 0
  | 0 => rfl
  | n + 1 => by
    simp only [sumF]
    rw [sumF_one f u n]
    unfold oneW
    by_cases h1 : n = u
    · subst h1; rw [if_neg (by omega), if_pos rfl, if_pos (by omega)]; omega
    · rw [if_neg h1]
      by_cases h2 : u < n
      · rw [if_pos h2, if_pos (by omega)]; omega
      · rw [if_neg h2, if_neg (by omega)]; omega
section
variable {c : Cav} (hc : CavOk c) {n : Nat} {l : Nat → Stg} (hl : ∀ i, i < n → StgOk c.slices.len (l i)) {t : Truth} (ht : TruthOk c n t)
include hc hl ht
theorem volT_in {u : Nat} (hu : u < c.slices.len) {j : Nat} (hj : j ≤ n) : (volK c l j u).lo ≤ volS c l t j u ∧ volS c l t j u ≤ (volK c l j u).hi := by
  have h := true_in hc hl ht (oneM c u) j hj
  rw [bound_one hc hu hl j hj] at h
  unfold trueM at h
  have e : sumF (fun i => (oneM c u).weights.el i * volS c l t j i) c.slices.len = volS c l t j u := (sumF_one _ u _).trans (if_pos hu)
  rw [e] at h
  have z : (oneM c u).sump = 0 := rfl
  rw [z, Int.zero_mul, Int.add_zero] at h
  exact h
theorem sumpT_in {j : Nat} (hj : j ≤ n) : (boundS c l (sumpM c) j).lo ≤ sumpS c l t j ∧ sumpS c l t j ≤ (boundS c l (sumpM c) j).hi := by
  have h := true_in hc hl ht (sumpM c) j hj
  unfold trueM at h
  have e : sumF (fun i => (sumpM c).weights.el i * volS c l t j i) c.slices.len = 0 := by
    have := sumF_in (f := fun i => (sumpM c).weights.el i * volS c l t j i) (a := 0) (b := 0) c.slices.len fun i _ => by
      show 0 ≤ 0 * volS c l t j i ∧ 0 * volS c l t j i ≤ 0
      simp
    omega
  rw [e] at h
  have z : (sumpM c).sump = 1 := rfl
  rw [z, Int.one_mul, Int.zero_add] at h
  exact h
def takenS (l : Nat → Stg) (t : Truth) (c : Cav) (u : Nat) : Nat → Int
  | 0 => 0
  | j + 1 => takenS l t c u j + (l j).water * takeRow c (l j) (wK t j) (pathN (l j)) u
omit hc hl ht in
theorem vol_taken (u : Nat) : ∀ j, volS c l t j u = t.vols.el u + opnF c u * takenS l t c u j
  | 0 => by simp [volS, takenS]
  | j + 1 => by
    simp only [volS, takenS]
    rw [vol_taken u j, Int.mul_add, Int.mul_comm (takeRow _ _ _ _ _)]
    omega
theorem row_in {u : Nat} (hu : u < c.slices.len) {j : Nat} (hj : j < n) : (rtRow c (l j) (pathN (l j)) u).lo ≤ takeRow c (l j) (wK t j) (pathN (l j)) u ∧ takeRow c (l j) (wK t j) (pathN (l j)) u ≤ (rtRow c (l j) (pathN (l j)) u).hi := by
  have hs := hl j hj
  have hop : 1000 ≤ (c.slices.el u).opn := (hc.2.2.2 u hu).2.1.1
  have h := play_rest hc hs (wK t j) (truth_rates ht hj) (oneM c u) (pathN (l j)) (Nat.le_refl _)
  rw [Nat.sub_self] at h
  simp only [tkT, pathSum, Int.sub_zero] at h
  rw [grown_one hc hs u] at h
  have e := take_sum hs (wK t j) (gainI c (oneM c u)) (pathN (l j)) (Nat.le_refl _)
  have e2 : sumF (fun i => gainI c (oneM c u) i * takeRow c (l j) (wK t j) (pathN (l j)) i) c.slices.len = (c.slices.el u).opn * takeRow c (l j) (wK t j) (pathN (l j)) u := by
    have := sumF_one (fun i => (c.slices.el i).opn * takeRow c (l j) (wK t j) (pathN (l j)) i) u c.slices.len
    rw [if_pos hu] at this
    rw [← this]
    refine sumF_cong _ fun i _ => ?_
    rw [oneM_gain]
    unfold oneW
    split <;> simp
  rw [← e, e2] at h
  exact ⟨Int.le_of_mul_le_mul_left h.1 (by omega), Int.le_of_mul_le_mul_left h.2 (by omega)⟩
theorem taken_in {u : Nat} (hu : u < c.slices.len) : ∀ j, j ≤ n → (saltS c l j u).lo ≤ takenS l t c u j ∧ takenS l t c u j ≤ (saltS c l j u).hi
  | 0, _ => by simp [saltS, takenS]
  | j + 1, h => by
    have i := taken_in hu j (by omega)
    have hr := row_in hc hl ht hu (j := j) (by omega)
    have hst := timesS_mem (p := rtRow c (l j) (pathN (l j)) u) (n := (l j).water) hr.1 hr.2
    simp only [saltS, takenS, addS]
    omega
end
end Go.Sim.Le


namespace Go.Sim.Le
open Go.Proofs
variable (F d : Nat)
section
variable {c : Cav} (hc : CavOk c) {l : Sl Stg} (h8 : l.len ≤ 8) (hl : ∀ i, i < l.len → StgOk c.slices.len (l.el i)) {t : Truth} (ht : TruthOk c l.len t)
include hc h8 hl ht
theorem term46 {m : Mea} (hm : MeaOk c m) {u : Nat} (hu : u < c.slices.len) : -17200000000000000 ≤ m.weights.el u * volS c l.el t l.len u ∧ m.weights.el u * volS c l.el t l.len u ≤ 17200000000000000 := by
  have hv := vol_bd hc hl ht hu l.len (Nat.le_refl _)
  have h := hm.2.1 u hu
  have e := mul_in (a := m.weights.el u) (b := volS c l.el t l.len u) (x := 1000) (y := 17200000000000) h.1 h.2 (by omega) (by omega)
  omega
theorem sump46 {m : Mea} (hm : MeaOk c m) : -7200000000000000 ≤ m.sump * sumpS c l.el t l.len ∧ m.sump * sumpS c l.el t l.len ≤ 7200000000000000 := by
  have hs := sums_in hc hl ht l.len (Nat.le_refl _)
  have e := mul_in (a := m.sump) (b := sumpS c l.el t l.len) (x := 1000) (y := 7200000000000) hm.2.2.1 hm.2.2.2 (by omega) (by omega)
  omega
theorem l46 {m : Mea} (hm : MeaOk c m) (a2 a3 a4 : Int) : ∀ j i fu, i + j = c.slices.len → j < fu →
    L46x0 (E F d) F ⟨false, c.slices.len, volS c l.el t l.len⟩ m.weights (sumpS c l.el t l.len) a2 a3 a4 m.sump fu (m.sump * sumpS c l.el t l.len + sumF (fun u => m.weights.el u * volS c l.el t l.len u) i) i = some (.ret (.int .i64 (trueM c l.el t m l.len))) := by
  have hcl := hc.1
  have hwl := hm.1
  have hsp := sump46 hc h8 hl ht hm
  intro j
  induction j with
  | zero =>
    intro i fu h hf
    obtain ⟨fu, rfl⟩ : ∃ k, fu = k + 1 := ⟨fu - 1, by omega⟩
    rw [L46x0s, decide_eq_false (by omega), pF, show i = c.slices.len by omega, Int.add_comm]
    rfl
  | succ j ih =>
    intro i fu h hf
    obtain ⟨fu, rfl⟩ : ∃ k, fu = k + 1 := ⟨fu - 1, by omega⟩
    have h1 := term46 hc h8 hl ht hm (u := i) (by omega)
    have h2 := sumF_in (f := fun u => m.weights.el u * volS c l.el t l.len u) (a := -17200000000000000) (b := 17200000000000000) i fun u hu => term46 hc h8 hl ht hm (by omega)
    have e := ih (i + 1) fu (by omega) (by omega)
    simp only [sumF] at e
    rw [L46x0s]
    rw [decide_eq_true (show (i : Int) < (m.weights.len : Int) by omega), pT]
    simp only [decide_eq_true (show (i : Int) < (c.slices.len : Int) by omega), decide_eq_true (show (0 : Int) ≤ (i : Int) by omega), decide_eq_true (show (i : Int) < (m.weights.len : Int) by omega), pT, Int.toNat_natCast]
    rw [wr (n := m.weights.el i * volS c l.el t l.len i) (by omega), wr (n := m.sump * sumpS c l.el t l.len + sumF (fun u => m.weights.el u * volS c l.el t l.len u) i + m.weights.el i * volS c l.el t l.len i) (by omega), wrS (by omega), Int.add_assoc]
    exact e
theorem s46 {m : Mea} (hm : MeaOk c m) (hF : 400 < F) : (E F (d + 1)).pf 46 [.agg (endV c l.el t l.len), sl eInt 1 m.weights, .int .i64 m.sump] = some (.ret (.int .i64 (trueM c l.el t m l.len))) := by
  have hcl := hc.1
  have hsp := sump46 hc h8 hl ht hm
  have e := l46 F d hc h8 hl ht hm (saltP c l.el t l.len) (brineS c l.el t l.len) (outS c l.el t l.len) c.slices.len 0 F (by omega) (by omega)
  simp only [sumF, Int.add_zero] at e
  rw [E_pf]
  refine (t46 _ _ ⟨false, c.slices.len, volS c l.el t l.len⟩ _ _ _ _ _ _).trans ?_
  rw [wr (by omega)]
  exact e
theorem taken_bd {u : Nat} (hu : u < c.slices.len) {j : Nat} (hj : j ≤ l.len) : 0 ≤ takenS l.el t c u j ∧ takenS l.el t c u j ≤ 300000000 * j := by
  have h1 := taken_in hc hl ht hu j hj
  have h2 := salt_in hc hl u j hj
  omega
theorem l17x1 (w : Sl Int) (n : Int) (m0 u : Nat) (hu : u < c.slices.len) (hF : 1000000000 < F) (p q : Span) (a2 a3 a4 a1 : Int) : ∀ j k fu, k + j = l.len → j < fu →
    L17x1 (E F (d + 19)) F c l t w n m0 fu u (takenS l.el t c u k) k false c.slices.len 2 (fun i => eSpan (saltS c l.el l.len i)) false c.slices.len 2 (fun i => eSpan ((tabP (volK c l.el l.len) c.slices.len).el i)) .i64 p.lo .i64 p.hi .i64 q.lo .i64 q.hi false c.slices.len 1 (fun i => eInt (volS c l.el t l.len i)) .i64 a1 .i64 a2 .i64 a3 .i64 a4
      = L17x0 (E F (d + 19)) F c l t w n m0 ((u + 1 : Nat) : Int) false c.slices.len 2 (fun i => eSpan (saltS c l.el l.len i)) false c.slices.len 2 (fun i => eSpan ((tabP (volK c l.el l.len) c.slices.len).el i)) .i64 p.lo .i64 p.hi .i64 q.lo .i64 q.hi false c.slices.len 1 (fun i => eInt (volS c l.el t l.len i)) .i64 a1 .i64 a2 .i64 a3 .i64 a4 := by
  have hcl := hc.1
  have hvl := ht.1
  have hrl := ht.2.1
  intro j
  induction j with
  | zero =>
    intro k fu h hf
    obtain ⟨fu, rfl⟩ : ∃ k, fu = k + 1 := ⟨fu - 1, by omega⟩
    have hk : k = l.len := by omega
    subst hk
    have h1 := volT_in hc hl ht hu (Nat.le_refl l.len)
    have h2 := taken_in hc hl ht hu l.len (Nat.le_refl _)
    have h3 := taken_bd hc h8 hl ht hu (Nat.le_refl l.len)
    have h4 := vol_taken (c := c) (l := l.el) (t := t) u l.len
    have h5 := vol_bd hc hl ht hu l.len (Nat.le_refl _)
    have h6 := vol_bd hc hl ht hu 0 (by omega)
    have ho := opn_in hc u hu
    have m1 := mulnn (a := opnF c u) (b := takenS l.el t c u l.len) (x := 3000) (y := 2400000000) ho.1 ho.2 h3.1 (by omega)
    simp only [volS] at h6
    rw [L17x1s, decide_eq_false (by omega), pF]
    simp only [decide_eq_true (show (u : Int) < (c.slices.len : Int) by omega), decide_eq_true (show (0 : Int) ≤ (u : Int) by omega), decide_eq_true (show (u : Int) < (t.vols.len : Int) by omega), pT, Int.toNat_natCast, show ((1 : Nat) == 1) = true from rfl, show ((2 : Nat) == 2) = true from rfl, tkCons_c, tkInt_i, decide_true, List.drop, tabP_el _ hu]
    rw [decide_eq_false (show ¬ volS c l.el t l.len u < (volK c l.el l.len u).lo by omega), pF, decide_eq_false (show ¬ volS c l.el t l.len u > (volK c l.el l.len u).hi by omega), pF, decide_eq_false (show ¬ takenS l.el t c u l.len < (saltS c l.el l.len u).lo by omega), pF, decide_eq_false (show ¬ takenS l.el t c u l.len > (saltS c l.el l.len u).hi by omega), pF]
    have e1 : (c.slices.el u).opn * takenS l.el t c u l.len = opnF c u * takenS l.el t c u l.len := rfl
    rw [e1, wr (n := opnF c u * takenS l.el t c u l.len) (by omega), wr (by omega), h4, bne_self_eq_false, pF, wrS (by omega)]
  | succ j ih =>
    intro k fu h hf
    obtain ⟨fu, rfl⟩ : ∃ k, fu = k + 1 := ⟨fu - 1, by omega⟩
    have hs := hl k (by omega)
    have htr := ht.2.2.2 k (by omega)
    have q50 : (E F (d + 19)).pf 50 [.agg (eCav c), .agg (eStg (l.el k)), sl eInt 1 (t.rates.el k)] = _ := s50 F (d + 17) hc hs (wK t k) (truth_rates ht (by omega)) (t.rates.el k) rfl htr.1 (by omega)
    have hr := takeRow_in hc hs (wK t k) (truth_rates ht (by omega)) (pathN (l.el k)) (Nat.le_refl _) u
    have hwa := hs.1
    have m1 := mulnn (a := (l.el k).water) (b := takeRow c (l.el k) (wK t k) (pathN (l.el k)) u) (x := 1000000) (y := 300) (by omega) (by omega) hr.1 hr.2
    have h3 := taken_bd hc h8 hl ht hu (j := k) (by omega)
    rw [L17x1s]
    simp only [decide_eq_true (show (k : Int) < (l.len : Int) by omega), decide_eq_true (show (0 : Int) ≤ (k : Int) by omega), decide_eq_true (show (k : Int) < (t.rates.len : Int) by omega), pT, Int.toNat_natCast, q50, tkOut_ret, sl, takeSl, tkRow_r, show ((1 : Nat) == 1) = true from rfl, decide_eq_true (show (u : Int) < (c.slices.len : Int) by omega), decide_eq_true (show (0 : Int) ≤ (u : Int) by omega), tkCons_c, tkInt_i, decide_true]
    rw [wr (n := (l.el k).water * takeRow c (l.el k) (wK t k) (pathN (l.el k)) u) (by omega), wr (by omega), wrS (by omega)]
    exact ih (k + 1) fu (by omega) (by omega)
theorem l17x0 {m : Mea} (hm : MeaOk c m) (hF : 1000000000 < F) : ∀ j u fu, u + j = c.slices.len → j < fu →
    L17x0 (E F (d + 19)) F c l t m.weights m.sump fu u false c.slices.len 2 (fun i => eSpan (saltS c l.el l.len i)) false c.slices.len 2 (fun i => eSpan ((tabP (volK c l.el l.len) c.slices.len).el i)) .i64 (boundS c l.el (sumpM c) l.len).lo .i64 (boundS c l.el (sumpM c) l.len).hi .i64 (boundS c l.el m l.len).lo .i64 (boundS c l.el m l.len).hi false c.slices.len 1 (fun i => eInt (volS c l.el t l.len i)) .i64 (sumpS c l.el t l.len) .i64 (saltP c l.el t l.len) .i64 (brineS c l.el t l.len) .i64 (outS c l.el t l.len) = some (.ret (.bool true)) := by
  have hcl := hc.1
  have q21 : (E F (d + 19)).pf 21 [] = _ := s21 F d hF
  have q46 : (E F (d + 19)).pf 46 [.agg (endV c l.el t l.len), sl eInt 1 m.weights, .int .i64 m.sump] = _ := s46 F (d + 18) hc h8 hl ht hm (by omega)
  intro j
  induction j with
  | zero =>
    intro u fu h hf
    obtain ⟨fu, rfl⟩ : ∃ k, fu = k + 1 := ⟨fu - 1, by omega⟩
    have h1 := true_in hc hl ht m l.len (Nat.le_refl _)
    have h2 := sumpT_in hc hl ht (Nat.le_refl l.len)
    simp only [endV, sl] at q46
    rw [L17x0s, decide_eq_false (by omega), pF]
    simp only [sl, q46, tkOut_ret, tkInt_i, decide_true, pT]
    rw [decide_eq_true (show sumpS c l.el t l.len ≥ (boundS c l.el (sumpM c) l.len).lo from h2.1), pT, decide_eq_true h2.2, pT, decide_eq_true (show trueM c l.el t m l.len ≥ (boundS c l.el m l.len).lo from h1.1), pT, decide_eq_true h1.2, pT]
    simp only [q21, tkOut_ret, tkBool_b]
  | succ j ih =>
    intro u fu h hf
    obtain ⟨fu, rfl⟩ : ∃ k, fu = k + 1 := ⟨fu - 1, by omega⟩
    have e := l17x1 F d hc h8 hl ht m.weights m.sump fu u (by omega) hF (boundS c l.el (sumpM c) l.len) (boundS c l.el m l.len) (saltP c l.el t l.len) (brineS c l.el t l.len) (outS c l.el t l.len) (sumpS c l.el t l.len) l.len 0 F (by omega) (by omega)
    rw [L17x0s, decide_eq_true (by omega), pT]
    exact e.trans (ih (u + 1) fu (by omega) (by omega))
end
theorem s17 (c : Cav) (l : Sl Stg) (t : Truth) (w : Sl Int) (n : Int) (hC : c.slices.len < Big) (hCF : c.slices.len < F) (hB : l.len < Big) (hLF : l.len < F) (hT : t.rates.len < Big) (hTF : t.rates.len < F) (hnl : t.vols.nl = true → t.vols.len = 0) (hW : w.len < Big) (hWF : w.len < F) (hF : 1000000000 < F) : (E F (d + 20)).pf 17 [.agg (eCav c), sl eStg 4 l, .agg (eTruth t), sl eInt 1 w, .int .i64 n] = some (.ret (.bool true)) := by
  have q19 : (E F (d + 19)).pf 19 [.agg (eCav c)] = _ := s19 F (d + 18) c
  have q21 : (E F (d + 19)).pf 21 [] = _ := s21 F d hF
  have q20 : (E F (d + 19)).pf 20 [.agg (eCav c), sl eStg 4 l, .int .i64 5, .int .i64 100, .int .i64 8] = _ := s20 F (d + 14) c l 5 100 8 hC hCF hB hLF
  have q22 : (E F (d + 19)).pf 22 [.agg (eCav c), sl eStg 4 l, sl eInt 1 w, .int .i64 n] = _ := s22 F (d + 4) c l w n hC hCF hB hLF hW hWF (by omega)
  have q24 : (E F (d + 19)).pf 24 [.agg (eCav c), sl eInt 1 w, .int .i64 n] = _ := s24 F (d + 17) c w n hC hW hWF
  have q23 : (E F (d + 19)).pf 23 [.agg (eCav c), sl eStg 4 l, .bool (decide (WtOk c w n))] = _ := s23 F (d + 15) c l (decide (WtOk c w n)) hC hCF hB hLF
  have q42 : (E F (d + 19)).pf 42 [.agg (eCav c), sl eStg 4 l] = _ := s42 F (d + 4) c l hC hCF hB hLF hF
  have q44 : (E F (d + 19)).pf 44 [.agg (eCav c), sl eStg 4 l, .agg (eTruth t)] = _ := s44 F (d + 11) c l t hC hCF hB hLF hT hTF hnl (by omega)
  have q47 : (E F (d + 19)).pf 47 [.agg (eCav c), sl eStg 4 l, .agg (eTruth t)] = _ := s47 F (d + 17) c l t hC hT hCF hTF
  rw [E_pf, t17]
  cases h0 : decide (c.slices.len ≤ 20) with
  | false => rw [h0] at q19; simp only [q19, q21, tkOut_ret, tkBool_b, Bool.not_false, pT]
  | true =>
    rw [h0] at q19
    simp only [q19, tkOut_ret, tkBool_b, Bool.not_true, pF]
    cases decide ((l.len : Int) > 20) with
    | true => simp only [q21, tkOut_ret, tkBool_b, pT]
    | false =>
      rw [pF]
      cases decide ((w.len : Int) > 20) with
      | true => simp only [q21, tkOut_ret, tkBool_b, pT]
      | false =>
        rw [pF]
        cases decide ((t.vols.len : Int) > 20) with
        | true => simp only [q21, tkOut_ret, tkBool_b, pT]
        | false =>
          rw [pF]
          cases decide ((t.rates.len : Int) > 20) with
          | true => simp only [q21, tkOut_ret, tkBool_b, pT]
          | false =>
            rw [pF]
            simp only [q24, q23, tkOut_ret, tkBool_b, tkInt_i, decide_true, pT]
            by_cases h3 : errP c l (decide (WtOk c w n)) = 0
            · obtain ⟨h8, hc, hl, hw⟩ := errP_0.1 h3
              have hw' : WtOk c w n := of_decide_eq_true hw
              have hm : MeaOk c ⟨w, n⟩ := ⟨hw'.2.1, fun i hi => hw'.1 i (by rw [hw'.2.1]; exact hi), hw'.2.2.1, hw'.2.2.2⟩
              have h4 : errP c l true = 0 := errP_0.2 ⟨h8, hc, hl, rfl⟩
              rw [if_pos h3] at q22
              rw [if_pos h4] at q42
              rw [h3]
              simp only [z0', pF, q20, tkOut_ret, tkBool_b]
              generalize decide (errP c l true ≠ 0 ∨ (c.slices.len : Int) ≤ 5 ∧ c.hold ≤ 100 ∧ (l.len : Int) ≤ 8) = e
              cases e with
              | false => simp only [q21, tkOut_ret, tkBool_b, Bool.not_false, pT]
              | true =>
                simp only [Bool.not_true, pF, q47, tkOut_ret, tkBool_b]
                by_cases ht : TruthOk c l.len t
                · have q45 : (E F (d + 19)).pf 45 [.agg (eCav c), .agg (endV c l.el t l.len)] = _ := s45 F (d + 18) hc h8 hl ht hF
                  have e := l17x0 F d hc h8 hl ht hm hF c.slices.len 0 F (by omega) (by have := hc.1; omega)
                  rw [if_pos ⟨h4, ht⟩] at q44
                  rw [decide_eq_true ht]
                  simp only [endV, sl] at q44 q45
                  simp only [afterV, sl, saltSl] at q42
                  simp only [sl, eSpan] at q22
                  simp only [sl, q42, q22, q44, q45, tkOut_ret, tkBool_b, tkTup_t, tkAgg_a, tkCons_c, tkInt_i, tkRow_r, tkNil_n, Bool.not_true, pF, decide_true, pT, z0', bne_self_eq_false]
                  simp only [show (tabP (volK c l.el l.len) c.slices.len).len = c.slices.len from rfl, bne_self_eq_false, pF]
                  exact e
                · rw [decide_eq_false ht]
                  simp only [q21, tkOut_ret, tkBool_b, Bool.not_false, pT]
            · have e1 : (errP c l (decide (WtOk c w n)) != 0) = true := by simpa using h3
              simp only [e1, pT, q21, tkOut_ret, tkBool_b]
end Go.Sim.Le
