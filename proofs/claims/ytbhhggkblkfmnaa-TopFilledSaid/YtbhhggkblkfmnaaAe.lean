import Derived.Test.YtbhhggkblkfmnaaAd
import Derived.KernelRfl
import Derived.IntWalk
set_option linter.unusedVariables false
set_option linter.unusedSimpArgs false
set_option linter.unusedSectionVars false
set_option maxRecDepth 100000
namespace Go.Sim.Le
open Go.Proofs
theorem t22 (env : Env) (F : Nat) (c : Cav) (l : Sl Stg) (w : Sl Int) (n : Int) : (evFun Try.prog (cfg F) env 15 [(.agg (eCav c)), (sl eStg 4 l), (sl eInt 1 w), (i64 n)]) = (tkOut (env.pf 32 [(.agg (eCav c)), (sl eStg 4 l)]) none (fun v6 => (tkInt v6 none fun q7 n8 => (bif (decide (q7 = .i64)) then (bif (n8 != (0 : Int)) then some (.ret (.tup [(.agg [(i64 (0 : Int)), (i64 (0 : Int))]), (.int q7 n8)])) else (bif ((((Sl.len w) : Nat) : Int) != (((Sl.len (Cav.slices c)) : Nat) : Int)) then some (.ret (.tup [(.agg [(i64 (0 : Int)), (i64 (0 : Int))]), (i64 (2 : Int))])) else (tkOut (env.pf 33 [(i64 n)]) none (fun v9 => (tkBool v9 none fun b10 => (bif (!b10) then some (.ret (.tup [(.agg [(i64 (0 : Int)), (i64 (0 : Int))]), (i64 (2 : Int))])) else (tkOut (env.pf 35 [(sl eInt 1 w), (.fn (.func 36) [] [(.rptr 1 1 (fun u11 => [(.fn (.func 33) [] [])]) 0 0)])]) none (fun v11 => (tkBool v11 none fun b12 => (bif b12 then some (.ret (.tup [(.agg [(i64 (0 : Int)), (i64 (0 : Int))]), (i64 (2 : Int))])) else (tkOut (env.pf 37 [(.agg (eCav c)), (sl eStg 4 l), (.agg [(sl eInt 1 w), (i64 n)])]) none (fun v13 => (tkAgg v13 none fun l14 => (tkCons l14 none fun v15 r16 => (tkInt v15 none fun q17 n18 => (tkCons r16 none fun v19 r20 => (tkInt v19 none fun q21 n22 => (tkNil r20 none (some (.ret (.tup [(.agg [(.int q17 n18), (.int q21 n22)]), (i64 (0 : Int))])))))))))) (fun p13 => (tkIfc p13 none fun t14 x15 => (bif (flatP (.iface t14 x15)) then some (.pan (.iface t14 x15)) else none))))))) (fun p11 => (tkIfc p11 none fun t12 x13 => (bif (flatP (.iface t12 x13)) then some (.pan (.iface t12 x13)) else none))))))) (fun p9 => (tkIfc p9 none fun t10 x11 => (bif (flatP (.iface t10 x11)) then some (.pan (.iface t10 x11)) else none)))))) else none))) (fun p6 => (tkIfc p6 none fun t7 x8 => (bif (flatP (.iface t7 x8)) then some (.pan (.iface t7 x8)) else none)))) := by kernel_rfl
theorem t28 (env : Env) (F : Nat) (c : Cav) (s : Stg) : (evFun Try.prog (cfg F) env 31 [(.agg (eCav c)), (.agg (eStg s))]) = (tkOut (env.pf 16 [(i64 (Stg.water s)), (i64 (1 : Int)), (i64 (1000000 : Int))]) none (fun v4 => (tkBool v4 none fun b5 => (bif b5 then (tkOut (env.pf 16 [(i64 (Stg.into s)), (i64 (0 : Int)), (i64 (IntKind.wrap .i64 ((((Sl.len (Cav.slices c)) : Nat) : Int) - (1 : Int))))]) none (fun v6 => (tkBool v6 none fun b7 => (bif b7 then (tkOut (env.pf 16 [(i64 (Stg.out s)), (i64 (0 : Int)), (i64 (IntKind.wrap .i64 ((((Sl.len (Cav.slices c)) : Nat) : Int) - (1 : Int))))]) none (fun v8 => (tkBool v8 none fun b9 => (bif b9 then (bif ((Stg.into s) != (Stg.out s)) then (tkOut (env.pf 16 [(i64 (Stg.blanket s)), (i64 (0 : Int)), (i64 (((Sl.len (Cav.slices c)) : Nat) : Int))]) none (fun v10 => (tkBool v10 none fun b11 => some (.ret (.bool b11)))) (fun p10 => (tkIfc p10 none fun t11 x12 => (bif (flatP (.iface t11 x12)) then some (.pan (.iface t11 x12)) else none)))) else some (.ret (.bool false))) else some (.ret (.bool false))))) (fun p8 => (tkIfc p8 none fun t9 x10 => (bif (flatP (.iface t9 x10)) then some (.pan (.iface t9 x10)) else none)))) else some (.ret (.bool false))))) (fun p6 => (tkIfc p6 none fun t7 x8 => (bif (flatP (.iface t7 x8)) then some (.pan (.iface t7 x8)) else none)))) else some (.ret (.bool false))))) (fun p4 => (tkIfc p4 none fun t5 x6 => (bif (flatP (.iface t5 x6)) then some (.pan (.iface t5 x6)) else none)))) := by kernel_rfl
theorem t54 (env : Env) (F : Nat) : (evFun Try.prog (cfg F) env 17 []) = some (.ret (.agg [(.row false 3 7 (fun u2 => (List.take 7 (List.drop ((Min.min u2 2) * 7) [(i64 (900000 : Int)), (i64 (1000000 : Int)), (i64 (1200 : Int)), (i64 (100 : Int)), (i64 (20 : Int)), (i64 (40 : Int)), (i64 (1480000 : Int)), (i64 (1000000 : Int)), (i64 (1000000 : Int)), (i64 (1100 : Int)), (i64 (50 : Int)), (i64 (30 : Int)), (i64 (50 : Int)), (i64 (3000000 : Int)), (i64 (500000 : Int)), (i64 (600000 : Int)), (i64 (1000 : Int)), (i64 (0 : Int)), (i64 (40 : Int)), (i64 (60 : Int)), (i64 (3000000 : Int))])))), (i64 (100 : Int)), (i64 (700000 : Int))])) := by kernel_rfl
theorem t55 (env : Env) (F : Nat) : (evFun Try.prog (cfg F) env 18 []) = some (.ret (.agg [(i64 (10 : Int)), (i64 (2 : Int)), (i64 (0 : Int)), (i64 (3 : Int))])) := by kernel_rfl
noncomputable def L27x0 (env : Env) (F : Nat) (c : Cav) (fu : Nat) (i0 : Int) : Option Out := atLoop Try.prog (cfg F) env 13 [.r, .l, .r, .d] [] fu { tm := tmL 62 0 [(1, (.optr 0 0 0)), (3, (i64 i0))], hp := [(.box 24 (eCav c) true)] }
theorem t27 (env : Env) (F : Nat) (c : Cav) : (evFun Try.prog (cfg F) env 13 [(.agg (eCav c))]) = (L27x0 env F c F (0 : Int)) := by kernel_rfl
theorem L27x0s (env : Env) (F : Nat) (c : Cav) (fu : Nat) (i0 : Int) : L27x0 env F c (fu + 1) i0 = (bif (decide (i0 < (((Sl.len (Cav.slices c)) : Nat) : Int))) then (bif (decide ((0 : Int) ≤ i0)) then (bif (decide (i0 < (((Sl.len (Cav.slices c)) : Nat) : Int))) then (tkOut (env.pf 30 [(.agg (eSpan (Slc.vol (Sl.el (Cav.slices c) (Int.toNat i0))))), (i64 (0 : Int)), (i64 (10000000000000 : Int))]) none (fun v5 => (tkBool v5 none fun b6 => (bif (!b6) then some (.ret (.bool false)) else (tkOut (env.pf 16 [(i64 (Slc.opn (Sl.el (Cav.slices c) (Int.toNat i0)))), (i64 (1000 : Int)), (i64 (3000 : Int))]) none (fun v7 => (tkBool v7 none fun b8 => (bif (!b8) then some (.ret (.bool false)) else (tkOut (env.pf 16 [(i64 (Slc.fall (Sl.el (Cav.slices c) (Int.toNat i0)))), (i64 (0 : Int)), (i64 (IntKind.wrap .i64 ((Slc.opn (Sl.el (Cav.slices c) (Int.toNat i0))) - (1 : Int))))]) none (fun v9 => (tkBool v9 none fun b10 => (bif (!b10) then some (.ret (.bool false)) else (tkOut (env.pf 30 [(.agg (eSpan (Slc.rate (Sl.el (Cav.slices c) (Int.toNat i0))))), (i64 (0 : Int)), (i64 (300 : Int))]) none (fun v11 => (tkBool v11 none fun b12 => (bif (!b12) then some (.ret (.bool false)) else (tkOut (env.pf 16 [(i64 (Slc.most (Sl.el (Cav.slices c) (Int.toNat i0)))), (i64 (0 : Int)), (i64 (10000000000000 : Int))]) none (fun v13 => (tkBool v13 none fun b14 => (bif (!b14) then some (.ret (.bool false)) else (L27x0 env F c fu (IntKind.wrap .i64 (i0 + (1 : Int))))))) (fun p13 => (tkIfc p13 none fun t14 x15 => (bif (flatP (.iface t14 x15)) then some (.pan (.iface t14 x15)) else none))))))) (fun p11 => (tkIfc p11 none fun t12 x13 => (bif (flatP (.iface t12 x13)) then some (.pan (.iface t12 x13)) else none))))))) (fun p9 => (tkIfc p9 none fun t10 x11 => (bif (flatP (.iface t10 x11)) then some (.pan (.iface t10 x11)) else none))))))) (fun p7 => (tkIfc p7 none fun t8 x9 => (bif (flatP (.iface t8 x9)) then some (.pan (.iface t8 x9)) else none))))))) (fun p5 => (tkIfc p5 none fun t6 x7 => (bif (flatP (.iface t6 x7)) then some (.pan (.iface t6 x7)) else none)))) else none) else none) else (tkOut (env.pf 16 [(i64 (((Sl.len (Cav.slices c)) : Nat) : Int)), (i64 (1 : Int)), (i64 (10 : Int))]) none (fun v5 => (tkBool v5 none fun b6 => (bif b6 then (tkOut (env.pf 16 [(i64 (Cav.hold c)), (i64 (1 : Int)), (i64 (300 : Int))]) none (fun v7 => (tkBool v7 none fun b8 => (bif b8 then (tkOut (env.pf 16 [(i64 (Cav.oil c)), (i64 (0 : Int)), (i64 (10000000000000 : Int))]) none (fun v9 => (tkBool v9 none fun b10 => some (.ret (.bool b10)))) (fun p9 => (tkIfc p9 none fun t10 x11 => (bif (flatP (.iface t10 x11)) then some (.pan (.iface t10 x11)) else none)))) else some (.ret (.bool false))))) (fun p7 => (tkIfc p7 none fun t8 x9 => (bif (flatP (.iface t8 x9)) then some (.pan (.iface t8 x9)) else none)))) else some (.ret (.bool false))))) (fun p5 => (tkIfc p5 none fun t6 x7 => (bif (flatP (.iface t6 x7)) then some (.pan (.iface t6 x7)) else none))))) := by kernel_rfl
theorem t57 (env : Env) (F : Nat) (c : Cav) (l : Sl Stg) : (evFun Try.prog (cfg F) env 32 [(.agg (eCav c)), (sl eStg 4 l)]) = (bif (decide ((((Sl.len l) : Nat) : Int) > (8 : Int))) then some (.ret (i64 (3 : Int))) else (tkOut (env.pf 59 [(.agg (eCav c))]) none (fun v4 => (tkBool v4 none fun b5 => (bif (!b5) then some (.ret (i64 (2 : Int))) else (tkOut (env.pf 60 [(.agg (eCav c)), (sl eStg 4 l)]) none (fun v6 => (tkBool v6 none fun b7 => (bif (!b7) then some (.ret (i64 (2 : Int))) else some (.ret (i64 (0 : Int)))))) (fun p6 => (tkIfc p6 none fun t7 x8 => (bif (flatP (.iface t7 x8)) then some (.pan (.iface t7 x8)) else none))))))) (fun p4 => (tkIfc p4 none fun t5 x6 => (bif (flatP (.iface t5 x6)) then some (.pan (.iface t5 x6)) else none))))) := by kernel_rfl
theorem t58 (env : Env) (F : Nat) (n : Int) : (evFun Try.prog (cfg F) env 33 [(i64 n)]) = (tkOut (env.pf 34 [(i64 n), (i64 (-(1000 : Int))), (i64 (1000 : Int))]) none (fun v3 => (tkBool v3 none fun b4 => some (.ret (.bool b4)))) (fun p3 => (tkIfc p3 none fun t4 x5 => (bif (flatP (.iface t4 x5)) then some (.pan (.iface t4 x5)) else none)))) := by kernel_rfl
theorem t59 (env : Env) (F : Nat) (x : Int) (y : Int) (z : Int) : (evFun Try.prog (cfg F) env 34 [(i64 x), (i64 y), (i64 z)]) = (bif (decide (x ≥ y)) then some (.ret (.bool (decide (x ≤ z)))) else some (.ret (.bool false))) := by kernel_rfl
theorem t61 (env : Env) (F : Nat) (n : Int) : (evFun Try.prog (cfg F) env 36 [(i64 n), (.rptr 1 1 (fun u3 => [(.fn (.func 33) [] [])]) 0 0)]) = (tkOut (env.pf 33 [(i64 n)]) none (fun v3 => (tkBool v3 none fun b4 => some (.ret (.bool (!b4))))) (fun p3 => (tkIfc p3 none fun t4 x5 => (bif (flatP (.iface t4 x5)) then some (.pan (.iface t4 x5)) else none)))) := by kernel_rfl
noncomputable def L47x0 (env : Env) (F : Nat) (c : Cav) (l : Sl Stg) (t : Truth) (fu : Nat) (i0 : Int) : Option Out := atLoop Try.prog (cfg F) env 5 [.r, .r, .l, .r, .d] [] fu { tm := tmL 101 0 [(3, (.optr 0 0 0)), (5, (.optr 1 0 0)), (7, (i64 i0))], hp := [(.box 24 (eCav c) true), (.box 29 (eTruth t) true)] }
noncomputable def L47x1 (env : Env) (F : Nat) (c : Cav) (l : Sl Stg) (t : Truth) (fu : Nat) (i0 : Int) : Option Out := atLoop Try.prog (cfg F) env 5 [.r, .r, .r, .l, .r, .d] [] fu { tm := tmL 101 0 [(3, (.optr 0 0 0)), (5, (.optr 1 0 0)), (8, (i64 i0))], hp := [(.box 24 (eCav c) true), (.box 29 (eTruth t) true)] }
noncomputable def L47x2 (env : Env) (F : Nat) (c : Cav) (l : Sl Stg) (t : Truth) (m0 : Nat) (fu : Nat) (i0 : Int) (i1 : Int) : Option Out := atLoop Try.prog (cfg F) env 5 [.r, .r, .r, .l, .r, .d, .d, .r, .l, .d, .r, .r, .d] [m0] fu { tm := tmL 101 0 [(3, (.optr 0 0 0)), (5, (.optr 1 0 0)), (8, (i64 i0)), (9, (i64 i1))], hp := [(.box 24 (eCav c) true), (.box 29 (eTruth t) true)] }
theorem t47 (env : Env) (F : Nat) (c : Cav) (l : Sl Stg) (t : Truth) : (evFun Try.prog (cfg F) env 5 [(.agg (eCav c)), (sl eStg 4 l), (.agg (eTruth t))]) = (bif ((((Sl.len (Truth.vols t)) : Nat) : Int) != (((Sl.len (Cav.slices c)) : Nat) : Int)) then some (.ret (.bool false)) else (bif ((((Sl.len (Truth.rates t)) : Nat) : Int) != (((Sl.len l) : Nat) : Int)) then some (.ret (.bool false)) else (L47x0 env F c l t F (0 : Int)))) := by kernel_rfl
theorem L47x0s (env : Env) (F : Nat) (c : Cav) (l : Sl Stg) (t : Truth) (fu : Nat) (i0 : Int) : L47x0 env F c l t (fu + 1) i0 = (bif (decide (i0 < (((Sl.len (Truth.vols t)) : Nat) : Int))) then (bif (decide ((0 : Int) ≤ i0)) then (bif (decide (i0 < (((Sl.len (Truth.vols t)) : Nat) : Int))) then (bif (decide ((0 : Int) ≤ i0)) then (bif (decide (i0 < (((Sl.len (Cav.slices c)) : Nat) : Int))) then (bif (decide ((0 : Int) ≤ i0)) then (bif (decide (i0 < (((Sl.len (Cav.slices c)) : Nat) : Int))) then (tkOut (env.pf 16 [(i64 (Sl.el (Truth.vols t) (Int.toNat i0))), (i64 (Span.lo (Slc.vol (Sl.el (Cav.slices c) (Int.toNat i0))))), (i64 (Span.hi (Slc.vol (Sl.el (Cav.slices c) (Int.toNat i0)))))]) none (fun v7 => (tkBool v7 none fun b8 => (bif (!b8) then some (.ret (.bool false)) else (L47x0 env F c l t fu (IntKind.wrap .i64 (i0 + (1 : Int))))))) (fun p7 => (tkIfc p7 none fun t8 x9 => (bif (flatP (.iface t8 x9)) then some (.pan (.iface t8 x9)) else none)))) else none) else none) else none) else none) else none) else none) else (L47x1 env F c l t F (0 : Int))) := by kernel_rfl
theorem L47x1s (env : Env) (F : Nat) (c : Cav) (l : Sl Stg) (t : Truth) (fu : Nat) (i0 : Int) : L47x1 env F c l t (fu + 1) i0 = (bif (decide (i0 < (((Sl.len (Truth.rates t)) : Nat) : Int))) then (bif (decide ((0 : Int) ≤ i0)) then (bif (decide (i0 < (((Sl.len (Truth.rates t)) : Nat) : Int))) then (bif ((((Sl.len (Sl.el (Truth.rates t) (Int.toNat i0))) : Nat) : Int) != (((Sl.len (Cav.slices c)) : Nat) : Int)) then some (.ret (.bool false)) else (L47x2 env F c l t fu F i0 (0 : Int))) else none) else none) else some (.ret (.bool true))) := by kernel_rfl
theorem L47x2s (env : Env) (F : Nat) (c : Cav) (l : Sl Stg) (t : Truth) (m0 : Nat) (fu : Nat) (i0 : Int) (i1 : Int) : L47x2 env F c l t m0 (fu + 1) i0 i1 = (bif (decide (i1 < (((Sl.len (Cav.slices c)) : Nat) : Int))) then (bif (decide ((0 : Int) ≤ i0)) then (bif (decide (i0 < (((Sl.len (Truth.rates t)) : Nat) : Int))) then (bif (decide ((0 : Int) ≤ i1)) then (bif (decide (i1 < (((Sl.len (Sl.el (Truth.rates t) (Int.toNat i0))) : Nat) : Int))) then (bif (decide ((0 : Int) ≤ i1)) then (bif (decide (i1 < (((Sl.len (Cav.slices c)) : Nat) : Int))) then (bif (decide ((0 : Int) ≤ i1)) then (bif (decide (i1 < (((Sl.len (Cav.slices c)) : Nat) : Int))) then (tkOut (env.pf 16 [(i64 (Sl.el (Sl.el (Truth.rates t) (Int.toNat i0)) (Int.toNat i1))), (i64 (Span.lo (Slc.rate (Sl.el (Cav.slices c) (Int.toNat i1))))), (i64 (Span.hi (Slc.rate (Sl.el (Cav.slices c) (Int.toNat i1)))))]) none (fun v9 => (tkBool v9 none fun b10 => (bif (!b10) then some (.ret (.bool false)) else (L47x2 env F c l t m0 fu i0 (IntKind.wrap .i64 (i1 + (1 : Int))))))) (fun p9 => (tkIfc p9 none fun t10 x11 => (bif (flatP (.iface t10 x11)) then some (.pan (.iface t10 x11)) else none)))) else none) else none) else none) else none) else none) else none) else none) else none) else (L47x1 env F c l t m0 (IntKind.wrap .i64 (i0 + (1 : Int))))) := by kernel_rfl
theorem t64 (env : Env) (F : Nat) (x : Int) (y : Int) (z : Int) : (evFun Try.prog (cfg F) env 16 [(i64 x), (i64 y), (i64 z)]) = (bif (decide (x ≥ y)) then some (.ret (.bool (decide (x ≤ z)))) else some (.ret (.bool false))) := by kernel_rfl
noncomputable def L63x0 (env : Env) (F : Nat) (c : Cav) (l : Sl Stg) (fu : Nat) (i0 : Int) : Option Out := atLoop Try.prog (cfg F) env 14 [.r, .l, .r, .d] [] fu { tm := tmL 19 0 [(1, (sl eStg 4 l)), (2, (.optr 0 0 0)), (5, (i64 i0))], hp := [(.box 24 (eCav c) true)] }
theorem t63 (env : Env) (F : Nat) (c : Cav) (l : Sl Stg) : (evFun Try.prog (cfg F) env 14 [(.agg (eCav c)), (sl eStg 4 l)]) = (L63x0 env F c l F (0 : Int)) := by kernel_rfl
theorem L63x0s (env : Env) (F : Nat) (c : Cav) (l : Sl Stg) (fu : Nat) (i0 : Int) : L63x0 env F c l (fu + 1) i0 = (bif (decide (i0 < (((Sl.len l) : Nat) : Int))) then (bif (decide ((0 : Int) ≤ i0)) then (bif (decide (i0 < (((Sl.len l) : Nat) : Int))) then (tkOut (env.pf 31 [(.agg (eCav c)), (.agg (eStg (Sl.el l (Int.toNat i0))))]) none (fun v6 => (tkBool v6 none fun b7 => (bif (!b7) then some (.ret (.bool false)) else (L63x0 env F c l fu (IntKind.wrap .i64 (i0 + (1 : Int))))))) (fun p6 => (tkIfc p6 none fun t7 x8 => (bif (flatP (.iface t7 x8)) then some (.pan (.iface t7 x8)) else none)))) else none) else none) else some (.ret (.bool true))) := by kernel_rfl
noncomputable def L62x0 (env : Env) (F : Nat) (c : Cav) (l : Sl Stg) (m : Mea) (fu : Nat) (i0 : Int) (q1 : IntKind) (i2 : Int) (q3 : IntKind) (i4 : Int) : Option Out := atLoop Try.prog (cfg F) env 37 [.r, .r, .l, .r, .d] [] fu { tm := tmL 28 0 [(3, (.optr 0 0 0)), (5, (.optr 1 0 0)), (6, (.optr 2 0 0)), (7, (.optr 3 0 0)), (13, (sl eStg 4 l)), (14, (i64 (((Sl.len l) : Nat) : Int))), (15, (i64 i0))], hp := [(.box 89 (eCav c) true), (.box 95 (eMea m) true), (.box 31 [(i64 (0 : Int)), (i64 (0 : Int))] true), (.box 31 [(.int q1 i2), (.int q3 i4)] true)] }
theorem t62 (env : Env) (F : Nat) (c : Cav) (l : Sl Stg) (m : Mea) : (evFun Try.prog (cfg F) env 37 [(.agg (eCav c)), (sl eStg 4 l), (.agg (eMea m))]) = (tkOut (env.pf 62 [(.agg (eCav c)), (.agg (eMea m))]) none (fun v5 => (tkAgg v5 none fun l6 => (tkCons l6 none fun v7 r8 => (tkInt v7 none fun q9 n10 => (tkCons r8 none fun v11 r12 => (tkInt v11 none fun q13 n14 => (tkNil r12 none ((L62x0 env F c l m F (0 : Int) q9 n10 q13 n14))))))))) (fun p5 => (tkIfc p5 none fun t6 x7 => (bif (flatP (.iface t6 x7)) then some (.pan (.iface t6 x7)) else none)))) := by kernel_rfl
theorem L62x0s (env : Env) (F : Nat) (c : Cav) (l : Sl Stg) (m : Mea) (fu : Nat) (i0 : Int) (q1 : IntKind) (i2 : Int) (q3 : IntKind) (i4 : Int) : L62x0 env F c l m (fu + 1) i0 q1 i2 q3 i4 = (bif (decide (i0 < (((Sl.len l) : Nat) : Int))) then (bif (decide ((0 : Int) ≤ i0)) then (bif (decide (i0 < (((Sl.len l) : Nat) : Int))) then (tkOut (env.pf 64 [(.agg (eCav c)), (.agg (eStg (Sl.el l (Int.toNat i0)))), (.agg (eMea m))]) none (fun v11 => (tkAgg v11 none fun l12 => (tkCons l12 none fun v13 r14 => (tkInt v13 none fun q15 n16 => (tkCons r14 none fun v17 r18 => (tkInt v17 none fun q19 n20 => (tkNil r18 none ((tkOut (env.pf 63 [(.row false 2 2 (fun u21 => (List.take 2 (List.drop ((Min.min u21 1) * 2) [(.int q1 i2), (.int q3 i4), (.int q15 n16), (.int q19 n20)]))))]) none (fun v21 => (tkAgg v21 none fun l22 => (tkCons l22 none fun v23 r24 => (tkInt v23 none fun q25 n26 => (tkCons r24 none fun v27 r28 => (tkInt v27 none fun q29 n30 => (tkNil r28 none ((L62x0 env F c l m fu (IntKind.wrap .i64 (i0 + (1 : Int))) q25 n26 q29 n30))))))))) (fun p21 => (tkIfc p21 none fun t22 x23 => (bif (flatP (.iface t22 x23)) then none else none)))))))))))) (fun p11 => (tkIfc p11 none fun t12 x13 => (bif (flatP (.iface t12 x13)) then some (.pan (.iface t12 x13)) else none)))) else none) else none) else some (.ret (.agg [(.int q1 i2), (.int q3 i4)]))) := by kernel_rfl
theorem t66 (env : Env) (F : Nat) (c : Cav) : (evFun Try.prog (cfg F) env 59 [(.agg (eCav c))]) = (tkOut (env.pf 34 [(i64 (((Sl.len (Cav.slices c)) : Nat) : Int)), (i64 (1 : Int)), (i64 (10 : Int))]) none (fun v3 => (tkBool v3 none fun b4 => (bif b4 then (tkOut (env.pf 34 [(i64 (Cav.hold c)), (i64 (1 : Int)), (i64 (300 : Int))]) none (fun v5 => (tkBool v5 none fun b6 => (bif b6 then (tkOut (env.pf 34 [(i64 (Cav.oil c)), (i64 (0 : Int)), (i64 (10000000000000 : Int))]) none (fun v7 => (tkBool v7 none fun b8 => (bif b8 then (tkOut (env.pf 71 [(sl eSlc 7 (Cav.slices c)), (.fn (.func 72) [] [])]) none (fun v9 => (tkBool v9 none fun b10 => some (.ret (.bool (!b10))))) (fun p9 => (tkIfc p9 none fun t10 x11 => (bif (flatP (.iface t10 x11)) then some (.pan (.iface t10 x11)) else none)))) else some (.ret (.bool false))))) (fun p7 => (tkIfc p7 none fun t8 x9 => (bif (flatP (.iface t8 x9)) then some (.pan (.iface t8 x9)) else none)))) else some (.ret (.bool false))))) (fun p5 => (tkIfc p5 none fun t6 x7 => (bif (flatP (.iface t6 x7)) then some (.pan (.iface t6 x7)) else none)))) else some (.ret (.bool false))))) (fun p3 => (tkIfc p3 none fun t4 x5 => (bif (flatP (.iface t4 x5)) then some (.pan (.iface t4 x5)) else none)))) := by kernel_rfl
theorem t68 (env : Env) (F : Nat) (s : Stg) : (evFun Try.prog (cfg F) env 57 [(.agg (eStg s))]) = some (.ret (.fn (.func 70) [] [(.rptr 1 4 (fun u3 => (eStg s)) 0 0)])) := by kernel_rfl
theorem t67 (env : Env) (F : Nat) (c : Cav) (s : Stg) : (evFun Try.prog (cfg F) env 76 [(.agg (eCav c)), (.agg (eStg s))]) = (tkOut (env.pf 34 [(i64 (Stg.water s)), (i64 (1 : Int)), (i64 (1000000 : Int))]) none (fun v4 => (tkBool v4 none fun b5 => (bif b5 then (tkOut (env.pf 34 [(i64 (Stg.into s)), (i64 (0 : Int)), (i64 (IntKind.wrap .i64 ((((Sl.len (Cav.slices c)) : Nat) : Int) - (1 : Int))))]) none (fun v6 => (tkBool v6 none fun b7 => (bif b7 then (tkOut (env.pf 34 [(i64 (Stg.out s)), (i64 (0 : Int)), (i64 (IntKind.wrap .i64 ((((Sl.len (Cav.slices c)) : Nat) : Int) - (1 : Int))))]) none (fun v8 => (tkBool v8 none fun b9 => (bif b9 then (bif ((Stg.into s) != (Stg.out s)) then (tkOut (env.pf 34 [(i64 (Stg.blanket s)), (i64 (0 : Int)), (i64 (((Sl.len (Cav.slices c)) : Nat) : Int))]) none (fun v10 => (tkBool v10 none fun b11 => some (.ret (.bool b11)))) (fun p10 => (tkIfc p10 none fun t11 x12 => (bif (flatP (.iface t11 x12)) then some (.pan (.iface t11 x12)) else none)))) else some (.ret (.bool false))) else some (.ret (.bool false))))) (fun p8 => (tkIfc p8 none fun t9 x10 => (bif (flatP (.iface t9 x10)) then some (.pan (.iface t9 x10)) else none)))) else some (.ret (.bool false))))) (fun p6 => (tkIfc p6 none fun t7 x8 => (bif (flatP (.iface t7 x8)) then some (.pan (.iface t7 x8)) else none)))) else some (.ret (.bool false))))) (fun p4 => (tkIfc p4 none fun t5 x6 => (bif (flatP (.iface t5 x6)) then some (.pan (.iface t5 x6)) else none)))) := by kernel_rfl
theorem t70 (env : Env) (F : Nat) (p : Span) (x : Int) (y : Int) : (evFun Try.prog (cfg F) env 30 [(.agg (eSpan p)), (i64 x), (i64 y)]) = (bif (decide ((Span.lo p) ≥ x)) then (bif (decide ((Span.lo p) ≤ (Span.hi p))) then some (.ret (.bool (decide ((Span.hi p) ≤ y)))) else some (.ret (.bool false))) else some (.ret (.bool false))) := by kernel_rfl
theorem t79 (env : Env) (F : Nat) (w : Sl Int) : (evFunH Try.prog (cfg F) env 56 [(sl eInt 1 w)] []) = (bif (Sl.nl w) then some ((.ret (.row true 0 0 (fun u3 => []))), []) else (bif (Sl.nl w) then some ((.ret (.osl 0 0 0)), [(.arr 3 1 0 (fun u3 => []) true)]) else (bif ((Sl.len w) == 0) then some ((.ret (.osl 0 0 0)), [(.arr 3 1 0 (fun u3 => []) true)]) else (bif (decide (((0 + (Sl.len w)) * 8) ≤ 140737488355328)) then some ((.ret (.osl 0 0 (0 + (Sl.len w)))), [(.arr 3 1 (0 + (Sl.len w)) (appGet 0 (fun u3 => []) (fun u3 => [(i64 (Sl.el w u3))])) true)]) else none)))) := by kernel_rfl
noncomputable def L44x0 (env : Env) (F : Nat) (c : Cav) (l : Sl Stg) (t : Truth) (fu : Nat) (k0 : Nat) (g1 : Nat → List V) : Option Out := atLoop Try.prog (cfg F) env 28 [.r, .r, .r, .r, .r, .l, .r, .d] [] fu { tm := tmL 145 0 [(3, (.optr 0 0 0)), (5, (.optr 1 0 0)), (6, (.optr 2 0 0)), (10, (.optr 3 0 0)), (39, (sl eStg 4 l)), (40, (i64 (((Sl.len l) : Nat) : Int))), (41, (i64 (0 : Int)))], hp := [(.box 24 (eCav c) true), (.box 29 (eTruth t) true), (.box 83 [(.row true 0 0 (fun u8 => [])), (i64 (0 : Int)), (i64 (0 : Int)), (i64 (0 : Int)), (i64 (0 : Int))] true), (.box 83 [(.row true 0 k0 g1), (i64 (0 : Int)), (i64 (0 : Int)), (i64 (0 : Int)), (i64 (0 : Int))] true)] }
noncomputable def L44x1 (env : Env) (F : Nat) (c : Cav) (l : Sl Stg) (t : Truth) (fu : Nat) (i0 : Int) (k1 : Nat) (i2 : Int) (i3 : Int) (i4 : Int) (i5 : Int) (k6 : Nat) (g7 : Nat → List V) : Option Out := atLoop Try.prog (cfg F) env 28 [.r, .r, .r, .r, .r, .l, .r, .d] [] fu { tm := tmL 145 0 [(3, (.optr 0 0 0)), (5, (.optr 1 0 0)), (6, (.optr 2 0 0)), (10, (.optr 3 0 0)), (39, (sl eStg 4 l)), (40, (i64 (((Sl.len l) : Nat) : Int))), (41, (i64 i0))], hp := [(.box 24 (eCav c) true), (.box 29 (eTruth t) true), (.box 83 [(.row true 0 0 (fun u14 => [])), (i64 (0 : Int)), (i64 (0 : Int)), (i64 (0 : Int)), (i64 (0 : Int))] true), (.box 83 [(.osl 4 0 k1), (i64 i2), (i64 i3), (i64 i4), (i64 i5)] true), (.arr 3 1 k6 g7 true)] }
noncomputable def L44x2 (env : Env) (F : Nat) (c : Cav) (l : Sl Stg) (t : Truth) (m0 : Nat) (fu : Nat) (g0 : Nat → List V) (i1 : Int) (q2 : IntKind) (i3 : Int) (k4 : Nat) (g5 : Nat → List V) (g6 : Nat → List V) : Option Out := atLoop Try.prog (cfg F) env 28 [.r, .r, .r, .r, .r, .l, .r, .d, .d, .r, .r, .l, .d, .r, .r, .l, .r, .d, .g 70, .r, .r, .r, .d] [m0] fu { tm := tmL 24 0 [(0, (.yld 0)), (1, (.rptr 1 4 g0 0 0)), (3, (i64 i1)), (4, (.int q2 i3))], hp := [.lp, (.box 24 (eCav c) true), (.box 29 (eTruth t) true), (.box 83 [(.row true 0 0 (fun u14 => [])), (i64 (0 : Int)), (i64 (0 : Int)), (i64 (0 : Int)), (i64 (0 : Int))] true), (.box 83 [(.row true 0 k4 g5), (i64 (0 : Int)), (i64 (0 : Int)), (i64 (0 : Int)), (i64 (0 : Int))] true), (.box 3 [(i64 (0 : Int))] true), (.box 62 (eStg (Sl.el l 0)) true), (.box 3 [(i64 (Cav.hold c))] true), (.box 3 [(i64 (0 : Int))] true), (.box 3 [(i64 (0 : Int))] true), (.box 3 [(i64 (0 : Int))] true)], ext := [(.yld 0), .top, .top, .top, (.optr 1 0 0), .top, (.optr 2 0 0), (.optr 3 0 0), .top, .top, .top, (.optr 4 0 0), (.optr 5 0 0), (.optr 6 0 0), (.optr 7 0 0), (.optr 8 0 0), (.optr 9 0 0), (.optr 10 0 0), .top, .top, .top, .top, .top, .top, .top, .top, .top, .top, .top, .top, .top, .top, .top, .top, .top, .top, .top, .top, .top, .top, (sl eStg 4 l), (i64 (((Sl.len l) : Nat) : Int)), (i64 (0 : Int)), (.bool (decide ((0 : Int) < (((Sl.len l) : Nat) : Int)))), (i64 (0 : Int)), (.rptr (Sl.len l) 4 (fun u14 => (eStg (Sl.el l u14))) 0 0), (.agg (eStg (Sl.el l 0))), (.optr 1 0 1), (i64 (Cav.hold c)), (.agg (eStg (Sl.el l 0))), (.fn (.func 70) [] [(.rptr 1 4 g6 0 0)]), .top, .top, .top, .top, .top, .top, .top, .top, .top, .top, .top, .top, .top, .top, .top, .top, .top, .top, .top, .top, .top, .top, .top, .top, .top, .top, .top, .top, .top, .top, .top, .top, .top, .top, .top, .top, .top, .top, .top, .top, .top, .top, .top, .top, .top, .top, .top, .top, .top, .top, .top, .top, .top, .top, .top, .top, .top, .top, .top, .top, .top, .top, .top, .top, .top, .top, .top, .top, .top, .top, .top, .top, .top, .top, .top, .top, .top, .top, .top, .top, .top, .top, .top, .top, .top, .top, .top, .top, .top, .top, .top, .top, .top, .top, .top] }
noncomputable def L44x3 (env : Env) (F : Nat) (c : Cav) (l : Sl Stg) (t : Truth) (m0 : Nat) (fu : Nat) (g0 : Nat → List V) (i1 : Int) (q2 : IntKind) (i3 : Int) (k4 : Nat) (i5 : Int) (i6 : Int) (i7 : Int) (i8 : Int) (i9 : Int) (i10 : Int) (i11 : Int) (i12 : Int) (i13 : Int) (i14 : Int) (q15 : IntKind) (i16 : Int) (q17 : IntKind) (i18 : Int) (q19 : IntKind) (i20 : Int) (k21 : Nat) (g22 : Nat → List V) (i23 : Int) (b24 : Bool) (i25 : Int) (k26 : Nat) (i27 : Int) (i28 : Int) (i29 : Int) (i30 : Int) (i31 : Int) (i32 : Int) (i33 : Int) (i34 : Int) (g35 : Nat → List V) : Option Out := atLoop Try.prog (cfg F) env 28 [.r, .r, .r, .r, .r, .l, .r, .d, .d, .r, .r, .l, .d, .r, .r, .l, .r, .d, .g 70, .r, .r, .r, .d] [m0] fu { tm := tmL 24 0 [(0, (.yld 0)), (1, (.rptr 1 4 g0 0 0)), (3, (i64 i1)), (4, (.int q2 i3))], hp := [.lp, (.box 24 (eCav c) true), (.box 29 (eTruth t) true), (.box 83 [(.row true 0 0 (fun u43 => [])), (i64 (0 : Int)), (i64 (0 : Int)), (i64 (0 : Int)), (i64 (0 : Int))] true), (.box 83 [(.osl 11 0 k4), (i64 i5), (i64 i6), (i64 i7), (i64 i8)] true), (.box 3 [(i64 i9)] true), (.box 62 [(i64 i10), (i64 i11), (i64 i12), (i64 i13)] true), (.box 3 [(i64 i14)] true), (.box 3 [(.int q15 i16)] true), (.box 3 [(.int q17 i18)] true), (.box 3 [(.int q19 i20)] true), (.arr 3 1 k21 g22 true)], ext := [(.yld 0), .top, .top, .top, (.optr 1 0 0), .top, (.optr 2 0 0), (.optr 3 0 0), .top, .top, .top, (.optr 4 0 0), (.optr 5 0 0), (.optr 6 0 0), (.optr 7 0 0), (.optr 8 0 0), (.optr 9 0 0), (.optr 10 0 0), .top, .top, .top, .top, .top, .top, .top, .top, .top, .top, .top, .top, .top, .top, .top, .top, .top, .top, .top, .top, .top, .top, (sl eStg 4 l), (i64 (((Sl.len l) : Nat) : Int)), (i64 i23), (.bool b24), (i64 i25), (.rptr (Sl.len l) 4 (fun u43 => (eStg (Sl.el l u43))) k26 0), (.agg [(i64 i27), (i64 i28), (i64 i29), (i64 i30)]), (.optr 1 0 1), (i64 (Cav.hold c)), (.agg [(i64 i31), (i64 i32), (i64 i33), (i64 i34)]), (.fn (.func 70) [] [(.rptr 1 4 g35 0 0)]), .top, .top, .top, .top, .top, .top, .top, .top, .top, .top, .top, .top, .top, .top, .top, .top, .top, .top, .top, .top, .top, .top, .top, .top, .top, .top, .top, .top, .top, .top, .top, .top, .top, .top, .top, .top, .top, .top, .top, .top, .top, .top, .top, .top, .top, .top, .top, .top, .top, .top, .top, .top, .top, .top, .top, .top, .top, .top, .top, .top, .top, .top, .top, .top, .top, .top, .top, .top, .top, .top, .top, .top, .top, .top, .top, .top, .top, .top, .top, .top, .top, .top, .top, .top, .top, .top, .top, .top, .top, .top, .top, .top, .top, .top, .top] }
theorem t44 (env : Env) (F : Nat) (c : Cav) (l : Sl Stg) (t : Truth) : (evFun Try.prog (cfg F) env 28 [(.agg (eCav c)), (sl eStg 4 l), (.agg (eTruth t))]) = (tkOut (env.pf 32 [(.agg (eCav c)), (sl eStg 4 l)]) none (fun v5 => (tkInt v5 none fun q6 n7 => (bif (decide (q6 = .i64)) then (bif (n7 != (0 : Int)) then some (.ret (.tup [(.agg [(.row true 0 0 (fun u8 => [])), (i64 (0 : Int)), (i64 (0 : Int)), (i64 (0 : Int)), (i64 (0 : Int))]), (.int q6 n7)])) else (tkOut (env.pf 55 [(.agg (eCav c)), (sl eStg 4 l), (.agg (eTruth t))]) none (fun v8 => (tkBool v8 none fun b9 => (bif (!b9) then some (.ret (.tup [(.agg [(.row true 0 0 (fun u10 => [])), (i64 (0 : Int)), (i64 (0 : Int)), (i64 (0 : Int)), (i64 (0 : Int))]), (i64 (2 : Int))])) else (tkHv (env.hv 56 [(sl eInt 1 (Truth.vols t))] []) none fun v10 h11 => (tkSl v10 none (fun nl12 n13 wd14 g15 => (bif (nl12 && (Nat.beq n13 0)) then (tkSNil h11 none ((L44x0 env F c l t F wd14 g15))) else none)) (fun b12 lo13 n14 => (bif ((Nat.beq b12 0) && (Nat.beq lo13 0)) then (tkSCons h11 none fun s15 r16 => (tkSNil r16 none ((tkArr s15 none fun e17 wd18 n19 g20 wr21 => (bif (((Nat.beq e17 3) && (Nat.beq wd18 1)) && (wr21 == true)) then (L44x1 env F c l t F (0 : Int) n14 (0 : Int) (0 : Int) (0 : Int) (0 : Int) n19 g20) else none))))) else none))))))) (fun p8 => (tkIfc p8 none fun t9 x10 => (bif (flatP (.iface t9 x10)) then some (.pan (.iface t9 x10)) else none))))) else none))) (fun p5 => (tkIfc p5 none fun t6 x7 => (bif (flatP (.iface t6 x7)) then some (.pan (.iface t6 x7)) else none)))) := by kernel_rfl
theorem L44x0s (env : Env) (F : Nat) (c : Cav) (l : Sl Stg) (t : Truth) (fu : Nat) (k0 : Nat) (g1 : Nat → List V) : L44x0 env F c l t (fu + 1) k0 g1 = (bif (decide ((0 : Int) < (((Sl.len l) : Nat) : Int))) then (bif (decide ((0 : Int) < (((Sl.len l) : Nat) : Int))) then (tkOut (env.pf 57 [(.agg (eStg (Sl.el l 0)))]) none (fun v8 => (tkFn v8 none fun f9 a10 c11 => (bif (Nat.beq f9 70) then (tkNil a10 none ((tkCons c11 none fun v12 r13 => (tkPtr v12 none fun n14 wd15 g16 i17 off18 => (bif (((Nat.beq n14 1) && (Nat.beq wd15 4)) && ((Nat.beq i17 0) && (Nat.beq off18 0))) then (tkCons (g16 0) none fun v19 r20 => (tkInt v19 none fun q21 n22 => (tkCons r20 none fun v23 r24 => (tkInt v23 none fun q25 n26 => (tkCons r24 none fun v27 r28 => (tkInt v27 none fun q29 n30 => (tkCons r28 none fun v31 r32 => (tkInt v31 none fun q33 n34 => (tkNil r32 none ((tkNil r13 none ((bif (decide (q29 = q25)) then (bif (decide (n30 < n26)) then (L44x2 env F c l t fu F (fun u35 => [(.int q21 n22), (.int q25 n26), (.int q29 n30), (.int q33 n34)]) (-(1 : Int)) q25 n26 k0 g1 (fun u35 => [(.int q21 n22), (.int q25 n26), (.int q29 n30), (.int q33 n34)])) else (L44x2 env F c l t fu F (fun u35 => [(.int q21 n22), (.int q25 n26), (.int q29 n30), (.int q33 n34)]) (1 : Int) q25 n26 k0 g1 (fun u35 => [(.int q21 n22), (.int q25 n26), (.int q29 n30), (.int q33 n34)]))) else none))))))))))))) else none))))) else none))) (fun p8 => (tkIfc p8 none fun t9 x10 => (bif (flatP (.iface t9 x10)) then some (.pan (.iface t9 x10)) else none)))) else none) else some (.ret (.tup [(.agg [(.row true 0 k0 g1), (i64 (0 : Int)), (i64 (0 : Int)), (i64 (0 : Int)), (i64 (0 : Int))]), (i64 (0 : Int))]))) := by kernel_rfl
theorem L44x1s (env : Env) (F : Nat) (c : Cav) (l : Sl Stg) (t : Truth) (fu : Nat) (i0 : Int) (k1 : Nat) (i2 : Int) (i3 : Int) (i4 : Int) (i5 : Int) (k6 : Nat) (g7 : Nat → List V) : L44x1 env F c l t (fu + 1) i0 k1 i2 i3 i4 i5 k6 g7 = (bif (decide (i0 < (((Sl.len l) : Nat) : Int))) then (bif (decide ((0 : Int) ≤ i0)) then (bif (decide (i0 < (((Sl.len l) : Nat) : Int))) then (tkOut (env.pf 57 [(.agg (eStg (Sl.el l (Int.toNat i0))))]) none (fun v14 => (tkFn v14 none fun f15 a16 c17 => (bif (Nat.beq f15 70) then (tkNil a16 none ((tkCons c17 none fun v18 r19 => (tkPtr v18 none fun n20 wd21 g22 i23 off24 => (bif (((Nat.beq n20 1) && (Nat.beq wd21 4)) && ((Nat.beq i23 0) && (Nat.beq off24 0))) then (tkCons (g22 0) none fun v25 r26 => (tkInt v25 none fun q27 n28 => (tkCons r26 none fun v29 r30 => (tkInt v29 none fun q31 n32 => (tkCons r30 none fun v33 r34 => (tkInt v33 none fun q35 n36 => (tkCons r34 none fun v37 r38 => (tkInt v37 none fun q39 n40 => (tkNil r38 none ((tkNil r19 none ((bif (decide (q35 = q31)) then (bif (decide (n36 < n32)) then (L44x3 env F c l t fu F (fun u41 => [(.int q27 n28), (.int q31 n32), (.int q35 n36), (.int q39 n40)]) (-(1 : Int)) q31 n32 k1 i2 i3 i4 i5 i0 (Stg.water (Sl.el l (Int.toNat i0))) (Stg.into (Sl.el l (Int.toNat i0))) (Stg.out (Sl.el l (Int.toNat i0))) (Stg.blanket (Sl.el l (Int.toNat i0))) (Cav.hold c) .i64 (0 : Int) .i64 (0 : Int) .i64 (0 : Int) k6 g7 i0 (decide (i0 < (((Sl.len l) : Nat) : Int))) i0 (Int.toNat i0) (Stg.water (Sl.el l (Int.toNat i0))) (Stg.into (Sl.el l (Int.toNat i0))) (Stg.out (Sl.el l (Int.toNat i0))) (Stg.blanket (Sl.el l (Int.toNat i0))) (Stg.water (Sl.el l (Int.toNat i0))) (Stg.into (Sl.el l (Int.toNat i0))) (Stg.out (Sl.el l (Int.toNat i0))) (Stg.blanket (Sl.el l (Int.toNat i0))) (fun u41 => [(.int q27 n28), (.int q31 n32), (.int q35 n36), (.int q39 n40)])) else (L44x3 env F c l t fu F (fun u41 => [(.int q27 n28), (.int q31 n32), (.int q35 n36), (.int q39 n40)]) (1 : Int) q31 n32 k1 i2 i3 i4 i5 i0 (Stg.water (Sl.el l (Int.toNat i0))) (Stg.into (Sl.el l (Int.toNat i0))) (Stg.out (Sl.el l (Int.toNat i0))) (Stg.blanket (Sl.el l (Int.toNat i0))) (Cav.hold c) .i64 (0 : Int) .i64 (0 : Int) .i64 (0 : Int) k6 g7 i0 (decide (i0 < (((Sl.len l) : Nat) : Int))) i0 (Int.toNat i0) (Stg.water (Sl.el l (Int.toNat i0))) (Stg.into (Sl.el l (Int.toNat i0))) (Stg.out (Sl.el l (Int.toNat i0))) (Stg.blanket (Sl.el l (Int.toNat i0))) (Stg.water (Sl.el l (Int.toNat i0))) (Stg.into (Sl.el l (Int.toNat i0))) (Stg.out (Sl.el l (Int.toNat i0))) (Stg.blanket (Sl.el l (Int.toNat i0))) (fun u41 => [(.int q27 n28), (.int q31 n32), (.int q35 n36), (.int q39 n40)]))) else none))))))))))))) else none))))) else none))) (fun p14 => (tkIfc p14 none fun t15 x16 => (bif (flatP (.iface t15 x16)) then some (.pan (.iface t15 x16)) else none)))) else none) else none) else some (.ret (.tup [(.agg [(.row false k1 1 (fun u14 => (g7 u14))), (i64 i2), (i64 i3), (i64 i4), (i64 i5)]), (i64 (0 : Int))]))) := by kernel_rfl
theorem L44x2s (env : Env) (F : Nat) (c : Cav) (l : Sl Stg) (t : Truth) (m0 : Nat) (fu : Nat) (g0 : Nat → List V) (i1 : Int) (q2 : IntKind) (i3 : Int) (k4 : Nat) (g5 : Nat → List V) (g6 : Nat → List V) : L44x2 env F c l t m0 (fu + 1) g0 i1 q2 i3 k4 g5 g6 = (bif (decide ((0 : Int) < (((Sl.len (Truth.rates t)) : Nat) : Int))) then (bif (decide ((0 : Int) ≤ i3)) then (bif (decide (i3 < (((Sl.len (Sl.el (Truth.rates t) 0)) : Nat) : Int))) then (tkOut (env.pf 58 [(.row false 2 1 (fun u14 => (List.take 1 (List.drop ((Min.min u14 1) * 1) [(i64 (0 : Int)), (i64 (IntKind.wrap .i64 ((if (Cav.hold c) < (Sl.el (Sl.el (Truth.rates t) 0) (Int.toNat i3)) then (Cav.hold c) else (Sl.el (Sl.el (Truth.rates t) 0) (Int.toNat i3))) * (Stg.water (Sl.el l 0)))))]))))]) none (fun v14 => (tkInt v14 none fun q15 n16 => (bif (k4 == 1) then (bif (decide ((0 : Int) ≤ i3)) then (bif (decide (i3 < ((0 : Nat) : Int))) then (tkCons (g5 (Int.toNat i3)) none fun v17 r18 => (tkInt v17 none fun q19 n20 => (bif (decide ((0 : Int) ≤ i3)) then (bif (decide (i3 < (((Sl.len (Cav.slices c)) : Nat) : Int))) then (bif (decide (q19 = .i64)) then (bif (k4 == 1) then (bif (decide ((0 : Int) ≤ i3)) then (bif (decide (i3 < ((0 : Nat) : Int))) then none else none) else none) else none) else none) else none) else none))) else none) else none) else none))) (fun p14 => (tkIfc p14 none fun t15 x16 => (bif (flatP (.iface t15 x16)) then none else none)))) else none) else none) else none) := by kernel_rfl
theorem L44x3s (env : Env) (F : Nat) (c : Cav) (l : Sl Stg) (t : Truth) (m0 : Nat) (fu : Nat) (g0 : Nat → List V) (i1 : Int) (q2 : IntKind) (i3 : Int) (k4 : Nat) (i5 : Int) (i6 : Int) (i7 : Int) (i8 : Int) (i9 : Int) (i10 : Int) (i11 : Int) (i12 : Int) (i13 : Int) (i14 : Int) (q15 : IntKind) (i16 : Int) (q17 : IntKind) (i18 : Int) (q19 : IntKind) (i20 : Int) (k21 : Nat) (g22 : Nat → List V) (i23 : Int) (b24 : Bool) (i25 : Int) (k26 : Nat) (i27 : Int) (i28 : Int) (i29 : Int) (i30 : Int) (i31 : Int) (i32 : Int) (i33 : Int) (i34 : Int) (g35 : Nat → List V) : L44x3 env F c l t m0 (fu + 1) g0 i1 q2 i3 k4 i5 i6 i7 i8 i9 i10 i11 i12 i13 i14 q15 i16 q17 i18 q19 i20 k21 g22 i23 b24 i25 k26 i27 i28 i29 i30 i31 i32 i33 i34 g35 = (bif (decide ((0 : Int) ≤ i9)) then (bif (decide (i9 < (((Sl.len (Truth.rates t)) : Nat) : Int))) then (bif (decide ((0 : Int) ≤ i3)) then (bif (decide (i3 < (((Sl.len (Sl.el (Truth.rates t) (Int.toNat i9))) : Nat) : Int))) then (tkOut (env.pf 58 [(.row false 2 1 (fun u43 => (List.take 1 (List.drop ((Min.min u43 1) * 1) [(.int q19 i20), (i64 (IntKind.wrap .i64 ((if i14 < (Sl.el (Sl.el (Truth.rates t) (Int.toNat i9)) (Int.toNat i3)) then i14 else (Sl.el (Sl.el (Truth.rates t) (Int.toNat i9)) (Int.toNat i3))) * i10)))]))))]) none (fun v43 => (tkInt v43 none fun q44 n45 => (bif (decide ((0 : Int) ≤ i3)) then (bif (decide (i3 < ((k4 : Nat) : Int))) then (tkCons (g22 (Int.toNat i3)) none fun v46 r47 => (tkInt v46 none fun q48 n49 => (bif (decide ((0 : Int) ≤ i3)) then (bif (decide (i3 < (((Sl.len (Cav.slices c)) : Nat) : Int))) then (bif (decide (q48 = .i64)) then (bif (decide ((0 : Int) ≤ i3)) then (bif (decide (i3 < ((k4 : Nat) : Int))) then (bif (decide ((0 : Int) ≤ i3)) then (bif (decide (i3 < (((Sl.len (Cav.slices c)) : Nat) : Int))) then (tkOut (env.pf 58 [(.row false 2 1 (fun u50 => (List.take 1 (List.drop ((Min.min u50 1) * 1) [(.int q15 i16), (i64 (IntKind.wrap .i64 ((IntKind.wrap .i64 ((if i14 < (Sl.el (Sl.el (Truth.rates t) (Int.toNat i9)) (Int.toNat i3)) then i14 else (Sl.el (Sl.el (Truth.rates t) (Int.toNat i9)) (Int.toNat i3))) * i10)) * (Slc.opn (Sl.el (Cav.slices c) (Int.toNat i3))))))]))))]) none (fun v50 => (tkInt v50 none fun q51 n52 => (bif (decide ((0 : Int) ≤ i3)) then (bif (decide (i3 < (((Sl.len (Cav.slices c)) : Nat) : Int))) then (tkOut (env.pf 58 [(.row false 2 1 (fun u53 => (List.take 1 (List.drop ((Min.min u53 1) * 1) [(.int q17 i18), (i64 (IntKind.wrap .i64 ((IntKind.wrap .i64 ((if i14 < (Sl.el (Sl.el (Truth.rates t) (Int.toNat i9)) (Int.toNat i3)) then i14 else (Sl.el (Sl.el (Truth.rates t) (Int.toNat i9)) (Int.toNat i3))) * i10)) * (Slc.fall (Sl.el (Cav.slices c) (Int.toNat i3))))))]))))]) none (fun v53 => (tkInt v53 none fun q54 n55 => (tkCons (List.drop 2 (g0 0)) none fun v56 r57 => (tkInt v56 none fun q58 n59 => (bif (decide (q2 = q58)) then (bif (i3 != n59) then (bif (decide (q2 = .i64)) then (L44x3 env F c l t m0 fu g0 i1 q2 (IntKind.wrap q2 (i3 + i1)) k4 i5 i6 i7 i8 i9 i10 i11 i12 i13 (IntKind.wrap .i64 (i14 - (if i14 < (Sl.el (Sl.el (Truth.rates t) (Int.toNat i9)) (Int.toNat i3)) then i14 else (Sl.el (Sl.el (Truth.rates t) (Int.toNat i9)) (Int.toNat i3))))) q51 n52 q54 n55 q44 n45 k21 (updGet g22 (Int.toNat i3) 0 [(.int q48 (IntKind.wrap q48 (n49 + (IntKind.wrap .i64 ((IntKind.wrap .i64 ((if i14 < (Sl.el (Sl.el (Truth.rates t) (Int.toNat i9)) (Int.toNat i3)) then i14 else (Sl.el (Sl.el (Truth.rates t) (Int.toNat i9)) (Int.toNat i3))) * i10)) * (Slc.opn (Sl.el (Cav.slices c) (Int.toNat i3))))))))]) i23 b24 i25 k26 i27 i28 i29 i30 i31 i32 i33 i34 g35) else none) else (bif (decide (.i64 = q54)) then (bif (decide (.i64 = q44)) then (bif (decide (.i64 = q51)) then (bif (decide (.i64 = q54)) then (bif (decide (.i64 = q44)) then (bif (decide (q51 = q54)) then (bif (decide (.i64 = q51)) then (L44x1 env F c l t m0 (IntKind.wrap .i64 (i23 + (1 : Int))) k4 (IntKind.wrap .i64 (i5 + n55)) (IntKind.wrap .i64 (i6 + n45)) (IntKind.wrap .i64 (i7 + (IntKind.wrap .i64 ((IntKind.wrap .i64 ((IntKind.wrap .i64 ((1000000 : Int) * i10)) - n52)) + n55)))) (IntKind.wrap .i64 (i8 + (IntKind.wrap .i64 ((IntKind.wrap .i64 ((1000000 : Int) * n45)) - (IntKind.wrap .i64 ((Cav.hold c) * (IntKind.wrap q51 (n52 - n55)))))))) k21 (updGet g22 (Int.toNat i3) 0 [(.int q48 (IntKind.wrap q48 (n49 + (IntKind.wrap .i64 ((IntKind.wrap .i64 ((if i14 < (Sl.el (Sl.el (Truth.rates t) (Int.toNat i9)) (Int.toNat i3)) then i14 else (Sl.el (Sl.el (Truth.rates t) (Int.toNat i9)) (Int.toNat i3))) * i10)) * (Slc.opn (Sl.el (Cav.slices c) (Int.toNat i3))))))))])) else none) else none) else none) else none) else none) else none) else none)) else none))))) (fun p53 => (tkIfc p53 none fun t54 x55 => (bif (flatP (.iface t54 x55)) then none else none)))) else none) else none))) (fun p50 => (tkIfc p50 none fun t51 x52 => (bif (flatP (.iface t51 x52)) then none else none)))) else none) else none) else none) else none) else none) else none) else none))) else none) else none))) (fun p43 => (tkIfc p43 none fun t44 x45 => (bif (flatP (.iface t44 x45)) then none else none)))) else none) else none) else none) else none) := by kernel_rfl
noncomputable def L85x0 (env : Env) (F : Nat) (a : Sl Span) (fu : Nat) (i0 : Int) (i1 : Int) (i2 : Int) : Option Out := atLoop Try.prog (cfg F) env 63 [.r, .r, .l, .r, .d] [] fu { tm := tmL 25 0 [(2, (.optr 0 0 0)), (3, (.optr 1 0 0)), (6, (sl eSpan 2 a)), (7, (i64 (((Sl.len a) : Nat) : Int))), (8, (i64 i0))], hp := [(.box 31 [(i64 (0 : Int)), (i64 (0 : Int))] true), (.box 31 [(i64 i1), (i64 i2)] true)] }
theorem t85 (env : Env) (F : Nat) (a : Sl Span) : (evFun Try.prog (cfg F) env 63 [(sl eSpan 2 a)]) = (L85x0 env F a F (0 : Int) (0 : Int) (0 : Int)) := by kernel_rfl
theorem L85x0s (env : Env) (F : Nat) (a : Sl Span) (fu : Nat) (i0 : Int) (i1 : Int) (i2 : Int) : L85x0 env F a (fu + 1) i0 i1 i2 = (bif (decide (i0 < (((Sl.len a) : Nat) : Int))) then (bif (decide ((0 : Int) ≤ i0)) then (bif (decide (i0 < (((Sl.len a) : Nat) : Int))) then (L85x0 env F a fu (IntKind.wrap .i64 (i0 + (1 : Int))) (IntKind.wrap .i64 (i1 + (Span.lo (Sl.el a (Int.toNat i0))))) (IntKind.wrap .i64 (i2 + (Span.hi (Sl.el a (Int.toNat i0)))))) else none) else none) else some (.ret (.agg [(i64 i1), (i64 i2)]))) := by kernel_rfl
theorem t86 (env : Env) (F : Nat) (p : Span) (n : Int) : (evFun Try.prog (cfg F) env 77 [(.agg (eSpan p)), (i64 n)]) = (bif (decide (n < (0 : Int))) then some (.ret (.agg [(i64 (IntKind.wrap .i64 (n * (Span.hi p)))), (i64 (IntKind.wrap .i64 (n * (Span.lo p))))])) else some (.ret (.agg [(i64 (IntKind.wrap .i64 (n * (Span.lo p)))), (i64 (IntKind.wrap .i64 (n * (Span.hi p))))]))) := by kernel_rfl
noncomputable def L88x0 (env : Env) (F : Nat) (w : Sl Int) (fu : Nat) (i0 : Int) (i1 : Int) : Option Out := atLoop Try.prog (cfg F) env 58 [.r, .r, .l, .r, .d] [] fu { tm := tmL 17 0 [(3, (i64 i0)), (6, (sl eInt 1 w)), (7, (i64 (((Sl.len w) : Nat) : Int))), (8, (i64 i1))], hp := [] }
theorem t88 (env : Env) (F : Nat) (w : Sl Int) : (evFun Try.prog (cfg F) env 58 [(sl eInt 1 w)]) = (L88x0 env F w F (0 : Int) (0 : Int)) := by kernel_rfl
theorem L88x0s (env : Env) (F : Nat) (w : Sl Int) (fu : Nat) (i0 : Int) (i1 : Int) : L88x0 env F w (fu + 1) i0 i1 = (bif (decide (i1 < (((Sl.len w) : Nat) : Int))) then (bif (decide ((0 : Int) ≤ i1)) then (bif (decide (i1 < (((Sl.len w) : Nat) : Int))) then (L88x0 env F w fu (IntKind.wrap .i64 (i0 + (Sl.el w (Int.toNat i1)))) (IntKind.wrap .i64 (i1 + (1 : Int)))) else none) else none) else some (.ret (i64 i0))) := by kernel_rfl
theorem t90 (env : Env) (F : Nat) (c : Cav) (l : Sl Stg) : (evFun Try.prog (cfg F) env 60 [(.agg (eCav c)), (sl eStg 4 l)]) = (tkOut (env.pf 74 [(sl eStg 4 l), (.fn (.func 75) [] [(.rptr 1 3 (fun u4 => (eCav c)) 0 0)])]) none (fun v4 => (tkBool v4 none fun b5 => some (.ret (.bool (!b5))))) (fun p4 => (tkIfc p4 none fun t5 x6 => (bif (flatP (.iface t5 x6)) then some (.pan (.iface t5 x6)) else none)))) := by kernel_rfl
noncomputable def L92x0 (env : Env) (F : Nat) (c : Cav) (m : Mea) (fu : Nat) (i0 : Int) (q1 : IntKind) (i2 : Int) (q3 : IntKind) (i4 : Int) : Option Out := atLoop Try.prog (cfg F) env 62 [.r, .r, .l, .r, .d] [] fu { tm := tmL 30 0 [(3, (.optr 0 0 0)), (4, (.optr 1 0 0)), (5, (.optr 2 0 0)), (10, (sl eSlc 7 (Cav.slices c))), (11, (i64 (((Sl.len (Cav.slices c)) : Nat) : Int))), (12, (i64 i0))], hp := [(.box 95 (eMea m) true), (.box 31 [(i64 (0 : Int)), (i64 (0 : Int))] true), (.box 31 [(.int q1 i2), (.int q3 i4)] true)] }
theorem t92 (env : Env) (F : Nat) (c : Cav) (m : Mea) : (evFun Try.prog (cfg F) env 62 [(.agg (eCav c)), (.agg (eMea m))]) = (L92x0 env F c m F (0 : Int) .i64 (0 : Int) .i64 (0 : Int)) := by kernel_rfl
theorem L92x0s (env : Env) (F : Nat) (c : Cav) (m : Mea) (fu : Nat) (i0 : Int) (q1 : IntKind) (i2 : Int) (q3 : IntKind) (i4 : Int) : L92x0 env F c m (fu + 1) i0 q1 i2 q3 i4 = (bif (decide (i0 < (((Sl.len (Cav.slices c)) : Nat) : Int))) then (bif (decide ((0 : Int) ≤ i0)) then (bif (decide (i0 < (((Sl.len (Cav.slices c)) : Nat) : Int))) then (bif (decide ((0 : Int) ≤ i0)) then (bif (decide (i0 < (((Sl.len (Mea.weights m)) : Nat) : Int))) then (tkOut (env.pf 77 [(.agg (eSpan (Slc.vol (Sl.el (Cav.slices c) (Int.toNat i0))))), (i64 (Sl.el (Mea.weights m) (Int.toNat i0)))]) none (fun v10 => (tkAgg v10 none fun l11 => (tkCons l11 none fun v12 r13 => (tkInt v12 none fun q14 n15 => (tkCons r13 none fun v16 r17 => (tkInt v16 none fun q18 n19 => (tkNil r17 none ((tkOut (env.pf 63 [(.row false 2 2 (fun u20 => (List.take 2 (List.drop ((Min.min u20 1) * 2) [(.int q1 i2), (.int q3 i4), (.int q14 n15), (.int q18 n19)]))))]) none (fun v20 => (tkAgg v20 none fun l21 => (tkCons l21 none fun v22 r23 => (tkInt v22 none fun q24 n25 => (tkCons r23 none fun v26 r27 => (tkInt v26 none fun q28 n29 => (tkNil r27 none ((L92x0 env F c m fu (IntKind.wrap .i64 (i0 + (1 : Int))) q24 n25 q28 n29))))))))) (fun p20 => (tkIfc p20 none fun t21 x22 => (bif (flatP (.iface t21 x22)) then none else none)))))))))))) (fun p10 => (tkIfc p10 none fun t11 x12 => (bif (flatP (.iface t11 x12)) then some (.pan (.iface t11 x12)) else none)))) else none) else none) else none) else none) else some (.ret (.agg [(.int q1 i2), (.int q3 i4)]))) := by kernel_rfl
theorem t96 (env : Env) (F : Nat) (a : Sl Slc) : (evFun Try.prog (cfg F) env 71 [(sl eSlc 7 a), (.fn (.func 72) [] [])]) = (tkOut (env.pf 84 [(sl eSlc 7 a), (.fn (.func 72) [] [])]) none (fun v3 => (tkInt v3 none fun q4 n5 => (bif (decide (q4 = .i64)) then some (.ret (.bool (decide (n5 ≥ (0 : Int))))) else none))) (fun p3 => (tkIfc p3 none fun t4 x5 => (bif (flatP (.iface t4 x5)) then some (.pan (.iface t4 x5)) else none)))) := by kernel_rfl
noncomputable def L93x0 (env : Env) (F : Nat) (c : Cav) (s : Stg) (m : Mea) (fu : Nat) (g0 : Nat → List V) (i1 : Int) (q2 : IntKind) (i3 : Int) (g4 : Nat → List V) : Option Out := atLoop Try.prog (cfg F) env 64 [.r, .r, .l, .r, .d, .g 70, .r, .r, .r, .d] [] fu { tm := tmL 24 0 [(0, (.yld 0)), (1, (.rptr 1 4 g0 0 0)), (3, (i64 i1)), (4, (.int q2 i3))], hp := [.lp, (.box 89 (eCav c) true), (.box 62 (eStg s) true), (.box 95 (eMea m) true), (.box 31 [(i64 (0 : Int)), (i64 (0 : Int))] true), (.box 26 [(.row true 0 0 (fun u11 => []))] true)], ext := [(.yld 0), (.agg (eCav c)), (.agg (eStg s)), (.agg (eMea m)), (.optr 1 0 0), (.optr 2 0 0), (.optr 3 0 0), (.optr 4 0 0), (.optr 5 0 0), .undef, .undef, .undef, (.agg (eStg s)), (.fn (.func 70) [] [(.rptr 1 4 g4 0 0)]), .undef, .undef, .undef, .undef, .undef, .undef, .undef, .undef, .undef, .undef, .undef, .undef, .undef, .undef, .undef, .undef] }
noncomputable def L93x1 (env : Env) (F : Nat) (c : Cav) (s : Stg) (m : Mea) (fu : Nat) (g0 : Nat → List V) (i1 : Int) (q2 : IntKind) (i3 : Int) (k4 : Nat) (k5 : Nat) (g6 : Nat → List V) (g7 : Nat → List V) : Option Out := atLoop Try.prog (cfg F) env 64 [.r, .r, .l, .r, .d, .g 70, .r, .r, .r, .d] [] fu { tm := tmL 24 0 [(0, (.yld 0)), (1, (.rptr 1 4 g0 0 0)), (3, (i64 i1)), (4, (.int q2 i3))], hp := [.lp, (.box 89 (eCav c) true), (.box 62 (eStg s) true), (.box 95 (eMea m) true), (.box 31 [(i64 (0 : Int)), (i64 (0 : Int))] true), (.box 26 [(.osl 6 0 k4)] true), (.arr 3 1 k5 g6 true)], ext := [(.yld 0), (.agg (eCav c)), (.agg (eStg s)), (.agg (eMea m)), (.optr 1 0 0), (.optr 2 0 0), (.optr 3 0 0), (.optr 4 0 0), (.optr 5 0 0), .undef, .undef, .undef, (.agg (eStg s)), (.fn (.func 70) [] [(.rptr 1 4 g7 0 0)]), .undef, .undef, .undef, .undef, .undef, .undef, .undef, .undef, .undef, .undef, .undef, .undef, .undef, .undef, .undef, .undef] }
theorem t93 (env : Env) (F : Nat) (c : Cav) (s : Stg) (m : Mea) : (evFun Try.prog (cfg F) env 64 [(.agg (eCav c)), (.agg (eStg s)), (.agg (eMea m))]) = (tkOut (env.pf 57 [(.agg (eStg s))]) none (fun v5 => (tkFn v5 none fun f6 a7 c8 => (bif (Nat.beq f6 70) then (tkNil a7 none ((tkCons c8 none fun v9 r10 => (tkPtr v9 none fun n11 wd12 g13 i14 off15 => (bif (((Nat.beq n11 1) && (Nat.beq wd12 4)) && ((Nat.beq i14 0) && (Nat.beq off15 0))) then (tkCons (g13 0) none fun v16 r17 => (tkInt v16 none fun q18 n19 => (tkCons r17 none fun v20 r21 => (tkInt v20 none fun q22 n23 => (tkCons r21 none fun v24 r25 => (tkInt v24 none fun q26 n27 => (tkCons r25 none fun v28 r29 => (tkInt v28 none fun q30 n31 => (tkNil r29 none ((tkNil r10 none ((bif (decide (q26 = q22)) then (bif (decide (n27 < n23)) then (L93x0 env F c s m F (fun u32 => [(.int q18 n19), (.int q22 n23), (.int q26 n27), (.int q30 n31)]) (-(1 : Int)) q22 n23 (fun u32 => [(.int q18 n19), (.int q22 n23), (.int q26 n27), (.int q30 n31)])) else (L93x0 env F c s m F (fun u32 => [(.int q18 n19), (.int q22 n23), (.int q26 n27), (.int q30 n31)]) (1 : Int) q22 n23 (fun u32 => [(.int q18 n19), (.int q22 n23), (.int q26 n27), (.int q30 n31)]))) else none))))))))))))) else none))))) else none))) (fun p5 => (tkIfc p5 none fun t6 x7 => (bif (flatP (.iface t6 x7)) then some (.pan (.iface t6 x7)) else none)))) := by kernel_rfl
theorem L93x0s (env : Env) (F : Nat) (c : Cav) (s : Stg) (m : Mea) (fu : Nat) (g0 : Nat → List V) (i1 : Int) (q2 : IntKind) (i3 : Int) (g4 : Nat → List V) : L93x0 env F c s m (fu + 1) g0 i1 q2 i3 g4 = (tkCons (List.drop 2 (g0 0)) none fun v11 r12 => (tkInt v11 none fun q13 n14 => (bif (decide (q2 = q13)) then (bif (i3 != n14) then (bif (decide (q2 = .i64)) then (L93x1 env F c s m fu g0 i1 q2 (IntKind.wrap q2 (i3 + i1)) 1 1 (fun u15 => [(.int q2 i3)]) g4) else none) else (tkHv (env.hv 78 [(.agg [(i64 (0 : Int)), (i64 (Cav.hold c))]), (.optr 0 0 0), (.optr 1 0 0), (.optr 2 0 0), (.optr 3 0 0), (.optr 4 0 0)] [(.box 26 [(.osl 5 0 1)] true), (.box 128 [(.mapr 6)] true), (.box 89 (eCav c) true), (.box 95 (eMea m) true), (.box 129 [(.fn (.func 78) [] [(.optr 0 0 0), (.optr 1 0 0), (.optr 2 0 0), (.optr 3 0 0), (.optr 4 0 0)])] true), (.arr 3 1 1 (fun u15 => [(.int q2 i3)]) true), (.mp true [(KS.int .i64), (KS.int .i64)] [] true)]) none fun v15 h16 => (tkAgg v15 none fun l17 => (tkCons l17 none fun v18 r19 => (tkInt v18 none fun q20 n21 => (tkCons r19 none fun v22 r23 => (tkInt v22 none fun q24 n25 => (tkNil r23 none ((tkSCons h16 none fun s26 r27 => (tkBox s26 none fun e28 c29 wr30 => (bif ((Nat.beq e28 26) && (wr30 == true)) then (tkCons c29 none fun v31 r32 => (bif (sameV 8 (.osl 5 0 1) v31) then (tkNil r32 none ((tkSCons r27 none fun s33 r34 => (tkBox s33 none fun e35 c36 wr37 => (bif ((Nat.beq e35 128) && (wr37 == true)) then (tkCons c36 none fun v38 r39 => (bif (sameV 8 (.mapr 6) v38) then (tkNil r39 none ((tkSCons r34 none fun s40 r41 => (tkBox s40 none fun e42 c43 wr44 => (bif ((Nat.beq e42 89) && (wr44 == true)) then (tkCons c43 none fun v45 r46 => (tkRow v45 none fun nl47 n48 wd49 g50 => (tkCons r46 none fun v51 r52 => (tkInt v51 none fun q53 n54 => (tkCons r52 none fun v55 r56 => (tkInt v55 none fun q57 n58 => (tkNil r56 none ((tkSCons r41 none fun s59 r60 => (tkBox s59 none fun e61 c62 wr63 => (bif ((Nat.beq e61 95) && (wr63 == true)) then (tkCons c62 none fun v64 r65 => (tkRow v64 none fun nl66 n67 wd68 g69 => (tkCons r65 none fun v70 r71 => (tkInt v70 none fun q72 n73 => (tkNil r71 none ((tkSCons r60 none fun s74 r75 => (tkBox s74 none fun e76 c77 wr78 => (bif ((Nat.beq e76 129) && (wr78 == true)) then (tkCons c77 none fun v79 r80 => (bif (sameV 8 (.fn (.func 78) [] [(.optr 0 0 0), (.optr 1 0 0), (.optr 2 0 0), (.optr 3 0 0), (.optr 4 0 0)]) v79) then (tkNil r80 none ((tkSCons r75 none fun s81 r82 => (tkArr s81 none fun e83 wd84 n85 g86 wr87 => (bif (((Nat.beq e83 3) && (Nat.beq wd84 1)) && ((Nat.beq n85 1) && (wr87 == true))) then (tkSCons r82 none fun s88 r89 => (tkMp s88 none fun ag90 ks91 es92 wr93 => (bif (((ag90 == true) && (ksEq ks91 [(KS.int .i64), (KS.int .i64)])) && (wr93 == true)) then (tkSNil r89 none ((tkOut (env.pf 77 [(.agg [(.int q20 n21), (.int q24 n25)]), (i64 (Stg.water s))]) none (fun v94 => (tkAgg v94 none fun l95 => (tkCons l95 none fun v96 r97 => (tkInt v96 none fun q98 n99 => (tkCons r97 none fun v100 r101 => (tkInt v100 none fun q102 n103 => (tkNil r101 none (some (.ret (.agg [(.int q98 n99), (.int q102 n103)])))))))))) (fun p94 => (tkIfc p94 none fun t95 x96 => (bif (flatP (.iface t95 x96)) then none else none)))))) else none))) else none))))) else none)) else none))))))))) else none))))))))))) else none))))) else none)) else none))))) else none)) else none)))))))))))) else none))) := by kernel_rfl
theorem L93x1s (env : Env) (F : Nat) (c : Cav) (s : Stg) (m : Mea) (fu : Nat) (g0 : Nat → List V) (i1 : Int) (q2 : IntKind) (i3 : Int) (k4 : Nat) (k5 : Nat) (g6 : Nat → List V) (g7 : Nat → List V) : L93x1 env F c s m (fu + 1) g0 i1 q2 i3 k4 k5 g6 g7 = (bif (decide (((k4 + 1) * 8) ≤ 140737488355328)) then (tkCons (List.drop 2 (g0 0)) none fun v14 r15 => (tkInt v14 none fun q16 n17 => (bif (decide (q2 = q16)) then (bif (i3 != n17) then (bif (decide (q2 = .i64)) then (L93x1 env F c s m fu g0 i1 q2 (IntKind.wrap q2 (i3 + i1)) (k4 + 1) (k4 + 1) (appGet k4 g6 (fun u18 => [(.int q2 i3)])) g7) else none) else (tkHv (env.hv 78 [(.agg [(i64 (0 : Int)), (i64 (Cav.hold c))]), (.optr 0 0 0), (.optr 1 0 0), (.optr 2 0 0), (.optr 3 0 0), (.optr 4 0 0)] [(.box 26 [(.osl 5 0 (k4 + 1))] true), (.box 128 [(.mapr 6)] true), (.box 89 (eCav c) true), (.box 95 (eMea m) true), (.box 129 [(.fn (.func 78) [] [(.optr 0 0 0), (.optr 1 0 0), (.optr 2 0 0), (.optr 3 0 0), (.optr 4 0 0)])] true), (.arr 3 1 (k4 + 1) (appGet k4 g6 (fun u18 => [(.int q2 i3)])) true), (.mp true [(KS.int .i64), (KS.int .i64)] [] true)]) none fun v18 h19 => (tkAgg v18 none fun l20 => (tkCons l20 none fun v21 r22 => (tkInt v21 none fun q23 n24 => (tkCons r22 none fun v25 r26 => (tkInt v25 none fun q27 n28 => (tkNil r26 none ((tkSCons h19 none fun s29 r30 => (tkBox s29 none fun e31 c32 wr33 => (bif ((Nat.beq e31 26) && (wr33 == true)) then (tkCons c32 none fun v34 r35 => (bif (sameV 8 (.osl 5 0 (k4 + 1)) v34) then (tkNil r35 none ((tkSCons r30 none fun s36 r37 => (tkBox s36 none fun e38 c39 wr40 => (bif ((Nat.beq e38 128) && (wr40 == true)) then (tkCons c39 none fun v41 r42 => (bif (sameV 8 (.mapr 6) v41) then (tkNil r42 none ((tkSCons r37 none fun s43 r44 => (tkBox s43 none fun e45 c46 wr47 => (bif ((Nat.beq e45 89) && (wr47 == true)) then (tkCons c46 none fun v48 r49 => (tkRow v48 none fun nl50 n51 wd52 g53 => (tkCons r49 none fun v54 r55 => (tkInt v54 none fun q56 n57 => (tkCons r55 none fun v58 r59 => (tkInt v58 none fun q60 n61 => (tkNil r59 none ((tkSCons r44 none fun s62 r63 => (tkBox s62 none fun e64 c65 wr66 => (bif ((Nat.beq e64 95) && (wr66 == true)) then (tkCons c65 none fun v67 r68 => (tkRow v67 none fun nl69 n70 wd71 g72 => (tkCons r68 none fun v73 r74 => (tkInt v73 none fun q75 n76 => (tkNil r74 none ((tkSCons r63 none fun s77 r78 => (tkBox s77 none fun e79 c80 wr81 => (bif ((Nat.beq e79 129) && (wr81 == true)) then (tkCons c80 none fun v82 r83 => (bif (sameV 8 (.fn (.func 78) [] [(.optr 0 0 0), (.optr 1 0 0), (.optr 2 0 0), (.optr 3 0 0), (.optr 4 0 0)]) v82) then (tkNil r83 none ((tkSCons r78 none fun s84 r85 => (tkArr s84 none fun e86 wd87 n88 g89 wr90 => (bif (((Nat.beq e86 3) && (Nat.beq wd87 1)) && ((Nat.beq n88 (k4 + 1)) && (wr90 == true))) then (tkSCons r85 none fun s91 r92 => (tkMp s91 none fun ag93 ks94 es95 wr96 => (bif (((ag93 == true) && (ksEq ks94 [(KS.int .i64), (KS.int .i64)])) && (wr96 == true)) then (tkSNil r92 none ((tkOut (env.pf 77 [(.agg [(.int q23 n24), (.int q27 n28)]), (i64 (Stg.water s))]) none (fun v97 => (tkAgg v97 none fun l98 => (tkCons l98 none fun v99 r100 => (tkInt v99 none fun q101 n102 => (tkCons r100 none fun v103 r104 => (tkInt v103 none fun q105 n106 => (tkNil r104 none (some (.ret (.agg [(.int q101 n102), (.int q105 n106)])))))))))) (fun p97 => (tkIfc p97 none fun t98 x99 => (bif (flatP (.iface t98 x99)) then none else none)))))) else none))) else none))))) else none)) else none))))))))) else none))))))))))) else none))))) else none)) else none))))) else none)) else none)))))))))))) else none))) else none) := by kernel_rfl
noncomputable def L87x0 (env : Env) (F : Nat) (c : Cav) (l : Sl Stg) (t : Truth) (fu : Nat) (i0 : Int) : Option Out := atLoop Try.prog (cfg F) env 55 [.r, .r, .l, .r, .d] [] fu { tm := tmL 91 0 [(3, (.optr 0 0 0)), (5, (.optr 1 0 0)), (32, (sl eInt 1 (Truth.vols t))), (33, (i64 (((Sl.len (Truth.vols t)) : Nat) : Int))), (34, (i64 i0))], hp := [(.box 89 (eCav c) true), (.box 29 (eTruth t) true)] }
noncomputable def L87x1 (env : Env) (F : Nat) (c : Cav) (l : Sl Stg) (t : Truth) (fu : Nat) (i0 : Int) : Option Out := atLoop Try.prog (cfg F) env 55 [.r, .r, .r, .l, .r, .d] [] fu { tm := tmL 91 0 [(3, (.optr 0 0 0)), (55, (sl eIL 1 (Truth.rates t))), (56, (i64 (((Sl.len (Truth.rates t)) : Nat) : Int))), (57, (i64 i0))], hp := [(.box 89 (eCav c) true)] }
noncomputable def L87x2 (env : Env) (F : Nat) (c : Cav) (l : Sl Stg) (t : Truth) (m0 : Nat) (fu : Nat) (i0 : Int) (b1 : Bool) (k2 : Nat) (g3 : Nat → List V) (i4 : Int) (i5 : Int) : Option Out := atLoop Try.prog (cfg F) env 55 [.r, .r, .r, .l, .r, .d, .d, .r, .r, .l, .d, .r, .r, .r, .d] [m0] fu { tm := tmL 91 0 [(3, (.optr 0 0 0)), (55, (sl eIL 1 (Truth.rates t))), (56, (i64 (((Sl.len (Truth.rates t)) : Nat) : Int))), (57, (i64 i0)), (68, (.row b1 k2 1 g3)), (69, (i64 i4)), (70, (i64 i5))], hp := [(.box 89 (eCav c) true)] }
theorem t87 (env : Env) (F : Nat) (c : Cav) (l : Sl Stg) (t : Truth) : (evFun Try.prog (cfg F) env 55 [(.agg (eCav c)), (sl eStg 4 l), (.agg (eTruth t))]) = (bif ((((Sl.len (Truth.vols t)) : Nat) : Int) != (((Sl.len (Cav.slices c)) : Nat) : Int)) then some (.ret (.bool false)) else (bif ((((Sl.len (Truth.rates t)) : Nat) : Int) != (((Sl.len l) : Nat) : Int)) then some (.ret (.bool false)) else (L87x0 env F c l t F (0 : Int)))) := by kernel_rfl
theorem L87x0s (env : Env) (F : Nat) (c : Cav) (l : Sl Stg) (t : Truth) (fu : Nat) (i0 : Int) : L87x0 env F c l t (fu + 1) i0 = (bif (decide (i0 < (((Sl.len (Truth.vols t)) : Nat) : Int))) then (bif (decide ((0 : Int) ≤ i0)) then (bif (decide (i0 < (((Sl.len (Truth.vols t)) : Nat) : Int))) then (bif (decide ((0 : Int) ≤ i0)) then (bif (decide (i0 < (((Sl.len (Cav.slices c)) : Nat) : Int))) then (tkOut (env.pf 34 [(i64 (Sl.el (Truth.vols t) (Int.toNat i0))), (i64 (Span.lo (Slc.vol (Sl.el (Cav.slices c) (Int.toNat i0))))), (i64 (Span.hi (Slc.vol (Sl.el (Cav.slices c) (Int.toNat i0)))))]) none (fun v7 => (tkBool v7 none fun b8 => (bif (!b8) then some (.ret (.bool false)) else (L87x0 env F c l t fu (IntKind.wrap .i64 (i0 + (1 : Int))))))) (fun p7 => (tkIfc p7 none fun t8 x9 => (bif (flatP (.iface t8 x9)) then some (.pan (.iface t8 x9)) else none)))) else none) else none) else none) else none) else (L87x1 env F c l t F (0 : Int))) := by kernel_rfl
theorem L87x1s (env : Env) (F : Nat) (c : Cav) (l : Sl Stg) (t : Truth) (fu : Nat) (i0 : Int) : L87x1 env F c l t (fu + 1) i0 = (bif (decide (i0 < (((Sl.len (Truth.rates t)) : Nat) : Int))) then (bif (decide ((0 : Int) ≤ i0)) then (bif (decide (i0 < (((Sl.len (Truth.rates t)) : Nat) : Int))) then (bif ((((Sl.len (Sl.el (Truth.rates t) (Int.toNat i0))) : Nat) : Int) != (((Sl.len (Cav.slices c)) : Nat) : Int)) then some (.ret (.bool false)) else (L87x2 env F c l t fu F i0 (Sl.nl (Sl.el (Truth.rates t) (Int.toNat i0))) (Sl.len (Sl.el (Truth.rates t) (Int.toNat i0))) (fun u7 => [(i64 (Sl.el (Sl.el (Truth.rates t) (Int.toNat i0)) u7))]) (((Sl.len (Sl.el (Truth.rates t) (Int.toNat i0))) : Nat) : Int) (0 : Int))) else none) else none) else some (.ret (.bool true))) := by kernel_rfl
theorem L87x2s (env : Env) (F : Nat) (c : Cav) (l : Sl Stg) (t : Truth) (m0 : Nat) (fu : Nat) (i0 : Int) (b1 : Bool) (k2 : Nat) (g3 : Nat → List V) (i4 : Int) (i5 : Int) : L87x2 env F c l t m0 (fu + 1) i0 b1 k2 g3 i4 i5 = (bif (decide (i5 < i4)) then (bif (decide ((0 : Int) ≤ i5)) then (bif (decide (i5 < ((k2 : Nat) : Int))) then (tkCons (g3 (Int.toNat i5)) none fun v13 r14 => (tkInt v13 none fun q15 n16 => (bif (decide ((0 : Int) ≤ i5)) then (bif (decide (i5 < (((Sl.len (Cav.slices c)) : Nat) : Int))) then (tkOut (env.pf 34 [(.int q15 n16), (i64 (Span.lo (Slc.rate (Sl.el (Cav.slices c) (Int.toNat i5))))), (i64 (Span.hi (Slc.rate (Sl.el (Cav.slices c) (Int.toNat i5)))))]) none (fun v17 => (tkBool v17 none fun b18 => (bif (!b18) then some (.ret (.bool false)) else (L87x2 env F c l t m0 fu i0 b1 k2 g3 i4 (IntKind.wrap .i64 (i5 + (1 : Int))))))) (fun p17 => (tkIfc p17 none fun t18 x19 => (bif (flatP (.iface t18 x19)) then some (.pan (.iface t18 x19)) else none)))) else none) else none))) else none) else none) else (L87x1 env F c l t m0 (IntKind.wrap .i64 (i0 + (1 : Int))))) := by kernel_rfl
theorem t107 (env : Env) (F : Nat) (c : Cav) (l : Sl Stg) : (evFun Try.prog (cfg F) env 74 [(sl eStg 4 l), (.fn (.func 75) [] [(.rptr 1 3 (fun u4 => (eCav c)) 0 0)])]) = (tkOut (env.pf 85 [(sl eStg 4 l), (.fn (.func 75) [] [(.rptr 1 3 (fun u4 => (eCav c)) 0 0)])]) none (fun v4 => (tkInt v4 none fun q5 n6 => (bif (decide (q5 = .i64)) then some (.ret (.bool (decide (n6 ≥ (0 : Int))))) else none))) (fun p4 => (tkIfc p4 none fun t5 x6 => (bif (flatP (.iface t5 x6)) then some (.pan (.iface t5 x6)) else none)))) := by kernel_rfl
theorem t98 (env : Env) (F : Nat) (p : Span) (x : Int) (y : Int) : (evFun Try.prog (cfg F) env 73 [(.agg (eSpan p)), (i64 x), (i64 y)]) = (bif (decide ((Span.lo p) ≥ x)) then (bif (decide ((Span.lo p) ≤ (Span.hi p))) then some (.ret (.bool (decide ((Span.hi p) ≤ y)))) else some (.ret (.bool false))) else some (.ret (.bool false))) := by kernel_rfl
theorem t97 (env : Env) (F : Nat) (x : Slc) : (evFun Try.prog (cfg F) env 72 [(.agg (eSlc x))]) = (tkOut (env.pf 73 [(.agg (eSpan (Slc.vol x))), (i64 (0 : Int)), (i64 (10000000000000 : Int))]) none (fun v3 => (tkBool v3 none fun b4 => (bif (!b4) then some (.ret (.bool true)) else (tkOut (env.pf 34 [(i64 (Slc.opn x)), (i64 (1000 : Int)), (i64 (3000 : Int))]) none (fun v5 => (tkBool v5 none fun b6 => (bif (!b6) then some (.ret (.bool true)) else (tkOut (env.pf 34 [(i64 (Slc.fall x)), (i64 (0 : Int)), (i64 (IntKind.wrap .i64 ((Slc.opn x) - (1 : Int))))]) none (fun v7 => (tkBool v7 none fun b8 => (bif (!b8) then some (.ret (.bool true)) else (tkOut (env.pf 73 [(.agg (eSpan (Slc.rate x))), (i64 (0 : Int)), (i64 (300 : Int))]) none (fun v9 => (tkBool v9 none fun b10 => (bif (!b10) then some (.ret (.bool true)) else (tkOut (env.pf 34 [(i64 (Slc.most x)), (i64 (0 : Int)), (i64 (10000000000000 : Int))]) none (fun v11 => (tkBool v11 none fun b12 => some (.ret (.bool (!b12))))) (fun p11 => (tkIfc p11 none fun t12 x13 => (bif (flatP (.iface t12 x13)) then some (.pan (.iface t12 x13)) else none))))))) (fun p9 => (tkIfc p9 none fun t10 x11 => (bif (flatP (.iface t10 x11)) then some (.pan (.iface t10 x11)) else none))))))) (fun p7 => (tkIfc p7 none fun t8 x9 => (bif (flatP (.iface t8 x9)) then some (.pan (.iface t8 x9)) else none))))))) (fun p5 => (tkIfc p5 none fun t6 x7 => (bif (flatP (.iface t6 x7)) then some (.pan (.iface t6 x7)) else none))))))) (fun p3 => (tkIfc p3 none fun t4 x5 => (bif (flatP (.iface t4 x5)) then some (.pan (.iface t4 x5)) else none)))) := by kernel_rfl
theorem t108 (env : Env) (F : Nat) (c : Cav) (s : Stg) : (evFun Try.prog (cfg F) env 75 [(.agg (eStg s)), (.rptr 1 3 (fun u4 => (eCav c)) 0 0)]) = (tkOut (env.pf 76 [(.agg (eCav c)), (.agg (eStg s))]) none (fun v4 => (tkBool v4 none fun b5 => some (.ret (.bool (!b5))))) (fun p4 => (tkIfc p4 none fun t5 x6 => (bif (flatP (.iface t5 x6)) then some (.pan (.iface t5 x6)) else none)))) := by kernel_rfl
theorem t110 (env : Env) (F : Nat) (c : Cav) (m : Mea) (n : Int) : (evFun Try.prog (cfg F) env 79 [(.agg (eCav c)), (.agg (eMea m)), (i64 n)]) = (bif (decide ((0 : Int) ≤ n)) then (bif (decide (n < (((Sl.len (Cav.slices c)) : Nat) : Int))) then (bif (decide ((0 : Int) ≤ n)) then (bif (decide (n < (((Sl.len (Mea.weights m)) : Nat) : Int))) then (bif (decide ((0 : Int) ≤ n)) then (bif (decide (n < (((Sl.len (Cav.slices c)) : Nat) : Int))) then some (.ret (i64 (IntKind.wrap .i64 ((IntKind.wrap .i64 ((Slc.opn (Sl.el (Cav.slices c) (Int.toNat n))) * (Sl.el (Mea.weights m) (Int.toNat n)))) + (IntKind.wrap .i64 ((Slc.fall (Sl.el (Cav.slices c) (Int.toNat n))) * (Mea.sump m))))))) else none) else none) else none) else none) else none) else none) := by kernel_rfl
noncomputable def L111x0 (env : Env) (F : Nat) (a : Sl Slc) (fu : Nat) (i0 : Int) : Option Out := atLoop Try.prog (cfg F) env 84 [.r, .l, .r, .d] [] fu { tm := tmL 19 0 [(0, (sl eSlc 7 a)), (1, (.fn (.func 72) [] [])), (7, (i64 (((Sl.len a) : Nat) : Int))), (8, (i64 i0))], hp := [] }
theorem t111 (env : Env) (F : Nat) (a : Sl Slc) : (evFun Try.prog (cfg F) env 84 [(sl eSlc 7 a), (.fn (.func 72) [] [])]) = (L111x0 env F a F (0 : Int)) := by kernel_rfl
theorem L111x0s (env : Env) (F : Nat) (a : Sl Slc) (fu : Nat) (i0 : Int) : L111x0 env F a (fu + 1) i0 = (bif (decide (i0 < (((Sl.len a) : Nat) : Int))) then (bif (decide ((0 : Int) ≤ i0)) then (bif (decide (i0 < (((Sl.len a) : Nat) : Int))) then (tkOut (env.pf 72 [(.agg (eSlc (Sl.el a (Int.toNat i0))))]) none (fun v5 => (tkBool v5 none fun b6 => (bif b6 then some (.ret (i64 i0)) else (L111x0 env F a fu (IntKind.wrap .i64 (i0 + (1 : Int))))))) (fun p5 => (tkIfc p5 none fun t6 x7 => (bif (flatP (.iface t6 x7)) then some (.pan (.iface t6 x7)) else none)))) else none) else none) else some (.ret (i64 (-(1 : Int))))) := by kernel_rfl
noncomputable def L114x0 (env : Env) (F : Nat) (c : Cav) (l : Sl Stg) (fu : Nat) (i0 : Int) : Option Out := atLoop Try.prog (cfg F) env 85 [.r, .l, .r, .d] [] fu { tm := tmL 19 0 [(0, (sl eStg 4 l)), (1, (.fn (.func 75) [] [(.rptr 1 3 (fun u6 => (eCav c)) 0 0)])), (7, (i64 (((Sl.len l) : Nat) : Int))), (8, (i64 i0))], hp := [] }
theorem t114 (env : Env) (F : Nat) (c : Cav) (l : Sl Stg) : (evFun Try.prog (cfg F) env 85 [(sl eStg 4 l), (.fn (.func 75) [] [(.rptr 1 3 (fun u4 => (eCav c)) 0 0)])]) = (L114x0 env F c l F (0 : Int)) := by kernel_rfl
theorem L114x0s (env : Env) (F : Nat) (c : Cav) (l : Sl Stg) (fu : Nat) (i0 : Int) : L114x0 env F c l (fu + 1) i0 = (bif (decide (i0 < (((Sl.len l) : Nat) : Int))) then (bif (decide ((0 : Int) ≤ i0)) then (bif (decide (i0 < (((Sl.len l) : Nat) : Int))) then (tkOut (env.pf 75 [(.agg (eStg (Sl.el l (Int.toNat i0)))), (.rptr 1 3 (fun u6 => (eCav c)) 0 0)]) none (fun v6 => (tkBool v6 none fun b7 => (bif b7 then some (.ret (i64 i0)) else (L114x0 env F c l fu (IntKind.wrap .i64 (i0 + (1 : Int))))))) (fun p6 => (tkIfc p6 none fun t7 x8 => (bif (flatP (.iface t7 x8)) then some (.pan (.iface t7 x8)) else none)))) else none) else none) else some (.ret (i64 (-(1 : Int))))) := by kernel_rfl
theorem t6061 (env : Env) (F : Nat) (w : Sl Int) : (evFun Try.prog (cfg F) env 35 [(sl eInt 1 w), (.fn (.func 36) [] [(.rptr 1 1 (fun u3 => [(.fn (.func 33) [] [])]) 0 0)])]) = (tkOut (env.pf 61 [(sl eInt 1 w), (.fn (.func 36) [] [(.rptr 1 1 (fun u3 => [(.fn (.func 33) [] [])]) 0 0)])]) none (fun v3 => (tkInt v3 none fun q4 n5 => (bif (decide (q4 = .i64)) then some (.ret (.bool (decide (n5 ≥ (0 : Int))))) else none))) (fun p3 => (tkIfc p3 none fun t4 x5 => (bif (flatP (.iface t4 x5)) then some (.pan (.iface t4 x5)) else none)))) := by kernel_rfl
noncomputable def L9161x0 (env : Env) (F : Nat) (w : Sl Int) (fu : Nat) (i0 : Int) : Option Out := atLoop Try.prog (cfg F) env 61 [.r, .l, .r, .d] [] fu { tm := tmL 19 0 [(0, (sl eInt 1 w)), (1, (.fn (.func 36) [] [(.rptr 1 1 (fun u5 => [(.fn (.func 33) [] [])]) 0 0)])), (7, (i64 (((Sl.len w) : Nat) : Int))), (8, (i64 i0))], hp := [] }
theorem t9161 (env : Env) (F : Nat) (w : Sl Int) : (evFun Try.prog (cfg F) env 61 [(sl eInt 1 w), (.fn (.func 36) [] [(.rptr 1 1 (fun u3 => [(.fn (.func 33) [] [])]) 0 0)])]) = (L9161x0 env F w F (0 : Int)) := by kernel_rfl
theorem L9161x0s (env : Env) (F : Nat) (w : Sl Int) (fu : Nat) (i0 : Int) : L9161x0 env F w (fu + 1) i0 = (bif (decide (i0 < (((Sl.len w) : Nat) : Int))) then (bif (decide ((0 : Int) ≤ i0)) then (bif (decide (i0 < (((Sl.len w) : Nat) : Int))) then (tkOut (env.pf 36 [(i64 (Sl.el w (Int.toNat i0))), (.rptr 1 1 (fun u5 => [(.fn (.func 33) [] [])]) 0 0)]) none (fun v5 => (tkBool v5 none fun b6 => (bif b6 then some (.ret (i64 i0)) else (L9161x0 env F w fu (IntKind.wrap .i64 (i0 + (1 : Int))))))) (fun p5 => (tkIfc p5 none fun t6 x7 => (bif (flatP (.iface t6 x7)) then some (.pan (.iface t6 x7)) else none)))) else none) else none) else some (.ret (i64 (-(1 : Int))))) := by kernel_rfl
noncomputable def L109x0 (env : Env) (F : Nat) (c : Cav) (m : Mea) (a : Int) (b : Int) (k : Nat) (g : Nat → Int) (es : List (V × V)) (fu : Nat) (q0 : IntKind) (i1 : Int) (i2 : Int) (q3 : IntKind) (i4 : Int) (q5 : IntKind) (i6 : Int) (b7 : Bool) (k8 : Nat) (k9 : Nat) (g10 : Nat → List V) (q11 : IntKind) (i12 : Int) (q13 : IntKind) (i14 : Int) (b15 : Bool) (k16 : Nat) (k17 : Nat) (g18 : Nat → List V) (q19 : IntKind) (i20 : Int) (g21 : Nat → List V) (e22 : List (V × V)) : Option (Out × List Slot) := atLoopH Try.prog (cfg F) env 78 [.r, .r, .r, .r, .r, .r, .l, .r, .d] [] fu { tm := tmL 113 0 [(2, (.optr 0 0 0)), (5, (.optr 1 0 0)), (6, (.optr 2 0 0)), (7, (.optr 3 0 0)), (11, (.optr 4 0 0)), (12, (.int q0 i1)), (13, (.optr 5 0 0)), (14, (i64 i2))], hp := [(.box 128 [(.mapr 10)] true), (.box 129 [(.fn (.func 78) [] [(.optr 6 0 0), (.optr 0 0 0), (.optr 7 0 0), (.optr 8 0 0), (.optr 1 0 0)])] true), (.box 131 [(i64 a), (i64 b)] true), (.box 31 [(i64 (0 : Int)), (i64 (0 : Int))] true), (.box 31 (eSpan (Slc.rate (Sl.el (Cav.slices c) (Int.toNat (g (Int.toNat a)))))) true), (.box 31 [(.int q3 i4), (.int q5 i6)] true), (.box 26 [(.osl 9 0 k)] true), (.box 89 [(.row b7 k8 k9 g10), (.int q11 i12), (.int q13 i14)] true), (.box 95 [(.row b15 k16 k17 g18), (.int q19 i20)] true), (.arr 3 1 k g21 true), (.mp true [(KS.int .i64), (KS.int .i64)] e22 true)], ext := [(.blk 6), (.blk 0), (.blk 7), (.blk 8), (.blk 1), (.blk 9), (.blk 10)] }
theorem t109 (env : Env) (F : Nat) (c : Cav) (m : Mea) (a : Int) (b : Int) (k : Nat) (g : Nat → Int) (es : List (V × V)) : (evFunH Try.prog (cfg F) env 78 [(.agg [(i64 a), (i64 b)]), (.optr 0 0 0), (.optr 1 0 0), (.optr 2 0 0), (.optr 3 0 0), (.optr 4 0 0)] [(.box 26 [(.osl 5 0 k)] true), (.box 128 [(.mapr 6)] true), (.box 89 (eCav c) true), (.box 95 (eMea m) true), (.box 129 [(.fn (.func 78) [] [(.optr 0 0 0), (.optr 1 0 0), (.optr 2 0 0), (.optr 3 0 0), (.optr 4 0 0)])] true), (.arr 3 1 k (fun u9 => (eInt (g u9))) true), (.mp true [(KS.int .i64), (KS.int .i64)] es true)]) = (bif (a == ((k : Nat) : Int)) then some ((.ret (.agg [(i64 (0 : Int)), (i64 (0 : Int))])), [(.box 26 [(.osl 5 0 k)] true), (.box 128 [(.mapr 6)] true), (.box 89 (eCav c) true), (.box 95 (eMea m) true), (.box 129 [(.fn (.func 78) [] [(.optr 0 0 0), (.optr 1 0 0), (.optr 2 0 0), (.optr 3 0 0), (.optr 4 0 0)])] true), (.arr 3 1 k (fun u9 => [(i64 (g u9))]) true), (.mp true [(KS.int .i64), (KS.int .i64)] es true)]) else (bif (((decide ((-((2 : Int) ^ 63)) ≤ a)) && (decide (a ≤ (((2 : Int) ^ 63) - (1 : Int))))) && (((decide ((-((2 : Int) ^ 63)) ≤ b)) && (decide (b ≤ (((2 : Int) ^ 63) - (1 : Int))))) && true)) then (tkOpt (mget es (.agg [(i64 a), (i64 b)])) ((bif (decide ((0 : Int) ≤ a)) then (bif (decide (a < ((k : Nat) : Int))) then (bif (decide ((0 : Int) ≤ (g (Int.toNat a)))) then (bif (decide ((g (Int.toNat a)) < (((Sl.len (Cav.slices c)) : Nat) : Int))) then (tkOut (env.pf 79 [(.agg (eCav c)), (.agg (eMea m)), (i64 (g (Int.toNat a)))]) none (fun v9 => (tkInt v9 none fun q10 n11 => (L109x0 env F c m a b k g es F q10 n11 (if b < (Span.lo (Slc.rate (Sl.el (Cav.slices c) (Int.toNat (g (Int.toNat a)))))) then b else (Span.lo (Slc.rate (Sl.el (Cav.slices c) (Int.toNat (g (Int.toNat a))))))) .i64 (0 : Int) .i64 (0 : Int) (Sl.nl (Cav.slices c)) (Sl.len (Cav.slices c)) 7 (fun u12 => (eSlc (Sl.el (Cav.slices c) u12))) .i64 (Cav.hold c) .i64 (Cav.oil c) (Sl.nl (Mea.weights m)) (Sl.len (Mea.weights m)) 1 (fun u12 => [(i64 (Sl.el (Mea.weights m) u12))]) .i64 (Mea.sump m) (fun u12 => [(i64 (g u12))]) es))) (fun p9 => (tkIfc p9 none fun t10 x11 => (bif (flatP (.iface t10 x11)) then none else none)))) else none) else none) else none) else none)) (fun v9 => (tkAgg v9 none fun l10 => (tkCons l10 none fun v11 r12 => (tkInt v11 none fun q13 n14 => (tkCons r12 none fun v15 r16 => (tkInt v15 none fun q17 n18 => (tkNil r16 none (some ((.ret (.agg [(.int q13 n14), (.int q17 n18)])), [(.box 26 [(.osl 5 0 k)] true), (.box 128 [(.mapr 6)] true), (.box 89 (eCav c) true), (.box 95 (eMea m) true), (.box 129 [(.fn (.func 78) [] [(.optr 0 0 0), (.optr 1 0 0), (.optr 2 0 0), (.optr 3 0 0), (.optr 4 0 0)])] true), (.arr 3 1 k (fun u19 => [(i64 (g u19))]) true), (.mp true [(KS.int .i64), (KS.int .i64)] es true)])))))))))) else none)) := by kernel_rfl
theorem L109x0s (env : Env) (F : Nat) (c : Cav) (m : Mea) (a : Int) (b : Int) (k : Nat) (g : Nat → Int) (es : List (V × V)) (fu : Nat) (q0 : IntKind) (i1 : Int) (i2 : Int) (q3 : IntKind) (i4 : Int) (q5 : IntKind) (i6 : Int) (b7 : Bool) (k8 : Nat) (k9 : Nat) (g10 : Nat → List V) (q11 : IntKind) (i12 : Int) (q13 : IntKind) (i14 : Int) (b15 : Bool) (k16 : Nat) (k17 : Nat) (g18 : Nat → List V) (q19 : IntKind) (i20 : Int) (g21 : Nat → List V) (e22 : List (V × V)) : L109x0 env F c m a b k g es (fu + 1) q0 i1 i2 q3 i4 q5 i6 b7 k8 k9 g10 q11 i12 q13 i14 b15 k16 k17 g18 q19 i20 g21 e22 = (bif (decide (i2 ≤ (if b < (Span.hi (Slc.rate (Sl.el (Cav.slices c) (Int.toNat (g (Int.toNat a)))))) then b else (Span.hi (Slc.rate (Sl.el (Cav.slices c) (Int.toNat (g (Int.toNat a))))))))) then (tkHv (env.hv 78 [(.agg [(i64 (IntKind.wrap .i64 (a + (1 : Int)))), (i64 (IntKind.wrap .i64 (b - i2)))]), (.optr 0 0 0), (.optr 1 0 0), (.optr 2 0 0), (.optr 3 0 0), (.optr 4 0 0)] [(.box 26 [(.osl 5 0 k)] true), (.box 128 [(.mapr 6)] true), (.box 89 [(.row b7 k8 k9 g10), (.int q11 i12), (.int q13 i14)] true), (.box 95 [(.row b15 k16 k17 g18), (.int q19 i20)] true), (.box 129 [(.fn (.func 78) [] [(.optr 0 0 0), (.optr 1 0 0), (.optr 2 0 0), (.optr 3 0 0), (.optr 4 0 0)])] true), (.arr 3 1 k g21 true), (.mp true [(KS.int .i64), (KS.int .i64)] e22 true)]) none fun v33 h34 => (tkAgg v33 none fun l35 => (tkCons l35 none fun v36 r37 => (tkInt v36 none fun q38 n39 => (tkCons r37 none fun v40 r41 => (tkInt v40 none fun q42 n43 => (tkNil r41 none ((tkSCons h34 none fun s44 r45 => (tkBox s44 none fun e46 c47 wr48 => (bif ((Nat.beq e46 26) && (wr48 == true)) then (tkCons c47 none fun v49 r50 => (bif (sameV 8 (.osl 5 0 k) v49) then (tkNil r50 none ((tkSCons r45 none fun s51 r52 => (tkBox s51 none fun e53 c54 wr55 => (bif ((Nat.beq e53 128) && (wr55 == true)) then (tkCons c54 none fun v56 r57 => (bif (sameV 8 (.mapr 6) v56) then (tkNil r57 none ((tkSCons r52 none fun s58 r59 => (tkBox s58 none fun e60 c61 wr62 => (bif ((Nat.beq e60 89) && (wr62 == true)) then (tkCons c61 none fun v63 r64 => (tkRow v63 none fun nl65 n66 wd67 g68 => (tkCons r64 none fun v69 r70 => (tkInt v69 none fun q71 n72 => (tkCons r70 none fun v73 r74 => (tkInt v73 none fun q75 n76 => (tkNil r74 none ((tkSCons r59 none fun s77 r78 => (tkBox s77 none fun e79 c80 wr81 => (bif ((Nat.beq e79 95) && (wr81 == true)) then (tkCons c80 none fun v82 r83 => (tkRow v82 none fun nl84 n85 wd86 g87 => (tkCons r83 none fun v88 r89 => (tkInt v88 none fun q90 n91 => (tkNil r89 none ((tkSCons r78 none fun s92 r93 => (tkBox s92 none fun e94 c95 wr96 => (bif ((Nat.beq e94 129) && (wr96 == true)) then (tkCons c95 none fun v97 r98 => (bif (sameV 8 (.fn (.func 78) [] [(.optr 0 0 0), (.optr 1 0 0), (.optr 2 0 0), (.optr 3 0 0), (.optr 4 0 0)]) v97) then (tkNil r98 none ((tkSCons r93 none fun s99 r100 => (tkArr s99 none fun e101 wd102 n103 g104 wr105 => (bif (((Nat.beq e101 3) && (Nat.beq wd102 1)) && ((Nat.beq n103 k) && (wr105 == true))) then (tkSCons r100 none fun s106 r107 => (tkMp s106 none fun ag108 ks109 es110 wr111 => (bif (((ag108 == true) && (ksEq ks109 [(KS.int .i64), (KS.int .i64)])) && (wr111 == true)) then (tkSNil r107 none ((bif (i2 == (if b < (Span.lo (Slc.rate (Sl.el (Cav.slices c) (Int.toNat (g (Int.toNat a)))))) then b else (Span.lo (Slc.rate (Sl.el (Cav.slices c) (Int.toNat (g (Int.toNat a)))))))) then (bif (decide (.i64 = q0)) then (bif (decide (q38 = .i64)) then (bif (decide (.i64 = q0)) then (bif (decide (q42 = .i64)) then (bif (decide (.i64 = q0)) then (bif (decide (q38 = .i64)) then (bif (decide (.i64 = q0)) then (bif (decide (q42 = .i64)) then (L109x0 env F c m a b k g es fu q0 i1 (IntKind.wrap .i64 (i2 + (1 : Int))) q38 (if (IntKind.wrap q38 (n39 + (IntKind.wrap .i64 (i2 * i1)))) < (IntKind.wrap q38 (n39 + (IntKind.wrap .i64 (i2 * i1)))) then (IntKind.wrap q38 (n39 + (IntKind.wrap .i64 (i2 * i1)))) else (IntKind.wrap q38 (n39 + (IntKind.wrap .i64 (i2 * i1))))) q42 (if (IntKind.wrap q42 (n43 + (IntKind.wrap .i64 (i2 * i1)))) < (IntKind.wrap q42 (n43 + (IntKind.wrap .i64 (i2 * i1)))) then (IntKind.wrap q42 (n43 + (IntKind.wrap .i64 (i2 * i1)))) else (IntKind.wrap q42 (n43 + (IntKind.wrap .i64 (i2 * i1))))) nl65 n66 wd67 g68 q71 n72 q75 n76 nl84 n85 wd86 g87 q90 n91 g104 es110) else none) else none) else none) else none) else none) else none) else none) else none) else (bif (decide (.i64 = q0)) then (bif (decide (q38 = .i64)) then (bif (decide (.i64 = q0)) then (bif (decide (q42 = .i64)) then (L109x0 env F c m a b k g es fu q0 i1 (IntKind.wrap .i64 (i2 + (1 : Int))) q3 (if (IntKind.wrap q38 (n39 + (IntKind.wrap .i64 (i2 * i1)))) < i4 then (IntKind.wrap q38 (n39 + (IntKind.wrap .i64 (i2 * i1)))) else i4) q5 (if i6 < (IntKind.wrap q42 (n43 + (IntKind.wrap .i64 (i2 * i1)))) then (IntKind.wrap q42 (n43 + (IntKind.wrap .i64 (i2 * i1)))) else i6) nl65 n66 wd67 g68 q71 n72 q75 n76 nl84 n85 wd86 g87 q90 n91 g104 es110) else none) else none) else none) else none)))) else none))) else none))))) else none)) else none))))))))) else none))))))))))) else none))))) else none)) else none))))) else none)) else none))))))))))) else (bif (((decide ((-((2 : Int) ^ 63)) ≤ a)) && (decide (a ≤ (((2 : Int) ^ 63) - (1 : Int))))) && (((decide ((-((2 : Int) ^ 63)) ≤ b)) && (decide (b ≤ (((2 : Int) ^ 63) - (1 : Int))))) && true)) then (bif (decide ((List.length e22) < 1000000000000)) then some ((.ret (.agg [(.int q3 i4), (.int q5 i6)])), [(.box 26 [(.osl 5 0 k)] true), (.box 128 [(.mapr 6)] true), (.box 89 [(.row b7 k8 k9 g10), (.int q11 i12), (.int q13 i14)] true), (.box 95 [(.row b15 k16 k17 g18), (.int q19 i20)] true), (.box 129 [(.fn (.func 78) [] [(.optr 0 0 0), (.optr 1 0 0), (.optr 2 0 0), (.optr 3 0 0), (.optr 4 0 0)])] true), (.arr 3 1 k g21 true), (.mp true [(KS.int .i64), (KS.int .i64)] (mput e22 (.agg [(i64 a), (i64 b)]) (.agg [(.int q3 i4), (.int q5 i6)])) true)]) else none) else none)) := by kernel_rfl
theorem t7003 (env : Env) (F : Nat) (c : Cav) (l : Sl Stg) (t : Truth) (g : Gs.Gas) (s : Gs.Gst) (p : Gs.Gpt) : (evFun Try.prog (cfg F) env 3 [(.agg (eCav c)), (sl eStg 4 l), (.agg (eTruth t)), (.agg (eGas g)), (.agg (eGst s)), (.agg (eGpt p))]) = (tkOut (env.pf 4 [(.agg (eCav c)), (sl eStg 4 l)]) none (fun v8 => (tkTup v8 none fun l9 => (tkCons l9 none fun v10 r11 => (tkAgg v10 none fun l12 => (tkCons l12 none fun v13 r14 => (tkInt v13 none fun q15 n16 => (tkCons r14 none fun v17 r18 => (tkInt v17 none fun q19 n20 => (tkNil r18 none ((tkCons r11 none fun v21 r22 => (tkBool v21 none fun b23 => (tkNil r22 none ((bif (!b23) then (tkOut (env.pf 6 []) none (fun v24 => (tkBool v24 none fun b25 => some (.ret (.bool b25)))) (fun p24 => (tkIfc p24 none fun t25 x26 => (bif (flatP (.iface t25 x26)) then some (.pan (.iface t25 x26)) else none)))) else (bif (decide ((((Sl.len (Truth.vols t)) : Nat) : Int) > (20 : Int))) then (tkOut (env.pf 6 []) none (fun v24 => (tkBool v24 none fun b25 => some (.ret (.bool b25)))) (fun p24 => (tkIfc p24 none fun t25 x26 => (bif (flatP (.iface t25 x26)) then some (.pan (.iface t25 x26)) else none)))) else (bif (decide ((((Sl.len (Truth.rates t)) : Nat) : Int) > (20 : Int))) then (tkOut (env.pf 6 []) none (fun v24 => (tkBool v24 none fun b25 => some (.ret (.bool b25)))) (fun p24 => (tkIfc p24 none fun t25 x26 => (bif (flatP (.iface t25 x26)) then some (.pan (.iface t25 x26)) else none)))) else (tkOut (env.pf 5 [(.agg (eCav c)), (sl eStg 4 l), (.agg (eTruth t))]) none (fun v24 => (tkBool v24 none fun b25 => (bif (!b25) then (tkOut (env.pf 6 []) none (fun v26 => (tkBool v26 none fun b27 => some (.ret (.bool b27)))) (fun p26 => (tkIfc p26 none fun t27 x28 => (bif (flatP (.iface t27 x28)) then some (.pan (.iface t27 x28)) else none)))) else (tkOut (env.pf 7 [(.agg [(.int q15 n16), (.int q19 n20), (i64 (Go.Sim.Gs.Gas.least g)), (i64 (Go.Sim.Gs.Gas.most g)), (i64 (Go.Sim.Gs.Gas.f0 g)), (i64 (Go.Sim.Gs.Gas.f1 g)), (i64 (Go.Sim.Gs.Gas.h0 g)), (i64 (Go.Sim.Gs.Gas.h1 g)), (i64 (Go.Sim.Gs.Gas.rock g)), (i64 (Go.Sim.Gs.Sp.lo (Go.Sim.Gs.Gas.pur g))), (i64 (Go.Sim.Gs.Sp.hi (Go.Sim.Gs.Gas.pur g)))])]) none (fun v26 => (tkBool v26 none fun b27 => (bif (!b27) then (tkOut (env.pf 6 []) none (fun v28 => (tkBool v28 none fun b29 => some (.ret (.bool b29)))) (fun p28 => (tkIfc p28 none fun t29 x30 => (bif (flatP (.iface t29 x30)) then some (.pan (.iface t29 x30)) else none)))) else (tkOut (env.pf 8 [(.agg [(i64 (Go.Sim.Gs.Sp.lo (Go.Sim.Gs.Gst.gas s))), (i64 (Go.Sim.Gs.Sp.hi (Go.Sim.Gs.Gst.gas s))), (i64 (Go.Sim.Gs.Sp.lo (Go.Sim.Gs.Gst.hyd s))), (i64 (Go.Sim.Gs.Sp.hi (Go.Sim.Gs.Gst.hyd s))), (i64 (Go.Sim.Gs.Sp.lo (Go.Sim.Gs.Gst.heat s))), (i64 (Go.Sim.Gs.Sp.hi (Go.Sim.Gs.Gst.heat s))), (i64 (Go.Sim.Gs.Sp.lo (Go.Sim.Gs.Gst.water s))), (i64 (Go.Sim.Gs.Sp.hi (Go.Sim.Gs.Gst.water s)))])]) none (fun v28 => (tkBool v28 none fun b29 => (bif (!b29) then (tkOut (env.pf 6 []) none (fun v30 => (tkBool v30 none fun b31 => some (.ret (.bool b31)))) (fun p30 => (tkIfc p30 none fun t31 x32 => (bif (flatP (.iface t31 x32)) then some (.pan (.iface t31 x32)) else none)))) else (tkOut (env.pf 9 [(.agg [(i64 (Go.Sim.Gs.Sp.lo (Go.Sim.Gs.Gst.gas s))), (i64 (Go.Sim.Gs.Sp.hi (Go.Sim.Gs.Gst.gas s))), (i64 (Go.Sim.Gs.Sp.lo (Go.Sim.Gs.Gst.hyd s))), (i64 (Go.Sim.Gs.Sp.hi (Go.Sim.Gs.Gst.hyd s))), (i64 (Go.Sim.Gs.Sp.lo (Go.Sim.Gs.Gst.heat s))), (i64 (Go.Sim.Gs.Sp.hi (Go.Sim.Gs.Gst.heat s))), (i64 (Go.Sim.Gs.Sp.lo (Go.Sim.Gs.Gst.water s))), (i64 (Go.Sim.Gs.Sp.hi (Go.Sim.Gs.Gst.water s)))]), (.agg [(i64 (Go.Sim.Gs.Gpt.gas p)), (i64 (Go.Sim.Gs.Gpt.hyd p)), (i64 (Go.Sim.Gs.Gpt.heat p)), (i64 (Go.Sim.Gs.Gpt.water p))])]) none (fun v30 => (tkBool v30 none fun b31 => (bif (!b31) then (tkOut (env.pf 6 []) none (fun v32 => (tkBool v32 none fun b33 => some (.ret (.bool b33)))) (fun p32 => (tkIfc p32 none fun t33 x34 => (bif (flatP (.iface t33 x34)) then some (.pan (.iface t33 x34)) else none)))) else (tkOut (env.pf 10 [(.agg [(.int q15 n16), (.int q19 n20), (i64 (Go.Sim.Gs.Gas.least g)), (i64 (Go.Sim.Gs.Gas.most g)), (i64 (Go.Sim.Gs.Gas.f0 g)), (i64 (Go.Sim.Gs.Gas.f1 g)), (i64 (Go.Sim.Gs.Gas.h0 g)), (i64 (Go.Sim.Gs.Gas.h1 g)), (i64 (Go.Sim.Gs.Gas.rock g)), (i64 (Go.Sim.Gs.Sp.lo (Go.Sim.Gs.Gas.pur g))), (i64 (Go.Sim.Gs.Sp.hi (Go.Sim.Gs.Gas.pur g)))]), (.agg [(i64 (Go.Sim.Gs.Sp.lo (Go.Sim.Gs.Gst.gas s))), (i64 (Go.Sim.Gs.Sp.hi (Go.Sim.Gs.Gst.gas s))), (i64 (Go.Sim.Gs.Sp.lo (Go.Sim.Gs.Gst.hyd s))), (i64 (Go.Sim.Gs.Sp.hi (Go.Sim.Gs.Gst.hyd s))), (i64 (Go.Sim.Gs.Sp.lo (Go.Sim.Gs.Gst.heat s))), (i64 (Go.Sim.Gs.Sp.hi (Go.Sim.Gs.Gst.heat s))), (i64 (Go.Sim.Gs.Sp.lo (Go.Sim.Gs.Gst.water s))), (i64 (Go.Sim.Gs.Sp.hi (Go.Sim.Gs.Gst.water s)))])]) none (fun v32 => (tkTup v32 none fun l33 => (tkCons l33 none fun v34 r35 => (tkInt v34 none fun q36 n37 => (tkCons r35 none fun v38 r39 => (tkInt v38 none fun q40 n41 => (tkNil r39 none ((tkOut (env.pf 11 [(.agg (eCav c)), (sl eStg 4 l), (.agg (eTruth t))]) none (fun v42 => (tkInt v42 none fun q43 n44 => (bif (decide (q40 = .i64)) then (bif (n41 != (0 : Int)) then some (.ret (.bool false)) else (bif (decide (.i64 = q15)) then (bif (decide (q43 = .i64)) then (bif (decide (n44 < (IntKind.wrap .i64 ((1000000 : Int) * n16)))) then some (.ret (.bool false)) else (bif (decide (.i64 = q19)) then (bif (decide (q43 = .i64)) then (bif (decide (n44 > (IntKind.wrap .i64 ((1000000 : Int) * n20)))) then some (.ret (.bool false)) else (bif (decide (q36 = .i64)) then (bif (n37 != (1 : Int)) then (tkOut (env.pf 6 []) none (fun v45 => (tkBool v45 none fun b46 => some (.ret (.bool b46)))) (fun p45 => (tkIfc p45 none fun t46 x47 => (bif (flatP (.iface t46 x47)) then some (.pan (.iface t46 x47)) else none)))) else (bif (decide (q43 = .i64)) then (tkOut (env.pf 12 [(.agg [(.int q15 n16), (.int q19 n20), (i64 (Go.Sim.Gs.Gas.least g)), (i64 (Go.Sim.Gs.Gas.most g)), (i64 (Go.Sim.Gs.Gas.f0 g)), (i64 (Go.Sim.Gs.Gas.f1 g)), (i64 (Go.Sim.Gs.Gas.h0 g)), (i64 (Go.Sim.Gs.Gas.h1 g)), (i64 (Go.Sim.Gs.Gas.rock g)), (i64 (Go.Sim.Gs.Sp.lo (Go.Sim.Gs.Gas.pur g))), (i64 (Go.Sim.Gs.Sp.hi (Go.Sim.Gs.Gas.pur g)))]), (.agg [(i64 (Go.Sim.Gs.Gpt.gas p)), (i64 (Go.Sim.Gs.Gpt.hyd p)), (i64 (Go.Sim.Gs.Gpt.heat p)), (i64 (Go.Sim.Gs.Gpt.water p))]), (.int q43 (IntKind.wrap q43 (Int.tdiv n44 (1000000 : Int))))]) none (fun v45 => (tkInt v45 none fun q46 n47 => (bif (decide (q46 = .i64)) then (bif (n47 == (1 : Int)) then (bif (decide (q43 = .i64)) then (bif (decide (q43 = .i64)) then (tkOut (env.pf 12 [(.agg [(.int q15 n16), (.int q19 n20), (i64 (Go.Sim.Gs.Gas.least g)), (i64 (Go.Sim.Gs.Gas.most g)), (i64 (Go.Sim.Gs.Gas.f0 g)), (i64 (Go.Sim.Gs.Gas.f1 g)), (i64 (Go.Sim.Gs.Gas.h0 g)), (i64 (Go.Sim.Gs.Gas.h1 g)), (i64 (Go.Sim.Gs.Gas.rock g)), (i64 (Go.Sim.Gs.Sp.lo (Go.Sim.Gs.Gas.pur g))), (i64 (Go.Sim.Gs.Sp.hi (Go.Sim.Gs.Gas.pur g)))]), (.agg [(i64 (Go.Sim.Gs.Gpt.gas p)), (i64 (Go.Sim.Gs.Gpt.hyd p)), (i64 (Go.Sim.Gs.Gpt.heat p)), (i64 (Go.Sim.Gs.Gpt.water p))]), (.int q43 (IntKind.wrap q43 (Int.tdiv (IntKind.wrap q43 (n44 + (999999 : Int))) (1000000 : Int))))]) none (fun v48 => (tkInt v48 none fun q49 n50 => (bif (decide (q49 = .i64)) then (bif (n50 == (1 : Int)) then (tkOut (env.pf 6 []) none (fun v51 => (tkBool v51 none fun b52 => some (.ret (.bool b52)))) (fun p51 => (tkIfc p51 none fun t52 x53 => (bif (flatP (.iface t52 x53)) then some (.pan (.iface t52 x53)) else none)))) else some (.ret (.bool false))) else none))) (fun p48 => (tkIfc p48 none fun t49 x50 => (bif (flatP (.iface t49 x50)) then some (.pan (.iface t49 x50)) else none)))) else none) else none) else some (.ret (.bool false))) else none))) (fun p45 => (tkIfc p45 none fun t46 x47 => (bif (flatP (.iface t46 x47)) then some (.pan (.iface t46 x47)) else none)))) else none)) else none)) else none) else none)) else none) else none)) else none))) (fun p42 => (tkIfc p42 none fun t43 x44 => (bif (flatP (.iface t43 x44)) then some (.pan (.iface t43 x44)) else none)))))))))))) (fun p32 => (tkIfc p32 none fun t33 x34 => (bif (flatP (.iface t33 x34)) then some (.pan (.iface t33 x34)) else none))))))) (fun p30 => (tkIfc p30 none fun t31 x32 => (bif (flatP (.iface t31 x32)) then some (.pan (.iface t31 x32)) else none))))))) (fun p28 => (tkIfc p28 none fun t29 x30 => (bif (flatP (.iface t29 x30)) then some (.pan (.iface t29 x30)) else none))))))) (fun p26 => (tkIfc p26 none fun t27 x28 => (bif (flatP (.iface t27 x28)) then some (.pan (.iface t27 x28)) else none))))))) (fun p24 => (tkIfc p24 none fun t25 x26 => (bif (flatP (.iface t25 x26)) then some (.pan (.iface t25 x26)) else none))))))))))))))))))))) (fun p8 => (tkIfc p8 none fun t9 x10 => (bif (flatP (.iface t9 x10)) then some (.pan (.iface t9 x10)) else none)))) := by kernel_rfl
noncomputable def L7004x0 (env : Env) (F : Nat) (c : Cav) (l : Sl Stg) (fu : Nat) : Option Out := atLoop Try.prog (cfg F) env 4 [.r, .r, .r, .l, .r, .d] [] fu { tm := tmL 81 0 [(1, (sl eStg 4 l)), (2, (.optr 0 0 0)), (4, (.optr 1 0 0)), (6, (.row true 0 0 (fun u5 => []))), (7, (i64 (0 : Int)))], hp := [(.box 24 (eCav c) true), (.box 31 [(i64 (0 : Int)), (i64 (0 : Int))] true)] }
noncomputable def L7004x1 (env : Env) (F : Nat) (c : Cav) (l : Sl Stg) (fu : Nat) (k0 : Nat) (i1 : Int) (k2 : Nat) (g3 : Nat → List V) : Option Out := atLoop Try.prog (cfg F) env 4 [.r, .r, .r, .l, .r, .d] [] fu { tm := tmL 81 0 [(1, (sl eStg 4 l)), (2, (.optr 0 0 0)), (4, (.optr 1 0 0)), (6, (.osl 2 0 k0)), (7, (i64 i1))], hp := [(.box 24 (eCav c) true), (.box 31 [(i64 (0 : Int)), (i64 (0 : Int))] true), (.arr 3 1 k2 g3 true)] }
theorem t7004 (env : Env) (F : Nat) (c : Cav) (l : Sl Stg) : (evFun Try.prog (cfg F) env 4 [(.agg (eCav c)), (sl eStg 4 l)]) = (bif (decide ((((Sl.len (Cav.slices c)) : Nat) : Int) > (5 : Int))) then some (.ret (.tup [(.agg [(i64 (0 : Int)), (i64 (0 : Int))]), (.bool false)])) else (bif (decide ((Cav.hold c) > (60 : Int))) then some (.ret (.tup [(.agg [(i64 (0 : Int)), (i64 (0 : Int))]), (.bool false)])) else (bif (decide ((((Sl.len l) : Nat) : Int) > (4 : Int))) then some (.ret (.tup [(.agg [(i64 (0 : Int)), (i64 (0 : Int))]), (.bool false)])) else (tkOut (env.pf 13 [(.agg (eCav c))]) none (fun v4 => (tkBool v4 none fun b5 => (bif (!b5) then some (.ret (.tup [(.agg [(i64 (0 : Int)), (i64 (0 : Int))]), (.bool false)])) else (tkOut (env.pf 14 [(.agg (eCav c)), (sl eStg 4 l)]) none (fun v6 => (tkBool v6 none fun b7 => (bif (!b7) then some (.ret (.tup [(.agg [(i64 (0 : Int)), (i64 (0 : Int))]), (.bool false)])) else (L7004x0 env F c l F)))) (fun p6 => (tkIfc p6 none fun t7 x8 => (bif (flatP (.iface t7 x8)) then some (.pan (.iface t7 x8)) else none))))))) (fun p4 => (tkIfc p4 none fun t5 x6 => (bif (flatP (.iface t5 x6)) then some (.pan (.iface t5 x6)) else none))))))) := by kernel_rfl
theorem L7004x0s (env : Env) (F : Nat) (c : Cav) (l : Sl Stg) (fu : Nat) : L7004x0 env F c l (fu + 1) = (bif (decide ((0 : Int) < (((Sl.len (Cav.slices c)) : Nat) : Int))) then (L7004x1 env F c l fu 1 (IntKind.wrap .i64 ((0 : Int) + (1 : Int))) 1 (fun u5 => [(i64 (1 : Int))])) else (tkOut (env.pf 15 [(.agg (eCav c)), (sl eStg 4 l), (.row true 0 0 (fun u5 => [])), (i64 (-(1 : Int)))]) none (fun v5 => (tkTup v5 none fun l6 => (tkCons l6 none fun v7 r8 => (tkAgg v7 none fun l9 => (tkCons l9 none fun v10 r11 => (tkInt v10 none fun q12 n13 => (tkCons r11 none fun v14 r15 => (tkInt v14 none fun q16 n17 => (tkNil r15 none ((tkCons r8 none fun v18 r19 => (tkInt v18 none fun q20 n21 => (tkNil r19 none ((bif (decide (q20 = .i64)) then (bif (n21 != (0 : Int)) then some (.ret (.tup [(.agg [(i64 (0 : Int)), (i64 (0 : Int))]), (.bool false)])) else (bif (decide (q12 = .i64)) then (bif (decide (n13 < (1000000 : Int))) then some (.ret (.tup [(.agg [(i64 (0 : Int)), (i64 (0 : Int))]), (.bool false)])) else (bif (decide (q12 = q16)) then (bif (decide (n13 > n17)) then some (.ret (.tup [(.agg [(i64 (0 : Int)), (i64 (0 : Int))]), (.bool false)])) else (bif (decide (q16 = .i64)) then (bif (decide (n17 > (999999000000 : Int))) then some (.ret (.tup [(.agg [(i64 (0 : Int)), (i64 (0 : Int))]), (.bool false)])) else (bif (decide (q12 = .i64)) then (bif (decide (q16 = .i64)) then (bif (decide (q16 = .i64)) then some (.ret (.tup [(.agg [(.int q12 (IntKind.wrap q12 (Int.tdiv n13 (1000000 : Int)))), (.int q16 (IntKind.wrap q16 (Int.tdiv (IntKind.wrap q16 (n17 + (999999 : Int))) (1000000 : Int))))]), (.bool true)])) else none) else none) else none)) else none)) else none)) else none)) else none))))))))))))))) (fun p5 => (tkIfc p5 none fun t6 x7 => (bif (flatP (.iface t6 x7)) then some (.pan (.iface t6 x7)) else none))))) := by kernel_rfl
theorem L7004x1s (env : Env) (F : Nat) (c : Cav) (l : Sl Stg) (fu : Nat) (k0 : Nat) (i1 : Int) (k2 : Nat) (g3 : Nat → List V) : L7004x1 env F c l (fu + 1) k0 i1 k2 g3 = (bif (decide (i1 < (((Sl.len (Cav.slices c)) : Nat) : Int))) then (bif (decide (((k0 + 1) * 8) ≤ 140737488355328)) then (L7004x1 env F c l fu (k0 + 1) (IntKind.wrap .i64 (i1 + (1 : Int))) (k0 + 1) (appGet k0 g3 (fun u9 => [(i64 (1 : Int))]))) else none) else (tkOut (env.pf 15 [(.agg (eCav c)), (sl eStg 4 l), (.row false k0 1 (fun u9 => (g3 u9))), (i64 (-(1 : Int)))]) none (fun v9 => (tkTup v9 none fun l10 => (tkCons l10 none fun v11 r12 => (tkAgg v11 none fun l13 => (tkCons l13 none fun v14 r15 => (tkInt v14 none fun q16 n17 => (tkCons r15 none fun v18 r19 => (tkInt v18 none fun q20 n21 => (tkNil r19 none ((tkCons r12 none fun v22 r23 => (tkInt v22 none fun q24 n25 => (tkNil r23 none ((bif (decide (q24 = .i64)) then (bif (n25 != (0 : Int)) then some (.ret (.tup [(.agg [(i64 (0 : Int)), (i64 (0 : Int))]), (.bool false)])) else (bif (decide (q16 = .i64)) then (bif (decide (n17 < (1000000 : Int))) then some (.ret (.tup [(.agg [(i64 (0 : Int)), (i64 (0 : Int))]), (.bool false)])) else (bif (decide (q16 = q20)) then (bif (decide (n17 > n21)) then some (.ret (.tup [(.agg [(i64 (0 : Int)), (i64 (0 : Int))]), (.bool false)])) else (bif (decide (q20 = .i64)) then (bif (decide (n21 > (999999000000 : Int))) then some (.ret (.tup [(.agg [(i64 (0 : Int)), (i64 (0 : Int))]), (.bool false)])) else (bif (decide (q16 = .i64)) then (bif (decide (q20 = .i64)) then (bif (decide (q20 = .i64)) then some (.ret (.tup [(.agg [(.int q16 (IntKind.wrap q16 (Int.tdiv n17 (1000000 : Int)))), (.int q20 (IntKind.wrap q20 (Int.tdiv (IntKind.wrap q20 (n21 + (999999 : Int))) (1000000 : Int))))]), (.bool true)])) else none) else none) else none)) else none)) else none)) else none)) else none))))))))))))))) (fun p9 => (tkIfc p9 none fun t10 x11 => (bif (flatP (.iface t10 x11)) then some (.pan (.iface t10 x11)) else none))))) := by kernel_rfl
theorem t7006 (env : Env) (F : Nat) : (evFun Try.prog (cfg F) env 6 []) = (tkOut (env.pf 17 []) none (fun v2 => (tkAgg v2 none fun l3 => (tkCons l3 none fun v4 r5 => (tkRow v4 none fun nl6 n7 wd8 g9 => (tkCons r5 none fun v10 r11 => (tkInt v10 none fun q12 n13 => (tkCons r11 none fun v14 r15 => (tkInt v14 none fun q16 n17 => (tkNil r15 none ((tkOut (env.pf 18 []) none (fun v18 => (tkAgg v18 none fun l19 => (tkCons l19 none fun v20 r21 => (tkInt v20 none fun q22 n23 => (tkCons r21 none fun v24 r25 => (tkInt v24 none fun q26 n27 => (tkCons r25 none fun v28 r29 => (tkInt v28 none fun q30 n31 => (tkCons r29 none fun v32 r33 => (tkInt v32 none fun q34 n35 => (tkNil r33 none ((tkOut (env.pf 15 [(.agg [(.row nl6 n7 wd8 g9), (.int q12 n13), (.int q16 n17)]), (.row false 1 4 (fun u36 => [(.int q22 n23), (.int q26 n27), (.int q30 n31), (.int q34 n35)])), (.row false 3 1 (fun u36 => (List.take 1 (List.drop ((Min.min u36 2) * 1) [(i64 (0 : Int)), (i64 (0 : Int)), (i64 (0 : Int))])))), (i64 (1 : Int))]) none (fun v36 => (tkTup v36 none fun l37 => (tkCons l37 none fun v38 r39 => (tkAgg v38 none fun l40 => (tkCons l40 none fun v41 r42 => (tkInt v41 none fun q43 n44 => (tkCons r42 none fun v45 r46 => (tkInt v45 none fun q47 n48 => (tkNil r46 none ((tkCons r39 none fun v49 r50 => (tkInt v49 none fun q51 n52 => (tkNil r50 none ((tkOut (env.pf 20 []) none (fun v53 => (tkAgg v53 none fun l54 => (tkCons l54 none fun v55 r56 => (tkInt v55 none fun q57 n58 => (tkCons r56 none fun v59 r60 => (tkInt v59 none fun q61 n62 => (tkCons r60 none fun v63 r64 => (tkInt v63 none fun q65 n66 => (tkCons r64 none fun v67 r68 => (tkInt v67 none fun q69 n70 => (tkCons r68 none fun v71 r72 => (tkInt v71 none fun q73 n74 => (tkCons r72 none fun v75 r76 => (tkInt v75 none fun q77 n78 => (tkCons r76 none fun v79 r80 => (tkInt v79 none fun q81 n82 => (tkCons r80 none fun v83 r84 => (tkInt v83 none fun q85 n86 => (tkCons r84 none fun v87 r88 => (tkInt v87 none fun q89 n90 => (tkCons r88 none fun v91 r92 => (tkInt v91 none fun q93 n94 => (tkCons r92 none fun v95 r96 => (tkInt v95 none fun q97 n98 => (tkNil r96 none ((tkOut (env.pf 21 []) none (fun v99 => (tkAgg v99 none fun l100 => (tkCons l100 none fun v101 r102 => (tkInt v101 none fun q103 n104 => (tkCons r102 none fun v105 r106 => (tkInt v105 none fun q107 n108 => (tkCons r106 none fun v109 r110 => (tkInt v109 none fun q111 n112 => (tkCons r110 none fun v113 r114 => (tkInt v113 none fun q115 n116 => (tkCons r114 none fun v117 r118 => (tkInt v117 none fun q119 n120 => (tkCons r118 none fun v121 r122 => (tkInt v121 none fun q123 n124 => (tkCons r122 none fun v125 r126 => (tkInt v125 none fun q127 n128 => (tkCons r126 none fun v129 r130 => (tkInt v129 none fun q131 n132 => (tkNil r130 none ((tkOut (env.pf 19 [(.agg [(.int q57 n58), (.int q61 n62), (.int q65 n66), (.int q69 n70), (.int q73 n74), (.int q77 n78), (.int q81 n82), (.int q85 n86), (.int q89 n90), (.int q93 n94), (.int q97 n98)]), (.agg [(.int q103 n104), (.int q107 n108), (.int q111 n112), (.int q115 n116), (.int q119 n120), (.int q123 n124), (.int q127 n128), (.int q131 n132)]), (.agg [(i64 (2 : Int)), (i64 (0 : Int)), (i64 (0 : Int)), (i64 (0 : Int)), (i64 (0 : Int)), (i64 (210 : Int)), (i64 (0 : Int)), (i64 (0 : Int)), (i64 (0 : Int)), (i64 (0 : Int))])]) none (fun v133 => (tkTup v133 none fun l134 => (tkCons l134 none fun v135 r136 => (tkAgg v135 none fun l137 => (tkCons l137 none fun v138 r139 => (tkInt v138 none fun q140 n141 => (tkCons r139 none fun v142 r143 => (tkInt v142 none fun q144 n145 => (tkCons r143 none fun v146 r147 => (tkInt v146 none fun q148 n149 => (tkCons r147 none fun v150 r151 => (tkInt v150 none fun q152 n153 => (tkCons r151 none fun v154 r155 => (tkInt v154 none fun q156 n157 => (tkCons r155 none fun v158 r159 => (tkInt v158 none fun q160 n161 => (tkCons r159 none fun v162 r163 => (tkInt v162 none fun q164 n165 => (tkCons r163 none fun v166 r167 => (tkInt v166 none fun q168 n169 => (tkNil r167 none ((tkCons r136 none fun v170 r171 => (tkAgg v170 none fun l172 => (tkCons l172 none fun v173 r174 => (tkInt v173 none fun q175 n176 => (tkCons r174 none fun v177 r178 => (tkInt v177 none fun q179 n180 => (tkCons r178 none fun v181 r182 => (tkInt v181 none fun q183 n184 => (tkCons r182 none fun v185 r186 => (tkInt v185 none fun q187 n188 => (tkCons r186 none fun v189 r190 => (tkInt v189 none fun q191 n192 => (tkCons r190 none fun v193 r194 => (tkInt v193 none fun q195 n196 => (tkNil r194 none ((tkCons r171 none fun v197 r198 => (tkInt v197 none fun q199 n200 => (tkNil r198 none ((tkOut (env.pf 22 [(.row false 2 3 (fun u201 => (List.take 3 (List.drop ((Min.min u201 1) * 3) [(i64 (0 : Int)), (.bool true), (i64 (2 : Int)), (i64 (0 : Int)), (.bool true), (i64 (2 : Int))])))), (i64 (9 : Int)), (i64 (1 : Int))]) none (fun v201 => (tkTup v201 none fun l202 => (tkCons l202 none fun v203 r204 => (tkInt v203 none fun q205 n206 => (tkCons r204 none fun v207 r208 => (tkInt v207 none fun q209 n210 => (tkNil r208 none ((bif (decide (q51 = .i64)) then (bif (n52 == (0 : Int)) then (bif (decide (q199 = .i64)) then (bif (n200 == (0 : Int)) then (bif (decide (q209 = .i64)) then (bif (n210 == (0 : Int)) then (bif (decide (q43 = .i64)) then (bif (decide (q47 = .i64)) then (bif ((n44 == (20000 : Int)) && ((n48 == (45000 : Int)) && true)) then (bif (decide (q140 = .i64)) then (bif (decide (q144 = .i64)) then (bif ((n141 == (1800 : Int)) && ((n145 == (1900 : Int)) && true)) then (bif (decide (q205 = .i64)) then some (.ret (.bool (n206 == (1 : Int)))) else none) else some (.ret (.bool false))) else none) else none) else some (.ret (.bool false))) else none) else none) else some (.ret (.bool false))) else none) else some (.ret (.bool false))) else none) else some (.ret (.bool false))) else none))))))))) (fun p201 => (tkIfc p201 none fun t202 x203 => (bif (flatP (.iface t202 x203)) then some (.pan (.iface t202 x203)) else none)))))))))))))))))))))))))))))))))))))))))))))) (fun p133 => (tkIfc p133 none fun t134 x135 => (bif (flatP (.iface t134 x135)) then some (.pan (.iface t134 x135)) else none)))))))))))))))))))))))) (fun p99 => (tkIfc p99 none fun t100 x101 => (bif (flatP (.iface t100 x101)) then some (.pan (.iface t100 x101)) else none)))))))))))))))))))))))))))))) (fun p53 => (tkIfc p53 none fun t54 x55 => (bif (flatP (.iface t54 x55)) then some (.pan (.iface t54 x55)) else none)))))))))))))))))) (fun p36 => (tkIfc p36 none fun t37 x38 => (bif (flatP (.iface t37 x38)) then some (.pan (.iface t37 x38)) else none)))))))))))))))) (fun p18 => (tkIfc p18 none fun t19 x20 => (bif (flatP (.iface t19 x20)) then some (.pan (.iface t19 x20)) else none)))))))))))))) (fun p2 => (tkIfc p2 none fun t3 x4 => (bif (flatP (.iface t3 x4)) then some (.pan (.iface t3 x4)) else none)))) := by kernel_rfl
theorem t7007 (env : Env) (F : Nat) (g : Gs.Gas) : (evFun Try.prog (cfg (F + 3)) env 7 [(.agg (eGas g))]) = (tkOut (env.pf 23 [(i64 (Go.Sim.Gs.Gas.f0 g)), (i64 (500 : Int)), (i64 (2000 : Int))]) none (fun v3 => (tkBool v3 none fun b4 => (bif (!b4) then some (.ret (.bool false)) else (tkOut (env.pf 23 [(i64 (Go.Sim.Gs.Gas.h0 g)), (i64 (1 : Int)), (i64 (100 : Int))]) none (fun v5 => (tkBool v5 none fun b6 => (bif (!b6) then some (.ret (.bool false)) else (tkOut (env.pf 23 [(i64 (Go.Sim.Gs.Gas.f1 g)), (i64 (500 : Int)), (i64 (2000 : Int))]) none (fun v7 => (tkBool v7 none fun b8 => (bif (!b8) then some (.ret (.bool false)) else (tkOut (env.pf 23 [(i64 (Go.Sim.Gs.Gas.h1 g)), (i64 (1 : Int)), (i64 (100 : Int))]) none (fun v9 => (tkBool v9 none fun b10 => (bif (!b10) then some (.ret (.bool false)) else (tkOut (env.pf 24 [(.agg [(i64 (Go.Sim.Gs.Sp.lo (Go.Sim.Gs.Gas.vol g))), (i64 (Go.Sim.Gs.Sp.hi (Go.Sim.Gs.Gas.vol g)))]), (i64 (1 : Int)), (i64 (1000000 : Int))]) none (fun v11 => (tkBool v11 none fun b12 => (bif b12 then (tkOut (env.pf 24 [(.agg [(i64 (Go.Sim.Gs.Gas.least g)), (i64 (Go.Sim.Gs.Gas.most g))]), (i64 (0 : Int)), (i64 (100000 : Int))]) none (fun v13 => (tkBool v13 none fun b14 => (bif b14 then (tkOut (env.pf 23 [(i64 (Go.Sim.Gs.Gas.rock g)), (i64 (2000 : Int)), (i64 (5000 : Int))]) none (fun v15 => (tkBool v15 none fun b16 => (bif b16 then (tkOut (env.pf 24 [(.agg [(i64 (Go.Sim.Gs.Sp.lo (Go.Sim.Gs.Gas.pur g))), (i64 (Go.Sim.Gs.Sp.hi (Go.Sim.Gs.Gas.pur g)))]), (i64 (0 : Int)), (i64 (1000 : Int))]) none (fun v17 => (tkBool v17 none fun b18 => some (.ret (.bool b18)))) (fun p17 => (tkIfc p17 none fun t18 x19 => (bif (flatP (.iface t18 x19)) then some (.pan (.iface t18 x19)) else none)))) else some (.ret (.bool false))))) (fun p15 => (tkIfc p15 none fun t16 x17 => (bif (flatP (.iface t16 x17)) then some (.pan (.iface t16 x17)) else none)))) else some (.ret (.bool false))))) (fun p13 => (tkIfc p13 none fun t14 x15 => (bif (flatP (.iface t14 x15)) then some (.pan (.iface t14 x15)) else none)))) else some (.ret (.bool false))))) (fun p11 => (tkIfc p11 none fun t12 x13 => (bif (flatP (.iface t12 x13)) then some (.pan (.iface t12 x13)) else none))))))) (fun p9 => (tkIfc p9 none fun t10 x11 => (bif (flatP (.iface t10 x11)) then some (.pan (.iface t10 x11)) else none))))))) (fun p7 => (tkIfc p7 none fun t8 x9 => (bif (flatP (.iface t8 x9)) then some (.pan (.iface t8 x9)) else none))))))) (fun p5 => (tkIfc p5 none fun t6 x7 => (bif (flatP (.iface t6 x7)) then some (.pan (.iface t6 x7)) else none))))))) (fun p3 => (tkIfc p3 none fun t4 x5 => (bif (flatP (.iface t4 x5)) then some (.pan (.iface t4 x5)) else none)))) := by kernel_rfl
theorem t7008 (env : Env) (F : Nat) (s : Gs.Gst) : (evFun Try.prog (cfg F) env 8 [(.agg (eGst s))]) = (tkOut (env.pf 24 [(.agg [(i64 (Go.Sim.Gs.Sp.lo (Go.Sim.Gs.Gst.gas s))), (i64 (Go.Sim.Gs.Sp.hi (Go.Sim.Gs.Gst.gas s)))]), (i64 (0 : Int)), (i64 (1000000 : Int))]) none (fun v3 => (tkBool v3 none fun b4 => (bif b4 then (tkOut (env.pf 24 [(.agg [(i64 (Go.Sim.Gs.Sp.lo (Go.Sim.Gs.Gst.hyd s))), (i64 (Go.Sim.Gs.Sp.hi (Go.Sim.Gs.Gst.hyd s)))]), (i64 (0 : Int)), (i64 (1000000 : Int))]) none (fun v5 => (tkBool v5 none fun b6 => (bif b6 then (tkOut (env.pf 24 [(.agg [(i64 (Go.Sim.Gs.Sp.lo (Go.Sim.Gs.Gst.heat s))), (i64 (Go.Sim.Gs.Sp.hi (Go.Sim.Gs.Gst.heat s)))]), (i64 (2000 : Int)), (i64 (5000 : Int))]) none (fun v7 => (tkBool v7 none fun b8 => (bif b8 then (tkOut (env.pf 24 [(.agg [(i64 (Go.Sim.Gs.Sp.lo (Go.Sim.Gs.Gst.water s))), (i64 (Go.Sim.Gs.Sp.hi (Go.Sim.Gs.Gst.water s)))]), (i64 (0 : Int)), (i64 (1000000000 : Int))]) none (fun v9 => (tkBool v9 none fun b10 => some (.ret (.bool b10)))) (fun p9 => (tkIfc p9 none fun t10 x11 => (bif (flatP (.iface t10 x11)) then some (.pan (.iface t10 x11)) else none)))) else some (.ret (.bool false))))) (fun p7 => (tkIfc p7 none fun t8 x9 => (bif (flatP (.iface t8 x9)) then some (.pan (.iface t8 x9)) else none)))) else some (.ret (.bool false))))) (fun p5 => (tkIfc p5 none fun t6 x7 => (bif (flatP (.iface t6 x7)) then some (.pan (.iface t6 x7)) else none)))) else some (.ret (.bool false))))) (fun p3 => (tkIfc p3 none fun t4 x5 => (bif (flatP (.iface t4 x5)) then some (.pan (.iface t4 x5)) else none)))) := by kernel_rfl
theorem t7009 (env : Env) (F : Nat) (s : Gs.Gst) (p : Gs.Gpt) : (evFun Try.prog (cfg F) env 9 [(.agg (eGst s)), (.agg (eGpt p))]) = (tkOut (env.pf 23 [(i64 (Go.Sim.Gs.Gpt.gas p)), (i64 (Go.Sim.Gs.Sp.lo (Go.Sim.Gs.Gst.gas s))), (i64 (Go.Sim.Gs.Sp.hi (Go.Sim.Gs.Gst.gas s)))]) none (fun v4 => (tkBool v4 none fun b5 => (bif b5 then (tkOut (env.pf 23 [(i64 (Go.Sim.Gs.Gpt.hyd p)), (i64 (Go.Sim.Gs.Sp.lo (Go.Sim.Gs.Gst.hyd s))), (i64 (Go.Sim.Gs.Sp.hi (Go.Sim.Gs.Gst.hyd s)))]) none (fun v6 => (tkBool v6 none fun b7 => (bif b7 then (tkOut (env.pf 23 [(i64 (Go.Sim.Gs.Gpt.heat p)), (i64 (Go.Sim.Gs.Sp.lo (Go.Sim.Gs.Gst.heat s))), (i64 (Go.Sim.Gs.Sp.hi (Go.Sim.Gs.Gst.heat s)))]) none (fun v8 => (tkBool v8 none fun b9 => (bif b9 then (tkOut (env.pf 23 [(i64 (Go.Sim.Gs.Gpt.water p)), (i64 (Go.Sim.Gs.Sp.lo (Go.Sim.Gs.Gst.water s))), (i64 (Go.Sim.Gs.Sp.hi (Go.Sim.Gs.Gst.water s)))]) none (fun v10 => (tkBool v10 none fun b11 => some (.ret (.bool b11)))) (fun p10 => (tkIfc p10 none fun t11 x12 => (bif (flatP (.iface t11 x12)) then some (.pan (.iface t11 x12)) else none)))) else some (.ret (.bool false))))) (fun p8 => (tkIfc p8 none fun t9 x10 => (bif (flatP (.iface t9 x10)) then some (.pan (.iface t9 x10)) else none)))) else some (.ret (.bool false))))) (fun p6 => (tkIfc p6 none fun t7 x8 => (bif (flatP (.iface t7 x8)) then some (.pan (.iface t7 x8)) else none)))) else some (.ret (.bool false))))) (fun p4 => (tkIfc p4 none fun t5 x6 => (bif (flatP (.iface t5 x6)) then some (.pan (.iface t5 x6)) else none)))) := by kernel_rfl
theorem t7010 (env : Env) (F : Nat) (g : Gs.Gas) (s : Gs.Gst) : (evFun Try.prog (cfg F) env 10 [(.agg (eGas g)), (.agg (eGst s))]) = (tkOut (env.pf 25 [(.agg [(i64 (Go.Sim.Gs.Sp.lo (Go.Sim.Gs.Gas.vol g))), (i64 (Go.Sim.Gs.Sp.hi (Go.Sim.Gs.Gas.vol g))), (i64 (Go.Sim.Gs.Gas.least g)), (i64 (Go.Sim.Gs.Gas.most g)), (i64 (Go.Sim.Gs.Gas.f0 g)), (i64 (Go.Sim.Gs.Gas.f1 g)), (i64 (Go.Sim.Gs.Gas.h0 g)), (i64 (Go.Sim.Gs.Gas.h1 g)), (i64 (Go.Sim.Gs.Gas.rock g)), (i64 (Go.Sim.Gs.Sp.lo (Go.Sim.Gs.Gas.pur g))), (i64 (Go.Sim.Gs.Sp.hi (Go.Sim.Gs.Gas.pur g)))])]) none (fun v4 => (tkBool v4 none fun b5 => (bif (!b5) then some (.ret (.tup [(i64 (0 : Int)), (i64 (2 : Int))])) else (tkOut (env.pf 26 [(.agg [(i64 (Go.Sim.Gs.Sp.lo (Go.Sim.Gs.Gst.gas s))), (i64 (Go.Sim.Gs.Sp.hi (Go.Sim.Gs.Gst.gas s))), (i64 (Go.Sim.Gs.Sp.lo (Go.Sim.Gs.Gst.hyd s))), (i64 (Go.Sim.Gs.Sp.hi (Go.Sim.Gs.Gst.hyd s))), (i64 (Go.Sim.Gs.Sp.lo (Go.Sim.Gs.Gst.heat s))), (i64 (Go.Sim.Gs.Sp.hi (Go.Sim.Gs.Gst.heat s))), (i64 (Go.Sim.Gs.Sp.lo (Go.Sim.Gs.Gst.water s))), (i64 (Go.Sim.Gs.Sp.hi (Go.Sim.Gs.Gst.water s)))])]) none (fun v6 => (tkBool v6 none fun b7 => (bif (!b7) then some (.ret (.tup [(i64 (0 : Int)), (i64 (2 : Int))])) else (tkOut (env.pf 27 [(.agg [(i64 (Go.Sim.Gs.Sp.lo (Go.Sim.Gs.Gas.vol g))), (i64 (Go.Sim.Gs.Sp.hi (Go.Sim.Gs.Gas.vol g))), (i64 (Go.Sim.Gs.Gas.least g)), (i64 (Go.Sim.Gs.Gas.most g)), (i64 (Go.Sim.Gs.Gas.f0 g)), (i64 (Go.Sim.Gs.Gas.f1 g)), (i64 (Go.Sim.Gs.Gas.h0 g)), (i64 (Go.Sim.Gs.Gas.h1 g)), (i64 (Go.Sim.Gs.Gas.rock g)), (i64 (Go.Sim.Gs.Sp.lo (Go.Sim.Gs.Gas.pur g))), (i64 (Go.Sim.Gs.Sp.hi (Go.Sim.Gs.Gas.pur g)))]), (.agg [(i64 (Go.Sim.Gs.Sp.lo (Go.Sim.Gs.Gst.gas s))), (i64 (Go.Sim.Gs.Sp.hi (Go.Sim.Gs.Gst.gas s))), (i64 (Go.Sim.Gs.Sp.lo (Go.Sim.Gs.Gst.hyd s))), (i64 (Go.Sim.Gs.Sp.hi (Go.Sim.Gs.Gst.hyd s))), (i64 (Go.Sim.Gs.Sp.lo (Go.Sim.Gs.Gst.heat s))), (i64 (Go.Sim.Gs.Sp.hi (Go.Sim.Gs.Gst.heat s))), (i64 (Go.Sim.Gs.Sp.lo (Go.Sim.Gs.Gst.water s))), (i64 (Go.Sim.Gs.Sp.hi (Go.Sim.Gs.Gst.water s)))])]) none (fun v8 => (tkInt v8 none fun q9 n10 => some (.ret (.tup [(.int q9 n10), (i64 (0 : Int))])))) (fun p8 => (tkIfc p8 none fun t9 x10 => (bif (flatP (.iface t9 x10)) then some (.pan (.iface t9 x10)) else none))))))) (fun p6 => (tkIfc p6 none fun t7 x8 => (bif (flatP (.iface t7 x8)) then some (.pan (.iface t7 x8)) else none))))))) (fun p4 => (tkIfc p4 none fun t5 x6 => (bif (flatP (.iface t5 x6)) then some (.pan (.iface t5 x6)) else none)))) := by kernel_rfl
noncomputable def L7011x0 (env : Env) (F : Nat) (c : Cav) (l : Sl Stg) (t : Truth) (fu : Nat) (q0 : IntKind) (i1 : Int) (i2 : Int) (b3 : Bool) (k4 : Nat) (k5 : Nat) (g6 : Nat → List V) (q7 : IntKind) (i8 : Int) (q9 : IntKind) (i10 : Int) (q11 : IntKind) (i12 : Int) (q13 : IntKind) (i14 : Int) : Option Out := atLoop Try.prog (cfg F) env 11 [.r, .r, .r, .r, .l, .r, .d] [] fu { tm := tmL 66 0 [(7, (.optr 0 0 0)), (9, (.int q0 i1)), (10, (i64 i2))], hp := [(.box 83 [(.row b3 k4 k5 g6), (.int q7 i8), (.int q9 i10), (.int q11 i12), (.int q13 i14)] true)] }
theorem t7011 (env : Env) (F : Nat) (c : Cav) (l : Sl Stg) (t : Truth) : (evFun Try.prog (cfg F) env 11 [(.agg (eCav c)), (sl eStg 4 l), (.agg (eTruth t))]) = (tkOut (env.pf 28 [(.agg (eCav c)), (sl eStg 4 l), (.agg (eTruth t))]) none (fun v5 => (tkTup v5 none fun l6 => (tkCons l6 none fun v7 r8 => (tkAgg v7 none fun l9 => (tkCons l9 none fun v10 r11 => (tkRow v10 none fun nl12 n13 wd14 g15 => (tkCons r11 none fun v16 r17 => (tkInt v16 none fun q18 n19 => (tkCons r17 none fun v20 r21 => (tkInt v20 none fun q22 n23 => (tkCons r21 none fun v24 r25 => (tkInt v24 none fun q26 n27 => (tkCons r25 none fun v28 r29 => (tkInt v28 none fun q30 n31 => (tkNil r29 none ((tkCons r8 none fun v32 r33 => (tkInt v32 none fun q34 n35 => (tkNil r33 none ((bif (decide (q34 = .i64)) then (bif (n35 != (0 : Int)) then some (.ret (i64 (-(1 : Int)))) else (bif (decide (q18 = .i64)) then (bif (decide (n19 < (0 : Int))) then some (.ret (i64 (-(1 : Int)))) else (bif (decide (q18 = .i64)) then (bif (decide (n19 > (100000000000000 : Int))) then some (.ret (i64 (-(1 : Int)))) else (L7011x0 env F c l t F q18 (IntKind.wrap q18 ((0 : Int) - n19)) (0 : Int) nl12 n13 wd14 g15 q18 n19 q22 n23 q26 n27 q30 n31)) else none)) else none)) else none))))))))))))))))))))) (fun p5 => (tkIfc p5 none fun t6 x7 => (bif (flatP (.iface t6 x7)) then some (.pan (.iface t6 x7)) else none)))) := by kernel_rfl
theorem L7011x0s (env : Env) (F : Nat) (c : Cav) (l : Sl Stg) (t : Truth) (fu : Nat) (q0 : IntKind) (i1 : Int) (i2 : Int) (b3 : Bool) (k4 : Nat) (k5 : Nat) (g6 : Nat → List V) (q7 : IntKind) (i8 : Int) (q9 : IntKind) (i10 : Int) (q11 : IntKind) (i12 : Int) (q13 : IntKind) (i14 : Int) : L7011x0 env F c l t (fu + 1) q0 i1 i2 b3 k4 k5 g6 q7 i8 q9 i10 q11 i12 q13 i14 = (bif (decide (i2 < ((k4 : Nat) : Int))) then (bif (k5 == 1) then (bif (decide ((0 : Int) ≤ i2)) then (bif (decide (i2 < ((k4 : Nat) : Int))) then (tkCons (g6 (Int.toNat i2)) none fun v21 r22 => (tkInt v21 none fun q23 n24 => (bif (decide (q23 = .i64)) then (bif (decide (n24 < (0 : Int))) then some (.ret (i64 (-(1 : Int)))) else (bif (k5 == 1) then (bif (decide ((0 : Int) ≤ i2)) then (bif (decide (i2 < ((k4 : Nat) : Int))) then (tkCons (g6 (Int.toNat i2)) none fun v25 r26 => (tkInt v25 none fun q27 n28 => (bif (decide (q27 = .i64)) then (bif (decide (n28 > (100000000000000 : Int))) then some (.ret (i64 (-(1 : Int)))) else (bif (decide (i2 > (20 : Int))) then some (.ret (i64 (-(1 : Int)))) else (bif (k5 == 1) then (bif (decide ((0 : Int) ≤ i2)) then (bif (decide (i2 < ((k4 : Nat) : Int))) then (tkCons (g6 (Int.toNat i2)) none fun v29 r30 => (tkInt v29 none fun q31 n32 => (bif (decide (q0 = q31)) then (L7011x0 env F c l t fu q0 (IntKind.wrap q0 (i1 + n32)) (IntKind.wrap .i64 (i2 + (1 : Int))) b3 k4 k5 g6 q7 i8 q9 i10 q11 i12 q13 i14) else none))) else none) else none) else none))) else none))) else none) else none) else none)) else none))) else none) else none) else none) else some (.ret (.int q0 i1))) := by kernel_rfl
theorem t7012 (env : Env) (F : Nat) (g : Gs.Gas) (p : Gs.Gpt) (n : Int) : (evFun Try.prog (cfg F) env 12 [(.agg (eGas g)), (.agg (eGpt p)), (i64 n)]) = (tkOut (env.pf 29 [(.agg [(i64 (Go.Sim.Gs.Sp.lo (Go.Sim.Gs.Gas.vol g))), (i64 (Go.Sim.Gs.Sp.hi (Go.Sim.Gs.Gas.vol g))), (i64 (Go.Sim.Gs.Gas.least g)), (i64 (Go.Sim.Gs.Gas.most g)), (i64 (Go.Sim.Gs.Gas.f0 g)), (i64 (Go.Sim.Gs.Gas.f1 g)), (i64 (Go.Sim.Gs.Gas.h0 g)), (i64 (Go.Sim.Gs.Gas.h1 g)), (i64 (Go.Sim.Gs.Gas.rock g)), (i64 (Go.Sim.Gs.Sp.lo (Go.Sim.Gs.Gas.pur g))), (i64 (Go.Sim.Gs.Sp.hi (Go.Sim.Gs.Gas.pur g)))]), (.agg [(i64 (Go.Sim.Gs.Gpt.gas p)), (i64 (Go.Sim.Gs.Gpt.hyd p)), (i64 (Go.Sim.Gs.Gpt.heat p)), (i64 (Go.Sim.Gs.Gpt.water p))])]) none (fun v5 => (tkInt v5 none fun q6 n7 => (bif (decide (q6 = .i64)) then (bif (decide (n7 < (IntKind.wrap .i64 ((IntKind.wrap .i64 ((Go.Sim.Gs.Gas.least g) * n)) * (10000000 : Int))))) then some (.ret (i64 (2 : Int))) else (tkOut (env.pf 29 [(.agg [(i64 (Go.Sim.Gs.Sp.lo (Go.Sim.Gs.Gas.vol g))), (i64 (Go.Sim.Gs.Sp.hi (Go.Sim.Gs.Gas.vol g))), (i64 (Go.Sim.Gs.Gas.least g)), (i64 (Go.Sim.Gs.Gas.most g)), (i64 (Go.Sim.Gs.Gas.f0 g)), (i64 (Go.Sim.Gs.Gas.f1 g)), (i64 (Go.Sim.Gs.Gas.h0 g)), (i64 (Go.Sim.Gs.Gas.h1 g)), (i64 (Go.Sim.Gs.Gas.rock g)), (i64 (Go.Sim.Gs.Sp.lo (Go.Sim.Gs.Gas.pur g))), (i64 (Go.Sim.Gs.Sp.hi (Go.Sim.Gs.Gas.pur g)))]), (.agg [(i64 (Go.Sim.Gs.Gpt.gas p)), (i64 (Go.Sim.Gs.Gpt.hyd p)), (i64 (Go.Sim.Gs.Gpt.heat p)), (i64 (Go.Sim.Gs.Gpt.water p))])]) none (fun v8 => (tkInt v8 none fun q9 n10 => (bif (decide (q9 = .i64)) then (bif (decide (n10 > (IntKind.wrap .i64 ((IntKind.wrap .i64 ((Go.Sim.Gs.Gas.most g) * n)) * (10000000 : Int))))) then some (.ret (i64 (3 : Int))) else (bif (decide ((IntKind.wrap .i64 ((1000 : Int) * (Go.Sim.Gs.Gpt.hyd p))) < (IntKind.wrap .i64 ((Go.Sim.Gs.Sp.lo (Go.Sim.Gs.Gas.pur g)) * (IntKind.wrap .i64 ((Go.Sim.Gs.Gpt.gas p) + (Go.Sim.Gs.Gpt.hyd p))))))) then some (.ret (i64 (4 : Int))) else (bif (decide ((IntKind.wrap .i64 ((1000 : Int) * (Go.Sim.Gs.Gpt.hyd p))) > (IntKind.wrap .i64 ((Go.Sim.Gs.Sp.hi (Go.Sim.Gs.Gas.pur g)) * (IntKind.wrap .i64 ((Go.Sim.Gs.Gpt.gas p) + (Go.Sim.Gs.Gpt.hyd p))))))) then some (.ret (i64 (5 : Int))) else some (.ret (i64 (1 : Int)))))) else none))) (fun p8 => (tkIfc p8 none fun t9 x10 => (bif (flatP (.iface t9 x10)) then none else none))))) else none))) (fun p5 => (tkIfc p5 none fun t6 x7 => (bif (flatP (.iface t6 x7)) then none else none)))) := by kernel_rfl
theorem t7023 (env : Env) (F : Nat) (x : Int) (y : Int) (z : Int) : (evFun Try.prog (cfg F) env 23 [(i64 x), (i64 y), (i64 z)]) = (bif (decide (x ≥ y)) then some (.ret (.bool (decide (x ≤ z)))) else some (.ret (.bool false))) := by kernel_rfl
theorem t7024 (env : Env) (F : Nat) (a : Int) (b : Int) (x : Int) (y : Int) : (evFun Try.prog (cfg F) env 24 [(.agg [(i64 a), (i64 b)]), (i64 x), (i64 y)]) = (bif (decide (a ≥ x)) then (bif (decide (a ≤ b)) then some (.ret (.bool (decide (b ≤ y)))) else some (.ret (.bool false))) else some (.ret (.bool false))) := by kernel_rfl
theorem t7025 (env : Env) (F : Nat) (g : Gs.Gas) : (evFun Try.prog (cfg (F + 3)) env 25 [(.agg (eGas g))]) = (tkOut (env.pf 43 [(i64 (Go.Sim.Gs.Gas.f0 g)), (i64 (500 : Int)), (i64 (2000 : Int))]) none (fun v3 => (tkBool v3 none fun b4 => (bif (!b4) then some (.ret (.bool false)) else (tkOut (env.pf 43 [(i64 (Go.Sim.Gs.Gas.h0 g)), (i64 (1 : Int)), (i64 (100 : Int))]) none (fun v5 => (tkBool v5 none fun b6 => (bif (!b6) then some (.ret (.bool false)) else (tkOut (env.pf 43 [(i64 (Go.Sim.Gs.Gas.f1 g)), (i64 (500 : Int)), (i64 (2000 : Int))]) none (fun v7 => (tkBool v7 none fun b8 => (bif (!b8) then some (.ret (.bool false)) else (tkOut (env.pf 43 [(i64 (Go.Sim.Gs.Gas.h1 g)), (i64 (1 : Int)), (i64 (100 : Int))]) none (fun v9 => (tkBool v9 none fun b10 => (bif (!b10) then some (.ret (.bool false)) else (tkOut (env.pf 44 [(.agg [(i64 (Go.Sim.Gs.Sp.lo (Go.Sim.Gs.Gas.vol g))), (i64 (Go.Sim.Gs.Sp.hi (Go.Sim.Gs.Gas.vol g)))]), (i64 (1 : Int)), (i64 (1000000 : Int))]) none (fun v11 => (tkBool v11 none fun b12 => (bif b12 then (tkOut (env.pf 44 [(.agg [(i64 (Go.Sim.Gs.Gas.least g)), (i64 (Go.Sim.Gs.Gas.most g))]), (i64 (0 : Int)), (i64 (100000 : Int))]) none (fun v13 => (tkBool v13 none fun b14 => (bif b14 then (tkOut (env.pf 43 [(i64 (Go.Sim.Gs.Gas.rock g)), (i64 (2000 : Int)), (i64 (5000 : Int))]) none (fun v15 => (tkBool v15 none fun b16 => (bif b16 then (tkOut (env.pf 44 [(.agg [(i64 (Go.Sim.Gs.Sp.lo (Go.Sim.Gs.Gas.pur g))), (i64 (Go.Sim.Gs.Sp.hi (Go.Sim.Gs.Gas.pur g)))]), (i64 (0 : Int)), (i64 (1000 : Int))]) none (fun v17 => (tkBool v17 none fun b18 => some (.ret (.bool b18)))) (fun p17 => (tkIfc p17 none fun t18 x19 => (bif (flatP (.iface t18 x19)) then some (.pan (.iface t18 x19)) else none)))) else some (.ret (.bool false))))) (fun p15 => (tkIfc p15 none fun t16 x17 => (bif (flatP (.iface t16 x17)) then some (.pan (.iface t16 x17)) else none)))) else some (.ret (.bool false))))) (fun p13 => (tkIfc p13 none fun t14 x15 => (bif (flatP (.iface t14 x15)) then some (.pan (.iface t14 x15)) else none)))) else some (.ret (.bool false))))) (fun p11 => (tkIfc p11 none fun t12 x13 => (bif (flatP (.iface t12 x13)) then some (.pan (.iface t12 x13)) else none))))))) (fun p9 => (tkIfc p9 none fun t10 x11 => (bif (flatP (.iface t10 x11)) then some (.pan (.iface t10 x11)) else none))))))) (fun p7 => (tkIfc p7 none fun t8 x9 => (bif (flatP (.iface t8 x9)) then some (.pan (.iface t8 x9)) else none))))))) (fun p5 => (tkIfc p5 none fun t6 x7 => (bif (flatP (.iface t6 x7)) then some (.pan (.iface t6 x7)) else none))))))) (fun p3 => (tkIfc p3 none fun t4 x5 => (bif (flatP (.iface t4 x5)) then some (.pan (.iface t4 x5)) else none)))) := by kernel_rfl
theorem t7026 (env : Env) (F : Nat) (s : Gs.Gst) : (evFun Try.prog (cfg F) env 26 [(.agg (eGst s))]) = (tkOut (env.pf 44 [(.agg [(i64 (Go.Sim.Gs.Sp.lo (Go.Sim.Gs.Gst.gas s))), (i64 (Go.Sim.Gs.Sp.hi (Go.Sim.Gs.Gst.gas s)))]), (i64 (0 : Int)), (i64 (1000000 : Int))]) none (fun v3 => (tkBool v3 none fun b4 => (bif b4 then (tkOut (env.pf 44 [(.agg [(i64 (Go.Sim.Gs.Sp.lo (Go.Sim.Gs.Gst.hyd s))), (i64 (Go.Sim.Gs.Sp.hi (Go.Sim.Gs.Gst.hyd s)))]), (i64 (0 : Int)), (i64 (1000000 : Int))]) none (fun v5 => (tkBool v5 none fun b6 => (bif b6 then (tkOut (env.pf 44 [(.agg [(i64 (Go.Sim.Gs.Sp.lo (Go.Sim.Gs.Gst.heat s))), (i64 (Go.Sim.Gs.Sp.hi (Go.Sim.Gs.Gst.heat s)))]), (i64 (2000 : Int)), (i64 (5000 : Int))]) none (fun v7 => (tkBool v7 none fun b8 => (bif b8 then (tkOut (env.pf 44 [(.agg [(i64 (Go.Sim.Gs.Sp.lo (Go.Sim.Gs.Gst.water s))), (i64 (Go.Sim.Gs.Sp.hi (Go.Sim.Gs.Gst.water s)))]), (i64 (0 : Int)), (i64 (1000000000 : Int))]) none (fun v9 => (tkBool v9 none fun b10 => some (.ret (.bool b10)))) (fun p9 => (tkIfc p9 none fun t10 x11 => (bif (flatP (.iface t10 x11)) then some (.pan (.iface t10 x11)) else none)))) else some (.ret (.bool false))))) (fun p7 => (tkIfc p7 none fun t8 x9 => (bif (flatP (.iface t8 x9)) then some (.pan (.iface t8 x9)) else none)))) else some (.ret (.bool false))))) (fun p5 => (tkIfc p5 none fun t6 x7 => (bif (flatP (.iface t6 x7)) then some (.pan (.iface t6 x7)) else none)))) else some (.ret (.bool false))))) (fun p3 => (tkIfc p3 none fun t4 x5 => (bif (flatP (.iface t4 x5)) then some (.pan (.iface t4 x5)) else none)))) := by kernel_rfl
theorem t7027 (env : Env) (F : Nat) (g : Gs.Gas) (s : Gs.Gst) : (evFun Try.prog (cfg (F + 5)) env 27 [(.agg (eGas g)), (.agg (eGst s))]) = (tkOut (env.pf 45 [(.rptr 1 11 (fun u4 => [(i64 (Go.Sim.Gs.Sp.lo (Go.Sim.Gs.Gas.vol g))), (i64 (Go.Sim.Gs.Sp.hi (Go.Sim.Gs.Gas.vol g))), (i64 (Go.Sim.Gs.Gas.least g)), (i64 (Go.Sim.Gs.Gas.most g)), (i64 (Go.Sim.Gs.Gas.f0 g)), (i64 (Go.Sim.Gs.Gas.f1 g)), (i64 (Go.Sim.Gs.Gas.h0 g)), (i64 (Go.Sim.Gs.Gas.h1 g)), (i64 (Go.Sim.Gs.Gas.rock g)), (i64 (Go.Sim.Gs.Sp.lo (Go.Sim.Gs.Gas.pur g))), (i64 (Go.Sim.Gs.Sp.hi (Go.Sim.Gs.Gas.pur g)))]) 0 0), (.rptr 1 8 (fun u4 => [(i64 (Go.Sim.Gs.Sp.lo (Go.Sim.Gs.Gst.gas s))), (i64 (Go.Sim.Gs.Sp.hi (Go.Sim.Gs.Gst.gas s))), (i64 (Go.Sim.Gs.Sp.lo (Go.Sim.Gs.Gst.hyd s))), (i64 (Go.Sim.Gs.Sp.hi (Go.Sim.Gs.Gst.hyd s))), (i64 (Go.Sim.Gs.Sp.lo (Go.Sim.Gs.Gst.heat s))), (i64 (Go.Sim.Gs.Sp.hi (Go.Sim.Gs.Gst.heat s))), (i64 (Go.Sim.Gs.Sp.lo (Go.Sim.Gs.Gst.water s))), (i64 (Go.Sim.Gs.Sp.hi (Go.Sim.Gs.Gst.water s)))]) 0 0)]) none (fun v4 => (tkBool v4 none fun b5 => (bif b5 then some (.ret (i64 (IntKind.wrap .i64 ((2 : Int) + (0 : Int))))) else (tkOut (env.pf 49 [(.rptr 1 11 (fun u6 => [(i64 (Go.Sim.Gs.Sp.lo (Go.Sim.Gs.Gas.vol g))), (i64 (Go.Sim.Gs.Sp.hi (Go.Sim.Gs.Gas.vol g))), (i64 (Go.Sim.Gs.Gas.least g)), (i64 (Go.Sim.Gs.Gas.most g)), (i64 (Go.Sim.Gs.Gas.f0 g)), (i64 (Go.Sim.Gs.Gas.f1 g)), (i64 (Go.Sim.Gs.Gas.h0 g)), (i64 (Go.Sim.Gs.Gas.h1 g)), (i64 (Go.Sim.Gs.Gas.rock g)), (i64 (Go.Sim.Gs.Sp.lo (Go.Sim.Gs.Gas.pur g))), (i64 (Go.Sim.Gs.Sp.hi (Go.Sim.Gs.Gas.pur g)))]) 0 0), (.rptr 1 8 (fun u6 => [(i64 (Go.Sim.Gs.Sp.lo (Go.Sim.Gs.Gst.gas s))), (i64 (Go.Sim.Gs.Sp.hi (Go.Sim.Gs.Gst.gas s))), (i64 (Go.Sim.Gs.Sp.lo (Go.Sim.Gs.Gst.hyd s))), (i64 (Go.Sim.Gs.Sp.hi (Go.Sim.Gs.Gst.hyd s))), (i64 (Go.Sim.Gs.Sp.lo (Go.Sim.Gs.Gst.heat s))), (i64 (Go.Sim.Gs.Sp.hi (Go.Sim.Gs.Gst.heat s))), (i64 (Go.Sim.Gs.Sp.lo (Go.Sim.Gs.Gst.water s))), (i64 (Go.Sim.Gs.Sp.hi (Go.Sim.Gs.Gst.water s)))]) 0 0)]) none (fun v6 => (tkBool v6 none fun b7 => (bif b7 then some (.ret (i64 (IntKind.wrap .i64 ((2 : Int) + (IntKind.wrap .i64 ((0 : Int) + (1 : Int))))))) else (tkOut (env.pf 51 [(.rptr 1 11 (fun u8 => [(i64 (Go.Sim.Gs.Sp.lo (Go.Sim.Gs.Gas.vol g))), (i64 (Go.Sim.Gs.Sp.hi (Go.Sim.Gs.Gas.vol g))), (i64 (Go.Sim.Gs.Gas.least g)), (i64 (Go.Sim.Gs.Gas.most g)), (i64 (Go.Sim.Gs.Gas.f0 g)), (i64 (Go.Sim.Gs.Gas.f1 g)), (i64 (Go.Sim.Gs.Gas.h0 g)), (i64 (Go.Sim.Gs.Gas.h1 g)), (i64 (Go.Sim.Gs.Gas.rock g)), (i64 (Go.Sim.Gs.Sp.lo (Go.Sim.Gs.Gas.pur g))), (i64 (Go.Sim.Gs.Sp.hi (Go.Sim.Gs.Gas.pur g)))]) 0 0), (.rptr 1 8 (fun u8 => [(i64 (Go.Sim.Gs.Sp.lo (Go.Sim.Gs.Gst.gas s))), (i64 (Go.Sim.Gs.Sp.hi (Go.Sim.Gs.Gst.gas s))), (i64 (Go.Sim.Gs.Sp.lo (Go.Sim.Gs.Gst.hyd s))), (i64 (Go.Sim.Gs.Sp.hi (Go.Sim.Gs.Gst.hyd s))), (i64 (Go.Sim.Gs.Sp.lo (Go.Sim.Gs.Gst.heat s))), (i64 (Go.Sim.Gs.Sp.hi (Go.Sim.Gs.Gst.heat s))), (i64 (Go.Sim.Gs.Sp.lo (Go.Sim.Gs.Gst.water s))), (i64 (Go.Sim.Gs.Sp.hi (Go.Sim.Gs.Gst.water s)))]) 0 0)]) none (fun v8 => (tkBool v8 none fun b9 => (bif b9 then some (.ret (i64 (IntKind.wrap .i64 ((2 : Int) + (IntKind.wrap .i64 ((IntKind.wrap .i64 ((0 : Int) + (1 : Int))) + (1 : Int))))))) else (tkOut (env.pf 53 [(.rptr 1 11 (fun u10 => [(i64 (Go.Sim.Gs.Sp.lo (Go.Sim.Gs.Gas.vol g))), (i64 (Go.Sim.Gs.Sp.hi (Go.Sim.Gs.Gas.vol g))), (i64 (Go.Sim.Gs.Gas.least g)), (i64 (Go.Sim.Gs.Gas.most g)), (i64 (Go.Sim.Gs.Gas.f0 g)), (i64 (Go.Sim.Gs.Gas.f1 g)), (i64 (Go.Sim.Gs.Gas.h0 g)), (i64 (Go.Sim.Gs.Gas.h1 g)), (i64 (Go.Sim.Gs.Gas.rock g)), (i64 (Go.Sim.Gs.Sp.lo (Go.Sim.Gs.Gas.pur g))), (i64 (Go.Sim.Gs.Sp.hi (Go.Sim.Gs.Gas.pur g)))]) 0 0), (.rptr 1 8 (fun u10 => [(i64 (Go.Sim.Gs.Sp.lo (Go.Sim.Gs.Gst.gas s))), (i64 (Go.Sim.Gs.Sp.hi (Go.Sim.Gs.Gst.gas s))), (i64 (Go.Sim.Gs.Sp.lo (Go.Sim.Gs.Gst.hyd s))), (i64 (Go.Sim.Gs.Sp.hi (Go.Sim.Gs.Gst.hyd s))), (i64 (Go.Sim.Gs.Sp.lo (Go.Sim.Gs.Gst.heat s))), (i64 (Go.Sim.Gs.Sp.hi (Go.Sim.Gs.Gst.heat s))), (i64 (Go.Sim.Gs.Sp.lo (Go.Sim.Gs.Gst.water s))), (i64 (Go.Sim.Gs.Sp.hi (Go.Sim.Gs.Gst.water s)))]) 0 0)]) none (fun v10 => (tkBool v10 none fun b11 => (bif b11 then some (.ret (i64 (IntKind.wrap .i64 ((2 : Int) + (IntKind.wrap .i64 ((IntKind.wrap .i64 ((IntKind.wrap .i64 ((0 : Int) + (1 : Int))) + (1 : Int))) + (1 : Int))))))) else some (.ret (i64 (1 : Int)))))) (fun p10 => (tkIfc p10 none fun t11 x12 => (bif (flatP (.iface t11 x12)) then some (.pan (.iface t11 x12)) else none))))))) (fun p8 => (tkIfc p8 none fun t9 x10 => (bif (flatP (.iface t9 x10)) then some (.pan (.iface t9 x10)) else none))))))) (fun p6 => (tkIfc p6 none fun t7 x8 => (bif (flatP (.iface t7 x8)) then some (.pan (.iface t7 x8)) else none))))))) (fun p4 => (tkIfc p4 none fun t5 x6 => (bif (flatP (.iface t5 x6)) then some (.pan (.iface t5 x6)) else none)))) := by kernel_rfl
theorem t7029 (env : Env) (F : Nat) (g : Gs.Gas) (p : Gs.Gpt) : (evFun Try.prog (cfg F) env 29 [(.agg (eGas g)), (.agg (eGpt p))]) = some (.ret (i64 (IntKind.wrap .i64 ((IntKind.wrap .i64 ((IntKind.wrap .i64 ((IntKind.wrap .i64 ((Go.Sim.Gs.Gpt.gas p) * (Go.Sim.Gs.Gas.f0 g))) + (IntKind.wrap .i64 ((Go.Sim.Gs.Gpt.hyd p) * (Go.Sim.Gs.Gas.f1 g))))) * (Go.Sim.Gs.Gpt.heat p))) * (8314 : Int))))) := by kernel_rfl
theorem t7043 (env : Env) (F : Nat) (x : Int) (y : Int) (z : Int) : (evFun Try.prog (cfg F) env 43 [(i64 x), (i64 y), (i64 z)]) = (bif (decide (x ≥ y)) then some (.ret (.bool (decide (x ≤ z)))) else some (.ret (.bool false))) := by kernel_rfl
theorem t7044 (env : Env) (F : Nat) (a : Int) (b : Int) (x : Int) (y : Int) : (evFun Try.prog (cfg F) env 44 [(.agg [(i64 a), (i64 b)]), (i64 x), (i64 y)]) = (bif (decide (a ≥ x)) then (bif (decide (a ≤ b)) then some (.ret (.bool (decide (b ≤ y)))) else some (.ret (.bool false))) else some (.ret (.bool false))) := by kernel_rfl
theorem t7045 (env : Env) (F : Nat) (g : Gs.Gas) (s : Gs.Gst) : (evFun Try.prog (cfg F) env 45 [(.rptr 1 11 (fun u4 => (eGas g)) 0 0), (.rptr 1 8 (fun u4 => (eGst s)) 0 0)]) = (tkOut (env.pf 47 [(.agg [(i64 (Go.Sim.Gs.Sp.lo (Go.Sim.Gs.Gst.gas s))), (i64 (Go.Sim.Gs.Sp.hi (Go.Sim.Gs.Gst.gas s))), (i64 (Go.Sim.Gs.Sp.lo (Go.Sim.Gs.Gst.hyd s))), (i64 (Go.Sim.Gs.Sp.hi (Go.Sim.Gs.Gst.hyd s))), (i64 (Go.Sim.Gs.Sp.lo (Go.Sim.Gs.Gst.heat s))), (i64 (Go.Sim.Gs.Sp.hi (Go.Sim.Gs.Gst.heat s))), (i64 (Go.Sim.Gs.Sp.lo (Go.Sim.Gs.Gst.water s))), (i64 (Go.Sim.Gs.Sp.hi (Go.Sim.Gs.Gst.water s)))])]) none (fun v4 => (tkAgg v4 none fun l5 => (tkCons l5 none fun v6 r7 => (tkInt v6 none fun q8 n9 => (tkCons r7 none fun v10 r11 => (tkInt v10 none fun q12 n13 => (tkCons r11 none fun v14 r15 => (tkInt v14 none fun q16 n17 => (tkCons r15 none fun v18 r19 => (tkInt v18 none fun q20 n21 => (tkNil r19 none ((tkOut (env.pf 46 [(.agg [(i64 (Go.Sim.Gs.Sp.lo (Go.Sim.Gs.Gas.vol g))), (i64 (Go.Sim.Gs.Sp.hi (Go.Sim.Gs.Gas.vol g))), (i64 (Go.Sim.Gs.Gas.least g)), (i64 (Go.Sim.Gs.Gas.most g)), (i64 (Go.Sim.Gs.Gas.f0 g)), (i64 (Go.Sim.Gs.Gas.f1 g)), (i64 (Go.Sim.Gs.Gas.h0 g)), (i64 (Go.Sim.Gs.Gas.h1 g)), (i64 (Go.Sim.Gs.Gas.rock g)), (i64 (Go.Sim.Gs.Sp.lo (Go.Sim.Gs.Gas.pur g))), (i64 (Go.Sim.Gs.Sp.hi (Go.Sim.Gs.Gas.pur g)))]), (.agg [(.int q8 n9), (.int q12 n13), (.int q16 n17), (.int q20 n21)]), (i64 (Go.Sim.Gs.Sp.hi (Go.Sim.Gs.Gas.vol g)))]) none (fun v22 => (tkTup v22 none fun l23 => (tkCons l23 none fun v24 r25 => (tkInt v24 none fun q26 n27 => (tkCons r25 none fun v28 r29 => (tkInt v28 none fun q30 n31 => (tkNil r29 none ((tkOut (env.pf 48 [(.int q26 n27), (.int q30 n31), (i64 (Go.Sim.Gs.Gas.least g))]) none (fun v32 => (tkBool v32 none fun b33 => some (.ret (.bool b33)))) (fun p32 => (tkIfc p32 none fun t33 x34 => (bif (flatP (.iface t33 x34)) then some (.pan (.iface t33 x34)) else none)))))))))))) (fun p22 => (tkIfc p22 none fun t23 x24 => (bif (flatP (.iface t23 x24)) then some (.pan (.iface t23 x24)) else none)))))))))))))))) (fun p4 => (tkIfc p4 none fun t5 x6 => (bif (flatP (.iface t5 x6)) then none else none)))) := by kernel_rfl
theorem t7046 (env : Env) (F : Nat) (g : Gs.Gas) (p : Gs.Gpt) (n : Int) : (evFun Try.prog (cfg F) env 46 [(.agg (eGas g)), (.agg (eGpt p)), (i64 n)]) = some (.ret (.tup [(i64 (IntKind.wrap .i64 ((IntKind.wrap .i64 ((IntKind.wrap .i64 ((IntKind.wrap .i64 ((Go.Sim.Gs.Gpt.gas p) * (Go.Sim.Gs.Gas.f0 g))) + (IntKind.wrap .i64 ((Go.Sim.Gs.Gpt.hyd p) * (Go.Sim.Gs.Gas.f1 g))))) * (Go.Sim.Gs.Gpt.heat p))) * (8314 : Int)))), (i64 (IntKind.wrap .i64 (n * (10000000 : Int))))])) := by kernel_rfl
theorem t7047 (env : Env) (F : Nat) (s : Gs.Gst) : (evFun Try.prog (cfg F) env 47 [(.agg (eGst s))]) = some (.ret (.agg [(i64 (Go.Sim.Gs.Sp.lo (Go.Sim.Gs.Gst.gas s))), (i64 (Go.Sim.Gs.Sp.lo (Go.Sim.Gs.Gst.hyd s))), (i64 (Go.Sim.Gs.Sp.lo (Go.Sim.Gs.Gst.heat s))), (i64 (Go.Sim.Gs.Sp.lo (Go.Sim.Gs.Gst.water s)))])) := by kernel_rfl
theorem t7048 (env : Env) (F : Nat) (x : Int) (y : Int) (z : Int) : (evFun Try.prog (cfg F) env 48 [(i64 x), (i64 y), (i64 z)]) = some (.ret (.bool (decide (x < (IntKind.wrap .i64 (z * y)))))) := by kernel_rfl
theorem t7049 (env : Env) (F : Nat) (g : Gs.Gas) (s : Gs.Gst) : (evFun Try.prog (cfg F) env 49 [(.rptr 1 11 (fun u4 => (eGas g)) 0 0), (.rptr 1 8 (fun u4 => (eGst s)) 0 0)]) = (tkOut (env.pf 50 [(.agg [(i64 (Go.Sim.Gs.Sp.lo (Go.Sim.Gs.Gst.gas s))), (i64 (Go.Sim.Gs.Sp.hi (Go.Sim.Gs.Gst.gas s))), (i64 (Go.Sim.Gs.Sp.lo (Go.Sim.Gs.Gst.hyd s))), (i64 (Go.Sim.Gs.Sp.hi (Go.Sim.Gs.Gst.hyd s))), (i64 (Go.Sim.Gs.Sp.lo (Go.Sim.Gs.Gst.heat s))), (i64 (Go.Sim.Gs.Sp.hi (Go.Sim.Gs.Gst.heat s))), (i64 (Go.Sim.Gs.Sp.lo (Go.Sim.Gs.Gst.water s))), (i64 (Go.Sim.Gs.Sp.hi (Go.Sim.Gs.Gst.water s)))])]) none (fun v4 => (tkAgg v4 none fun l5 => (tkCons l5 none fun v6 r7 => (tkInt v6 none fun q8 n9 => (tkCons r7 none fun v10 r11 => (tkInt v10 none fun q12 n13 => (tkCons r11 none fun v14 r15 => (tkInt v14 none fun q16 n17 => (tkCons r15 none fun v18 r19 => (tkInt v18 none fun q20 n21 => (tkNil r19 none ((tkOut (env.pf 46 [(.agg [(i64 (Go.Sim.Gs.Sp.lo (Go.Sim.Gs.Gas.vol g))), (i64 (Go.Sim.Gs.Sp.hi (Go.Sim.Gs.Gas.vol g))), (i64 (Go.Sim.Gs.Gas.least g)), (i64 (Go.Sim.Gs.Gas.most g)), (i64 (Go.Sim.Gs.Gas.f0 g)), (i64 (Go.Sim.Gs.Gas.f1 g)), (i64 (Go.Sim.Gs.Gas.h0 g)), (i64 (Go.Sim.Gs.Gas.h1 g)), (i64 (Go.Sim.Gs.Gas.rock g)), (i64 (Go.Sim.Gs.Sp.lo (Go.Sim.Gs.Gas.pur g))), (i64 (Go.Sim.Gs.Sp.hi (Go.Sim.Gs.Gas.pur g)))]), (.agg [(.int q8 n9), (.int q12 n13), (.int q16 n17), (.int q20 n21)]), (i64 (Go.Sim.Gs.Sp.lo (Go.Sim.Gs.Gas.vol g)))]) none (fun v22 => (tkTup v22 none fun l23 => (tkCons l23 none fun v24 r25 => (tkInt v24 none fun q26 n27 => (tkCons r25 none fun v28 r29 => (tkInt v28 none fun q30 n31 => (tkNil r29 none ((tkOut (env.pf 48 [(.int q26 (IntKind.wrap q26 ((0 : Int) - n27))), (.int q30 n31), (i64 (IntKind.wrap .i64 ((0 : Int) - (Go.Sim.Gs.Gas.most g))))]) none (fun v32 => (tkBool v32 none fun b33 => some (.ret (.bool b33)))) (fun p32 => (tkIfc p32 none fun t33 x34 => (bif (flatP (.iface t33 x34)) then some (.pan (.iface t33 x34)) else none)))))))))))) (fun p22 => (tkIfc p22 none fun t23 x24 => (bif (flatP (.iface t23 x24)) then some (.pan (.iface t23 x24)) else none)))))))))))))))) (fun p4 => (tkIfc p4 none fun t5 x6 => (bif (flatP (.iface t5 x6)) then none else none)))) := by kernel_rfl
theorem t7050 (env : Env) (F : Nat) (s : Gs.Gst) : (evFun Try.prog (cfg F) env 50 [(.agg (eGst s))]) = some (.ret (.agg [(i64 (Go.Sim.Gs.Sp.hi (Go.Sim.Gs.Gst.gas s))), (i64 (Go.Sim.Gs.Sp.hi (Go.Sim.Gs.Gst.hyd s))), (i64 (Go.Sim.Gs.Sp.hi (Go.Sim.Gs.Gst.heat s))), (i64 (Go.Sim.Gs.Sp.hi (Go.Sim.Gs.Gst.water s)))])) := by kernel_rfl
theorem t7051 (env : Env) (F : Nat) (g : Gs.Gas) (s : Gs.Gst) : (evFun Try.prog (cfg F) env 51 [(.rptr 1 11 (fun u4 => (eGas g)) 0 0), (.rptr 1 8 (fun u4 => (eGst s)) 0 0)]) = (tkOut (env.pf 52 [(.agg [(i64 (Go.Sim.Gs.Sp.lo (Go.Sim.Gs.Gas.vol g))), (i64 (Go.Sim.Gs.Sp.hi (Go.Sim.Gs.Gas.vol g))), (i64 (Go.Sim.Gs.Gas.least g)), (i64 (Go.Sim.Gs.Gas.most g)), (i64 (Go.Sim.Gs.Gas.f0 g)), (i64 (Go.Sim.Gs.Gas.f1 g)), (i64 (Go.Sim.Gs.Gas.h0 g)), (i64 (Go.Sim.Gs.Gas.h1 g)), (i64 (Go.Sim.Gs.Gas.rock g)), (i64 (Go.Sim.Gs.Sp.lo (Go.Sim.Gs.Gas.pur g))), (i64 (Go.Sim.Gs.Sp.hi (Go.Sim.Gs.Gas.pur g)))]), (.agg [(i64 (Go.Sim.Gs.Sp.lo (Go.Sim.Gs.Gst.gas s))), (i64 (Go.Sim.Gs.Sp.hi (Go.Sim.Gs.Gst.gas s))), (i64 (Go.Sim.Gs.Sp.lo (Go.Sim.Gs.Gst.hyd s))), (i64 (Go.Sim.Gs.Sp.hi (Go.Sim.Gs.Gst.hyd s))), (i64 (Go.Sim.Gs.Sp.lo (Go.Sim.Gs.Gst.heat s))), (i64 (Go.Sim.Gs.Sp.hi (Go.Sim.Gs.Gst.heat s))), (i64 (Go.Sim.Gs.Sp.lo (Go.Sim.Gs.Gst.water s))), (i64 (Go.Sim.Gs.Sp.hi (Go.Sim.Gs.Gst.water s)))])]) none (fun v4 => (tkBool v4 none fun b5 => some (.ret (.bool b5)))) (fun p4 => (tkIfc p4 none fun t5 x6 => (bif (flatP (.iface t5 x6)) then some (.pan (.iface t5 x6)) else none)))) := by kernel_rfl
theorem t7052 (env : Env) (F : Nat) (g : Gs.Gas) (s : Gs.Gst) : (evFun Try.prog (cfg F) env 52 [(.agg (eGas g)), (.agg (eGst s))]) = (tkOut (env.pf 48 [(i64 (IntKind.wrap .i64 ((1000 : Int) * (Go.Sim.Gs.Sp.lo (Go.Sim.Gs.Gst.hyd s))))), (i64 (IntKind.wrap .i64 ((Go.Sim.Gs.Sp.hi (Go.Sim.Gs.Gst.gas s)) + (Go.Sim.Gs.Sp.lo (Go.Sim.Gs.Gst.hyd s))))), (i64 (Go.Sim.Gs.Sp.lo (Go.Sim.Gs.Gas.pur g)))]) none (fun v4 => (tkBool v4 none fun b5 => some (.ret (.bool b5)))) (fun p4 => (tkIfc p4 none fun t5 x6 => (bif (flatP (.iface t5 x6)) then some (.pan (.iface t5 x6)) else none)))) := by kernel_rfl
theorem t7053 (env : Env) (F : Nat) (g : Gs.Gas) (s : Gs.Gst) : (evFun Try.prog (cfg F) env 53 [(.rptr 1 11 (fun u4 => (eGas g)) 0 0), (.rptr 1 8 (fun u4 => (eGst s)) 0 0)]) = (tkOut (env.pf 54 [(.agg [(i64 (Go.Sim.Gs.Sp.lo (Go.Sim.Gs.Gas.vol g))), (i64 (Go.Sim.Gs.Sp.hi (Go.Sim.Gs.Gas.vol g))), (i64 (Go.Sim.Gs.Gas.least g)), (i64 (Go.Sim.Gs.Gas.most g)), (i64 (Go.Sim.Gs.Gas.f0 g)), (i64 (Go.Sim.Gs.Gas.f1 g)), (i64 (Go.Sim.Gs.Gas.h0 g)), (i64 (Go.Sim.Gs.Gas.h1 g)), (i64 (Go.Sim.Gs.Gas.rock g)), (i64 (Go.Sim.Gs.Sp.lo (Go.Sim.Gs.Gas.pur g))), (i64 (Go.Sim.Gs.Sp.hi (Go.Sim.Gs.Gas.pur g)))]), (.agg [(i64 (Go.Sim.Gs.Sp.lo (Go.Sim.Gs.Gst.gas s))), (i64 (Go.Sim.Gs.Sp.hi (Go.Sim.Gs.Gst.gas s))), (i64 (Go.Sim.Gs.Sp.lo (Go.Sim.Gs.Gst.hyd s))), (i64 (Go.Sim.Gs.Sp.hi (Go.Sim.Gs.Gst.hyd s))), (i64 (Go.Sim.Gs.Sp.lo (Go.Sim.Gs.Gst.heat s))), (i64 (Go.Sim.Gs.Sp.hi (Go.Sim.Gs.Gst.heat s))), (i64 (Go.Sim.Gs.Sp.lo (Go.Sim.Gs.Gst.water s))), (i64 (Go.Sim.Gs.Sp.hi (Go.Sim.Gs.Gst.water s)))])]) none (fun v4 => (tkBool v4 none fun b5 => some (.ret (.bool b5)))) (fun p4 => (tkIfc p4 none fun t5 x6 => (bif (flatP (.iface t5 x6)) then some (.pan (.iface t5 x6)) else none)))) := by kernel_rfl
theorem t7054 (env : Env) (F : Nat) (g : Gs.Gas) (s : Gs.Gst) : (evFun Try.prog (cfg F) env 54 [(.agg (eGas g)), (.agg (eGst s))]) = (tkOut (env.pf 48 [(i64 (IntKind.wrap .i64 ((-(1000 : Int)) * (Go.Sim.Gs.Sp.hi (Go.Sim.Gs.Gst.hyd s))))), (i64 (IntKind.wrap .i64 ((Go.Sim.Gs.Sp.lo (Go.Sim.Gs.Gst.gas s)) + (Go.Sim.Gs.Sp.hi (Go.Sim.Gs.Gst.hyd s))))), (i64 (IntKind.wrap .i64 ((0 : Int) - (Go.Sim.Gs.Sp.hi (Go.Sim.Gs.Gas.pur g)))))]) none (fun v4 => (tkBool v4 none fun b5 => some (.ret (.bool b5)))) (fun p4 => (tkIfc p4 none fun t5 x6 => (bif (flatP (.iface t5 x6)) then some (.pan (.iface t5 x6)) else none)))) := by kernel_rfl
end Go.Sim.Le


namespace Go.Sim.Le
open Go.Proofs
section
variable {R : Type}
theorem tkOut_ret (v : V) (f : R) (k kp : V → R) : tkOut (some (.ret v)) f k kp = k v := Eq.trans (Eq.refl _) (Eq.refl _)
theorem tkBool_b (b : Bool) (f : R) (k : Bool → R) : tkBool (.bool b) f k = k b := Eq.trans (Eq.refl _) (Eq.refl _)
theorem tkInt_i (q : IntKind) (n : Int) (f : R) (k : IntKind → Int → R) : tkInt (.int q n) f k = k q n := Eq.trans (Eq.refl _) (Eq.refl _)
theorem tkAgg_a (l : List V) (f : R) (k : List V → R) : tkAgg (.agg l) f k = k l := Eq.trans (Eq.refl _) (Eq.refl _)
theorem tkRow_r (a : Bool) (n wd : Nat) (g : Nat → List V) (f : R) (k : Bool → Nat → Nat → (Nat → List V) → R) : tkRow (.row a n wd g) f k = k a n wd g := Eq.trans (Eq.refl _) (Eq.refl _)
theorem tkCons_c (v : V) (l : List V) (f : R) (k : V → List V → R) : tkCons (v :: l) f k = k v l := Eq.trans (Eq.refl _) (Eq.refl _)
theorem tkNil_n (f k : R) : tkNil [] f k = k := Eq.trans (Eq.refl _) (Eq.refl _)
theorem tkFn_f (g : Nat) (a b : List V) (f : R) (k : Nat → List V → List V → R) : tkFn (.fn (.func g) a b) f k = k g a b := Eq.trans (Eq.refl _) (Eq.refl _)
theorem tkPtr_p (n wd : Nat) (g : Nat → List V) (i o : Nat) (f : R) (k : Nat → Nat → (Nat → List V) → Nat → Nat → R) : tkPtr (.rptr n wd g i o) f k = k n wd g i o := Eq.trans (Eq.refl _) (Eq.refl _)
theorem tkHv_h (v : V) (h : List Slot) (f : R) (k : V → List Slot → R) : tkHv (some (.ret v, h)) f k = k v h := Eq.trans (Eq.refl _) (Eq.refl _)
theorem tkSCons_c (s : Slot) (l : List Slot) (f : R) (k : Slot → List Slot → R) : tkSCons (s :: l) f k = k s l := Eq.trans (Eq.refl _) (Eq.refl _)
theorem tkSNil_n (f k : R) : tkSNil [] f k = k := Eq.trans (Eq.refl _) (Eq.refl _)
theorem tkBox_b (e : Nat) (c : List V) (w : Bool) (f : R) (k : Nat → List V → Bool → R) : tkBox (.box e c w) f k = k e c w := Eq.trans (Eq.refl _) (Eq.refl _)
theorem tkArr_a (e wd n : Nat) (g : Nat → List V) (w : Bool) (f : R) (k : Nat → Nat → Nat → (Nat → List V) → Bool → R) : tkArr (.arr e wd n g w) f k = k e wd n g w := Eq.trans (Eq.refl _) (Eq.refl _)
theorem tkMp_m (a : Bool) (ks : List KS) (es : List (V × V)) (w : Bool) (f : R) (k : Bool → List KS → List (V × V) → Bool → R) : tkMp (.mp a ks es w) f k = k a ks es w := Eq.trans (Eq.refl _) (Eq.refl _)
theorem pT (a b : R) : (bif true then a else b) = a := Eq.trans (Eq.refl _) (Eq.refl _)
theorem pF (a b : R) : (bif false then a else b) = b := Eq.trans (Eq.refl _) (Eq.refl _)
theorem tkSl_o (b lo n : Nat) (f : R) (k : Bool → Nat → Nat → (Nat → List V) → R) (k' : Nat → Nat → Nat → R) : tkSl (.osl b lo n) f k k' = k' b lo n := Eq.trans (Eq.refl _) (Eq.refl _)
end
theorem cAnd (a b : Bool) : (bif a then some (Out.ret (.bool b)) else some (.ret (.bool false))) = some (.ret (.bool (a && b))) := by cases a <;> rfl
theorem cOr (a b : Bool) : (bif a then some (Out.ret (.bool true)) else some (.ret (.bool b))) = some (.ret (.bool (a || b))) := by cases a <;> rfl
theorem wr {n : Int} (h : -9223372036854775808 ≤ n ∧ n ≤ 9223372036854775807) : IntKind.i64.wrap n = n := by rw [IntKind.wrap_i64]; omega
theorem wrS {i : Nat} (h : i < 4611686018427387904) : IntKind.i64.wrap ((i : Int) + 1) = ((i + 1 : Nat) : Int) := by rw [wr (by omega)]; omega
theorem b2 {a b : Bool} (h : a = true ↔ b = true) : a = b := by cases a <;> cases b <;> simp_all
theorem b3 {a b : Bool} (h : a = b) : some (Out.ret (.bool a)) = some (.ret (.bool b)) := by rw [h]
abbrev Big : Nat := 4611686018427387904
abbrev SpanIn (p : Span) (a b : Int) : Prop := a ≤ p.lo ∧ p.lo ≤ p.hi ∧ p.hi ≤ b
abbrev SlcOk (x : Slc) : Prop := SpanIn x.vol 0 10000000000000 ∧ (1000 ≤ x.opn ∧ x.opn ≤ 3000) ∧ (0 ≤ x.fall ∧ x.fall ≤ x.opn - 1) ∧ SpanIn x.rate 0 300 ∧ 0 ≤ x.most ∧ x.most ≤ 10000000000000
abbrev CavOk (c : Cav) : Prop := (1 ≤ c.slices.len ∧ c.slices.len ≤ 10) ∧ (1 ≤ c.hold ∧ c.hold ≤ 300) ∧ (0 ≤ c.oil ∧ c.oil ≤ 10000000000000) ∧ ∀ i, i < c.slices.len → SlcOk (c.slices.el i)
abbrev StgOk (n : Nat) (s : Stg) : Prop := (1 ≤ s.water ∧ s.water ≤ 1000000) ∧ (0 ≤ s.into ∧ s.into < n) ∧ (0 ≤ s.out ∧ s.out < n) ∧ s.into ≠ s.out ∧ 0 ≤ s.blanket ∧ s.blanket ≤ n
variable (F d : Nat)
theorem s59 (x y z : Int) : (E F (d + 1)).pf 34 [.int .i64 x, .int .i64 y, .int .i64 z] = some (.ret (.bool (decide (y ≤ x ∧ x ≤ z)))) := by
  rw [E_pf, t59]; simp only [cAnd, Bool.decide_and, ge_iff_le]
theorem s64 (x y z : Int) : (E F (d + 1)).pf 16 [.int .i64 x, .int .i64 y, .int .i64 z] = some (.ret (.bool (decide (y ≤ x ∧ x ≤ z)))) := by
  rw [E_pf, t64]; simp only [cAnd, Bool.decide_and, ge_iff_le]
theorem s98 (p : Span) (a n : Int) : (E F (d + 1)).pf 73 [.agg (eSpan p), .int .i64 a, .int .i64 n] = some (.ret (.bool (decide (SpanIn p a n)))) := by
  rw [E_pf, t98]; simp only [cAnd, Bool.decide_and, ge_iff_le]
theorem s70 (p : Span) (a n : Int) : (E F (d + 1)).pf 30 [.agg (eSpan p), .int .i64 a, .int .i64 n] = some (.ret (.bool (decide (SpanIn p a n)))) := by
  rw [E_pf, t70]; simp only [cAnd, Bool.decide_and, ge_iff_le]
theorem s97 (x : Slc) : (E F (d + 2)).pf 72 [.agg (eSlc x)] = some (.ret (.bool (!decide (SlcOk x)))) := by
  rw [E_pf, t97]; simp only [s98, s59, tkOut_ret, tkBool_b, cOr]
  refine b3 ?_
  by_cases h : 1000 ≤ x.opn ∧ x.opn ≤ 3000
  · rw [wr (by omega)]
    simp only [Bool.decide_and, Bool.not_and]
  · simp [h]
theorem s67 (c : Cav) (s : Stg) (hB : c.slices.len < Big) : (E F (d + 2)).pf 76 [.agg (eCav c), .agg (eStg s)] = some (.ret (.bool (decide (StgOk c.slices.len s)))) := by
  rw [E_pf, t67]; simp only [s59, tkOut_ret, tkBool_b, cAnd]
  have hB' : c.slices.len < 4611686018427387904 := hB
  rw [wr (by omega)]
  refine b3 (b2 ?_)
  simp only [Bool.and_eq_true, decide_eq_true_iff, bne_iff_ne, ne_eq]
  omega
theorem s28 (c : Cav) (s : Stg) (hB : c.slices.len < Big) : (E F (d + 2)).pf 31 [.agg (eCav c), .agg (eStg s)] = some (.ret (.bool (decide (StgOk c.slices.len s)))) := by
  rw [E_pf, t28]; simp only [s64, tkOut_ret, tkBool_b, cAnd]
  have hB' : c.slices.len < 4611686018427387904 := hB
  rw [wr (by omega)]
  refine b3 (b2 ?_)
  simp only [Bool.and_eq_true, decide_eq_true_iff, bne_iff_ne, ne_eq]
  omega
theorem s108 (c : Cav) (s : Stg) (hB : c.slices.len < Big) : (E F (d + 3)).pf 75 [.agg (eStg s), .rptr 1 3 (fun _ => eCav c) 0 0] = some (.ret (.bool (!decide (StgOk c.slices.len s)))) := by
  rw [E_pf, t108]; simp only [s67 F d c s hB, tkOut_ret, tkBool_b]
theorem s58 (n : Int) : (E F (d + 2)).pf 33 [.int .i64 n] = some (.ret (.bool (decide (-1000 ≤ n ∧ n ≤ 1000)))) := by
  rw [E_pf, t58]; simp only [s59, tkOut_ret, tkBool_b]
theorem s61 (n : Int) : (E F (d + 3)).pf 36 [.int .i64 n, .rptr 1 1 (fun _ => [.fn (.func 33) [] []]) 0 0] = some (.ret (.bool (!decide (-1000 ≤ n ∧ n ≤ 1000)))) := by
  rw [E_pf, t61]; simp only [s58, tkOut_ret, tkBool_b]
def ixF (p : Nat → Bool) : Nat → Nat → Int
  | 0, _ => -1
  | n + 1, i => bif p i then (i : Int) else ixF p n (i + 1)
theorem ixF_ge (p : Nat → Bool) : ∀ n i, 0 ≤ ixF p n i ↔ ∃ k, i ≤ k ∧ k < i + n ∧ p k = true := by
  intro n
  induction n with
  | zero => intro i; simp only [ixF]; constructor <;> intro h
            · omega
            · obtain ⟨k, h1, h2, _⟩ := h; omega
  | succ n ih =>
    intro i
    simp only [ixF]
    cases h : p i
    · rw [cond_false, ih]
      constructor
      · rintro ⟨k, h1, h2, h3⟩; exact ⟨k, by omega, by omega, h3⟩
      · rintro ⟨k, h1, h2, h3⟩
        refine ⟨k, ?_, by omega, h3⟩
        rcases Nat.eq_or_lt_of_le h1 with rfl | h4
        · rw [h] at h3; cases h3
        · omega
    · rw [cond_true]
      exact ⟨fun _ => ⟨i, by omega, by omega, h⟩, fun _ => by omega⟩
theorem ge0 (p : Nat → Bool) (n : Nat) : (!decide (0 ≤ ixF p n 0)) = decide (∀ i, i < n → p i = false) := by
  apply b2
  rw [Bool.not_eq_true', decide_eq_false_iff_not, decide_eq_true_iff, ixF_ge]
  constructor
  · intro h i hi
    cases hp : p i
    · rfl
    · exact (h ⟨i, by omega, by omega, hp⟩).elim
  · rintro h ⟨k, _, h2, h3⟩
    rw [h k (by omega)] at h3; cases h3
theorem l111 (l : Sl Slc) (hB : l.len < Big) : ∀ n i fu, l.len = i + n → n < fu →
    L111x0 (E F (d + 2)) F l fu (i : Int) = some (.ret (.int .i64 (ixF (fun k => !decide (SlcOk (l.el k))) n i))) := by
  intro n
  induction n with
  | zero =>
    intro i fu h hf
    obtain ⟨fu, rfl⟩ : ∃ k, fu = k + 1 := ⟨fu - 1, by omega⟩
    rw [L111x0s]
    simp only [Int.ofNat_lt, show ¬ i < l.len by omega, decide_false, cond_false, ixF]
  | succ n ih =>
    intro i fu h hf
    obtain ⟨fu, rfl⟩ : ∃ k, fu = k + 1 := ⟨fu - 1, by omega⟩
    rw [L111x0s]
    simp only [Int.ofNat_lt, show i < l.len by omega, decide_true, cond_true, Int.natCast_nonneg, Int.toNat_natCast, s97, tkOut_ret, tkBool_b, wrS (show i < Big by omega), ih (i + 1) fu (by omega) (by omega), ixF]
    cases decide (SlcOk (l.el i)) <;> rfl
theorem l114 (c : Cav) (l : Sl Stg) (hC : c.slices.len < Big) (hB : l.len < Big) : ∀ n i fu, l.len = i + n → n < fu →
    L114x0 (E F (d + 3)) F c l fu (i : Int) = some (.ret (.int .i64 (ixF (fun k => !decide (StgOk c.slices.len (l.el k))) n i))) := by
  intro n
  induction n with
  | zero =>
    intro i fu h hf
    obtain ⟨fu, rfl⟩ : ∃ k, fu = k + 1 := ⟨fu - 1, by omega⟩
    rw [L114x0s]
    simp only [Int.ofNat_lt, show ¬ i < l.len by omega, decide_false, cond_false, ixF]
  | succ n ih =>
    intro i fu h hf
    obtain ⟨fu, rfl⟩ : ∃ k, fu = k + 1 := ⟨fu - 1, by omega⟩
    rw [L114x0s]
    simp only [Int.ofNat_lt, show i < l.len by omega, decide_true, cond_true, Int.natCast_nonneg, Int.toNat_natCast, s108 F d c _ hC, tkOut_ret, tkBool_b, wrS (show i < Big by omega), ih (i + 1) fu (by omega) (by omega), ixF]
    cases decide (StgOk c.slices.len (l.el i)) <;> rfl
theorem l9161 (w : Sl Int) (hB : w.len < Big) : ∀ n i fu, w.len = i + n → n < fu →
    L9161x0 (E F (d + 3)) F w fu (i : Int) = some (.ret (.int .i64 (ixF (fun k => !decide (-1000 ≤ w.el k ∧ w.el k ≤ 1000)) n i))) := by
  intro n
  induction n with
  | zero =>
    intro i fu h hf
    obtain ⟨fu, rfl⟩ : ∃ k, fu = k + 1 := ⟨fu - 1, by omega⟩
    rw [L9161x0s]
    simp only [Int.ofNat_lt, show ¬ i < w.len by omega, decide_false, cond_false, ixF]
  | succ n ih =>
    intro i fu h hf
    obtain ⟨fu, rfl⟩ : ∃ k, fu = k + 1 := ⟨fu - 1, by omega⟩
    rw [L9161x0s]
    simp only [Int.ofNat_lt, show i < w.len by omega, decide_true, cond_true, Int.natCast_nonneg, Int.toNat_natCast, s61, tkOut_ret, tkBool_b, wrS (show i < Big by omega), ih (i + 1) fu (by omega) (by omega), ixF]
    cases decide (-1000 ≤ w.el i ∧ w.el i ≤ 1000) <;> rfl
theorem s96 (l : Sl Slc) (hB : l.len < Big) (hF : l.len < F) : (E F (d + 4)).pf 71 [sl eSlc 7 l, .fn (.func 72) [] []] = some (.ret (.bool (!decide (∀ i, i < l.len → SlcOk (l.el i))))) := by
  rw [E_pf, t96, E_pf, t111, show L111x0 (E F (d + 2)) F l F 0 = _ from l111 F d l hB l.len 0 F (by omega) hF]
  simp only [tkOut_ret, tkInt_i, decide_true, cond_true, ge_iff_le]
  refine b3 (Bool.not_inj ?_)
  rw [Bool.not_not]
  exact (ge0 _ _).trans (by simp only [Bool.not_eq_false', decide_eq_true_eq])
theorem s107 (c : Cav) (l : Sl Stg) (hC : c.slices.len < Big) (hB : l.len < Big) (hF : l.len < F) : (E F (d + 5)).pf 74 [sl eStg 4 l, .fn (.func 75) [] [.rptr 1 3 (fun _ => eCav c) 0 0]] = some (.ret (.bool (!decide (∀ i, i < l.len → StgOk c.slices.len (l.el i))))) := by
  rw [E_pf, t107, E_pf, t114, show L114x0 (E F (d + 3)) F c l F 0 = _ from l114 F d c l hC hB l.len 0 F (by omega) hF]
  simp only [tkOut_ret, tkInt_i, decide_true, cond_true, ge_iff_le]
  refine b3 (Bool.not_inj ?_)
  rw [Bool.not_not]
  exact (ge0 _ _).trans (by simp only [Bool.not_eq_false', decide_eq_true_eq])
theorem s6061 (w : Sl Int) (hB : w.len < Big) (hF : w.len < F) : (E F (d + 5)).pf 35 [sl eInt 1 w, .fn (.func 36) [] [.rptr 1 1 (fun _ => [.fn (.func 33) [] []]) 0 0]] = some (.ret (.bool (!decide (∀ i, i < w.len → -1000 ≤ w.el i ∧ w.el i ≤ 1000)))) := by
  rw [E_pf, t6061, E_pf, t9161, show L9161x0 (E F (d + 3)) F w F 0 = _ from l9161 F d w hB w.len 0 F (by omega) hF]
  simp only [tkOut_ret, tkInt_i, decide_true, cond_true, ge_iff_le]
  refine b3 (Bool.not_inj ?_)
  rw [Bool.not_not]
  exact (ge0 _ _).trans (by simp only [Bool.not_eq_false', decide_eq_true_eq])
theorem s90 (c : Cav) (l : Sl Stg) (hC : c.slices.len < Big) (hB : l.len < Big) (hF : l.len < F) : (E F (d + 6)).pf 60 [.agg (eCav c), sl eStg 4 l] = some (.ret (.bool (decide (∀ i, i < l.len → StgOk c.slices.len (l.el i))))) := by
  rw [E_pf, t90]; simp only [s107 F d c l hC hB hF, tkOut_ret, tkBool_b, Bool.not_not]
theorem s66 (c : Cav) (hB : c.slices.len < Big) (hF : c.slices.len < F) : (E F (d + 5)).pf 59 [.agg (eCav c)] = some (.ret (.bool (decide (CavOk c)))) := by
  rw [E_pf, t66]; simp only [s59, s96 F d c.slices hB hF, tkOut_ret, tkBool_b, cAnd, Bool.not_not]
  refine b3 (b2 ?_)
  have e : ((1 : Int) ≤ (c.slices.len : Int) ∧ (c.slices.len : Int) ≤ 10) ↔ (1 ≤ c.slices.len ∧ c.slices.len ≤ 10) := by omega
  simp only [Bool.and_eq_true, decide_eq_true_iff, e, CavOk]
theorem s57 (c : Cav) (l : Sl Stg) (hC : c.slices.len < Big) (hCF : c.slices.len < F) (hB : l.len < Big) (hF : l.len < F) : (E F (d + 7)).pf 32 [.agg (eCav c), sl eStg 4 l] =
    some (.ret (.int .i64 (if 8 < l.len then 3 else if CavOk c ∧ ∀ i, i < l.len → StgOk c.slices.len (l.el i) then 0 else 2))) := by
  rw [E_pf, t57]; simp only [s66 F (d + 1) c hC hCF, s90 F d c l hC hB hF, tkOut_ret, tkBool_b]
  by_cases h1 : 8 < l.len
  · simp [h1, show (8 : Int) < (l.len : Int) by omega]
  · simp only [show ¬ (8 : Int) < (l.len : Int) by omega, h1, decide_false, cond_false, if_false]
    by_cases h2 : CavOk c
    · by_cases h3 : ∀ i, i < l.len → StgOk c.slices.len (l.el i)
      · rw [if_pos ⟨h2, h3⟩, decide_eq_true h2, decide_eq_true h3]; rfl
      · rw [if_neg (fun h => h3 h.2), decide_eq_true h2, decide_eq_false h3]; rfl
    · rw [if_neg (fun h => h2 h.1), decide_eq_false h2]; rfl
end Go.Sim.Le


namespace Go.Sim.Le
open Go.Proofs
def allF (p : Nat → Bool) : Nat → Nat → Bool
  | 0, _ => true
  | n + 1, i => p i && allF p n (i + 1)
theorem allF_iff (p : Nat → Bool) : ∀ n i, allF p n i = true ↔ ∀ k, i ≤ k → k < i + n → p k = true := by
  intro n
  induction n with
  | zero => intro i; simp only [allF, true_iff]; intro k h1 h2; omega
  | succ n ih =>
    intro i
    simp only [allF, Bool.and_eq_true, ih]
    constructor
    · rintro ⟨h1, h2⟩ k h3 h4
      rcases Nat.eq_or_lt_of_le h3 with rfl | h5
      · exact h1
      · exact h2 k h5 (by omega)
    · intro h
      exact ⟨h i (Nat.le_refl _) (by omega), fun k h1 h2 => h k (by omega) (by omega)⟩
theorem allF_dec (p : Nat → Bool) (n : Nat) : allF p n 0 = decide (∀ i, i < n → p i = true) := by
  apply b2
  rw [allF_iff, decide_eq_true_iff]
  exact ⟨fun h i hi => h i (Nat.zero_le _) (by omega), fun h i _ hi => h i (by omega)⟩
theorem cStep (p a : Bool) : (bif !p then some (Out.ret (.bool false)) else some (.ret (.bool a))) = some (.ret (.bool (p && a))) := by cases p <;> rfl
variable (F d : Nat)
theorem l27 (c : Cav) (hB : c.slices.len < Big) : ∀ n i fu, c.slices.len = i + n → n < fu →
    L27x0 (E F (d + 1)) F c fu (i : Int) = some (.ret (.bool (allF (fun k => decide (SlcOk (c.slices.el k))) n i && (decide (1 ≤ c.slices.len ∧ c.slices.len ≤ 10) && (decide (1 ≤ c.hold ∧ c.hold ≤ 300) && decide (0 ≤ c.oil ∧ c.oil ≤ 10000000000000)))))) := by
  intro n
  induction n with
  | zero =>
    intro i fu h hf
    obtain ⟨fu, rfl⟩ : ∃ k, fu = k + 1 := ⟨fu - 1, by omega⟩
    rw [L27x0s]
    simp only [Int.ofNat_lt, show ¬ i < c.slices.len by omega, decide_false, cond_false, allF, s64, tkOut_ret, tkBool_b, cAnd]
    have e : ((1 : Int) ≤ (c.slices.len : Int) ∧ (c.slices.len : Int) ≤ 10) ↔ (1 ≤ c.slices.len ∧ c.slices.len ≤ 10) := by omega
    simp only [e, Bool.true_and]
  | succ n ih =>
    intro i fu h hf
    obtain ⟨fu, rfl⟩ : ∃ k, fu = k + 1 := ⟨fu - 1, by omega⟩
    rw [L27x0s]
    simp only [Int.ofNat_lt, show i < c.slices.len by omega, decide_true, cond_true, Int.natCast_nonneg, Int.toNat_natCast, s64, s70, tkOut_ret, tkBool_b, wrS (show i < Big by omega), ih (i + 1) fu (by omega) (by omega), allF, cStep]
    refine b3 ?_
    generalize (c.slices.el i) = x
    by_cases h : 1000 ≤ x.opn ∧ x.opn ≤ 3000
    · rw [wr (by omega)]
      simp only [Bool.decide_and, Bool.and_assoc]
    · simp [h]
theorem s27 (c : Cav) (hB : c.slices.len < Big) (hF : c.slices.len < F) : (E F (d + 2)).pf 13 [.agg (eCav c)] = some (.ret (.bool (decide (CavOk c)))) := by
  rw [E_pf, t27, show L27x0 (E F (d + 1)) F c F 0 = _ from l27 F d c hB c.slices.len 0 F (by omega) hF, allF_dec]
  refine b3 (b2 ?_)
  simp only [Bool.and_eq_true, decide_eq_true_iff]
  exact ⟨fun ⟨a, b, e, f⟩ => ⟨b, e, f, a⟩, fun ⟨a, b, e, f⟩ => ⟨f, a, b, e⟩⟩
theorem l63 (c : Cav) (l : Sl Stg) (hC : c.slices.len < Big) (hB : l.len < Big) : ∀ n i fu, l.len = i + n → n < fu →
    L63x0 (E F (d + 2)) F c l fu (i : Int) = some (.ret (.bool (allF (fun k => decide (StgOk c.slices.len (l.el k))) n i))) := by
  intro n
  induction n with
  | zero =>
    intro i fu h hf
    obtain ⟨fu, rfl⟩ : ∃ k, fu = k + 1 := ⟨fu - 1, by omega⟩
    rw [L63x0s]
    simp only [Int.ofNat_lt, show ¬ i < l.len by omega, decide_false, cond_false, allF]
  | succ n ih =>
    intro i fu h hf
    obtain ⟨fu, rfl⟩ : ∃ k, fu = k + 1 := ⟨fu - 1, by omega⟩
    rw [L63x0s]
    simp only [Int.ofNat_lt, show i < l.len by omega, decide_true, cond_true, Int.natCast_nonneg, Int.toNat_natCast, s28 F d c _ hC, tkOut_ret, tkBool_b, wrS (show i < Big by omega), ih (i + 1) fu (by omega) (by omega), allF, cStep]
theorem s63 (c : Cav) (l : Sl Stg) (hC : c.slices.len < Big) (hB : l.len < Big) (hF : l.len < F) : (E F (d + 3)).pf 14 [.agg (eCav c), sl eStg 4 l] = some (.ret (.bool (decide (∀ i, i < l.len → StgOk c.slices.len (l.el i))))) := by
  rw [E_pf, t63, show L63x0 (E F (d + 2)) F c l F 0 = _ from l63 F d c l hC hB l.len 0 F (by omega) hF, allF_dec]
  simp only [decide_eq_true_eq]
abbrev WtOk (c : Cav) (w : Sl Int) (m : Int) : Prop := (∀ i, i < w.len → -1000 ≤ w.el i ∧ w.el i ≤ 1000) ∧ w.len = c.slices.len ∧ (-1000 ≤ m ∧ m ≤ 1000)
def errP (c : Cav) (l : Sl Stg) (fine : Bool) : Int := if 8 < l.len then 3 else if CavOk c ∧ (∀ i, i < l.len → StgOk c.slices.len (l.el i)) ∧ fine = true then 0 else 2
theorem s57e (c : Cav) (l : Sl Stg) (hC : c.slices.len < Big) (hCF : c.slices.len < F) (hB : l.len < Big) (hF : l.len < F) : (E F (d + 7)).pf 32 [.agg (eCav c), sl eStg 4 l] = some (.ret (.int .i64 (errP c l true))) := by
  rw [s57 F d c l hC hCF hB hF]; simp [errP]
end Go.Sim.Le


namespace Go.Sim.Le
open Go.Proofs
section
variable {α : Type} (e : α → List V) (z : α)
def gl (ms : List α) : Nat → List V := fun j => e (ms.getD j (ms.getLastD z))
variable {e z}
theorem gl_one {l : List V} {m : α} (hl : l = e m) : (fun _ : Nat => l) = gl e z [m] := by
  subst hl
  funext j
  unfold gl
  cases j <;> rfl
theorem gl_snoc {l : List V} {m : α} {ms : List α} {k : Nat} (hk : ms.length = k) (hl : l = e m) : appGet k (gl e z ms) (fun _ => l) = gl e z (ms ++ [m]) := by
  subst hl hk
  funext j
  unfold appGet gl
  rw [List.getLastD_concat, List.getD_eq_getElem?_getD, List.getD_eq_getElem?_getD]
  by_cases h : j < ms.length
  · rw [if_pos h, List.getElem?_append_left h, List.getElem?_eq_getElem h]; rfl
  · rw [if_neg h, List.getElem?_append_right (by omega)]
    rcases Nat.eq_zero_or_pos (j - ms.length) with h0 | h0
    · rw [h0]; rfl
    · rw [List.getElem?_eq_none (by simp; omega)]; rfl
end
def pathN (s : Stg) : Nat := if s.out < s.into then (s.into - s.out).toNat + 1 else (s.out - s.into).toNat + 1
def stepOf (s : Stg) : Int := if s.out < s.into then -1 else 1
def pathAt (s : Stg) (k : Nat) : Int := s.into + stepOf s * (k : Int)
theorem pathAt_0 (s : Stg) : pathAt s 0 = s.into := by simp [pathAt]
theorem pathAt_last (s : Stg) : pathAt s (pathN s - 1) = s.out := by
  unfold pathAt pathN stepOf
  split
  · rw [show (((s.into - s.out).toNat + 1 - 1 : Nat) : Int) = s.into - s.out by omega]; omega
  · rw [show (((s.out - s.into).toNat + 1 - 1 : Nat) : Int) = s.out - s.into by omega]; omega
theorem pathN_pos (s : Stg) : 1 ≤ pathN s := by unfold pathN; split <;> omega
theorem pathAt_ne (s : Stg) {k : Nat} (h : k + 1 < pathN s) : pathAt s k ≠ s.out := by
  unfold pathAt stepOf
  unfold pathN at h
  split at h
  · rename_i hd; rw [if_pos hd]; omega
  · rename_i hd; rw [if_neg hd]; omega
theorem pathAt_in {n : Nat} {s : Stg} (hs : StgOk n s) {k : Nat} (h : k < pathN s) : 0 ≤ pathAt s k ∧ pathAt s k < n := by
  obtain ⟨_, h1, h2, h3, _⟩ := hs
  unfold pathAt stepOf
  unfold pathN at h
  split at h
  · rename_i hd; rw [if_pos hd]; omega
  · rename_i hd; rw [if_neg hd]; omega
theorem pathN_le {n : Nat} {s : Stg} (hs : StgOk n s) : pathN s ≤ n := by
  obtain ⟨_, h1, h2, h3, _⟩ := hs
  unfold pathN
  split <;> omega
theorem pathAt_S (s : Stg) (k : Nat) : pathAt s (k + 1) = pathAt s k + stepOf s := by
  unfold pathAt
  rw [Int.natCast_add, Int.mul_add]
  simp [Int.add_assoc]
def pathL (s : Stg) (n : Nat) : List Int := (List.range n).map (pathAt s)
theorem pathL_S (s : Stg) (n : Nat) : pathL s (n + 1) = pathL s n ++ [pathAt s n] := by
  unfold pathL; rw [List.range_succ, List.map_append]; rfl
theorem pathL_len (s : Stg) (n : Nat) : (pathL s n).length = n := by simp [pathL]
theorem pathL_get (s : Stg) {n j : Nat} (h : j < n) (z : Int) : (pathL s n).getD j z = pathAt s j := by
  unfold pathL
  rw [List.getD_eq_getElem?_getD, List.getElem?_map, List.getElem?_range h]; rfl
variable (F d : Nat)
def pathSl (s : Stg) : Sl Int := ⟨false, pathN s, fun j => (pathL s (pathN s)).getD j ((pathL s (pathN s)).getLastD 0)⟩
theorem pathSl_el (s : Stg) {j : Nat} (h : j < pathN s) : (pathSl s).el j = pathAt s j := pathL_get s h _
theorem s68 (s : Stg) : (E F (d + 1)).pf 57 [.agg (eStg s)] = some (.ret (.fn (.func 70) [] [.rptr 1 4 (fun _ => eStg s) 0 0])) := by
  rw [E_pf, t68]
end Go.Sim.Le


namespace Go.Sim.Le
open Go.Proofs
variable (F d : Nat)
def timesS (p : Span) (n : Int) : Span := if n < 0 then ⟨n * p.hi, n * p.lo⟩ else ⟨n * p.lo, n * p.hi⟩
abbrev I64 (n : Int) : Prop := -9223372036854775808 ≤ n ∧ n ≤ 9223372036854775807
theorem s86 (p : Span) (n : Int) (h1 : I64 (n * p.lo)) (h2 : I64 (n * p.hi)) : (E F (d + 1)).pf 77 [.agg (eSpan p), .int .i64 n] = some (.ret (.agg (eSpan (timesS p n)))) := by
  rw [E_pf, t86, wr h1, wr h2]
  unfold timesS
  by_cases h : n < 0
  · rw [decide_eq_true h, cond_true, if_pos h]
  · rw [decide_eq_false h, cond_false, if_neg h]
def gainI (c : Cav) (m : Mea) (i : Nat) : Int := (c.slices.el i).opn * m.weights.el i + (c.slices.el i).fall * m.sump
theorem s110 (c : Cav) (m : Mea) (n : Int) (h0 : 0 ≤ n) (h1 : n < c.slices.len) (hl : m.weights.len = c.slices.len) (hw : I64 ((c.slices.el n.toNat).opn * m.weights.el n.toNat)) (hv : I64 ((c.slices.el n.toNat).fall * m.sump)) (hg : I64 (gainI c m n.toNat)) :
    (E F (d + 1)).pf 79 [.agg (eCav c), .agg (eMea m), .int .i64 n] = some (.ret (.int .i64 (gainI c m n.toNat))) := by
  rw [E_pf, t110, wr hw, wr hv]
  simp only [h0, h1, show n < (m.weights.len : Int) by omega, decide_true, cond_true]
  unfold gainI at hg ⊢
  rw [wr hg]
end Go.Sim.Le


namespace Go.Sim.Le
open Go.Proofs
theorem mnE (a b : Int) : (if b < a then b else a) = min a b := by omega
theorem mxE (a b : Int) : (if a < b then b else a) = max a b := by omega
abbrev slAt (c : Cav) (s : Stg) (k : Nat) : Slc := c.slices.el (pathAt s k).toNat
theorem slcOk_at {c : Cav} (hc : CavOk c) {s : Stg} (hs : StgOk c.slices.len s) {k : Nat} (h : k < pathN s) : SlcOk (slAt c s k) := by
  have := pathAt_in hs h
  exact hc.2.2.2 _ (by omega)
variable (F d : Nat)
end Go.Sim.Le


namespace Go.Sim.Le
open Go.Proofs
def addS (p q : Span) : Span := ⟨p.lo + q.lo, p.hi + q.hi⟩
variable (F d : Nat)
theorem pairGet (p q : Span) : (fun u : Nat => List.take 2 (List.drop (Min.min u 1 * 2) [V.int .i64 p.lo, V.int .i64 p.hi, V.int .i64 q.lo, V.int .i64 q.hi])) = fun i => eSpan (if i = 0 then p else q) := by
  funext i
  match i with
  | 0 => rfl
  | i + 1 => simp [show Min.min (i + 1) 1 = 1 by omega]
theorem s85g (env : Env) (F : Nat) (a : Sl Span) (hl : a.len = 2) (h1 : I64 (a.el 0).lo) (h2 : I64 (a.el 0).hi) (h3 : I64 ((a.el 0).lo + (a.el 1).lo)) (h4 : I64 ((a.el 0).hi + (a.el 1).hi)) :
    evFun Try.prog (cfg (F + 3)) env 63 [sl eSpan 2 a] = some (.ret (.agg (eSpan (addS (a.el 0) (a.el 1))))) := by
  rw [t85, L85x0s, decide_eq_true (by omega), cond_true, decide_eq_true (by omega), cond_true, cond_true, Int.toNat_zero, Int.zero_add, Int.zero_add, Int.zero_add, wr (by decide), wr h1, wr h2]
  rw [L85x0s, decide_eq_true (by omega), cond_true, decide_eq_true (by omega), cond_true, cond_true, show (1 : Int).toNat = 1 from rfl, wr h3, wr h4, wr (by decide)]
  rw [L85x0s, decide_eq_false (by omega), cond_false]
  rfl
theorem s85 (p q : Span) (hF : 20 < F) (h1 : I64 p.lo) (h2 : I64 p.hi) (h3 : I64 (p.lo + q.lo)) (h4 : I64 (p.hi + q.hi)) :
    (E F (d + 1)).pf 63 [.row false 2 2 (fun u => List.take 2 (List.drop (Min.min u 1 * 2) [V.int .i64 p.lo, V.int .i64 p.hi, V.int .i64 q.lo, V.int .i64 q.hi]))] = some (.ret (.agg (eSpan (addS p q)))) := by
  obtain ⟨F, rfl⟩ : ∃ k, F = k + 3 := ⟨F - 3, by omega⟩
  rw [pairGet, E_pf]
  exact s85g (E (F + 3) d) F ⟨false, 2, fun i => if i = 0 then p else q⟩ rfl h1 h2 h3 h4
theorem pairGetI (a b : Int) : (fun u : Nat => List.take 1 (List.drop (Min.min u 1 * 1) [V.int .i64 a, V.int .i64 b])) = fun i => eInt (if i = 0 then a else b) := by
  funext i
  match i with
  | 0 => rfl
  | i + 1 => simp [show Min.min (i + 1) 1 = 1 by omega]
theorem s88 (a b : Int) (hF : 20 < F) (h1 : I64 a) (h3 : I64 (a + b)) :
    (E F (d + 1)).pf 58 [.row false 2 1 (fun u => List.take 1 (List.drop (Min.min u 1 * 1) [V.int .i64 a, V.int .i64 b]))] = some (.ret (.int .i64 (a + b))) := by
  obtain ⟨F, rfl⟩ : ∃ k, F = k + 3 := ⟨F - 3, by omega⟩
  rw [pairGetI, E_pf]
  refine (t88 _ _ ⟨false, 2, fun i => if i = 0 then a else b⟩).trans ?_
  rw [L88x0s]
  simp (disch := omega) only [decide_eq_true, decide_true, cond_true, Int.toNat_zero, if_true, wr]
  rw [L88x0s]
  simp (disch := omega) only [decide_eq_true, decide_true, cond_true, wr, show ((0 : Int) + 1).toNat = 1 from rfl, if_neg]
  rw [L88x0s]
  simp (disch := omega) only [decide_eq_false, decide_false, cond_false]
  rw [Int.zero_add]
abbrev MeaOk (c : Cav) (m : Mea) : Prop := m.weights.len = c.slices.len ∧ (∀ i, i < c.slices.len → -1000 ≤ m.weights.el i ∧ m.weights.el i ≤ 1000) ∧ -1000 ≤ m.sump ∧ m.sump ≤ 1000
theorem mul_in {a b x y : Int} (h1 : -x ≤ a) (h2 : a ≤ x) (h3 : 0 ≤ b) (h4 : b ≤ y) : -(x * y) ≤ a * b ∧ a * b ≤ x * y := by
  have hx : 0 ≤ x := by omega
  constructor
  · have : -a * b ≤ x * y := Int.mul_le_mul (by omega) h4 h3 hx
    rw [Int.neg_mul] at this; omega
  · exact Int.mul_le_mul h2 h4 h3 hx
def firstS (c : Cav) (m : Mea) : Nat → Span
  | 0 => ⟨0, 0⟩
  | k + 1 => addS (firstS c m k) (timesS (c.slices.el k).vol (m.weights.el k))
theorem times_in {p : Span} {n x y : Int} (h1 : -x ≤ n) (h2 : n ≤ x) (h3 : 0 ≤ p.lo) (h4 : p.lo ≤ p.hi) (h5 : p.hi ≤ y) : (-(x * y) ≤ n * p.lo ∧ n * p.lo ≤ x * y) ∧ (-(x * y) ≤ n * p.hi ∧ n * p.hi ≤ x * y) := ⟨mul_in h1 h2 h3 (by omega), mul_in h1 h2 (by omega) h5⟩
theorem timesS_in {p : Span} {n z : Int} (h : (-z ≤ n * p.lo ∧ n * p.lo ≤ z) ∧ (-z ≤ n * p.hi ∧ n * p.hi ≤ z)) : (-z ≤ (timesS p n).lo ∧ (timesS p n).lo ≤ z) ∧ (-z ≤ (timesS p n).hi ∧ (timesS p n).hi ≤ z) := by
  unfold timesS
  split
  · exact ⟨h.2, h.1⟩
  · exact h
theorem vol_in {c : Cav} (hc : CavOk c) {m : Mea} (hm : MeaOk c m) {k : Nat} (h : k < c.slices.len) : (-10000000000000000 ≤ m.weights.el k * (c.slices.el k).vol.lo ∧ m.weights.el k * (c.slices.el k).vol.lo ≤ 10000000000000000) ∧ (-10000000000000000 ≤ m.weights.el k * (c.slices.el k).vol.hi ∧ m.weights.el k * (c.slices.el k).vol.hi ≤ 10000000000000000) := by
  have h1 := (hc.2.2.2 k h).1
  have h2 := hm.2.1 k h
  exact times_in (x := 1000) (y := 10000000000000) h2.1 h2.2 h1.1 h1.2.1 h1.2.2
theorem first_in {c : Cav} (hc : CavOk c) {m : Mea} (hm : MeaOk c m) : ∀ k, k ≤ c.slices.len → (-(10000000000000000 * (k : Int)) ≤ (firstS c m k).lo ∧ (firstS c m k).lo ≤ 10000000000000000 * k) ∧ (-(10000000000000000 * (k : Int)) ≤ (firstS c m k).hi ∧ (firstS c m k).hi ≤ 10000000000000000 * k) := by
  intro k
  induction k with
  | zero => intro _; simp [firstS]
  | succ k ih =>
    intro h
    have h1 := ih (by omega)
    have h2 := timesS_in (z := 10000000000000000) (vol_in hc hm (k := k) (by omega))
    simp only [firstS, addS]
    omega
theorem l92 (c : Cav) (hc : CavOk c) (m : Mea) (hm : MeaOk c m) (hF : 20 < F) : ∀ j k fu, k + j = c.slices.len → j < fu →
    L92x0 (E F (d + 1)) F c m fu k .i64 (firstS c m k).lo .i64 (firstS c m k).hi = some (.ret (.agg (eSpan (firstS c m c.slices.len)))) := by
  intro j
  have hl := hc.1
  have hw := hm.1
  induction j with
  | zero =>
    intro k fu h hf
    obtain ⟨fu, rfl⟩ : ∃ k, fu = k + 1 := ⟨fu - 1, by omega⟩
    rw [L92x0s]
    have hk : k = c.slices.len := by omega
    subst hk
    simp (disch := omega) only [decide_eq_false, decide_false, cond_false]
  | succ j ih =>
    intro k fu h hf
    obtain ⟨fu, rfl⟩ : ∃ k, fu = k + 1 := ⟨fu - 1, by omega⟩
    have h1 := vol_in hc hm (k := k) (by omega)
    have h2 := first_in hc hm k (by omega)
    have h3 := first_in hc hm (k + 1) (by omega)
    simp only [firstS, addS] at h3
    rw [L92x0s]
    have e5 := s85 F d (firstS c m k) (timesS (c.slices.el k).vol (m.weights.el k)) hF (by omega) (by omega) (by omega) (by omega)
    simp (disch := omega) only [decide_eq_true, decide_true, cond_true, Int.toNat_natCast, s86, tkOut_ret, tkAgg_a, tkCons_c, tkInt_i, tkNil_n, e5]
    rw [wrS (by omega)]
    exact ih (k + 1) fu (by omega) (by omega)
theorem s92 (c : Cav) (hc : CavOk c) (m : Mea) (hm : MeaOk c m) (hF : 20 < F) : (E F (d + 2)).pf 62 [.agg (eCav c), .agg (eMea m)] = some (.ret (.agg (eSpan (firstS c m c.slices.len)))) := by
  rw [E_pf, t92]
  have hl := hc.1
  exact l92 F d c hc m hm hF c.slices.len 0 F (by omega) (by omega)
section
variable {κ : Type} (ek ev : κ → V)
def encM (ks : List κ) : List (V × V) := ks.map fun k => (ek k, ev k)
variable {ek ev}
theorem mget_enc [DecidableEq κ] (he : ∀ a b, keyEq (ek a) (ek b) = decide (a = b)) (k : κ) : ∀ ks, mget (encM ek ev ks) (ek k) = if k ∈ ks then some (ev k) else none := by
  intro ks
  induction ks with
  | nil => rfl
  | cons a ks ih =>
    simp only [encM, List.map, mget, he]
    by_cases h : a = k
    · subst h; simp
    · rw [decide_eq_false h, cond_false]
      have : (k ∈ a :: ks) ↔ k ∈ ks := by simp [show ¬ k = a from fun e => h e.symm]
      simp only [this]
      exact ih
theorem mput_enc [DecidableEq κ] (he : ∀ a b, keyEq (ek a) (ek b) = decide (a = b)) (k : κ) : ∀ ks, k ∉ ks → mput (encM ek ev ks) (ek k) (ev k) = encM ek ev (ks ++ [k]) := by
  intro ks
  induction ks with
  | nil => intro _; rfl
  | cons a ks ih =>
    intro h
    simp only [encM, List.map, mput, he, List.cons_append]
    rw [decide_eq_false (fun e => h (by simp [e])), cond_false]
    exact congrArg _ (ih fun e => h (by simp [e]))
theorem encM_len (ks : List κ) : (encM ek ev ks).length = ks.length := by simp [encM]
end
end Go.Sim.Le


namespace Go.Sim.Le
open Go.Proofs
def bestLo (f : Int → Int) (a : Int) : Nat → Int
  | 0 => f a
  | j + 1 => min (bestLo f a j) (f (a + ((j + 1 : Nat) : Int)))
def bestHi (f : Int → Int) (a : Int) : Nat → Int
  | 0 => f a
  | j + 1 => max (bestHi f a j) (f (a + ((j + 1 : Nat) : Int)))
def restS (c : Cav) (m : Mea) (s : Stg) : Nat → Int → Span
  | 0, _ => ⟨0, 0⟩
  | r + 1, b =>
    let x := slAt c s (pathN s - (r + 1))
    let g := gainI c m (pathAt s (pathN s - (r + 1))).toNat
    let a := min x.rate.lo b
    ⟨bestLo (fun n => (restS c m s r (b - n)).lo + n * g) a (min x.rate.hi b - a).toNat, bestHi (fun n => (restS c m s r (b - n)).hi + n * g) a (min x.rate.hi b - a).toNat⟩
theorem bestLo_in {f : Int → Int} {a L H : Int} : ∀ j : Nat, (∀ n, a ≤ n → n ≤ a + j → L ≤ f n ∧ f n ≤ H) → L ≤ bestLo f a j ∧ bestLo f a j ≤ H := by
  intro j
  induction j with
  | zero => intro h; exact h a (by omega) (by omega)
  | succ j ih =>
    intro h
    have h1 := ih fun n h1 h2 => h n h1 (by omega)
    have h2 := h (a + ((j + 1 : Nat) : Int)) (by omega) (by omega)
    simp only [bestLo]
    omega
theorem bestHi_in {f : Int → Int} {a L H : Int} : ∀ j : Nat, (∀ n, a ≤ n → n ≤ a + j → L ≤ f n ∧ f n ≤ H) → L ≤ bestHi f a j ∧ bestHi f a j ≤ H := by
  intro j
  induction j with
  | zero => intro h; exact h a (by omega) (by omega)
  | succ j ih =>
    intro h
    have h1 := ih fun n h1 h2 => h n h1 (by omega)
    have h2 := h (a + ((j + 1 : Nat) : Int)) (by omega) (by omega)
    simp only [bestHi]
    omega
theorem gain_in {c : Cav} (hc : CavOk c) {m : Mea} (hm : MeaOk c m) {k : Nat} (h : k < c.slices.len) : (-3000000 ≤ (c.slices.el k).opn * m.weights.el k ∧ (c.slices.el k).opn * m.weights.el k ≤ 3000000) ∧ (-3000000 ≤ (c.slices.el k).fall * m.sump ∧ (c.slices.el k).fall * m.sump ≤ 3000000) ∧ -6000000 ≤ gainI c m k ∧ gainI c m k ≤ 6000000 := by
  have h1 := hc.2.2.2 k h
  have h2 := hm.2.1 k h
  have h3 := hm.2.2
  obtain ⟨_, ⟨h4, h5⟩, ⟨h6, h7⟩, _⟩ := h1
  have e1 := mul_in (a := m.weights.el k) (b := (c.slices.el k).opn) (x := 1000) (y := 3000) h2.1 h2.2 (by omega) h5
  have e2 := mul_in (a := m.sump) (b := (c.slices.el k).fall) (x := 1000) (y := 3000) h3.1 h3.2 h6 (by omega)
  rw [Int.mul_comm] at e1 e2
  unfold gainI
  rw [Int.mul_comm] at e1 e2
  rw [Int.mul_comm (c.slices.el k).opn, Int.mul_comm (c.slices.el k).fall]
  omega
theorem mulg {n g z : Int} (h0 : 0 ≤ n) (h1 : -z ≤ g) (h2 : g ≤ z) : -(z * n) ≤ n * g ∧ n * g ≤ z * n := by
  have a := Int.mul_le_mul_of_nonneg_left h1 h0
  have b := Int.mul_le_mul_of_nonneg_left h2 h0
  rw [Int.mul_neg] at a
  rw [Int.mul_comm z n]
  omega
theorem rest_in {c : Cav} (hc : CavOk c) {m : Mea} (hm : MeaOk c m) {s : Stg} (hs : StgOk c.slices.len s) : ∀ r, r ≤ pathN s → ∀ b, 0 ≤ b → (-(6000000 * b) ≤ (restS c m s r b).lo ∧ (restS c m s r b).lo ≤ 6000000 * b) ∧ (-(6000000 * b) ≤ (restS c m s r b).hi ∧ (restS c m s r b).hi ≤ 6000000 * b) := by
  intro r
  induction r with
  | zero => intro _ b h; simp only [restS]; omega
  | succ r ih =>
    intro h b hb
    have hk := pathAt_in hs (k := pathN s - (r + 1)) (by omega)
    have hg := (gain_in hc hm (k := (pathAt s (pathN s - (r + 1))).toNat) (by omega)).2.2
    have ho : SpanIn (slAt c s (pathN s - (r + 1))).rate 0 300 := (slcOk_at hc hs (k := pathN s - (r + 1)) (by omega)).2.2.2.1
    unfold SpanIn at ho
    simp only [restS]
    generalize (slAt c s (pathN s - (r + 1))).rate.lo = lo at ho ⊢
    generalize (slAt c s (pathN s - (r + 1))).rate.hi = hi at ho ⊢
    generalize gainI c m (pathAt s (pathN s - (r + 1))).toNat = g at hg ⊢
    constructor
    · refine bestLo_in _ fun n h1 h2 => ?_
      have h3 := (ih (by omega) (b - n) (by omega)).1
      have h4 := mulg (n := n) (by omega) hg.1 hg.2
      omega
    · refine bestHi_in _ fun n h1 h2 => ?_
      have h3 := (ih (by omega) (b - n) (by omega)).2
      have h4 := mulg (n := n) (by omega) hg.1 hg.2
      omega
section
variable (c : Cav) (m : Mea) (s : Stg)
def mK (p : Nat × Int) : V := .agg [.int .i64 p.1, .int .i64 p.2]
def mV (p : Nat × Int) : V := .agg (eSpan (restS c m s (pathN s - p.1) p.2))
abbrev Mem (ks : List (Nat × Int)) : Prop := ks.Nodup ∧ ∀ p ∈ ks, p.1 < 10 ∧ 0 ≤ p.2 ∧ p.2 ≤ 300
theorem mK_eq (p q : Nat × Int) : keyEq (mK p) (mK q) = decide (p = q) := by
  obtain ⟨a, b⟩ := p
  obtain ⟨a', b'⟩ := q
  apply b2
  simp [mK, keyEq, keysEq, keyEq1]
  omega
theorem mem_len {ks : List (Nat × Int)} (h : Mem ks) : ks.length ≤ 3010 := by
  have h1 : ks ⊆ (List.range 10).flatMap fun i => (List.range 301).map fun j => (i, ((j : Nat) : Int)) := by
    intro p hp
    obtain ⟨a1, a2, a3⟩ := h.2 p hp
    simp only [List.mem_flatMap, List.mem_range, List.mem_map]
    refine ⟨p.1, a1, p.2.toNat, by omega, ?_⟩
    rw [Int.toNat_of_nonneg a2]
  have h2 := h.1.length_le_of_subset h1
  rw [show ((List.range 10).flatMap fun i => (List.range 301).map fun j => (i, ((j : Nat) : Int))).length = 3010 by decide +kernel] at h2
  exact h2
abbrev memH (N : Nat) (es : List (V × V)) : List Slot := [.box 26 [.osl 5 0 N] true, .box 128 [.mapr 6] true, .box 89 (eCav c) true, .box 95 (eMea m) true, .box 129 [.fn (.func 78) [] [.optr 0 0 0, .optr 1 0 0, .optr 2 0 0, .optr 3 0 0, .optr 4 0 0]] true, .arr 3 1 N (fun i => eInt ((pathSl s).el i)) true, .mp true [.int .i64, .int .i64] es true]
end
theorem p63 : (2 : Int) ^ 63 = 9223372036854775808 := rfl
theorem samO (N : Nat) : sameV 8 (.osl 5 0 N) (.osl 5 0 N) = true := by simp only [sameV, Nat.beq_refl, Bool.and_self]
theorem samM : sameV 8 (.mapr 6) (.mapr 6) = true := rfl
theorem samF : sameV 8 (.fn (.func 78) [] [.optr 0 0 0, .optr 1 0 0, .optr 2 0 0, .optr 3 0 0, .optr 4 0 0]) (.fn (.func 78) [] [.optr 0 0 0, .optr 1 0 0, .optr 2 0 0, .optr 3 0 0, .optr 4 0 0]) = true := rfl
theorem ks2 : ksEq [.int .i64, .int .i64] [.int .i64, .int .i64] = true := rfl
variable (F d : Nat)
theorem mput_mem {κ : Type} [DecidableEq κ] {ek ev : κ → V} (he : ∀ a b, keyEq (ek a) (ek b) = decide (a = b)) (k : κ) : ∀ ks, k ∈ ks → mput (encM ek ev ks) (ek k) (ev k) = encM ek ev ks := by
  intro ks
  induction ks with
  | nil => intro h; simp at h
  | cons a ks ih =>
    intro h
    simp only [encM, List.map, mput, he]
    by_cases e : a = k
    · rw [decide_eq_true e, cond_true, e]
    · rw [decide_eq_false e, cond_false]
      refine congrArg _ (ih ?_)
      rcases List.mem_cons.1 h with h | h
      · exact (e h.symm).elim
      · exact h
theorem mput_some {κ : Type} [DecidableEq κ] {ek ev : κ → V} (he : ∀ a b, keyEq (ek a) (ek b) = decide (a = b)) {P : κ → Prop} (k : κ) (hk : P k) {ks : List κ} (h : ks.Nodup ∧ ∀ p ∈ ks, P p) :
    ∃ ks', (ks'.Nodup ∧ ∀ p ∈ ks', P p) ∧ mput (encM ek ev ks) (ek k) (ev k) = encM ek ev ks' := by
  by_cases hm : k ∈ ks
  · exact ⟨ks, h, mput_mem he k ks hm⟩
  · refine ⟨ks ++ [k], ⟨?_, ?_⟩, mput_enc he k ks hm⟩
    · rw [List.nodup_append]
      exact ⟨h.1, by simp, fun a ha b hb e => hm (by rw [List.mem_singleton] at hb; rw [← hb, ← e]; exact ha)⟩
    · intro p hp
      rcases List.mem_append.1 hp with hp | hp
      · exact h.2 p hp
      · rw [List.mem_singleton] at hp; rw [hp]; exact hk
end Go.Sim.Le


namespace Go.Sim.Le
open Go.Proofs
variable (F d : Nat)
theorem l109 {c : Cav} (hc : CavOk c) {m : Mea} (hm : MeaOk c m) {s : Stg} (hs : StgOk c.slices.len s) (D r k : Nat) (hk : k + (r + 1) = pathN s) (b : Int) (hb : 0 ≤ b ∧ b ≤ 300) (es : List (V × V))
    (IH : ∀ b ks, 0 ≤ b → b ≤ 300 → Mem ks → ∃ ks', Mem ks' ∧ (E F D).hv 78 [.agg [.int .i64 ((k + 1 : Nat) : Int), .int .i64 b], .optr 0 0 0, .optr 1 0 0, .optr 2 0 0, .optr 3 0 0, .optr 4 0 0] (memH c m s (pathN s) (encM mK (mV c m s) ks)) = some (.ret (.agg (eSpan (restS c m s r b))), memH c m s (pathN s) (encM mK (mV c m s) ks'))) :
    let x := slAt c s k
    let g := gainI c m (pathAt s k).toNat
    let a := min x.rate.lo b
    let fl := fun n => (restS c m s r (b - n)).lo + n * g
    let fh := fun n => (restS c m s r (b - n)).hi + n * g
    ∀ j t fu ks, t + j = (min x.rate.hi b - a).toNat → j < fu → Mem ks → ∃ ks', Mem ks' ∧
      L109x0 (E F D) F c m k b (pathN s) (pathSl s).el es fu .i64 g (a + ((t + 1 : Nat) : Int)) .i64 (bestLo fl a t) .i64 (bestHi fh a t) c.slices.nl c.slices.len 7 (fun u => eSlc (c.slices.el u)) .i64 c.hold .i64 c.oil m.weights.nl m.weights.len 1 (fun u => [.int .i64 (m.weights.el u)]) .i64 m.sump (fun u => [.int .i64 ((pathSl s).el u)]) (encM mK (mV c m s) ks)
        = some (.ret (.agg (eSpan (restS c m s (r + 1) b))), memH c m s (pathN s) (encM mK (mV c m s) ks')) := by
  intro x g a fl fh
  have hp := pathN_le hs
  have hin := pathAt_in hs (k := k) (by omega)
  have hl := hc.1
  have hg : -6000000 ≤ g ∧ g ≤ 6000000 := (gain_in hc hm (k := (pathAt s k).toNat) (by omega)).2.2
  have ho : SpanIn (c.slices.el (pathAt s k).toNat).rate 0 300 := (slcOk_at hc hs (k := k) (by omega)).2.2.2.1
  unfold SpanIn at ho
  have hkN : pathN s - (r + 1) = k := by omega
  have hR := fun b h => rest_in hc hm hs r (by omega) b h
  have ha : a = min (c.slices.el (pathAt s k).toNat).rate.lo b := rfl
  have hx : x.rate.hi = (c.slices.el (pathAt s k).toNat).rate.hi := rfl
  have hE : restS c m s (r + 1) b = ⟨bestLo fl a (min x.rate.hi b - a).toNat, bestHi fh a (min x.rate.hi b - a).toNat⟩ := by
    rw [restS, hkN]
  intro j
  induction j with
  | zero =>
    intro t fu ks h hf hM
    obtain ⟨fu, rfl⟩ : ∃ k, fu = k + 1 := ⟨fu - 1, by omega⟩
    have hlen := mem_len hM
    obtain ⟨ks', hM', e'⟩ := mput_some (ev := mV c m s) mK_eq (P := fun p => p.1 < 10 ∧ 0 ≤ p.2 ∧ p.2 ≤ 300) (k, b) ⟨by omega, hb.1, hb.2⟩ hM
    refine ⟨ks', hM', ?_⟩
    rw [L109x0s]
    simp (disch := omega) only [Int.toNat_natCast, pathSl_el, mnE]
    rw [decide_eq_false (by omega), cond_false]
    simp (disch := omega) only [p63, decide_eq_true, decide_true, Bool.and_self, cond_true, encM_len]
    have ht : t = (min x.rate.hi b - a).toNat := by omega
    have e2 : (V.agg [.int .i64 (bestLo fl a t), .int .i64 (bestHi fh a t)]) = mV c m s (k, b) := by
      simp only [mV]
      rw [show pathN s - k = r + 1 by omega, hE, ht]
    have e3 : (V.agg [.int .i64 ((k : Nat) : Int), .int .i64 b]) = mK (k, b) := rfl
    rw [e2, e3, e', hE, ← ht, ← e2]
  | succ j ih =>
    intro t fu ks h hf hM
    obtain ⟨fu, rfl⟩ : ∃ k, fu = k + 1 := ⟨fu - 1, by omega⟩
    obtain ⟨ks1, hM1, e1⟩ := IH (b - (a + ((t + 1 : Nat) : Int))) ks (by omega) (by omega) hM
    obtain ⟨ks', hM', e'⟩ := ih (t + 1) fu ks1 (by omega) (by omega) hM1
    refine ⟨ks', hM', ?_⟩
    have hr := hR (b - (a + ((t + 1 : Nat) : Int))) (by omega)
    have hng := mulg (n := a + ((t + 1 : Nat) : Int)) (by omega) hg.1 hg.2
    rw [L109x0s]
    simp (disch := omega) only [Int.toNat_natCast, pathSl_el, mnE]
    rw [decide_eq_true (by omega), cond_true, wrS (by omega), wr (show _ ∧ _ by omega)]
    simp only [memH, eInt] at e1
    simp only [e1, tkHv_h, tkAgg_a, tkCons_c, tkInt_i, tkNil_n, tkSCons_c, tkBox_b, Nat.beq_refl, Bool.and_self, beq_self_eq_true, cond_true, samO, samM, samF, ks2, tkRow_r, tkArr_a, tkMp_m, tkSNil_n, decide_true]
    rw [show (a + ((t + 1 : Nat) : Int) == min (c.slices.el (pathAt s k).toNat).rate.lo b) = false by rw [beq_eq_false_iff_ne]; omega, cond_false]
    rw [wr (n := a + ((t + 1 : Nat) : Int) + 1) (show _ ∧ _ by omega), wr (n := (a + ((t + 1 : Nat) : Int)) * g) (show _ ∧ _ by omega), wr (show _ ∧ _ by omega), wr (show _ ∧ _ by omega)]
    simp only [mnE, mxE]
    rw [show a + ((t + 1 : Nat) : Int) + 1 = a + ((t + 1 + 1 : Nat) : Int) by omega]
    exact e'
theorem s109 {c : Cav} (hc : CavOk c) {m : Mea} (hm : MeaOk c m) {s : Stg} (hs : StgOk c.slices.len s) (hF : 400 < F) : ∀ r k D, k + r = pathN s → ∀ b ks, 0 ≤ b → b ≤ 300 → Mem ks → ∃ ks', Mem ks' ∧
    (E F (D + r + 2)).hv 78 [.agg [.int .i64 ((k : Nat) : Int), .int .i64 b], .optr 0 0 0, .optr 1 0 0, .optr 2 0 0, .optr 3 0 0, .optr 4 0 0] (memH c m s (pathN s) (encM mK (mV c m s) ks)) = some (.ret (.agg (eSpan (restS c m s r b))), memH c m s (pathN s) (encM mK (mV c m s) ks')) := by
  intro r
  induction r with
  | zero =>
    intro k D hk b ks h0 h1 hM
    refine ⟨ks, hM, ?_⟩
    rw [E_hv, t109]
    rw [show ((k : Int) == (pathN s : Int)) = true by rw [beq_iff_eq]; omega, cond_true]
    rfl
  | succ r ih =>
    intro k D hk b ks h0 h1 hM
    have hp := pathN_le hs
    have hin := pathAt_in hs (k := k) (by omega)
    have hl := hc.1
    have hG := gain_in hc hm (k := (pathAt s k).toNat) (by omega)
    have hg := hG.2.2
    have ho : SpanIn (c.slices.el (pathAt s k).toNat).rate 0 300 := (slcOk_at hc hs (k := k) (by omega)).2.2.2.1
    unfold SpanIn at ho
    rw [show D + (r + 1) + 2 = (D + r + 2) + 1 by omega, E_hv, t109]
    rw [show ((k : Int) == (pathN s : Int)) = false by rw [beq_eq_false_iff_ne]; omega, cond_false]
    simp (disch := omega) only [p63, decide_eq_true, decide_true, Bool.and_self, cond_true, Int.toNat_natCast, pathSl_el]
    rw [show (V.agg [.int .i64 ((k : Nat) : Int), .int .i64 b]) = mK (k, b) from rfl, mget_enc mK_eq]
    by_cases hmem : (k, b) ∈ ks
    · rw [if_pos hmem]
      refine ⟨ks, hM, ?_⟩
      simp only [tkOpt, mV, tkAgg_a, tkCons_c, tkInt_i, tkNil_n]
      rw [show pathN s - k = r + 1 by omega]
    · rw [if_neg hmem]
      have IH := fun b ks => ih (k + 1) D (by omega) b ks
      obtain ⟨ks1, hM1, e1⟩ := IH (b - min (c.slices.el (pathAt s k).toNat).rate.lo b) ks (by omega) (by omega) hM
      obtain ⟨ks', hM', e'⟩ := l109 F hc hm hs (D + r + 2) r k hk b ⟨h0, h1⟩ (encM mK (mV c m s) ks) IH (min (c.slices.el (pathAt s k).toNat).rate.hi b - min (c.slices.el (pathAt s k).toNat).rate.lo b).toNat 0 (F - 1) ks1 (by simp [slAt]) (by omega) hM1
      refine ⟨ks', hM', ?_⟩
      have hr := rest_in hc hm hs r (by omega) (b - min (c.slices.el (pathAt s k).toNat).rate.lo b) (by omega)
      have hng := mulg (n := min (c.slices.el (pathAt s k).toNat).rate.lo b) (by omega) hg.1 hg.2
      have e110 := s110 F (D + r + 1) c m (pathAt s k) hin.1 hin.2 hm.1 (by omega) (by omega) (by omega)
      simp only [tkOpt]
      rw [e110]
      simp only [tkOut_ret, tkInt_i]
      obtain ⟨F, rfl⟩ : ∃ k, F = k + 1 := ⟨F - 1, by omega⟩
      rw [L109x0s]
      simp (disch := omega) only [Int.toNat_natCast, pathSl_el, mnE]
      rw [decide_eq_true (by omega), cond_true, wrS (by omega), wr (show _ ∧ _ by omega)]
      simp only [memH, eInt] at e1
      simp only [e1, tkHv_h, tkAgg_a, tkCons_c, tkInt_i, tkNil_n, tkSCons_c, tkBox_b, Nat.beq_refl, Bool.and_self, beq_self_eq_true, cond_true, samO, samM, samF, ks2, tkRow_r, tkArr_a, tkMp_m, tkSNil_n, decide_true]
      rw [wr (n := min (c.slices.el (pathAt s k).toNat).rate.lo b + 1) (show _ ∧ _ by omega), wr (n := (min (c.slices.el (pathAt s k).toNat).rate.lo b) * gainI c m (pathAt s k).toNat) (show _ ∧ _ by omega), wr (show _ ∧ _ by omega), wr (show _ ∧ _ by omega)]
      simp only [mnE, mxE, Int.min_self, Int.max_self]
      exact e'
end Go.Sim.Le


namespace Go.Sim.Le
open Go.Proofs
variable (F d : Nat)
def grownS (c : Cav) (m : Mea) (s : Stg) : Span := timesS (restS c m s (pathN s) c.hold) s.water
theorem grown_in {c : Cav} (hc : CavOk c) {m : Mea} (hm : MeaOk c m) {s : Stg} (hs : StgOk c.slices.len s) : ((-1800000000000000 ≤ s.water * (restS c m s (pathN s) c.hold).lo ∧ s.water * (restS c m s (pathN s) c.hold).lo ≤ 1800000000000000) ∧ -1800000000000000 ≤ s.water * (restS c m s (pathN s) c.hold).hi ∧ s.water * (restS c m s (pathN s) c.hold).hi ≤ 1800000000000000) ∧
    (-1800000000000000 ≤ (grownS c m s).lo ∧ (grownS c m s).lo ≤ 1800000000000000) ∧ -1800000000000000 ≤ (grownS c m s).hi ∧ (grownS c m s).hi ≤ 1800000000000000 := by
  have h1 := rest_in hc hm hs (pathN s) (Nat.le_refl _) c.hold (by have := hc.2.1; omega)
  have h2 := hc.2.1
  have h3 := hs.1
  have e1 := mul_in (a := (restS c m s (pathN s) c.hold).lo) (b := s.water) (x := 1800000000) (y := 1000000) (by omega) (by omega) (by omega) (by omega)
  have e2 := mul_in (a := (restS c m s (pathN s) c.hold).hi) (b := s.water) (x := 1800000000) (y := 1000000) (by omega) (by omega) (by omega) (by omega)
  rw [Int.mul_comm (restS c m s (pathN s) c.hold).lo] at e1
  rw [Int.mul_comm (restS c m s (pathN s) c.hold).hi] at e2
  have e3 : (-1800000000000000 ≤ s.water * (restS c m s (pathN s) c.hold).lo ∧ s.water * (restS c m s (pathN s) c.hold).lo ≤ 1800000000000000) ∧ -1800000000000000 ≤ s.water * (restS c m s (pathN s) c.hold).hi ∧ s.water * (restS c m s (pathN s) c.hold).hi ≤ 1800000000000000 := ⟨by omega, by omega⟩
  exact ⟨e3, timesS_in e3⟩
theorem l93 {c : Cav} (hc : CavOk c) {m : Mea} (hm : MeaOk c m) {s : Stg} (hs : StgOk c.slices.len s) (hF : 400 < F) : ∀ j k fu, k + 1 + j = pathN s → 1 ≤ k → j < fu →
    L93x1 (E F (d + 12)) F c s m fu (fun _ => eStg s) (stepOf s) .i64 (pathAt s k) k k (gl eInt 0 (pathL s k)) (fun _ => eStg s) = some (.ret (.agg (eSpan (grownS c m s)))) := by
  intro j
  have hp := pathN_le hs
  have hl := hc.1
  have hH := hc.2.1
  induction j with
  | zero =>
    intro k fu h hk hf
    obtain ⟨fu, rfl⟩ : ∃ k, fu = k + 1 := ⟨fu - 1, by omega⟩
    have hk' : k = pathN s - 1 := by omega
    have e1 : pathAt s k = s.out := by rw [hk', pathAt_last]
    have e2 : k + 1 = pathN s := by omega
    have hg := grown_in hc hm hs
    obtain ⟨ks', _, e9⟩ := s109 F hc hm hs hF (pathN s) 0 (d + 10 - pathN s) (by omega) c.hold [] (by omega) (by omega) ⟨List.nodup_nil, by simp⟩
    rw [show d + 10 - pathN s + pathN s + 2 = d + 12 by omega] at e9
    have e3 : appGet k (gl eInt 0 (pathL s k)) (fun _ => [.int .i64 (pathAt s k)]) = fun i => eInt ((pathSl s).el i) := by
      refine (gl_snoc (m := pathAt s k) (e := eInt) (pathL_len s k) rfl).trans ?_
      rw [← pathL_S, e2]; rfl
    rw [L93x1s, e3, e2]
    simp (disch := omega) only [decide_eq_true, decide_true, pT, List.drop, tkCons_c, tkInt_i, show (pathAt s k != s.out) = false by simp [e1], pF]
    simp only [memH, eInt, encM, List.map, Int.natCast_zero] at e9
    simp only [e9, tkHv_h, tkAgg_a, tkCons_c, tkInt_i, tkNil_n, tkSCons_c, tkBox_b, Nat.beq_refl, Bool.and_self, beq_self_eq_true, pT, samO, samM, samF, ks2, tkRow_r, tkArr_a, tkMp_m, tkSNil_n, decide_true]
    rw [s86 F (d + 11) (restS c m s (pathN s) c.hold) s.water (by omega) (by omega)]
    simp only [tkOut_ret, tkAgg_a, tkCons_c, tkInt_i, tkNil_n]
    rfl
  | succ j ih =>
    intro k fu h hk hf
    obtain ⟨fu, rfl⟩ : ∃ k, fu = k + 1 := ⟨fu - 1, by omega⟩
    have hne : (pathAt s k != s.out) = true := by
      have := pathAt_ne s (k := k) (by omega)
      simpa using this
    have hS : pathAt s k + stepOf s = pathAt s (k + 1) := by rw [← pathAt_S]
    have hin2 := pathAt_in hs (k := k + 1) (by omega)
    rw [L93x1s]
    simp (disch := omega) only [wr, decide_eq_true, decide_true, pT, List.drop, tkCons_c, tkInt_i, hne, hS]
    have e3 : appGet k (gl eInt 0 (pathL s k)) (fun _ => [.int .i64 (pathAt s k)]) = gl eInt 0 (pathL s (k + 1)) := by
      refine (gl_snoc (m := pathAt s k) (e := eInt) (pathL_len s k) rfl).trans ?_
      rw [← pathL_S]
    rw [e3]
    exact ih (k + 1) fu (by omega) (by omega) (by omega)
theorem s93 {c : Cav} (hc : CavOk c) {m : Mea} (hm : MeaOk c m) {s : Stg} (hs : StgOk c.slices.len s) (hF : 400 < F) : (E F (d + 13)).pf 64 [.agg (eCav c), .agg (eStg s), .agg (eMea m)] = some (.ret (.agg (eSpan (grownS c m s)))) := by
  have hl := hc.1
  have hp := pathN_le hs
  have hne : 2 ≤ pathN s := by
    have := hs.2.2.2.1
    unfold pathN; split <;> omega
  have hne2 : (s.into != s.out) = true := by have := hs.2.2.2.1; simpa using this
  obtain ⟨F, rfl⟩ : ∃ k, F = k + 1 := ⟨F - 1, by omega⟩
  have h := l93 (F + 1) d hc hm hs hF (pathN s - 2) 1 F (by omega) (by omega) (by omega)
  have hin2 := pathAt_in hs (k := 1) (by omega)
  have hS : s.into + stepOf s = pathAt s 1 := by rw [← pathAt_0 s, ← pathAt_S]
  have h1 : (fun _ : Nat => [V.int .i64 s.into]) = gl eInt 0 (pathL s 1) := by
    rw [show pathL s 1 = [s.into] by simp [pathL, pathAt_0]]
    exact gl_one rfl
  rw [E_pf, t93]
  simp (disch := omega) only [decide_eq_true, decide_true, pT, s68, tkOut_ret, tkFn_f, tkNil_n, tkCons_c, tkPtr_p, tkInt_i, Nat.beq_refl, Bool.and_self]
  unfold stepOf at h hS
  by_cases hd : s.out < s.into
  · rw [if_pos hd] at h hS
    rw [decide_eq_true hd, pT, L93x0s]
    simp (disch := omega) only [wr, decide_true, pT, List.drop, tkCons_c, tkInt_i, hne2, hS, h1]
    exact h
  · rw [if_neg hd] at h hS
    rw [decide_eq_false hd, pF, L93x0s]
    simp (disch := omega) only [wr, decide_true, pT, List.drop, tkCons_c, tkInt_i, hne2, hS, h1]
    exact h
def boundS (c : Cav) (l : Nat → Stg) (m : Mea) : Nat → Span
  | 0 => firstS c m c.slices.len
  | k + 1 => addS (boundS c l m k) (grownS c m (l k))
theorem bound_in {c : Cav} (hc : CavOk c) {m : Mea} (hm : MeaOk c m) {n : Nat} {l : Nat → Stg} (hl : ∀ i, i < n → StgOk c.slices.len (l i)) : ∀ k, k ≤ n → (-(100000000000000000 + 1800000000000000 * (k : Int)) ≤ (boundS c l m k).lo ∧ (boundS c l m k).lo ≤ 100000000000000000 + 1800000000000000 * (k : Int)) ∧ (-(100000000000000000 + 1800000000000000 * (k : Int)) ≤ (boundS c l m k).hi ∧ (boundS c l m k).hi ≤ 100000000000000000 + 1800000000000000 * (k : Int)) := by
  intro k
  induction k with
  | zero =>
    intro _
    have h1 := first_in hc hm c.slices.len (Nat.le_refl _)
    have h2 := hc.1
    simp only [boundS]
    omega
  | succ k ih =>
    intro h
    have h1 := ih (by omega)
    have h2 := (grown_in hc hm (hl k (by omega))).2
    simp only [boundS, addS]
    omega
theorem l62 {c : Cav} (hc : CavOk c) {m : Mea} (hm : MeaOk c m) (l : Sl Stg) (hn : l.len ≤ 1000) (hl : ∀ i, i < l.len → StgOk c.slices.len (l.el i)) (hF : 400 < F) : ∀ j k fu, k + j = l.len → j < fu →
    L62x0 (E F (d + 13)) F c l m fu k .i64 (boundS c l.el m k).lo .i64 (boundS c l.el m k).hi = some (.ret (.agg (eSpan (boundS c l.el m l.len)))) := by
  intro j
  induction j with
  | zero =>
    intro k fu h hf
    obtain ⟨fu, rfl⟩ : ∃ k, fu = k + 1 := ⟨fu - 1, by omega⟩
    rw [L62x0s]
    have hk : k = l.len := by omega
    rw [hk]
    simp (disch := omega) only [decide_eq_false, decide_false, pF]
  | succ j ih =>
    intro k fu h hf
    obtain ⟨fu, rfl⟩ : ∃ k, fu = k + 1 := ⟨fu - 1, by omega⟩
    have h2 := bound_in hc hm hl k (by omega)
    have h3 := bound_in hc hm hl (k + 1) (by omega)
    simp only [boundS, addS] at h3
    have e5 := s85 F (d + 12) (boundS c l.el m k) (grownS c m (l.el k)) (by omega) (by omega) (by omega) (by omega) (by omega)
    have e6 := s93 F d hc hm (hl k (by omega)) hF
    rw [L62x0s]
    simp (disch := omega) only [decide_eq_true, decide_true, pT, Int.toNat_natCast, tkOut_ret, tkAgg_a, tkCons_c, tkInt_i, tkNil_n, e5, e6]
    rw [wrS (by omega)]
    exact ih (k + 1) fu (by omega) (by omega)
theorem s62 {c : Cav} (hc : CavOk c) {m : Mea} (hm : MeaOk c m) (l : Sl Stg) (hn : l.len ≤ 300) (hl : ∀ i, i < l.len → StgOk c.slices.len (l.el i)) (hF : 400 < F) :
    (E F (d + 14)).pf 37 [.agg (eCav c), sl eStg 4 l, .agg (eMea m)] = some (.ret (.agg (eSpan (boundS c l.el m l.len)))) := by
  rw [E_pf, t62]
  simp only [s92 F (d + 11) c hc m hm (by omega), tkOut_ret, tkAgg_a, tkCons_c, tkInt_i, tkNil_n]
  exact l62 F d hc hm l (by omega) hl hF l.len 0 F (by omega) (by omega)
end Go.Sim.Le


namespace Go.Sim.Le
open Go.Proofs
theorem upd_int (r : Nat → Int) (n : Nat) (p : Int) : updGet (fun j => eInt (r j)) n 0 (eInt p) = fun j => eInt (if j = n then p else r j) := by
  funext j
  unfold updGet
  by_cases h : j = n
  · rw [if_pos h, if_pos h]; rfl
  · rw [if_neg h, if_neg h]
variable (F d : Nat)
section
variable {c : Cav} (hc : CavOk c) {m : Mea} (hm : MeaOk c m) {s : Stg} (hs : StgOk c.slices.len s) (w : Sl Int) (hwl : w.len = c.slices.len) (hw : ∀ i, i < c.slices.len → w.el i = gainI c m i)
include hc hm hs hwl hw
end
end Go.Sim.Le


namespace Go.Sim.Le
open Go.Proofs
variable (F d : Nat)
theorem s22 (c : Cav) (l : Sl Stg) (w : Sl Int) (n : Int) (hC : c.slices.len < Big) (hCF : c.slices.len < F) (hB : l.len < Big) (hLF : l.len < F) (hW : w.len < Big) (hWF : w.len < F) (hF : 400 < F) :
    (E F (d + 15)).pf 15 [.agg (eCav c), sl eStg 4 l, sl eInt 1 w, .int .i64 n] =
    some (.ret (.tup (if errP c l (decide (WtOk c w n)) = 0 then [.agg (eSpan (boundS c l.el ⟨w, n⟩ l.len)), .int .i64 0] else [.agg [.int .i64 0, .int .i64 0], .int .i64 (errP c l (decide (WtOk c w n)))]))) := by
  rw [E_pf, t22]
  simp only [s57e F (d + 7) c l hC hCF hB hLF, tkOut_ret, tkInt_i, decide_true, pT]
  by_cases h0 : errP c l true = 0
  · have h0' : 8 ≥ l.len ∧ CavOk c ∧ ∀ i, i < l.len → StgOk c.slices.len (l.el i) := by
      unfold errP at h0
      split at h0
      · omega
      · rename_i h8
        split at h0
        · rename_i h9; exact ⟨by omega, h9.1, h9.2.1⟩
        · omega
    obtain ⟨h8, hc, hl⟩ := h0'
    rw [h0, show ((0 : Int) != 0) = false from rfl, pF]
    by_cases hw : w.len = c.slices.len
    · have e1 : ((w.len : Int) != (c.slices.len : Int)) = false := by rw [hw]; simp
      rw [e1, pF, s58 F (d + 12)]
      simp only [tkOut_ret, tkBool_b]
      by_cases hn : -1000 ≤ n ∧ n ≤ 1000
      · rw [decide_eq_true hn, Bool.not_true, pF, s6061 F (d + 9) w hW hWF]
        simp only [tkOut_ret, tkBool_b]
        by_cases ha : ∀ i, i < w.len → -1000 ≤ w.el i ∧ w.el i ≤ 1000
        · have hm : MeaOk c ⟨w, n⟩ := ⟨hw, fun i hi => ha i (by omega), hn.1, hn.2⟩
          have hk : WtOk c w n := ⟨ha, hw, hn⟩
          rw [decide_eq_true ha, Bool.not_true, pF]
          have e2 := s62 F d hc hm l (by omega) hl hF
          simp only [eMea] at e2
          rw [e2]
          simp only [tkOut_ret, tkAgg_a, tkCons_c, tkInt_i, tkNil_n]
          rw [decide_eq_true hk, h0, if_pos rfl]
        · have hk : ¬ WtOk c w n := fun h => ha h.1
          rw [decide_eq_false ha, Bool.not_false, pT]
          have e3 : errP c l (decide (WtOk c w n)) = 2 := by rw [decide_eq_false hk]; unfold errP; rw [if_neg (by omega), if_neg (fun h => by cases h.2.2)]
          rw [e3]; rfl
      · have hk : ¬ WtOk c w n := fun h => hn h.2.2
        rw [decide_eq_false hn, Bool.not_false, pT]
        have e3 : errP c l (decide (WtOk c w n)) = 2 := by rw [decide_eq_false hk]; unfold errP; rw [if_neg (by omega), if_neg (fun h => by cases h.2.2)]
        rw [e3]; rfl
    · have e1 : ((w.len : Int) != (c.slices.len : Int)) = true := by simp; omega
      have hk : ¬ WtOk c w n := fun h => hw h.2.1
      rw [e1, pT]
      have e3 : errP c l (decide (WtOk c w n)) = 2 := by rw [decide_eq_false hk]; unfold errP; rw [if_neg (by omega), if_neg (fun h => by cases h.2.2)]
      rw [e3]; rfl
  · have e1 : (errP c l true != 0) = true := by simpa using h0
    have e3 : errP c l (decide (WtOk c w n)) = errP c l true := by
      unfold errP at h0 ⊢
      split
      · rfl
      · rename_i h8
        rw [if_neg h8] at h0
        split
        · rename_i h9
          rw [if_pos ⟨h9.1, h9.2.1, rfl⟩] at h0
          exact (h0 rfl).elim
        · rename_i h9
          split
          · rename_i h10
            rw [if_pos h10] at h0
            exact (h0 rfl).elim
          · rfl
    rw [e1, pT, e3, if_neg h0]
end Go.Sim.Le


namespace Go.Sim.Le
open Go.Proofs
variable (F d : Nat)
theorem errP_0 {c : Cav} {l : Sl Stg} {b : Bool} : errP c l b = 0 ↔ l.len ≤ 8 ∧ CavOk c ∧ (∀ i, i < l.len → StgOk c.slices.len (l.el i)) ∧ b = true := by
  unfold errP
  split
  · constructor
    · intro h; omega
    · intro h; omega
  · split
    · rename_i h1 h2
      exact ⟨fun _ => ⟨by omega, h2⟩, fun _ => rfl⟩
    · rename_i h1 h2
      exact ⟨fun h => by omega, fun h => (h2 h.2).elim⟩
end Go.Sim.Le


namespace Go.Sim.Le
open Go.Proofs
def z0 : Stg := ⟨0, 0, 0, 0⟩
variable (F d : Nat)
section
variable {c : Cav} (hc : CavOk c) {l : Sl Stg} (hL : l.len ≤ 300) (hl : ∀ i, i < l.len → StgOk c.slices.len (l.el i)) (hF : 100000 < F) (w : Sl Int) (hw : w.len ≤ c.slices.len)
include hc hL hl hF hw
end
end Go.Sim.Le


namespace Go.Sim.Le
open Go.Proofs
def gcdI (a b : Int) : Int := ((Nat.gcd a.toNat b.toNat : Nat) : Int)
def fracF (x y : Int) : Int × Int := (x / gcdI x y, y / gcdI x y)
variable (F d : Nat)
end Go.Sim.Le


namespace Go.Sim.Le
open Go.Proofs
def oAt (c : Cav) (s : Stg) (k : Nat) : Int := (slAt c s k).opn - (slAt c s k).fall
inductive Reach (c : Cav) (s : Stg) : Nat → Int → Int → Prop where
  | zero : Reach c s 0 0 0
  | step {k h r n} : Reach c s k h r → min (slAt c s k).rate.lo (c.hold - h) ≤ n → n ≤ min (slAt c s k).rate.hi (c.hold - h) → Reach c s (k + 1) (h + n) (r + n * oAt c s k)
def numOf (c : Cav) (h r : Int) : Int := 1000000 * h - c.hold * r
def denOf (r : Int) : Int := 1000000 - r
section
variable {c : Cav} (hc : CavOk c) {s : Stg} (hs : StgOk c.slices.len s)
include hc hs
theorem rate_at {k : Nat} (h : k < pathN s) : 0 ≤ (slAt c s k).rate.lo ∧ (slAt c s k).rate.lo ≤ (slAt c s k).rate.hi ∧ (slAt c s k).rate.hi ≤ 300 ∧ 1 ≤ oAt c s k ∧ oAt c s k ≤ 3000 := by
  obtain ⟨_, h1, h2, h3, _⟩ := slcOk_at hc hs h
  unfold SpanIn at h3
  unfold oAt
  omega
theorem mulo {k : Nat} (h : k < pathN s) {n : Int} (hn : 0 ≤ n) : n ≤ n * oAt c s k ∧ n * oAt c s k ≤ 3000 * n := by
  have ho := rate_at hc hs h
  have h1 := Int.mul_le_mul_of_nonneg_left ho.2.2.2.1 hn
  have h2 := Int.mul_le_mul_of_nonneg_left ho.2.2.2.2 hn
  omega
theorem reach_in {k : Nat} {h r : Int} (H : Reach c s k h r) : k ≤ pathN s → 0 ≤ h ∧ h ≤ c.hold ∧ 0 ≤ r ∧ r ≤ 3000 * h := by
  induction H with
  | zero => intro _; have := hc.2.1; omega
  | @step k h r n H h1 h2 ih =>
    intro hk
    have i := ih (by omega)
    have ho := rate_at hc hs (k := k) (by omega)
    have hm := mulo hc hs (k := k) (by omega) (n := n) (by omega)
    omega
omit hs in
omit hs in
omit hs in
end
end Go.Sim.Le


namespace Go.Sim.Le
open Go.Proofs
abbrev Rm := List (Int × Span)
variable (F d : Nat)
section
variable {c : Cav} (hc : CavOk c) {s : Stg} (hs : StgOk c.slices.len s) (hF : 1000000000 < F) (b0 b1 b2 b3 b4 : Bool)
include hc hs hF
end
end Go.Sim.Le


namespace Go.Sim.Le
open Go.Proofs
variable (F d : Nat)
def fh (c : Cav) (p : Int × Span) : Int × Int := fracF (numOf c p.1 p.2.hi) (denOf p.2.hi)
def fl (c : Cav) (p : Int × Span) : Int × Int := fracF (numOf c p.1 p.2.lo) (denOf p.2.lo)
section
variable {c : Cav} (hc : CavOk c) {s : Stg} (hs : StgOk c.slices.len s)
include hc hs
end
end Go.Sim.Le


namespace Go.Sim.Le
open Go.Proofs
def sumF (f : Nat → Int) : Nat → Int
  | 0 => 0
  | n + 1 => sumF f n + f n
theorem sumF_cong {f g : Nat → Int} : ∀ n, (∀ i, i < n → f i = g i) → sumF f n = sumF g n
  | 0, _ => rfl
  | n + 1, h => by simp only [sumF]; rw [sumF_cong n fun i hi => h i (by omega), h n (by omega)]
theorem sumF_upd (f : Nat → Int) (a : Nat) (x : Int) : ∀ n, sumF (fun i => if i = a then x else f i) n = sumF f n + (if a < n then x - f a else 0)
  | 0 => by simp [sumF]
  | n + 1 => by
    simp only [sumF]
    rw [sumF_upd f a x n]
    by_cases h : n = a
    · subst h; rw [if_neg (by omega), if_pos rfl, if_pos (by omega)]; omega
    · rw [if_neg h]
      by_cases h2 : a < n
      · rw [if_pos h2, if_pos (by omega)]; omega
      · rw [if_neg h2, if_neg (by omega)]; omega
theorem sumF_in {f : Nat → Int} {a b : Int} : ∀ n, (∀ i, i < n → a ≤ f i ∧ f i ≤ b) → a * n ≤ sumF f n ∧ sumF f n ≤ b * n
  | 0, _ => by simp [sumF]
  | n + 1, h => by
    have h1 := sumF_in n fun i hi => h i (by omega)
    have h2 := h n (by omega)
    simp only [sumF]
    have e1 : a * ((n + 1 : Nat) : Int) = a * n + a := by rw [Int.natCast_add, Int.mul_add]; simp
    have e2 : b * ((n + 1 : Nat) : Int) = b * n + b := by rw [Int.natCast_add, Int.mul_add]; simp
    omega
theorem sumF_mul (x : Int) (f : Nat → Int) : ∀ n, sumF (fun i => f i * x) n = x * sumF f n
  | 0 => by simp [sumF]
  | n + 1 => by simp only [sumF]; rw [sumF_mul x f n, Int.mul_add, Int.mul_comm x (f n)]
def tkT (c : Cav) (s : Stg) (w : Nat → Int) : Nat → Int × Int
  | 0 => (0, 0)
  | k + 1 => ((tkT c s w k).1 + min (w (pathAt s k).toNat) (c.hold - (tkT c s w k).1), (tkT c s w k).2 + min (w (pathAt s k).toNat) (c.hold - (tkT c s w k).1) * oAt c s k)
def takeN (c : Cav) (s : Stg) (w : Nat → Int) (k : Nat) : Int := min (w (pathAt s k).toNat) (c.hold - (tkT c s w k).1)
def takeRow (c : Cav) (s : Stg) (w : Nat → Int) : Nat → Nat → Int
  | 0 => fun _ => 0
  | k + 1 => fun j => if j = (pathAt s k).toNat then takeN c s w k else takeRow c s w k j
abbrev RatesOk (c : Cav) (w : Nat → Int) : Prop := ∀ i, i < c.slices.len → (c.slices.el i).rate.lo ≤ w i ∧ w i ≤ (c.slices.el i).rate.hi
def pathSum (c : Cav) (s : Stg) (w g : Nat → Int) : Nat → Int
  | 0 => 0
  | k + 1 => pathSum c s w g k + g (pathAt s k).toNat * takeN c s w k
theorem pathAt_inj {s : Stg} {j k : Nat} (h : pathAt s j = pathAt s k) : j = k := by
  unfold pathAt stepOf at h
  split at h <;> omega
variable (F d : Nat)
section
variable {c : Cav} (hc : CavOk c) {s : Stg} (hs : StgOk c.slices.len s) (w : Nat → Int) (hw : RatesOk c w)
include hc hs hw
theorem take_reach : ∀ k, k ≤ pathN s → Reach c s k (tkT c s w k).1 (tkT c s w k).2 := by
  intro k
  induction k with
  | zero => intro _; exact .zero
  | succ k ih =>
    intro h
    have i := ih (by omega)
    have hin := pathAt_in hs (k := k) (by omega)
    have hr : (slAt c s k).rate.lo ≤ w (pathAt s k).toNat ∧ w (pathAt s k).toNat ≤ (slAt c s k).rate.hi := hw _ (by omega)
    exact .step i (by omega) (by omega)
theorem takeN_in {k : Nat} (h : k < pathN s) : 0 ≤ takeN c s w k ∧ takeN c s w k ≤ 300 ∧ takeN c s w k ≤ c.hold - (tkT c s w k).1 := by
  have hr := rate_at hc hs h
  have hi := reach_in hc hs (take_reach hc hs w hw k (by omega)) (by omega)
  have hin := pathAt_in hs h
  have hr : (slAt c s k).rate.lo ≤ w (pathAt s k).toNat ∧ w (pathAt s k).toNat ≤ (slAt c s k).rate.hi := hw _ (by omega)
  unfold takeN
  omega
theorem takeRow_in : ∀ k, k ≤ pathN s → ∀ i, 0 ≤ takeRow c s w k i ∧ takeRow c s w k i ≤ 300 := by
  intro k
  induction k with
  | zero => intro _ i; simp [takeRow]
  | succ k ih =>
    intro h i
    have h1 := takeN_in hc hs w hw (k := k) (by omega)
    have h2 := ih (by omega) i
    simp only [takeRow]
    split <;> omega
omit hc hw in
theorem takeRow_0 : ∀ k i, k ≤ i → i < pathN s → takeRow c s w k (pathAt s i).toNat = 0 := by
  intro k
  induction k with
  | zero => intro i _ _; rfl
  | succ k ih =>
    intro i h hi
    simp only [takeRow]
    have h1 := pathAt_in hs (k := k) (by omega)
    have h2 := pathAt_in hs hi
    rw [if_neg (fun e => by have := pathAt_inj (s := s) (j := i) (k := k) (by omega); omega)]
    exact ih i (by omega) hi
omit hc hw in
theorem take_sum (g : Nat → Int) : ∀ k, k ≤ pathN s → sumF (fun i => g i * takeRow c s w k i) c.slices.len = pathSum c s w g k := by
  intro k
  induction k with
  | zero =>
    intro _
    simp only [takeRow, pathSum, Int.mul_zero]
    have := sumF_in (f := fun _ => 0) (a := 0) (b := 0) c.slices.len fun i _ => ⟨Int.le_refl _, Int.le_refl _⟩
    omega
  | succ k ih =>
    intro h
    have h1 := pathAt_in hs (k := k) (by omega)
    have e : sumF (fun i => g i * takeRow c s w (k + 1) i) c.slices.len = sumF (fun i => if i = (pathAt s k).toNat then g (pathAt s k).toNat * takeN c s w k else g i * takeRow c s w k i) c.slices.len := by
      refine sumF_cong _ fun i _ => ?_
      simp only [takeRow]
      by_cases hi : i = (pathAt s k).toNat
      · rw [if_pos hi, if_pos hi, hi]
      · rw [if_neg hi, if_neg hi]
    rw [e, sumF_upd, if_pos (by omega), ih (by omega), takeRow_0 hs w k k (Nat.le_refl _) (by omega), pathSum]
    omega
omit hc hs hw in
omit hc hs hw in
end
end Go.Sim.Le


namespace Go.Sim.Le
open Go.Proofs
def exSl : Nat → Slc
  | 0 => ⟨⟨900000, 1000000⟩, 1200, 100, ⟨20, 40⟩, 1480000⟩
  | 1 => ⟨⟨1000000, 1000000⟩, 1100, 50, ⟨30, 50⟩, 3000000⟩
  | _ => ⟨⟨500000, 600000⟩, 1000, 0, ⟨40, 60⟩, 3000000⟩
def exC : Cav := ⟨⟨false, 3, exSl⟩, 100, 700000⟩
def exB : Stg := ⟨10, 2, 0, 3⟩
def tR3 (a b c : Int) : Nat → Int
  | 0 => a
  | 1 => b
  | _ => c
def ex3 (a b c : Int) : Sl Int := ⟨false, 3, tR3 a b c⟩
theorem kBound : boundS exC (fun _ => exB) ⟨ex3 0 0 0, 1⟩ 1 = ⟨20000, 45000⟩ := by decide +kernel
theorem exGet (z0 z1 z2 : Slc) : (fun u : Nat => List.take 7 (List.drop (Min.min u 2 * 7) (eSlc z0 ++ eSlc z1 ++ eSlc z2))) = fun i => eSlc (match i with | 0 => z0 | 1 => z1 | _ => z2) := by
  funext i
  match i with
  | 0 => rfl
  | 1 => rfl
  | i + 2 => simp [show Min.min (i + 2) 2 = 2 by omega]
variable (F d : Nat)
theorem s54 : (E F (d + 1)).pf 17 [] = some (.ret (.agg (eCav exC))) := by
  rw [E_pf, t54]
  have h := exGet ⟨⟨900000, 1000000⟩, 1200, 100, ⟨20, 40⟩, 1480000⟩ ⟨⟨1000000, 1000000⟩, 1100, 50, ⟨30, 50⟩, 3000000⟩ ⟨⟨500000, 600000⟩, 1000, 0, ⟨40, 60⟩, 3000000⟩
  refine congrArg (fun g => some (Out.ret (V.agg [V.row false 3 7 g, V.int .i64 100, V.int .i64 700000]))) (h.trans ?_)
  funext i
  match i with
  | 0 => rfl
  | 1 => rfl
  | i + 2 => rfl
theorem s55 : (E F (d + 1)).pf 18 [] = some (.ret (.agg (eStg exB))) := by rw [E_pf, t55]; rfl
end Go.Sim.Le


namespace Go.Sim.Le
open Go.Proofs
abbrev TruthOk (c : Cav) (n : Nat) (t : Truth) : Prop := t.vols.len = c.slices.len ∧ t.rates.len = n ∧ (∀ i, i < t.vols.len → (c.slices.el i).vol.lo ≤ t.vols.el i ∧ t.vols.el i ≤ (c.slices.el i).vol.hi) ∧
  ∀ k, k < t.rates.len → (t.rates.el k).len = c.slices.len ∧ ∀ i, i < c.slices.len → (c.slices.el i).rate.lo ≤ (t.rates.el k).el i ∧ (t.rates.el k).el i ≤ (c.slices.el i).rate.hi
variable (F d : Nat)
section
variable (c : Cav) (l : Sl Stg) (t : Truth) (hcl : c.slices.len < Big) (htl : t.rates.len < Big) (hCF : c.slices.len < F) (hTF : t.rates.len < F)
def rateB (k i : Nat) : Bool := decide ((c.slices.el i).rate.lo ≤ (t.rates.el k).el i ∧ (t.rates.el k).el i ≤ (c.slices.el i).rate.hi)
def rowB (k : Nat) : Bool := decide ((t.rates.el k).len = c.slices.len) && allF (rateB c t k) c.slices.len 0
theorem rowB_iff (k : Nat) : rowB c t k = true ↔ ((t.rates.el k).len = c.slices.len ∧ ∀ i, i < c.slices.len → (c.slices.el i).rate.lo ≤ (t.rates.el k).el i ∧ (t.rates.el k).el i ≤ (c.slices.el i).rate.hi) := by
  unfold rowB
  rw [allF_dec]
  simp only [Bool.and_eq_true, decide_eq_true_eq, rateB]
include hcl htl hCF hTF
theorem l87x2 (m0 k : Nat) (hk : (t.rates.el k).len = c.slices.len) (R : Option Out) : ∀ j i fu, i + j = c.slices.len → j < fu →
    (bif allF (rateB c t k) j i then L87x1 (E F (d + 1)) F c l t m0 (IntKind.i64.wrap ((k : Int) + 1)) else some (.ret (.bool false))) = R →
    L87x2 (E F (d + 1)) F c l t m0 fu k (t.rates.el k).nl (t.rates.el k).len (fun u => [.int .i64 ((t.rates.el k).el u)]) (t.rates.el k).len i = R := by
  have hB : c.slices.len < 4611686018427387904 := hcl
  intro j
  induction j with
  | zero =>
    intro i fu h hf K
    obtain ⟨fu, rfl⟩ : ∃ k, fu = k + 1 := ⟨fu - 1, by omega⟩
    rw [L87x2s, decide_eq_false (by omega), pF]
    simp only [allF, cond_true] at K
    exact K
  | succ j ih =>
    intro i fu h hf K
    obtain ⟨fu, rfl⟩ : ∃ k, fu = k + 1 := ⟨fu - 1, by omega⟩
    rw [L87x2s]
    simp (disch := omega) only [decide_eq_true, decide_true, pT, Int.toNat_natCast, tkCons_c, tkInt_i, s59, tkOut_ret, tkBool_b]
    simp only [allF] at K
    by_cases hr : (c.slices.el i).rate.lo ≤ (t.rates.el k).el i ∧ (t.rates.el k).el i ≤ (c.slices.el i).rate.hi
    · rw [show rateB c t k i = true from decide_eq_true hr, Bool.true_and] at K
      rw [decide_eq_true hr, Bool.not_true, pF, wrS (by omega)]
      exact ih (i + 1) fu (by omega) (by omega) K
    · rw [show rateB c t k i = false from decide_eq_false hr, Bool.false_and, cond_false] at K
      rw [decide_eq_false hr, Bool.not_false, pT]
      exact K
theorem l87x1 : ∀ j k fu, k + j = t.rates.len → j < fu → L87x1 (E F (d + 1)) F c l t fu k = some (.ret (.bool (allF (rowB c t) j k))) := by
  have hB : c.slices.len < 4611686018427387904 := hcl
  have hT : t.rates.len < 4611686018427387904 := htl
  intro j
  induction j with
  | zero =>
    intro k fu h hf
    obtain ⟨fu, rfl⟩ : ∃ k, fu = k + 1 := ⟨fu - 1, by omega⟩
    rw [L87x1s, decide_eq_false (by omega), pF]
    rfl
  | succ j ih =>
    intro k fu h hf
    obtain ⟨fu, rfl⟩ : ∃ k, fu = k + 1 := ⟨fu - 1, by omega⟩
    rw [L87x1s]
    simp (disch := omega) only [decide_eq_true, decide_true, pT, Int.toNat_natCast]
    by_cases hk : (t.rates.el k).len = c.slices.len
    · rw [show (((t.rates.el k).len : Int) != (c.slices.len : Int)) = false by rw [hk]; simp, pF]
      refine l87x2 F d c l t hcl htl hCF hTF fu k hk _ c.slices.len 0 F (by omega) (by omega) ?_
      simp only [allF, rowB, decide_eq_true hk, Bool.true_and]
      rw [wrS (by omega)]
      cases allF (rateB c t k) c.slices.len 0 with
      | true => rw [cond_true, Bool.true_and]; exact ih (k + 1) fu (by omega) (by omega)
      | false => rw [cond_false, Bool.false_and]
    · rw [show (((t.rates.el k).len : Int) != (c.slices.len : Int)) = true by simp; omega, pT]
      simp only [allF, rowB, decide_eq_false hk, Bool.false_and]
theorem l87x0 (hv : t.vols.len = c.slices.len) : ∀ j i fu, i + j = t.vols.len → j < fu → L87x0 (E F (d + 1)) F c l t fu i = some (.ret (.bool (allF (fun i => decide ((c.slices.el i).vol.lo ≤ t.vols.el i ∧ t.vols.el i ≤ (c.slices.el i).vol.hi)) j i && allF (rowB c t) t.rates.len 0))) := by
  have hB : c.slices.len < 4611686018427387904 := hcl
  intro j
  induction j with
  | zero =>
    intro i fu h hf
    obtain ⟨fu, rfl⟩ : ∃ k, fu = k + 1 := ⟨fu - 1, by omega⟩
    rw [L87x0s, decide_eq_false (by omega), pF]
    exact l87x1 F d c l t hcl htl hCF hTF t.rates.len 0 F (by omega) (by omega)
  | succ j ih =>
    intro i fu h hf
    obtain ⟨fu, rfl⟩ : ∃ k, fu = k + 1 := ⟨fu - 1, by omega⟩
    rw [L87x0s]
    simp (disch := omega) only [decide_eq_true (show (i : Int) < (t.vols.len : Int) by omega), decide_eq_true (show (i : Int) < (c.slices.len : Int) by omega), decide_eq_true (show (0 : Int) ≤ (i : Int) by omega), pT, Int.toNat_natCast, s59, tkOut_ret, tkBool_b]
    simp only [allF]
    cases decide ((c.slices.el i).vol.lo ≤ t.vols.el i ∧ t.vols.el i ≤ (c.slices.el i).vol.hi) with
    | true => rw [Bool.not_true, pF, wrS (by omega), Bool.true_and]; exact ih (i + 1) fu (by omega) (by omega)
    | false => rw [Bool.not_false, pT]; rfl
theorem s87 : (E F (d + 2)).pf 55 [.agg (eCav c), sl eStg 4 l, .agg (eTruth t)] = some (.ret (.bool (decide (TruthOk c l.len t)))) := by
  rw [E_pf, t87]
  by_cases hv : t.vols.len = c.slices.len
  · rw [show ((t.vols.len : Int) != (c.slices.len : Int)) = false by rw [hv]; simp, pF]
    by_cases hr : t.rates.len = l.len
    · rw [show ((t.rates.len : Int) != (l.len : Int)) = false by rw [hr]; simp, pF]
      refine (l87x0 F d c l t hcl htl hCF hTF hv t.vols.len 0 F (by omega) (by omega)).trans (b3 (b2 ?_))
      rw [allF_dec, allF_dec]
      simp only [Bool.and_eq_true, decide_eq_true_eq, rowB_iff]
      exact ⟨fun h => ⟨hv, hr, h.1, h.2⟩, fun h => ⟨h.2.2.1, h.2.2.2⟩⟩
    · rw [show ((t.rates.len : Int) != (l.len : Int)) = true by simp; omega, pT]
      exact b3 (Eq.symm (decide_eq_false fun h => hr h.2.1))
  · rw [show ((t.vols.len : Int) != (c.slices.len : Int)) = true by simp; omega, pT]
    exact b3 (Eq.symm (decide_eq_false fun h => hv h.1))
theorem l47x2 (m0 k : Nat) (hkr : k < t.rates.len) (hk : (t.rates.el k).len = c.slices.len) (R : Option Out) : ∀ j i fu, i + j = c.slices.len → j < fu →
    (bif allF (rateB c t k) j i then L47x1 (E F (d + 1)) F c l t m0 (IntKind.i64.wrap ((k : Int) + 1)) else some (.ret (.bool false))) = R →
    L47x2 (E F (d + 1)) F c l t m0 fu k i = R := by
  have hB : c.slices.len < 4611686018427387904 := hcl
  intro j
  induction j with
  | zero =>
    intro i fu h hf K
    obtain ⟨fu, rfl⟩ : ∃ k, fu = k + 1 := ⟨fu - 1, by omega⟩
    rw [L47x2s, decide_eq_false (by omega), pF]
    simp only [allF, cond_true] at K
    exact K
  | succ j ih =>
    intro i fu h hf K
    obtain ⟨fu, rfl⟩ : ∃ k, fu = k + 1 := ⟨fu - 1, by omega⟩
    rw [L47x2s]
    simp (disch := omega) only [decide_eq_true, decide_true, pT, Int.toNat_natCast, s64, tkOut_ret, tkBool_b]
    simp only [allF] at K
    by_cases hr : (c.slices.el i).rate.lo ≤ (t.rates.el k).el i ∧ (t.rates.el k).el i ≤ (c.slices.el i).rate.hi
    · rw [show rateB c t k i = true from decide_eq_true hr, Bool.true_and] at K
      rw [decide_eq_true hr, Bool.not_true, pF, wrS (by omega)]
      exact ih (i + 1) fu (by omega) (by omega) K
    · rw [show rateB c t k i = false from decide_eq_false hr, Bool.false_and, cond_false] at K
      rw [decide_eq_false hr, Bool.not_false, pT]
      exact K
theorem l47x1 : ∀ j k fu, k + j = t.rates.len → j < fu → L47x1 (E F (d + 1)) F c l t fu k = some (.ret (.bool (allF (rowB c t) j k))) := by
  have hB : c.slices.len < 4611686018427387904 := hcl
  have hT : t.rates.len < 4611686018427387904 := htl
  intro j
  induction j with
  | zero =>
    intro k fu h hf
    obtain ⟨fu, rfl⟩ : ∃ k, fu = k + 1 := ⟨fu - 1, by omega⟩
    rw [L47x1s, decide_eq_false (by omega), pF]
    rfl
  | succ j ih =>
    intro k fu h hf
    obtain ⟨fu, rfl⟩ : ∃ k, fu = k + 1 := ⟨fu - 1, by omega⟩
    rw [L47x1s]
    simp (disch := omega) only [decide_eq_true, decide_true, pT, Int.toNat_natCast]
    by_cases hk : (t.rates.el k).len = c.slices.len
    · rw [show (((t.rates.el k).len : Int) != (c.slices.len : Int)) = false by rw [hk]; simp, pF]
      refine l47x2 F d c l t hcl htl hCF hTF fu k (by omega) hk _ c.slices.len 0 F (by omega) (by omega) ?_
      simp only [allF, rowB, decide_eq_true hk, Bool.true_and]
      rw [wrS (by omega)]
      cases allF (rateB c t k) c.slices.len 0 with
      | true => rw [cond_true, Bool.true_and]; exact ih (k + 1) fu (by omega) (by omega)
      | false => rw [cond_false, Bool.false_and]
    · rw [show (((t.rates.el k).len : Int) != (c.slices.len : Int)) = true by simp; omega, pT]
      simp only [allF, rowB, decide_eq_false hk, Bool.false_and]
theorem l47x0 (hv : t.vols.len = c.slices.len) : ∀ j i fu, i + j = t.vols.len → j < fu → L47x0 (E F (d + 1)) F c l t fu i = some (.ret (.bool (allF (fun i => decide ((c.slices.el i).vol.lo ≤ t.vols.el i ∧ t.vols.el i ≤ (c.slices.el i).vol.hi)) j i && allF (rowB c t) t.rates.len 0))) := by
  have hB : c.slices.len < 4611686018427387904 := hcl
  intro j
  induction j with
  | zero =>
    intro i fu h hf
    obtain ⟨fu, rfl⟩ : ∃ k, fu = k + 1 := ⟨fu - 1, by omega⟩
    rw [L47x0s, decide_eq_false (by omega), pF]
    exact l47x1 F d c l t hcl htl hCF hTF t.rates.len 0 F (by omega) (by omega)
  | succ j ih =>
    intro i fu h hf
    obtain ⟨fu, rfl⟩ : ∃ k, fu = k + 1 := ⟨fu - 1, by omega⟩
    rw [L47x0s]
    simp (disch := omega) only [decide_eq_true (show (i : Int) < (t.vols.len : Int) by omega), decide_eq_true (show (i : Int) < (c.slices.len : Int) by omega), decide_eq_true (show (0 : Int) ≤ (i : Int) by omega), pT, Int.toNat_natCast, s64, tkOut_ret, tkBool_b]
    simp only [allF]
    cases decide ((c.slices.el i).vol.lo ≤ t.vols.el i ∧ t.vols.el i ≤ (c.slices.el i).vol.hi) with
    | true => rw [Bool.not_true, pF, wrS (by omega), Bool.true_and]; exact ih (i + 1) fu (by omega) (by omega)
    | false => rw [Bool.not_false, pT]; rfl
theorem s47 : (E F (d + 2)).pf 5 [.agg (eCav c), sl eStg 4 l, .agg (eTruth t)] = some (.ret (.bool (decide (TruthOk c l.len t)))) := by
  rw [E_pf, t47]
  by_cases hv : t.vols.len = c.slices.len
  · rw [show ((t.vols.len : Int) != (c.slices.len : Int)) = false by rw [hv]; simp, pF]
    by_cases hr : t.rates.len = l.len
    · rw [show ((t.rates.len : Int) != (l.len : Int)) = false by rw [hr]; simp, pF]
      refine (l47x0 F d c l t hcl htl hCF hTF hv t.vols.len 0 F (by omega) (by omega)).trans (b3 (b2 ?_))
      rw [allF_dec, allF_dec]
      simp only [Bool.and_eq_true, decide_eq_true_eq, rowB_iff]
      exact ⟨fun h => ⟨hv, hr, h.1, h.2⟩, fun h => ⟨h.2.2.1, h.2.2.2⟩⟩
    · rw [show ((t.rates.len : Int) != (l.len : Int)) = true by simp; omega, pT]
      exact b3 (Eq.symm (decide_eq_false fun h => hr h.2.1))
  · rw [show ((t.vols.len : Int) != (c.slices.len : Int)) = true by simp; omega, pT]
    exact b3 (Eq.symm (decide_eq_false fun h => hv h.1))
end
end Go.Sim.Le
