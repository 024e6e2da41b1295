import Derived.Test.YthbpdkcfnbiejaaAg
import Derived.KernelRfl
import Derived.Test.YthbpdkcfnbiejaaRows
set_option linter.unusedVariables false
set_option linter.unusedSimpArgs false
set_option linter.unusedSectionVars false
set_option maxRecDepth 100000
namespace Go.Sim.Le
open Go.Proofs
theorem t19 (env : Env) (F : Nat) (c : Cav) : (evFun Try.prog (cfg F) env 19 [(.agg (eCav c))]) = some (.ret (.bool (decide ((((Sl.len (Cav.slices c)) : Nat) : Int) ≤ (20 : Int))))) := by kernel_rfl
theorem t20 (env : Env) (F : Nat) (c : Cav) (l : Sl Stg) (x : Int) (y : Int) (z : Int) : (evFun Try.prog (cfg F) env 20 [(.agg (eCav c)), (sl eStg 4 l), (i64 x), (i64 y), (i64 z)]) = (tkOut (env.pf 23 [(.agg (eCav c)), (sl eStg 4 l), (.bool true)]) none (fun v7 => (tkInt v7 none fun q8 n9 => (bif (decide (q8 = .i64)) then (bif (n9 != (0 : Int)) then some (.ret (.bool true)) else (bif (decide ((((Sl.len (Cav.slices c)) : Nat) : Int) ≤ x)) then (bif (decide ((Cav.hold c) ≤ y)) then some (.ret (.bool (decide ((((Sl.len l) : Nat) : Int) ≤ z)))) else some (.ret (.bool false))) else some (.ret (.bool false)))) else none))) (fun p7 => (tkIfc p7 none fun t8 x9 => (bif (flatP (.iface t8 x9)) then some (.pan (.iface t8 x9)) else none)))) := by kernel_rfl
noncomputable def L45x0 (env : Env) (F : Nat) (c : Cav) (v : Sl Int) (a : Int) (b : Int) (d : Int) (g : Int) (fu : Nat) (i0 : Int) : Option Out := atLoop Try.prog (cfg F) env 45 [.r, .l, .r, .d] [] fu { tm := tmL 44 0 [(2, (.optr 0 0 0)), (3, (.optr 1 0 0)), (5, (i64 i0))], hp := [(.box 24 (eCav c) true), (.box 84 [(sl eInt 1 v), (i64 a), (i64 b), (i64 d), (i64 g)] true)] }
theorem t45 (env : Env) (F : Nat) (c : Cav) (v : Sl Int) (a : Int) (b : Int) (d : Int) (g : Int) : (evFun Try.prog (cfg F) env 45 [(.agg (eCav c)), (.agg [(sl eInt 1 v), (i64 a), (i64 b), (i64 d), (i64 g)])]) = (L45x0 env F c v a b d g F (0 : Int)) := by kernel_rfl
theorem L45x0s (env : Env) (F : Nat) (c : Cav) (v : Sl Int) (a : Int) (b : Int) (d : Int) (g : Int) (fu : Nat) (i0 : Int) : L45x0 env F c v a b d g (fu + 1) i0 = (bif (decide (i0 < (((Sl.len v) : Nat) : Int))) then (bif (decide ((0 : Int) ≤ i0)) then (bif (decide (i0 < (((Sl.len v) : Nat) : Int))) then (bif (decide ((Sl.el v (Int.toNat i0)) < (0 : Int))) then some (.ret (.bool false)) else (bif (decide ((0 : Int) ≤ i0)) then (bif (decide (i0 < (((Sl.len v) : Nat) : Int))) then (bif (decide ((Sl.el v (Int.toNat i0)) > (100000000000000 : Int))) then some (.ret (.bool false)) else (L45x0 env F c v a b d g fu (IntKind.wrap .i64 (i0 + (1 : Int))))) else none) else none)) else none) else none) else (bif ((((Sl.len v) : Nat) : Int) == (((Sl.len (Cav.slices c)) : Nat) : Int)) then (bif (decide (a ≥ (0 : Int))) then some (.ret (.bool (decide (a ≤ (100000000000000 : Int))))) else some (.ret (.bool false))) else some (.ret (.bool false)))) := by kernel_rfl
noncomputable def L47x0 (env : Env) (F : Nat) (c : Cav) (l : Sl Stg) (t : Truth) (fu : Nat) (i0 : Int) : Option Out := atLoop Try.prog (cfg F) env 47 [.r, .r, .l, .r, .d] [] fu { tm := tmL 101 0 [(3, (.optr 0 0 0)), (5, (.optr 1 0 0)), (7, (i64 i0))], hp := [(.box 24 (eCav c) true), (.box 82 (eTruth t) true)] }
noncomputable def L47x1 (env : Env) (F : Nat) (c : Cav) (l : Sl Stg) (t : Truth) (fu : Nat) (i0 : Int) : Option Out := atLoop Try.prog (cfg F) env 47 [.r, .r, .r, .l, .r, .d] [] fu { tm := tmL 101 0 [(3, (.optr 0 0 0)), (5, (.optr 1 0 0)), (8, (i64 i0))], hp := [(.box 24 (eCav c) true), (.box 82 (eTruth t) true)] }
noncomputable def L47x2 (env : Env) (F : Nat) (c : Cav) (l : Sl Stg) (t : Truth) (m0 : Nat) (fu : Nat) (i0 : Int) (i1 : Int) : Option Out := atLoop Try.prog (cfg F) env 47 [.r, .r, .r, .l, .r, .d, .d, .r, .l, .d, .r, .r, .d] [m0] fu { tm := tmL 101 0 [(3, (.optr 0 0 0)), (5, (.optr 1 0 0)), (8, (i64 i0)), (9, (i64 i1))], hp := [(.box 24 (eCav c) true), (.box 82 (eTruth t) true)] }
theorem t47 (env : Env) (F : Nat) (c : Cav) (l : Sl Stg) (t : Truth) : (evFun Try.prog (cfg F) env 47 [(.agg (eCav c)), (sl eStg 4 l), (.agg (eTruth t))]) = (bif ((((Sl.len (Truth.vols t)) : Nat) : Int) != (((Sl.len (Cav.slices c)) : Nat) : Int)) then some (.ret (.bool false)) else (bif ((((Sl.len (Truth.rates t)) : Nat) : Int) != (((Sl.len l) : Nat) : Int)) then some (.ret (.bool false)) else (L47x0 env F c l t F (0 : Int)))) := by kernel_rfl
theorem L47x0s (env : Env) (F : Nat) (c : Cav) (l : Sl Stg) (t : Truth) (fu : Nat) (i0 : Int) : L47x0 env F c l t (fu + 1) i0 = (bif (decide (i0 < (((Sl.len (Truth.vols t)) : Nat) : Int))) then (bif (decide ((0 : Int) ≤ i0)) then (bif (decide (i0 < (((Sl.len (Truth.vols t)) : Nat) : Int))) then (bif (decide ((0 : Int) ≤ i0)) then (bif (decide (i0 < (((Sl.len (Cav.slices c)) : Nat) : Int))) then (bif (decide ((0 : Int) ≤ i0)) then (bif (decide (i0 < (((Sl.len (Cav.slices c)) : Nat) : Int))) then (tkOut (env.pf 64 [(i64 (Sl.el (Truth.vols t) (Int.toNat i0))), (i64 (Span.lo (Slc.vol (Sl.el (Cav.slices c) (Int.toNat i0))))), (i64 (Span.hi (Slc.vol (Sl.el (Cav.slices c) (Int.toNat i0)))))]) none (fun v7 => (tkBool v7 none fun b8 => (bif (!b8) then some (.ret (.bool false)) else (L47x0 env F c l t fu (IntKind.wrap .i64 (i0 + (1 : Int))))))) (fun p7 => (tkIfc p7 none fun t8 x9 => (bif (flatP (.iface t8 x9)) then some (.pan (.iface t8 x9)) else none)))) else none) else none) else none) else none) else none) else none) else (L47x1 env F c l t F (0 : Int))) := by kernel_rfl
theorem L47x1s (env : Env) (F : Nat) (c : Cav) (l : Sl Stg) (t : Truth) (fu : Nat) (i0 : Int) : L47x1 env F c l t (fu + 1) i0 = (bif (decide (i0 < (((Sl.len (Truth.rates t)) : Nat) : Int))) then (bif (decide ((0 : Int) ≤ i0)) then (bif (decide (i0 < (((Sl.len (Truth.rates t)) : Nat) : Int))) then (bif ((((Sl.len (Sl.el (Truth.rates t) (Int.toNat i0))) : Nat) : Int) != (((Sl.len (Cav.slices c)) : Nat) : Int)) then some (.ret (.bool false)) else (L47x2 env F c l t fu F i0 (0 : Int))) else none) else none) else some (.ret (.bool true))) := by kernel_rfl
theorem L47x2s (env : Env) (F : Nat) (c : Cav) (l : Sl Stg) (t : Truth) (m0 : Nat) (fu : Nat) (i0 : Int) (i1 : Int) : L47x2 env F c l t m0 (fu + 1) i0 i1 = (bif (decide (i1 < (((Sl.len (Cav.slices c)) : Nat) : Int))) then (bif (decide ((0 : Int) ≤ i0)) then (bif (decide (i0 < (((Sl.len (Truth.rates t)) : Nat) : Int))) then (bif (decide ((0 : Int) ≤ i1)) then (bif (decide (i1 < (((Sl.len (Sl.el (Truth.rates t) (Int.toNat i0))) : Nat) : Int))) then (bif (decide ((0 : Int) ≤ i1)) then (bif (decide (i1 < (((Sl.len (Cav.slices c)) : Nat) : Int))) then (bif (decide ((0 : Int) ≤ i1)) then (bif (decide (i1 < (((Sl.len (Cav.slices c)) : Nat) : Int))) then (tkOut (env.pf 64 [(i64 (Sl.el (Sl.el (Truth.rates t) (Int.toNat i0)) (Int.toNat i1))), (i64 (Span.lo (Slc.rate (Sl.el (Cav.slices c) (Int.toNat i1))))), (i64 (Span.hi (Slc.rate (Sl.el (Cav.slices c) (Int.toNat i1)))))]) none (fun v9 => (tkBool v9 none fun b10 => (bif (!b10) then some (.ret (.bool false)) else (L47x2 env F c l t m0 fu i0 (IntKind.wrap .i64 (i1 + (1 : Int))))))) (fun p9 => (tkIfc p9 none fun t10 x11 => (bif (flatP (.iface t10 x11)) then some (.pan (.iface t10 x11)) else none)))) else none) else none) else none) else none) else none) else none) else none) else none) else (L47x1 env F c l t m0 (IntKind.wrap .i64 (i0 + (1 : Int))))) := by kernel_rfl
noncomputable def L87x0 (env : Env) (F : Nat) (c : Cav) (l : Sl Stg) (t : Truth) (fu : Nat) (i0 : Int) : Option Out := atLoop Try.prog (cfg F) env 87 [.r, .r, .l, .r, .d] [] fu { tm := tmL 91 0 [(3, (.optr 0 0 0)), (5, (.optr 1 0 0)), (32, (sl eInt 1 (Truth.vols t))), (33, (i64 (((Sl.len (Truth.vols t)) : Nat) : Int))), (34, (i64 i0))], hp := [(.box 103 (eCav c) true), (.box 82 (eTruth t) true)] }
noncomputable def L87x1 (env : Env) (F : Nat) (c : Cav) (l : Sl Stg) (t : Truth) (fu : Nat) (i0 : Int) : Option Out := atLoop Try.prog (cfg F) env 87 [.r, .r, .r, .l, .r, .d] [] fu { tm := tmL 91 0 [(3, (.optr 0 0 0)), (55, (sl eIL 1 (Truth.rates t))), (56, (i64 (((Sl.len (Truth.rates t)) : Nat) : Int))), (57, (i64 i0))], hp := [(.box 103 (eCav c) true)] }
noncomputable def L87x2 (env : Env) (F : Nat) (c : Cav) (l : Sl Stg) (t : Truth) (m0 : Nat) (fu : Nat) (i0 : Int) (b1 : Bool) (k2 : Nat) (g3 : Nat → List V) (i4 : Int) (i5 : Int) : Option Out := atLoop Try.prog (cfg F) env 87 [.r, .r, .r, .l, .r, .d, .d, .r, .r, .l, .d, .r, .r, .r, .d] [m0] fu { tm := tmL 91 0 [(3, (.optr 0 0 0)), (55, (sl eIL 1 (Truth.rates t))), (56, (i64 (((Sl.len (Truth.rates t)) : Nat) : Int))), (57, (i64 i0)), (68, (.row b1 k2 1 g3)), (69, (i64 i4)), (70, (i64 i5))], hp := [(.box 103 (eCav c) true)] }
theorem t87 (env : Env) (F : Nat) (c : Cav) (l : Sl Stg) (t : Truth) : (evFun Try.prog (cfg F) env 87 [(.agg (eCav c)), (sl eStg 4 l), (.agg (eTruth t))]) = (bif ((((Sl.len (Truth.vols t)) : Nat) : Int) != (((Sl.len (Cav.slices c)) : Nat) : Int)) then some (.ret (.bool false)) else (bif ((((Sl.len (Truth.rates t)) : Nat) : Int) != (((Sl.len l) : Nat) : Int)) then some (.ret (.bool false)) else (L87x0 env F c l t F (0 : Int)))) := by kernel_rfl
theorem L87x0s (env : Env) (F : Nat) (c : Cav) (l : Sl Stg) (t : Truth) (fu : Nat) (i0 : Int) : L87x0 env F c l t (fu + 1) i0 = (bif (decide (i0 < (((Sl.len (Truth.vols t)) : Nat) : Int))) then (bif (decide ((0 : Int) ≤ i0)) then (bif (decide (i0 < (((Sl.len (Truth.vols t)) : Nat) : Int))) then (bif (decide ((0 : Int) ≤ i0)) then (bif (decide (i0 < (((Sl.len (Cav.slices c)) : Nat) : Int))) then (tkOut (env.pf 59 [(i64 (Sl.el (Truth.vols t) (Int.toNat i0))), (i64 (Span.lo (Slc.vol (Sl.el (Cav.slices c) (Int.toNat i0))))), (i64 (Span.hi (Slc.vol (Sl.el (Cav.slices c) (Int.toNat i0)))))]) none (fun v7 => (tkBool v7 none fun b8 => (bif (!b8) then some (.ret (.bool false)) else (L87x0 env F c l t fu (IntKind.wrap .i64 (i0 + (1 : Int))))))) (fun p7 => (tkIfc p7 none fun t8 x9 => (bif (flatP (.iface t8 x9)) then some (.pan (.iface t8 x9)) else none)))) else none) else none) else none) else none) else (L87x1 env F c l t F (0 : Int))) := by kernel_rfl
theorem L87x1s (env : Env) (F : Nat) (c : Cav) (l : Sl Stg) (t : Truth) (fu : Nat) (i0 : Int) : L87x1 env F c l t (fu + 1) i0 = (bif (decide (i0 < (((Sl.len (Truth.rates t)) : Nat) : Int))) then (bif (decide ((0 : Int) ≤ i0)) then (bif (decide (i0 < (((Sl.len (Truth.rates t)) : Nat) : Int))) then (bif ((((Sl.len (Sl.el (Truth.rates t) (Int.toNat i0))) : Nat) : Int) != (((Sl.len (Cav.slices c)) : Nat) : Int)) then some (.ret (.bool false)) else (L87x2 env F c l t fu F i0 (Sl.nl (Sl.el (Truth.rates t) (Int.toNat i0))) (Sl.len (Sl.el (Truth.rates t) (Int.toNat i0))) (fun u7 => [(i64 (Sl.el (Sl.el (Truth.rates t) (Int.toNat i0)) u7))]) (((Sl.len (Sl.el (Truth.rates t) (Int.toNat i0))) : Nat) : Int) (0 : Int))) else none) else none) else some (.ret (.bool true))) := by kernel_rfl
theorem L87x2s (env : Env) (F : Nat) (c : Cav) (l : Sl Stg) (t : Truth) (m0 : Nat) (fu : Nat) (i0 : Int) (b1 : Bool) (k2 : Nat) (g3 : Nat → List V) (i4 : Int) (i5 : Int) : L87x2 env F c l t m0 (fu + 1) i0 b1 k2 g3 i4 i5 = (bif (decide (i5 < i4)) then (bif (decide ((0 : Int) ≤ i5)) then (bif (decide (i5 < ((k2 : Nat) : Int))) then (tkCons (g3 (Int.toNat i5)) none fun v13 r14 => (tkInt v13 none fun q15 n16 => (bif (decide ((0 : Int) ≤ i5)) then (bif (decide (i5 < (((Sl.len (Cav.slices c)) : Nat) : Int))) then (tkOut (env.pf 59 [(.int q15 n16), (i64 (Span.lo (Slc.rate (Sl.el (Cav.slices c) (Int.toNat i5))))), (i64 (Span.hi (Slc.rate (Sl.el (Cav.slices c) (Int.toNat i5)))))]) none (fun v17 => (tkBool v17 none fun b18 => (bif (!b18) then some (.ret (.bool false)) else (L87x2 env F c l t m0 fu i0 b1 k2 g3 i4 (IntKind.wrap .i64 (i5 + (1 : Int))))))) (fun p17 => (tkIfc p17 none fun t18 x19 => (bif (flatP (.iface t18 x19)) then some (.pan (.iface t18 x19)) else none)))) else none) else none))) else none) else none) else (L87x1 env F c l t m0 (IntKind.wrap .i64 (i0 + (1 : Int))))) := by kernel_rfl
noncomputable def L44x0 (env : Env) (F : Nat) (c : Cav) (l : Sl Stg) (t : Truth) (fu : Nat) (k0 : Nat) (g1 : Nat → List V) : Option Out := atLoop Try.prog (cfg F) env 44 [.r, .r, .r, .r, .r, .l, .r, .d] [] fu { tm := tmL 145 0 [(3, (.optr 0 0 0)), (5, (.optr 1 0 0)), (6, (.optr 2 0 0)), (10, (.optr 3 0 0)), (39, (sl eStg 4 l)), (40, (i64 (((Sl.len l) : Nat) : Int))), (41, (i64 (0 : Int)))], hp := [(.box 24 (eCav c) true), (.box 82 (eTruth t) true), (.box 84 [(.row true 0 0 (fun u8 => [])), (i64 (0 : Int)), (i64 (0 : Int)), (i64 (0 : Int)), (i64 (0 : Int))] true), (.box 84 [(.row true 0 k0 g1), (i64 (0 : Int)), (i64 (0 : Int)), (i64 (0 : Int)), (i64 (0 : Int))] true)] }
noncomputable def L44x1 (env : Env) (F : Nat) (c : Cav) (l : Sl Stg) (t : Truth) (fu : Nat) (i0 : Int) (k1 : Nat) (i2 : Int) (i3 : Int) (i4 : Int) (i5 : Int) (k6 : Nat) (g7 : Nat → List V) : Option Out := atLoop Try.prog (cfg F) env 44 [.r, .r, .r, .r, .r, .l, .r, .d] [] fu { tm := tmL 145 0 [(3, (.optr 0 0 0)), (5, (.optr 1 0 0)), (6, (.optr 2 0 0)), (10, (.optr 3 0 0)), (39, (sl eStg 4 l)), (40, (i64 (((Sl.len l) : Nat) : Int))), (41, (i64 i0))], hp := [(.box 24 (eCav c) true), (.box 82 (eTruth t) true), (.box 84 [(.row true 0 0 (fun u14 => [])), (i64 (0 : Int)), (i64 (0 : Int)), (i64 (0 : Int)), (i64 (0 : Int))] true), (.box 84 [(.osl 4 0 k1), (i64 i2), (i64 i3), (i64 i4), (i64 i5)] true), (.arr 3 1 k6 g7 true)] }
noncomputable def L44x2 (env : Env) (F : Nat) (c : Cav) (l : Sl Stg) (t : Truth) (m0 : Nat) (fu : Nat) (g0 : Nat → List V) (i1 : Int) (q2 : IntKind) (i3 : Int) (k4 : Nat) (g5 : Nat → List V) (g6 : Nat → List V) : Option Out := atLoop Try.prog (cfg F) env 44 [.r, .r, .r, .r, .r, .l, .r, .d, .d, .r, .r, .l, .d, .r, .r, .l, .r, .d, .g 99, .r, .r, .r, .d] [m0] fu { tm := tmL 24 0 [(0, (.yld 0)), (1, (.rptr 1 4 g0 0 0)), (3, (i64 i1)), (4, (.int q2 i3))], hp := [.lp, (.box 24 (eCav c) true), (.box 82 (eTruth t) true), (.box 84 [(.row true 0 0 (fun u14 => [])), (i64 (0 : Int)), (i64 (0 : Int)), (i64 (0 : Int)), (i64 (0 : Int))] true), (.box 84 [(.row true 0 k4 g5), (i64 (0 : Int)), (i64 (0 : Int)), (i64 (0 : Int)), (i64 (0 : Int))] true), (.box 3 [(i64 (0 : Int))] true), (.box 40 (eStg (Sl.el l 0)) true), (.box 3 [(i64 (Cav.hold c))] true), (.box 3 [(i64 (0 : Int))] true), (.box 3 [(i64 (0 : Int))] true), (.box 3 [(i64 (0 : Int))] true)], ext := [(.yld 0), .top, .top, .top, (.optr 1 0 0), .top, (.optr 2 0 0), (.optr 3 0 0), .top, .top, .top, (.optr 4 0 0), (.optr 5 0 0), (.optr 6 0 0), (.optr 7 0 0), (.optr 8 0 0), (.optr 9 0 0), (.optr 10 0 0), .top, .top, .top, .top, .top, .top, .top, .top, .top, .top, .top, .top, .top, .top, .top, .top, .top, .top, .top, .top, .top, .top, (sl eStg 4 l), (i64 (((Sl.len l) : Nat) : Int)), (i64 (0 : Int)), (.bool (decide ((0 : Int) < (((Sl.len l) : Nat) : Int)))), (i64 (0 : Int)), (.rptr (Sl.len l) 4 (fun u14 => (eStg (Sl.el l u14))) 0 0), (.agg (eStg (Sl.el l 0))), (.optr 1 0 1), (i64 (Cav.hold c)), (.agg (eStg (Sl.el l 0))), (.fn (.func 99) [] [(.rptr 1 4 g6 0 0)]), .top, .top, .top, .top, .top, .top, .top, .top, .top, .top, .top, .top, .top, .top, .top, .top, .top, .top, .top, .top, .top, .top, .top, .top, .top, .top, .top, .top, .top, .top, .top, .top, .top, .top, .top, .top, .top, .top, .top, .top, .top, .top, .top, .top, .top, .top, .top, .top, .top, .top, .top, .top, .top, .top, .top, .top, .top, .top, .top, .top, .top, .top, .top, .top, .top, .top, .top, .top, .top, .top, .top, .top, .top, .top, .top, .top, .top, .top, .top, .top, .top, .top, .top, .top, .top, .top, .top, .top, .top, .top, .top, .top, .top, .top, .top] }
noncomputable def L44x3 (env : Env) (F : Nat) (c : Cav) (l : Sl Stg) (t : Truth) (m0 : Nat) (fu : Nat) (g0 : Nat → List V) (i1 : Int) (q2 : IntKind) (i3 : Int) (k4 : Nat) (i5 : Int) (i6 : Int) (i7 : Int) (i8 : Int) (i9 : Int) (i10 : Int) (i11 : Int) (i12 : Int) (i13 : Int) (i14 : Int) (q15 : IntKind) (i16 : Int) (q17 : IntKind) (i18 : Int) (q19 : IntKind) (i20 : Int) (k21 : Nat) (g22 : Nat → List V) (i23 : Int) (b24 : Bool) (i25 : Int) (k26 : Nat) (i27 : Int) (i28 : Int) (i29 : Int) (i30 : Int) (i31 : Int) (i32 : Int) (i33 : Int) (i34 : Int) (g35 : Nat → List V) : Option Out := atLoop Try.prog (cfg F) env 44 [.r, .r, .r, .r, .r, .l, .r, .d, .d, .r, .r, .l, .d, .r, .r, .l, .r, .d, .g 99, .r, .r, .r, .d] [m0] fu { tm := tmL 24 0 [(0, (.yld 0)), (1, (.rptr 1 4 g0 0 0)), (3, (i64 i1)), (4, (.int q2 i3))], hp := [.lp, (.box 24 (eCav c) true), (.box 82 (eTruth t) true), (.box 84 [(.row true 0 0 (fun u43 => [])), (i64 (0 : Int)), (i64 (0 : Int)), (i64 (0 : Int)), (i64 (0 : Int))] true), (.box 84 [(.osl 11 0 k4), (i64 i5), (i64 i6), (i64 i7), (i64 i8)] true), (.box 3 [(i64 i9)] true), (.box 40 [(i64 i10), (i64 i11), (i64 i12), (i64 i13)] true), (.box 3 [(i64 i14)] true), (.box 3 [(.int q15 i16)] true), (.box 3 [(.int q17 i18)] true), (.box 3 [(.int q19 i20)] true), (.arr 3 1 k21 g22 true)], ext := [(.yld 0), .top, .top, .top, (.optr 1 0 0), .top, (.optr 2 0 0), (.optr 3 0 0), .top, .top, .top, (.optr 4 0 0), (.optr 5 0 0), (.optr 6 0 0), (.optr 7 0 0), (.optr 8 0 0), (.optr 9 0 0), (.optr 10 0 0), .top, .top, .top, .top, .top, .top, .top, .top, .top, .top, .top, .top, .top, .top, .top, .top, .top, .top, .top, .top, .top, .top, (sl eStg 4 l), (i64 (((Sl.len l) : Nat) : Int)), (i64 i23), (.bool b24), (i64 i25), (.rptr (Sl.len l) 4 (fun u43 => (eStg (Sl.el l u43))) k26 0), (.agg [(i64 i27), (i64 i28), (i64 i29), (i64 i30)]), (.optr 1 0 1), (i64 (Cav.hold c)), (.agg [(i64 i31), (i64 i32), (i64 i33), (i64 i34)]), (.fn (.func 99) [] [(.rptr 1 4 g35 0 0)]), .top, .top, .top, .top, .top, .top, .top, .top, .top, .top, .top, .top, .top, .top, .top, .top, .top, .top, .top, .top, .top, .top, .top, .top, .top, .top, .top, .top, .top, .top, .top, .top, .top, .top, .top, .top, .top, .top, .top, .top, .top, .top, .top, .top, .top, .top, .top, .top, .top, .top, .top, .top, .top, .top, .top, .top, .top, .top, .top, .top, .top, .top, .top, .top, .top, .top, .top, .top, .top, .top, .top, .top, .top, .top, .top, .top, .top, .top, .top, .top, .top, .top, .top, .top, .top, .top, .top, .top, .top, .top, .top, .top, .top, .top, .top] }
theorem t44 (env : Env) (F : Nat) (c : Cav) (l : Sl Stg) (t : Truth) : (evFun Try.prog (cfg F) env 44 [(.agg (eCav c)), (sl eStg 4 l), (.agg (eTruth t))]) = (tkOut (env.pf 57 [(.agg (eCav c)), (sl eStg 4 l)]) none (fun v5 => (tkInt v5 none fun q6 n7 => (bif (decide (q6 = .i64)) then (bif (n7 != (0 : Int)) then some (.ret (.tup [(.agg [(.row true 0 0 (fun u8 => [])), (i64 (0 : Int)), (i64 (0 : Int)), (i64 (0 : Int)), (i64 (0 : Int))]), (.int q6 n7)])) else (tkOut (env.pf 87 [(.agg (eCav c)), (sl eStg 4 l), (.agg (eTruth t))]) none (fun v8 => (tkBool v8 none fun b9 => (bif (!b9) then some (.ret (.tup [(.agg [(.row true 0 0 (fun u10 => [])), (i64 (0 : Int)), (i64 (0 : Int)), (i64 (0 : Int)), (i64 (0 : Int))]), (i64 (2 : Int))])) else (tkHv (env.hv 79 [(sl eInt 1 (Truth.vols t))] []) none fun v10 h11 => (tkSl v10 none (fun nl12 n13 wd14 g15 => (bif (nl12 && (Nat.beq n13 0)) then (tkSNil h11 none ((L44x0 env F c l t F wd14 g15))) else none)) (fun b12 lo13 n14 => (bif ((Nat.beq b12 0) && (Nat.beq lo13 0)) then (tkSCons h11 none fun s15 r16 => (tkSNil r16 none ((tkArr s15 none fun e17 wd18 n19 g20 wr21 => (bif (((Nat.beq e17 3) && (Nat.beq wd18 1)) && (wr21 == true)) then (L44x1 env F c l t F (0 : Int) n14 (0 : Int) (0 : Int) (0 : Int) (0 : Int) n19 g20) else none))))) else none))))))) (fun p8 => (tkIfc p8 none fun t9 x10 => (bif (flatP (.iface t9 x10)) then some (.pan (.iface t9 x10)) else none))))) else none))) (fun p5 => (tkIfc p5 none fun t6 x7 => (bif (flatP (.iface t6 x7)) then some (.pan (.iface t6 x7)) else none)))) := by kernel_rfl
theorem L44x0s (env : Env) (F : Nat) (c : Cav) (l : Sl Stg) (t : Truth) (fu : Nat) (k0 : Nat) (g1 : Nat → List V) : L44x0 env F c l t (fu + 1) k0 g1 = (bif (decide ((0 : Int) < (((Sl.len l) : Nat) : Int))) then (bif (decide ((0 : Int) < (((Sl.len l) : Nat) : Int))) then (tkOut (env.pf 68 [(.agg (eStg (Sl.el l 0)))]) none (fun v8 => (tkFn v8 none fun f9 a10 c11 => (bif (Nat.beq f9 99) then (tkNil a10 none ((tkCons c11 none fun v12 r13 => (tkPtr v12 none fun n14 wd15 g16 i17 off18 => (bif (((Nat.beq n14 1) && (Nat.beq wd15 4)) && ((Nat.beq i17 0) && (Nat.beq off18 0))) then (tkCons (g16 0) none fun v19 r20 => (tkInt v19 none fun q21 n22 => (tkCons r20 none fun v23 r24 => (tkInt v23 none fun q25 n26 => (tkCons r24 none fun v27 r28 => (tkInt v27 none fun q29 n30 => (tkCons r28 none fun v31 r32 => (tkInt v31 none fun q33 n34 => (tkNil r32 none ((tkNil r13 none ((bif (decide (q29 = q25)) then (bif (decide (n30 < n26)) then (L44x2 env F c l t fu F (fun u35 => [(.int q21 n22), (.int q25 n26), (.int q29 n30), (.int q33 n34)]) (-(1 : Int)) q25 n26 k0 g1 (fun u35 => [(.int q21 n22), (.int q25 n26), (.int q29 n30), (.int q33 n34)])) else (L44x2 env F c l t fu F (fun u35 => [(.int q21 n22), (.int q25 n26), (.int q29 n30), (.int q33 n34)]) (1 : Int) q25 n26 k0 g1 (fun u35 => [(.int q21 n22), (.int q25 n26), (.int q29 n30), (.int q33 n34)]))) else none))))))))))))) else none))))) else none))) (fun p8 => (tkIfc p8 none fun t9 x10 => (bif (flatP (.iface t9 x10)) then some (.pan (.iface t9 x10)) else none)))) else none) else some (.ret (.tup [(.agg [(.row true 0 k0 g1), (i64 (0 : Int)), (i64 (0 : Int)), (i64 (0 : Int)), (i64 (0 : Int))]), (i64 (0 : Int))]))) := by kernel_rfl
theorem L44x1s (env : Env) (F : Nat) (c : Cav) (l : Sl Stg) (t : Truth) (fu : Nat) (i0 : Int) (k1 : Nat) (i2 : Int) (i3 : Int) (i4 : Int) (i5 : Int) (k6 : Nat) (g7 : Nat → List V) : L44x1 env F c l t (fu + 1) i0 k1 i2 i3 i4 i5 k6 g7 = (bif (decide (i0 < (((Sl.len l) : Nat) : Int))) then (bif (decide ((0 : Int) ≤ i0)) then (bif (decide (i0 < (((Sl.len l) : Nat) : Int))) then (tkOut (env.pf 68 [(.agg (eStg (Sl.el l (Int.toNat i0))))]) none (fun v14 => (tkFn v14 none fun f15 a16 c17 => (bif (Nat.beq f15 99) then (tkNil a16 none ((tkCons c17 none fun v18 r19 => (tkPtr v18 none fun n20 wd21 g22 i23 off24 => (bif (((Nat.beq n20 1) && (Nat.beq wd21 4)) && ((Nat.beq i23 0) && (Nat.beq off24 0))) then (tkCons (g22 0) none fun v25 r26 => (tkInt v25 none fun q27 n28 => (tkCons r26 none fun v29 r30 => (tkInt v29 none fun q31 n32 => (tkCons r30 none fun v33 r34 => (tkInt v33 none fun q35 n36 => (tkCons r34 none fun v37 r38 => (tkInt v37 none fun q39 n40 => (tkNil r38 none ((tkNil r19 none ((bif (decide (q35 = q31)) then (bif (decide (n36 < n32)) then (L44x3 env F c l t fu F (fun u41 => [(.int q27 n28), (.int q31 n32), (.int q35 n36), (.int q39 n40)]) (-(1 : Int)) q31 n32 k1 i2 i3 i4 i5 i0 (Stg.water (Sl.el l (Int.toNat i0))) (Stg.into (Sl.el l (Int.toNat i0))) (Stg.out (Sl.el l (Int.toNat i0))) (Stg.blanket (Sl.el l (Int.toNat i0))) (Cav.hold c) .i64 (0 : Int) .i64 (0 : Int) .i64 (0 : Int) k6 g7 i0 (decide (i0 < (((Sl.len l) : Nat) : Int))) i0 (Int.toNat i0) (Stg.water (Sl.el l (Int.toNat i0))) (Stg.into (Sl.el l (Int.toNat i0))) (Stg.out (Sl.el l (Int.toNat i0))) (Stg.blanket (Sl.el l (Int.toNat i0))) (Stg.water (Sl.el l (Int.toNat i0))) (Stg.into (Sl.el l (Int.toNat i0))) (Stg.out (Sl.el l (Int.toNat i0))) (Stg.blanket (Sl.el l (Int.toNat i0))) (fun u41 => [(.int q27 n28), (.int q31 n32), (.int q35 n36), (.int q39 n40)])) else (L44x3 env F c l t fu F (fun u41 => [(.int q27 n28), (.int q31 n32), (.int q35 n36), (.int q39 n40)]) (1 : Int) q31 n32 k1 i2 i3 i4 i5 i0 (Stg.water (Sl.el l (Int.toNat i0))) (Stg.into (Sl.el l (Int.toNat i0))) (Stg.out (Sl.el l (Int.toNat i0))) (Stg.blanket (Sl.el l (Int.toNat i0))) (Cav.hold c) .i64 (0 : Int) .i64 (0 : Int) .i64 (0 : Int) k6 g7 i0 (decide (i0 < (((Sl.len l) : Nat) : Int))) i0 (Int.toNat i0) (Stg.water (Sl.el l (Int.toNat i0))) (Stg.into (Sl.el l (Int.toNat i0))) (Stg.out (Sl.el l (Int.toNat i0))) (Stg.blanket (Sl.el l (Int.toNat i0))) (Stg.water (Sl.el l (Int.toNat i0))) (Stg.into (Sl.el l (Int.toNat i0))) (Stg.out (Sl.el l (Int.toNat i0))) (Stg.blanket (Sl.el l (Int.toNat i0))) (fun u41 => [(.int q27 n28), (.int q31 n32), (.int q35 n36), (.int q39 n40)]))) else none))))))))))))) else none))))) else none))) (fun p14 => (tkIfc p14 none fun t15 x16 => (bif (flatP (.iface t15 x16)) then some (.pan (.iface t15 x16)) else none)))) else none) else none) else some (.ret (.tup [(.agg [(.row false k1 1 (fun u14 => (g7 u14))), (i64 i2), (i64 i3), (i64 i4), (i64 i5)]), (i64 (0 : Int))]))) := by kernel_rfl
theorem L44x2s (env : Env) (F : Nat) (c : Cav) (l : Sl Stg) (t : Truth) (m0 : Nat) (fu : Nat) (g0 : Nat → List V) (i1 : Int) (q2 : IntKind) (i3 : Int) (k4 : Nat) (g5 : Nat → List V) (g6 : Nat → List V) : L44x2 env F c l t m0 (fu + 1) g0 i1 q2 i3 k4 g5 g6 = (bif (decide ((0 : Int) < (((Sl.len (Truth.rates t)) : Nat) : Int))) then (bif (decide ((0 : Int) ≤ i3)) then (bif (decide (i3 < (((Sl.len (Sl.el (Truth.rates t) 0)) : Nat) : Int))) then (tkOut (env.pf 88 [(.row false 2 1 (fun u14 => (List.take 1 (List.drop ((Min.min u14 1) * 1) [(i64 (0 : Int)), (i64 (IntKind.wrap .i64 ((if (Cav.hold c) < (Sl.el (Sl.el (Truth.rates t) 0) (Int.toNat i3)) then (Cav.hold c) else (Sl.el (Sl.el (Truth.rates t) 0) (Int.toNat i3))) * (Stg.water (Sl.el l 0)))))]))))]) none (fun v14 => (tkInt v14 none fun q15 n16 => (bif (k4 == 1) then (bif (decide ((0 : Int) ≤ i3)) then (bif (decide (i3 < ((0 : Nat) : Int))) then (tkCons (g5 (Int.toNat i3)) none fun v17 r18 => (tkInt v17 none fun q19 n20 => (bif (decide ((0 : Int) ≤ i3)) then (bif (decide (i3 < (((Sl.len (Cav.slices c)) : Nat) : Int))) then (bif (decide (q19 = .i64)) then (bif (k4 == 1) then (bif (decide ((0 : Int) ≤ i3)) then (bif (decide (i3 < ((0 : Nat) : Int))) then none else none) else none) else none) else none) else none) else none))) else none) else none) else none))) (fun p14 => (tkIfc p14 none fun t15 x16 => (bif (flatP (.iface t15 x16)) then none else none)))) else none) else none) else none) := by kernel_rfl
theorem L44x3s (env : Env) (F : Nat) (c : Cav) (l : Sl Stg) (t : Truth) (m0 : Nat) (fu : Nat) (g0 : Nat → List V) (i1 : Int) (q2 : IntKind) (i3 : Int) (k4 : Nat) (i5 : Int) (i6 : Int) (i7 : Int) (i8 : Int) (i9 : Int) (i10 : Int) (i11 : Int) (i12 : Int) (i13 : Int) (i14 : Int) (q15 : IntKind) (i16 : Int) (q17 : IntKind) (i18 : Int) (q19 : IntKind) (i20 : Int) (k21 : Nat) (g22 : Nat → List V) (i23 : Int) (b24 : Bool) (i25 : Int) (k26 : Nat) (i27 : Int) (i28 : Int) (i29 : Int) (i30 : Int) (i31 : Int) (i32 : Int) (i33 : Int) (i34 : Int) (g35 : Nat → List V) : L44x3 env F c l t m0 (fu + 1) g0 i1 q2 i3 k4 i5 i6 i7 i8 i9 i10 i11 i12 i13 i14 q15 i16 q17 i18 q19 i20 k21 g22 i23 b24 i25 k26 i27 i28 i29 i30 i31 i32 i33 i34 g35 = (bif (decide ((0 : Int) ≤ i9)) then (bif (decide (i9 < (((Sl.len (Truth.rates t)) : Nat) : Int))) then (bif (decide ((0 : Int) ≤ i3)) then (bif (decide (i3 < (((Sl.len (Sl.el (Truth.rates t) (Int.toNat i9))) : Nat) : Int))) then (tkOut (env.pf 88 [(.row false 2 1 (fun u43 => (List.take 1 (List.drop ((Min.min u43 1) * 1) [(.int q19 i20), (i64 (IntKind.wrap .i64 ((if i14 < (Sl.el (Sl.el (Truth.rates t) (Int.toNat i9)) (Int.toNat i3)) then i14 else (Sl.el (Sl.el (Truth.rates t) (Int.toNat i9)) (Int.toNat i3))) * i10)))]))))]) none (fun v43 => (tkInt v43 none fun q44 n45 => (bif (decide ((0 : Int) ≤ i3)) then (bif (decide (i3 < ((k4 : Nat) : Int))) then (tkCons (g22 (Int.toNat i3)) none fun v46 r47 => (tkInt v46 none fun q48 n49 => (bif (decide ((0 : Int) ≤ i3)) then (bif (decide (i3 < (((Sl.len (Cav.slices c)) : Nat) : Int))) then (bif (decide (q48 = .i64)) then (bif (decide ((0 : Int) ≤ i3)) then (bif (decide (i3 < ((k4 : Nat) : Int))) then (bif (decide ((0 : Int) ≤ i3)) then (bif (decide (i3 < (((Sl.len (Cav.slices c)) : Nat) : Int))) then (tkOut (env.pf 88 [(.row false 2 1 (fun u50 => (List.take 1 (List.drop ((Min.min u50 1) * 1) [(.int q15 i16), (i64 (IntKind.wrap .i64 ((IntKind.wrap .i64 ((if i14 < (Sl.el (Sl.el (Truth.rates t) (Int.toNat i9)) (Int.toNat i3)) then i14 else (Sl.el (Sl.el (Truth.rates t) (Int.toNat i9)) (Int.toNat i3))) * i10)) * (Slc.opn (Sl.el (Cav.slices c) (Int.toNat i3))))))]))))]) none (fun v50 => (tkInt v50 none fun q51 n52 => (bif (decide ((0 : Int) ≤ i3)) then (bif (decide (i3 < (((Sl.len (Cav.slices c)) : Nat) : Int))) then (tkOut (env.pf 88 [(.row false 2 1 (fun u53 => (List.take 1 (List.drop ((Min.min u53 1) * 1) [(.int q17 i18), (i64 (IntKind.wrap .i64 ((IntKind.wrap .i64 ((if i14 < (Sl.el (Sl.el (Truth.rates t) (Int.toNat i9)) (Int.toNat i3)) then i14 else (Sl.el (Sl.el (Truth.rates t) (Int.toNat i9)) (Int.toNat i3))) * i10)) * (Slc.fall (Sl.el (Cav.slices c) (Int.toNat i3))))))]))))]) none (fun v53 => (tkInt v53 none fun q54 n55 => (tkCons (List.drop 2 (g0 0)) none fun v56 r57 => (tkInt v56 none fun q58 n59 => (bif (decide (q2 = q58)) then (bif (i3 != n59) then (bif (decide (q2 = .i64)) then (L44x3 env F c l t m0 fu g0 i1 q2 (IntKind.wrap q2 (i3 + i1)) k4 i5 i6 i7 i8 i9 i10 i11 i12 i13 (IntKind.wrap .i64 (i14 - (if i14 < (Sl.el (Sl.el (Truth.rates t) (Int.toNat i9)) (Int.toNat i3)) then i14 else (Sl.el (Sl.el (Truth.rates t) (Int.toNat i9)) (Int.toNat i3))))) q51 n52 q54 n55 q44 n45 k21 (updGet g22 (Int.toNat i3) 0 [(.int q48 (IntKind.wrap q48 (n49 + (IntKind.wrap .i64 ((IntKind.wrap .i64 ((if i14 < (Sl.el (Sl.el (Truth.rates t) (Int.toNat i9)) (Int.toNat i3)) then i14 else (Sl.el (Sl.el (Truth.rates t) (Int.toNat i9)) (Int.toNat i3))) * i10)) * (Slc.opn (Sl.el (Cav.slices c) (Int.toNat i3))))))))]) i23 b24 i25 k26 i27 i28 i29 i30 i31 i32 i33 i34 g35) else none) else (bif (decide (.i64 = q54)) then (bif (decide (.i64 = q44)) then (bif (decide (.i64 = q51)) then (bif (decide (.i64 = q54)) then (bif (decide (.i64 = q44)) then (bif (decide (q51 = q54)) then (bif (decide (.i64 = q51)) then (L44x1 env F c l t m0 (IntKind.wrap .i64 (i23 + (1 : Int))) k4 (IntKind.wrap .i64 (i5 + n55)) (IntKind.wrap .i64 (i6 + n45)) (IntKind.wrap .i64 (i7 + (IntKind.wrap .i64 ((IntKind.wrap .i64 ((IntKind.wrap .i64 ((1000000 : Int) * i10)) - n52)) + n55)))) (IntKind.wrap .i64 (i8 + (IntKind.wrap .i64 ((IntKind.wrap .i64 ((1000000 : Int) * n45)) - (IntKind.wrap .i64 ((Cav.hold c) * (IntKind.wrap q51 (n52 - n55)))))))) k21 (updGet g22 (Int.toNat i3) 0 [(.int q48 (IntKind.wrap q48 (n49 + (IntKind.wrap .i64 ((IntKind.wrap .i64 ((if i14 < (Sl.el (Sl.el (Truth.rates t) (Int.toNat i9)) (Int.toNat i3)) then i14 else (Sl.el (Sl.el (Truth.rates t) (Int.toNat i9)) (Int.toNat i3))) * i10)) * (Slc.opn (Sl.el (Cav.slices c) (Int.toNat i3))))))))])) else none) else none) else none) else none) else none) else none) else none)) else none))))) (fun p53 => (tkIfc p53 none fun t54 x55 => (bif (flatP (.iface t54 x55)) then none else none)))) else none) else none))) (fun p50 => (tkIfc p50 none fun t51 x52 => (bif (flatP (.iface t51 x52)) then none else none)))) else none) else none) else none) else none) else none) else none) else none))) else none) else none))) (fun p43 => (tkIfc p43 none fun t44 x45 => (bif (flatP (.iface t44 x45)) then none else none)))) else none) else none) else none) else none) := by kernel_rfl
noncomputable def L15x0 (env : Env) (F : Nat) (c : Cav) (l : Sl Stg) (t : Truth) (fu : Nat) (i0 : Int) : Option Out := atLoop Try.prog (cfg F) env 15 [.r, .r, .r, .r, .r, .l, .r, .d] [] fu { tm := tmL 238 0 [(1, (sl eStg 4 l)), (3, (.optr 0 0 0)), (5, (.optr 1 0 0)), (11, (i64 i0))], hp := [(.box 24 (eCav c) true), (.box 82 (eTruth t) true)] }
noncomputable def L15x1 (env : Env) (F : Nat) (c : Cav) (l : Sl Stg) (t : Truth) (m0 : Nat) (fu : Nat) (i0 : Int) (q1 : IntKind) (i2 : Int) (q3 : IntKind) (i4 : Int) (i5 : Int) (i6 : Int) (i7 : Int) (i8 : Int) (i9 : Int) (i10 : Int) (b11 : Bool) (k12 : Nat) (k13 : Nat) (g14 : Nat → List V) (q15 : IntKind) (i16 : Int) (q17 : IntKind) (i18 : Int) (q19 : IntKind) (i20 : Int) (q21 : IntKind) (i22 : Int) (b23 : Bool) (k24 : Nat) (k25 : Nat) (g26 : Nat → List V) (q27 : IntKind) (i28 : Int) (q29 : IntKind) (i30 : Int) (q31 : IntKind) (i32 : Int) (q33 : IntKind) (i34 : Int) : Option Out := atLoop Try.prog (cfg F) env 15 [.r, .r, .r, .r, .r, .l, .r, .d, .d, .r, .l, .d, .r, .r, .r, .r, .r, .l, .r, .d] [m0] fu { tm := tmL 238 0 [(1, (sl eStg 4 l)), (3, (.optr 0 0 0)), (5, (.optr 1 0 0)), (11, (i64 i0)), (12, (.optr 2 0 0)), (13, (.optr 3 0 0)), (15, (.optr 4 0 0)), (17, (.int q1 i2)), (18, (.int q3 i4)), (19, (i64 i5)), (20, (i64 i6))], hp := [(.box 24 (eCav c) true), (.box 82 (eTruth t) true), (.box 40 [(i64 i7), (i64 i8), (i64 i9), (i64 i10)] true), (.box 84 [(.row b11 k12 k13 g14), (.int q15 i16), (.int q17 i18), (.int q19 i20), (.int q21 i22)] true), (.box 84 [(.row b23 k24 k25 g26), (.int q27 i28), (.int q29 i30), (.int q31 i32), (.int q33 i34)] true)] }
theorem t15 (env : Env) (F : Nat) (c : Cav) (l : Sl Stg) (t : Truth) : (evFun Try.prog (cfg F) env 15 [(.agg (eCav c)), (sl eStg 4 l), (.agg (eTruth t))]) = (tkOut (env.pf 19 [(.agg (eCav c))]) none (fun v5 => (tkBool v5 none fun b6 => (bif (!b6) then (tkOut (env.pf 21 []) none (fun v7 => (tkBool v7 none fun b8 => some (.ret (.bool b8)))) (fun p7 => (tkIfc p7 none fun t8 x9 => (bif (flatP (.iface t8 x9)) then some (.pan (.iface t8 x9)) else none)))) else (bif (decide ((((Sl.len l) : Nat) : Int) > (20 : Int))) then (tkOut (env.pf 21 []) none (fun v7 => (tkBool v7 none fun b8 => some (.ret (.bool b8)))) (fun p7 => (tkIfc p7 none fun t8 x9 => (bif (flatP (.iface t8 x9)) then some (.pan (.iface t8 x9)) else none)))) else (bif (decide ((((Sl.len (Truth.vols t)) : Nat) : Int) > (20 : Int))) then (tkOut (env.pf 21 []) none (fun v7 => (tkBool v7 none fun b8 => some (.ret (.bool b8)))) (fun p7 => (tkIfc p7 none fun t8 x9 => (bif (flatP (.iface t8 x9)) then some (.pan (.iface t8 x9)) else none)))) else (bif (decide ((((Sl.len (Truth.rates t)) : Nat) : Int) > (20 : Int))) then (tkOut (env.pf 21 []) none (fun v7 => (tkBool v7 none fun b8 => some (.ret (.bool b8)))) (fun p7 => (tkIfc p7 none fun t8 x9 => (bif (flatP (.iface t8 x9)) then some (.pan (.iface t8 x9)) else none)))) else (tkOut (env.pf 23 [(.agg (eCav c)), (sl eStg 4 l), (.bool true)]) none (fun v7 => (tkInt v7 none fun q8 n9 => (bif (decide (q8 = .i64)) then (bif (n9 != (0 : Int)) then (tkOut (env.pf 21 []) none (fun v10 => (tkBool v10 none fun b11 => some (.ret (.bool b11)))) (fun p10 => (tkIfc p10 none fun t11 x12 => (bif (flatP (.iface t11 x12)) then some (.pan (.iface t11 x12)) else none)))) else (tkOut (env.pf 20 [(.agg (eCav c)), (sl eStg 4 l), (i64 (5 : Int)), (i64 (100 : Int)), (i64 (8 : Int))]) none (fun v10 => (tkBool v10 none fun b11 => (bif (!b11) then (tkOut (env.pf 21 []) none (fun v12 => (tkBool v12 none fun b13 => some (.ret (.bool b13)))) (fun p12 => (tkIfc p12 none fun t13 x14 => (bif (flatP (.iface t13 x14)) then some (.pan (.iface t13 x14)) else none)))) else (tkOut (env.pf 47 [(.agg (eCav c)), (sl eStg 4 l), (.agg (eTruth t))]) none (fun v12 => (tkBool v12 none fun b13 => (bif (!b13) then (tkOut (env.pf 21 []) none (fun v14 => (tkBool v14 none fun b15 => some (.ret (.bool b15)))) (fun p14 => (tkIfc p14 none fun t15 x16 => (bif (flatP (.iface t15 x16)) then some (.pan (.iface t15 x16)) else none)))) else (tkOut (env.pf 30 [(.agg (eCav c)), (sl eStg 4 l)]) none (fun v14 => (tkTup v14 none fun l15 => (tkCons l15 none fun v16 r17 => (tkInt v16 none fun q18 n19 => (tkCons r17 none fun v20 r21 => (tkInt v20 none fun q22 n23 => (tkCons r21 none fun v24 r25 => (tkInt v24 none fun q26 n27 => (tkCons r25 none fun v28 r29 => (tkInt v28 none fun q30 n31 => (tkNil r29 none ((bif (decide (q30 = .i64)) then (bif (n31 != (0 : Int)) then some (.ret (.bool false)) else (bif (decide (q22 = .i64)) then (bif (decide (q18 = .i64)) then (bif (!((n23 == (1 : Int)) == (n19 == (-(1 : Int))))) then some (.ret (.bool false)) else (bif (decide (q18 = .i64)) then (bif (decide (n19 < (-(1 : Int)))) then some (.ret (.bool false)) else (bif (decide (q18 = .i64)) then (bif (decide (n19 ≥ (((Sl.len l) : Nat) : Int))) then some (.ret (.bool false)) else (bif (decide (q22 = .i64)) then (bif (n23 != (1 : Int)) then (tkOut (env.pf 21 []) none (fun v32 => (tkBool v32 none fun b33 => some (.ret (.bool b33)))) (fun p32 => (tkIfc p32 none fun t33 x34 => (bif (flatP (.iface t33 x34)) then some (.pan (.iface t33 x34)) else none)))) else (L15x0 env F c l t F (0 : Int))) else none)) else none)) else none)) else none) else none)) else none))))))))))))) (fun p14 => (tkIfc p14 none fun t15 x16 => (bif (flatP (.iface t15 x16)) then some (.pan (.iface t15 x16)) else none))))))) (fun p12 => (tkIfc p12 none fun t13 x14 => (bif (flatP (.iface t13 x14)) then some (.pan (.iface t13 x14)) else none))))))) (fun p10 => (tkIfc p10 none fun t11 x12 => (bif (flatP (.iface t11 x12)) then some (.pan (.iface t11 x12)) else none))))) else none))) (fun p7 => (tkIfc p7 none fun t8 x9 => (bif (flatP (.iface t8 x9)) then some (.pan (.iface t8 x9)) else none)))))))))) (fun p5 => (tkIfc p5 none fun t6 x7 => (bif (flatP (.iface t6 x7)) then some (.pan (.iface t6 x7)) else none)))) := by kernel_rfl
theorem L15x0s (env : Env) (F : Nat) (c : Cav) (l : Sl Stg) (t : Truth) (fu : Nat) (i0 : Int) : L15x0 env F c l t (fu + 1) i0 = (bif (decide (i0 < (((Sl.len l) : Nat) : Int))) then (bif (decide ((0 : Int) ≤ i0)) then (bif (decide (i0 < (((Sl.len l) : Nat) : Int))) then (bif (true || (Sl.nl l)) then (bif (decide ((0 : Int) ≤ i0)) then (bif (decide (0 ≤ (Int.toNat i0))) then (bif (decide ((Int.toNat i0) ≤ (Sl.len l))) then (bif (true || (Sl.nl (Truth.rates t))) then (bif (decide ((0 : Int) ≤ i0)) then (bif (decide (0 ≤ (Int.toNat i0))) then (bif (decide ((Int.toNat i0) ≤ (Sl.len (Truth.rates t)))) then (tkOut (env.pf 44 [(.agg (eCav c)), (.row (Sl.nl l) ((Int.toNat i0) - 0) 4 (fun u7 => (eStg (Sl.el l u7)))), (.agg [(sl eInt 1 (Truth.vols t)), (.row (Sl.nl (Truth.rates t)) ((Int.toNat i0) - 0) 1 (fun u7 => [(sl eInt 1 (Sl.el (Truth.rates t) u7))]))])]) none (fun v7 => (tkTup v7 none fun l8 => (tkCons l8 none fun v9 r10 => (tkAgg v9 none fun l11 => (tkCons l11 none fun v12 r13 => (tkRow v12 none fun nl14 n15 wd16 g17 => (tkCons r13 none fun v18 r19 => (tkInt v18 none fun q20 n21 => (tkCons r19 none fun v22 r23 => (tkInt v22 none fun q24 n25 => (tkCons r23 none fun v26 r27 => (tkInt v26 none fun q28 n29 => (tkCons r27 none fun v30 r31 => (tkInt v30 none fun q32 n33 => (tkNil r31 none ((tkCons r10 none fun v34 r35 => (tkInt v34 none fun q36 n37 => (tkNil r35 none ((bif (true || (Sl.nl l)) then (bif (decide ((0 : Int) ≤ (IntKind.wrap .i64 (i0 + (1 : Int))))) then (bif (decide (0 ≤ (Int.toNat (IntKind.wrap .i64 (i0 + (1 : Int)))))) then (bif (decide ((Int.toNat (IntKind.wrap .i64 (i0 + (1 : Int)))) ≤ (Sl.len l))) then (bif (true || (Sl.nl (Truth.rates t))) then (bif (decide ((0 : Int) ≤ (IntKind.wrap .i64 (i0 + (1 : Int))))) then (bif (decide (0 ≤ (Int.toNat (IntKind.wrap .i64 (i0 + (1 : Int)))))) then (bif (decide ((Int.toNat (IntKind.wrap .i64 (i0 + (1 : Int)))) ≤ (Sl.len (Truth.rates t)))) then (tkOut (env.pf 44 [(.agg (eCav c)), (.row (Sl.nl l) ((Int.toNat (IntKind.wrap .i64 (i0 + (1 : Int)))) - 0) 4 (fun u38 => (eStg (Sl.el l u38)))), (.agg [(sl eInt 1 (Truth.vols t)), (.row (Sl.nl (Truth.rates t)) ((Int.toNat (IntKind.wrap .i64 (i0 + (1 : Int)))) - 0) 1 (fun u38 => [(sl eInt 1 (Sl.el (Truth.rates t) u38))]))])]) none (fun v38 => (tkTup v38 none fun l39 => (tkCons l39 none fun v40 r41 => (tkAgg v40 none fun l42 => (tkCons l42 none fun v43 r44 => (tkRow v43 none fun nl45 n46 wd47 g48 => (tkCons r44 none fun v49 r50 => (tkInt v49 none fun q51 n52 => (tkCons r50 none fun v53 r54 => (tkInt v53 none fun q55 n56 => (tkCons r54 none fun v57 r58 => (tkInt v57 none fun q59 n60 => (tkCons r58 none fun v61 r62 => (tkInt v61 none fun q63 n64 => (tkNil r62 none ((tkCons r41 none fun v65 r66 => (tkInt v65 none fun q67 n68 => (tkNil r66 none ((bif (decide (q36 = .i64)) then (bif (n37 != (0 : Int)) then some (.ret (.bool false)) else (bif (decide (q67 = .i64)) then (bif (n68 != (0 : Int)) then some (.ret (.bool false)) else (tkOut (env.pf 45 [(.agg (eCav c)), (.agg [(.row nl14 n15 wd16 g17), (.int q20 n21), (.int q24 n25), (.int q28 n29), (.int q32 n33)])]) none (fun v69 => (tkBool v69 none fun b70 => (bif (!b70) then some (.ret (.bool false)) else (tkOut (env.pf 45 [(.agg (eCav c)), (.agg [(.row nl45 n46 wd47 g48), (.int q51 n52), (.int q55 n56), (.int q59 n60), (.int q63 n64)])]) none (fun v71 => (tkBool v71 none fun b72 => (bif (!b72) then some (.ret (.bool false)) else (bif (decide ((Stg.into (Sl.el l (Int.toNat i0))) ≥ (Stg.blanket (Sl.el l (Int.toNat i0))))) then some (.ret (.bool false)) else (bif (decide ((Stg.out (Sl.el l (Int.toNat i0))) ≥ (Stg.blanket (Sl.el l (Int.toNat i0))))) then some (.ret (.bool false)) else (L15x1 env F c l t fu F i0 q20 (IntKind.wrap q20 ((0 : Int) - n21)) q51 (IntKind.wrap q51 ((0 : Int) - n52)) (0 : Int) (0 : Int) (Stg.water (Sl.el l (Int.toNat i0))) (Stg.into (Sl.el l (Int.toNat i0))) (Stg.out (Sl.el l (Int.toNat i0))) (Stg.blanket (Sl.el l (Int.toNat i0))) nl14 n15 wd16 g17 q20 n21 q24 n25 q28 n29 q32 n33 nl45 n46 wd47 g48 q51 n52 q55 n56 q59 n60 q63 n64)))))) (fun p71 => (tkIfc p71 none fun t72 x73 => (bif (flatP (.iface t72 x73)) then some (.pan (.iface t72 x73)) else none))))))) (fun p69 => (tkIfc p69 none fun t70 x71 => (bif (flatP (.iface t70 x71)) then some (.pan (.iface t70 x71)) else none))))) else none)) else none))))))))))))))))))))) (fun p38 => (tkIfc p38 none fun t39 x40 => (bif (flatP (.iface t39 x40)) then some (.pan (.iface t39 x40)) else none)))) else none) else none) else none) else none) else none) else none) else none) else none))))))))))))))))))))) (fun p7 => (tkIfc p7 none fun t8 x9 => (bif (flatP (.iface t8 x9)) then some (.pan (.iface t8 x9)) else none)))) else none) else none) else none) else none) else none) else none) else none) else none) else none) else none) else (tkOut (env.pf 21 []) none (fun v7 => (tkBool v7 none fun b8 => some (.ret (.bool b8)))) (fun p7 => (tkIfc p7 none fun t8 x9 => (bif (flatP (.iface t8 x9)) then some (.pan (.iface t8 x9)) else none))))) := by kernel_rfl
theorem L15x1s (env : Env) (F : Nat) (c : Cav) (l : Sl Stg) (t : Truth) (m0 : Nat) (fu : Nat) (i0 : Int) (q1 : IntKind) (i2 : Int) (q3 : IntKind) (i4 : Int) (i5 : Int) (i6 : Int) (i7 : Int) (i8 : Int) (i9 : Int) (i10 : Int) (b11 : Bool) (k12 : Nat) (k13 : Nat) (g14 : Nat → List V) (q15 : IntKind) (i16 : Int) (q17 : IntKind) (i18 : Int) (q19 : IntKind) (i20 : Int) (q21 : IntKind) (i22 : Int) (b23 : Bool) (k24 : Nat) (k25 : Nat) (g26 : Nat → List V) (q27 : IntKind) (i28 : Int) (q29 : IntKind) (i30 : Int) (q31 : IntKind) (i32 : Int) (q33 : IntKind) (i34 : Int) : L15x1 env F c l t m0 (fu + 1) i0 q1 i2 q3 i4 i5 i6 i7 i8 i9 i10 b11 k12 k13 g14 q15 i16 q17 i18 q19 i20 q21 i22 b23 k24 k25 g26 q27 i28 q29 i30 q31 i32 q33 i34 = (bif (decide (i6 < (((Sl.len (Cav.slices c)) : Nat) : Int))) then (bif (decide (i6 ≤ i8)) then (bif (decide (i6 ≤ i9)) then (bif (k13 == 1) then (bif (decide ((0 : Int) ≤ i6)) then (bif (decide (i6 < ((k12 : Nat) : Int))) then (tkCons (g14 (Int.toNat i6)) none fun v42 r43 => (tkInt v42 none fun q44 n45 => (bif (decide (q1 = q44)) then (bif (k25 == 1) then (bif (decide ((0 : Int) ≤ i6)) then (bif (decide (i6 < ((k24 : Nat) : Int))) then (tkCons (g26 (Int.toNat i6)) none fun v46 r47 => (tkInt v46 none fun q48 n49 => (bif (decide (q3 = q48)) then (bif (decide (i6 ≥ i10)) then (bif (k13 == 1) then (bif (decide ((0 : Int) ≤ i6)) then (bif (decide (i6 < ((k12 : Nat) : Int))) then (tkCons (g14 (Int.toNat i6)) none fun v50 r51 => (tkInt v50 none fun q52 n53 => (bif (decide (.i64 = q52)) then (bif (k25 == 1) then (bif (decide ((0 : Int) ≤ i6)) then (bif (decide (i6 < ((k24 : Nat) : Int))) then (tkCons (g26 (Int.toNat i6)) none fun v54 r55 => (tkInt v54 none fun q56 n57 => (bif (decide ((0 : Int) ≤ i6)) then (bif (decide (i6 < (((Sl.len (Cav.slices c)) : Nat) : Int))) then (bif (decide (q56 = .i64)) then (bif (decide (n57 > (Slc.most (Sl.el (Cav.slices c) (Int.toNat i6))))) then some (.ret (.bool false)) else (L15x1 env F c l t m0 fu i0 q1 (IntKind.wrap q1 (i2 + n45)) q3 (IntKind.wrap q3 (i4 + n49)) (IntKind.wrap .i64 (i5 + n53)) (IntKind.wrap .i64 (i6 + (1 : Int))) i7 i8 i9 i10 b11 k12 k13 g14 q15 i16 q17 i18 q19 i20 q21 i22 b23 k24 k25 g26 q27 i28 q29 i30 q31 i32 q33 i34)) else none) else none) else none))) else none) else none) else none) else none))) else none) else none) else none) else (bif (k25 == 1) then (bif (decide ((0 : Int) ≤ i6)) then (bif (decide (i6 < ((k24 : Nat) : Int))) then (tkCons (g26 (Int.toNat i6)) none fun v50 r51 => (tkInt v50 none fun q52 n53 => (bif (decide ((0 : Int) ≤ i6)) then (bif (decide (i6 < (((Sl.len (Cav.slices c)) : Nat) : Int))) then (bif (decide (q52 = .i64)) then (bif (decide (n53 > (Slc.most (Sl.el (Cav.slices c) (Int.toNat i6))))) then some (.ret (.bool false)) else (L15x1 env F c l t m0 fu i0 q1 (IntKind.wrap q1 (i2 + n45)) q3 (IntKind.wrap q3 (i4 + n49)) i5 (IntKind.wrap .i64 (i6 + (1 : Int))) i7 i8 i9 i10 b11 k12 k13 g14 q15 i16 q17 i18 q19 i20 q21 i22 b23 k24 k25 g26 q27 i28 q29 i30 q31 i32 q33 i34)) else none) else none) else none))) else none) else none) else none)) else none))) else none) else none) else none) else none))) else none) else none) else none) else (bif (decide (i6 ≥ i10)) then (bif (k13 == 1) then (bif (decide ((0 : Int) ≤ i6)) then (bif (decide (i6 < ((k12 : Nat) : Int))) then (tkCons (g14 (Int.toNat i6)) none fun v42 r43 => (tkInt v42 none fun q44 n45 => (bif (decide (.i64 = q44)) then (bif (k25 == 1) then (bif (decide ((0 : Int) ≤ i6)) then (bif (decide (i6 < ((k24 : Nat) : Int))) then (tkCons (g26 (Int.toNat i6)) none fun v46 r47 => (tkInt v46 none fun q48 n49 => (bif (decide ((0 : Int) ≤ i6)) then (bif (decide (i6 < (((Sl.len (Cav.slices c)) : Nat) : Int))) then (bif (decide (q48 = .i64)) then (bif (decide (n49 > (Slc.most (Sl.el (Cav.slices c) (Int.toNat i6))))) then some (.ret (.bool false)) else (L15x1 env F c l t m0 fu i0 q1 i2 q3 i4 (IntKind.wrap .i64 (i5 + n45)) (IntKind.wrap .i64 (i6 + (1 : Int))) i7 i8 i9 i10 b11 k12 k13 g14 q15 i16 q17 i18 q19 i20 q21 i22 b23 k24 k25 g26 q27 i28 q29 i30 q31 i32 q33 i34)) else none) else none) else none))) else none) else none) else none) else none))) else none) else none) else none) else (bif (k25 == 1) then (bif (decide ((0 : Int) ≤ i6)) then (bif (decide (i6 < ((k24 : Nat) : Int))) then (tkCons (g26 (Int.toNat i6)) none fun v42 r43 => (tkInt v42 none fun q44 n45 => (bif (decide ((0 : Int) ≤ i6)) then (bif (decide (i6 < (((Sl.len (Cav.slices c)) : Nat) : Int))) then (bif (decide (q44 = .i64)) then (bif (decide (n45 > (Slc.most (Sl.el (Cav.slices c) (Int.toNat i6))))) then some (.ret (.bool false)) else (L15x1 env F c l t m0 fu i0 q1 i2 q3 i4 i5 (IntKind.wrap .i64 (i6 + (1 : Int))) i7 i8 i9 i10 b11 k12 k13 g14 q15 i16 q17 i18 q19 i20 q21 i22 b23 k24 k25 g26 q27 i28 q29 i30 q31 i32 q33 i34)) else none) else none) else none))) else none) else none) else none))) else (bif (decide (i6 ≥ i10)) then (bif (k13 == 1) then (bif (decide ((0 : Int) ≤ i6)) then (bif (decide (i6 < ((k12 : Nat) : Int))) then (tkCons (g14 (Int.toNat i6)) none fun v42 r43 => (tkInt v42 none fun q44 n45 => (bif (decide (.i64 = q44)) then (bif (k25 == 1) then (bif (decide ((0 : Int) ≤ i6)) then (bif (decide (i6 < ((k24 : Nat) : Int))) then (tkCons (g26 (Int.toNat i6)) none fun v46 r47 => (tkInt v46 none fun q48 n49 => (bif (decide ((0 : Int) ≤ i6)) then (bif (decide (i6 < (((Sl.len (Cav.slices c)) : Nat) : Int))) then (bif (decide (q48 = .i64)) then (bif (decide (n49 > (Slc.most (Sl.el (Cav.slices c) (Int.toNat i6))))) then some (.ret (.bool false)) else (L15x1 env F c l t m0 fu i0 q1 i2 q3 i4 (IntKind.wrap .i64 (i5 + n45)) (IntKind.wrap .i64 (i6 + (1 : Int))) i7 i8 i9 i10 b11 k12 k13 g14 q15 i16 q17 i18 q19 i20 q21 i22 b23 k24 k25 g26 q27 i28 q29 i30 q31 i32 q33 i34)) else none) else none) else none))) else none) else none) else none) else none))) else none) else none) else none) else (bif (k25 == 1) then (bif (decide ((0 : Int) ≤ i6)) then (bif (decide (i6 < ((k24 : Nat) : Int))) then (tkCons (g26 (Int.toNat i6)) none fun v42 r43 => (tkInt v42 none fun q44 n45 => (bif (decide ((0 : Int) ≤ i6)) then (bif (decide (i6 < (((Sl.len (Cav.slices c)) : Nat) : Int))) then (bif (decide (q44 = .i64)) then (bif (decide (n45 > (Slc.most (Sl.el (Cav.slices c) (Int.toNat i6))))) then some (.ret (.bool false)) else (L15x1 env F c l t m0 fu i0 q1 i2 q3 i4 i5 (IntKind.wrap .i64 (i6 + (1 : Int))) i7 i8 i9 i10 b11 k12 k13 g14 q15 i16 q17 i18 q19 i20 q21 i22 b23 k24 k25 g26 q27 i28 q29 i30 q31 i32 q33 i34)) else none) else none) else none))) else none) else none) else none))) else (bif (decide (q1 = .i64)) then (bif (decide (i2 < (0 : Int))) then some (.ret (.bool false)) else (bif (decide (q3 = .i64)) then (bif (decide (i4 < (0 : Int))) then some (.ret (.bool false)) else (bif (decide (i5 > (Cav.oil c))) then some (.ret (.bool false)) else (L15x0 env F c l t m0 (IntKind.wrap .i64 (i0 + (1 : Int)))))) else none)) else none)) := by kernel_rfl
end Go.Sim.Le


namespace Go.Sim.Le
open Go.Proofs
theorem fitInt {k : IntKind} {c : V} (h : Fit (.int k) c) : ∃ n, c = .int k n ∧ k.min ≤ n ∧ n ≤ k.max := by
  cases h with
  | int h => exact ⟨_, rfl, h⟩
theorem fitL_nil {cs : List V} (h : FitL [] cs) : cs = [] := by
  have := h.1
  exact List.eq_nil_of_length_eq_zero this
theorem fitL_cons {s : Sh} {l : List Sh} {cs : List V} (h : FitL (s :: l) cs) : ∃ c cs', cs = c :: cs' ∧ Fit s c ∧ FitL l cs' := by
  obtain ⟨h1, h2⟩ := h
  cases cs with
  | nil => simp at h1
  | cons c cs' => exact ⟨c, cs', rfl, h2 0 s c rfl rfl, by simpa using h1, fun j s' c' g1 g2 => h2 (j + 1) s' c' (by simpa using g1) (by simpa using g2)⟩
theorem fitL_int {k : IntKind} {l : List Sh} {cs : List V} (h : FitL (.int k :: l) cs) : ∃ n cs', cs = .int k n :: cs' ∧ FitL l cs' := by
  obtain ⟨c, cs', rfl, h1, h2⟩ := fitL_cons h
  obtain ⟨n, rfl, _⟩ := fitInt h1
  exact ⟨n, cs', rfl, h2⟩
abbrev SlOk {α : Type} (s : Sl α) : Prop := s.len ≤ 140737488355328 ∧ (s.nl = true → s.len = 0)
theorem fitRow {α : Type} {e : α → List V} {P : α → Prop} {l : List Sh} (dec : ∀ cs, FitL l cs → ∃ a : α, cs = e a ∧ P a) {c : V} (h : Fit (.row l) c) : ∃ s : Sl α, c = sl e l.length s ∧ SlOk s ∧ ∀ i, P (s.el i) := by
  cases h with
  | row h hn hl hf =>
    rename_i nl len get
    have hx : ∀ i, ∃ a : α, get i = e a ∧ P a := fun i => dec _ ⟨hl i, hf i⟩
    refine ⟨⟨nl, len, fun i => (hx i).choose⟩, ?_, ⟨h, hn⟩, fun i => (hx i).choose_spec.2⟩
    show V.row nl len l.length get = V.row nl len l.length fun i => e (hx i).choose
    congr 1
    funext i
    exact (hx i).choose_spec.1
theorem fitL_row {α : Type} {e : α → List V} {P : α → Prop} {l r : List Sh} (dec : ∀ cs, FitL l cs → ∃ a : α, cs = e a ∧ P a) {cs : List V} (h : FitL (.row l :: r) cs) : ∃ (s : Sl α) (cs' : List V), cs = sl e l.length s :: cs' ∧ SlOk s ∧ (∀ i, P (s.el i)) ∧ FitL r cs' := by
  obtain ⟨c, cs', rfl, h1, h2⟩ := fitL_cons h
  obtain ⟨s, rfl, h3, h4⟩ := fitRow dec h1
  exact ⟨s, cs', rfl, h3, h4, h2⟩
abbrev i8 : Sh := .int .i64
abbrev shSlc : List Sh := [i8, i8, i8, i8, i8, i8, i8]
abbrev shCav : List Sh := [.row shSlc, i8, i8]
abbrev shStg : List Sh := [i8, i8, i8, i8]
abbrev shTruth : List Sh := [.row [i8], .row [.row [i8]]]
theorem decInt (cs : List V) (h : FitL [i8] cs) : ∃ n : Int, cs = eInt n ∧ I64 n := by
  obtain ⟨c, cs', rfl, h1, h2⟩ := fitL_cons h
  obtain ⟨n, rfl, m1, m2⟩ := fitInt h1
  obtain rfl := fitL_nil h2
  refine ⟨n, rfl, ?_⟩
  exact ⟨m1, m2⟩
theorem decIL (cs : List V) (h : FitL [.row [i8]] cs) : ∃ s : Sl Int, cs = eIL s ∧ SlOk s := by
  obtain ⟨s, _, rfl, h1, _, h2⟩ := fitL_row decInt h
  obtain rfl := fitL_nil h2
  exact ⟨s, rfl, h1⟩
theorem decSlc (cs : List V) (h : FitL shSlc cs) : ∃ c : Slc, cs = eSlc c ∧ True := by
  obtain ⟨a0, _, rfl, h1⟩ := fitL_int h
  obtain ⟨a1, _, rfl, h2⟩ := fitL_int h1
  obtain ⟨a2, _, rfl, h3⟩ := fitL_int h2
  obtain ⟨a3, _, rfl, h4⟩ := fitL_int h3
  obtain ⟨a4, _, rfl, h5⟩ := fitL_int h4
  obtain ⟨a5, _, rfl, h6⟩ := fitL_int h5
  obtain ⟨a6, _, rfl, h7⟩ := fitL_int h6
  obtain rfl := fitL_nil h7
  exact ⟨⟨⟨a0, a1⟩, a2, a3, ⟨a4, a5⟩, a6⟩, rfl, trivial⟩
theorem decStg (cs : List V) (h : FitL shStg cs) : ∃ c : Stg, cs = eStg c ∧ True := by
  obtain ⟨a0, _, rfl, h1⟩ := fitL_int h
  obtain ⟨a1, _, rfl, h2⟩ := fitL_int h1
  obtain ⟨a2, _, rfl, h3⟩ := fitL_int h2
  obtain ⟨a3, _, rfl, h4⟩ := fitL_int h3
  obtain rfl := fitL_nil h4
  exact ⟨⟨a0, a1, a2, a3⟩, rfl, trivial⟩
theorem decCav (cs : List V) (h : FitL shCav cs) : ∃ c : Cav, cs = eCav c ∧ SlOk c.slices := by
  obtain ⟨a, _, rfl, h0, _, h1⟩ := fitL_row decSlc h
  obtain ⟨b, _, rfl, h2⟩ := fitL_int h1
  obtain ⟨d, _, rfl, h3⟩ := fitL_int h2
  obtain rfl := fitL_nil h3
  exact ⟨⟨a, b, d⟩, rfl, h0⟩
theorem decTruth (cs : List V) (h : FitL shTruth cs) : ∃ t : Truth, cs = eTruth t ∧ SlOk t.vols ∧ SlOk t.rates ∧ ∀ i, SlOk (t.rates.el i) := by
  obtain ⟨a, _, rfl, h0, _, h1⟩ := fitL_row decInt h
  obtain ⟨b, _, rfl, h2, h3, h4⟩ := fitL_row decIL h1
  obtain rfl := fitL_nil h4
  exact ⟨⟨a, b⟩, rfl, h0, h2, h3⟩
theorem own : ownKnob Try.prog.godebug = none := by kernel_rfl
end Go.Sim.Le


namespace Go.Sim.Le
open Go.Proofs
variable (F d : Nat)
theorem s19 (c : Cav) : (E F (d + 1)).pf 19 [.agg (eCav c)] = some (.ret (.bool (decide (c.slices.len ≤ 20)))) := by
  rw [E_pf, t19]
  refine b3 (b2 ?_)
  simp only [decide_eq_true_iff]
  omega
theorem z0' {α : Type} (a b : α) : (bif ((0 : Int) != 0) then a else b) = b := rfl
theorem lenB {n : Nat} (h : n ≤ 140737488355328) : n < Big := by show n < 4611686018427387904; omega
end Go.Sim.Le


namespace Go.Sim.Le
open Go.Proofs
variable (F d : Nat)
theorem s20 (c : Cav) (l : Sl Stg) (x y z : Int) (hC : c.slices.len < Big) (hCF : c.slices.len < F) (hB : l.len < Big) (hF : l.len < F) : (E F (d + 5)).pf 20 [.agg (eCav c), sl eStg 4 l, .int .i64 x, .int .i64 y, .int .i64 z] = some (.ret (.bool (decide (errP c l true ≠ 0 ∨ (c.slices.len : Int) ≤ x ∧ c.hold ≤ y ∧ (l.len : Int) ≤ z)))) := by
  rw [E_pf, t20]
  simp only [s23 F d c l true hC hCF hB hF, tkOut_ret, tkInt_i, decide_true, pT]
  by_cases h0 : errP c l true = 0
  · rw [h0, show ((0 : Int) != 0) = false from rfl, pF]
    by_cases h1 : (c.slices.len : Int) ≤ x
    · by_cases h2 : c.hold ≤ y
      · rw [decide_eq_true h1, decide_eq_true h2, pT, pT]
        exact b3 (b2 (by simp [h1, h2]))
      · rw [decide_eq_true h1, decide_eq_false h2, pT, pF]
        exact b3 (b2 (by simp [h2]))
    · rw [decide_eq_false h1, pF]
      exact b3 (b2 (by simp [h1]))
  · rw [show (errP c l true != 0) = true by simpa using h0, pT]
    exact b3 (b2 (by simp [h0]))
end Go.Sim.Le


namespace Go.Sim.Le
open Go.Proofs
variable (F d : Nat)
theorem wv0 (y : Int) (u : Nat) : wv 0 y u = if (u : Int) ≤ y then -1 else 0 := by
  unfold wv
  by_cases h : (u : Int) ≤ y
  · rw [if_pos ⟨rfl, h⟩, if_pos h]
  · rw [if_neg (fun hh => h hh.2), if_neg (by omega), if_neg h]
theorem wv1 (y : Int) (u : Nat) : wv 1 y u = if y ≤ (u : Int) then 1 else 0 := by
  unfold wv
  rw [if_neg (by omega)]
  by_cases h : y ≤ (u : Int)
  · rw [if_pos (.inl ⟨rfl, h⟩), if_pos h]
  · rw [if_neg (by omega), if_neg h]
theorem wv2 (y : Int) (u : Nat) : wv 2 y u = if (u : Int) = y then 1 else 0 := by
  unfold wv
  rw [if_neg (by omega)]
  by_cases h : (u : Int) = y
  · rw [if_pos (.inr ⟨rfl, h⟩), if_pos h]
  · rw [if_neg (by omega), if_neg h]
def oneW (n u : Nat) : Int := if u = n then 1 else 0
def negW (q u : Nat) : Int := if u < q then -1 else 0
section
variable {c : Cav} (hc : CavOk c) (l : Sl Stg) (hL : l.len ≤ 300) (hs : ∀ i, i < l.len → StgOk c.slices.len (l.el i)) (hF : 400 < F)
include hc hL hs hF
def upW (b q u : Nat) : Int := if b ≤ u ∧ u < q then 1 else 0
end
end Go.Sim.Le


namespace Go.Sim.Le
open Go.Proofs
abbrev TruthOk (c : Cav) (n : Nat) (t : Truth) : Prop := t.vols.len = c.slices.len ∧ t.rates.len = n ∧ (∀ i, i < t.vols.len → (c.slices.el i).vol.lo ≤ t.vols.el i ∧ t.vols.el i ≤ (c.slices.el i).vol.hi) ∧
  ∀ k, k < t.rates.len → (t.rates.el k).len = c.slices.len ∧ ∀ i, i < c.slices.len → (c.slices.el i).rate.lo ≤ (t.rates.el k).el i ∧ (t.rates.el k).el i ≤ (c.slices.el i).rate.hi
variable (F d : Nat)
section
variable (c : Cav) (l : Sl Stg) (t : Truth) (hcl : c.slices.len < Big) (htl : t.rates.len < Big) (hCF : c.slices.len < F) (hTF : t.rates.len < F)
def rateB (k i : Nat) : Bool := decide ((c.slices.el i).rate.lo ≤ (t.rates.el k).el i ∧ (t.rates.el k).el i ≤ (c.slices.el i).rate.hi)
def rowB (k : Nat) : Bool := decide ((t.rates.el k).len = c.slices.len) && allF (rateB c t k) c.slices.len 0
theorem rowB_iff (k : Nat) : rowB c t k = true ↔ ((t.rates.el k).len = c.slices.len ∧ ∀ i, i < c.slices.len → (c.slices.el i).rate.lo ≤ (t.rates.el k).el i ∧ (t.rates.el k).el i ≤ (c.slices.el i).rate.hi) := by
  unfold rowB
  rw [allF_dec]
  simp only [Bool.and_eq_true, decide_eq_true_eq, rateB]
include hcl htl hCF hTF
theorem l87x2 (m0 k : Nat) (hk : (t.rates.el k).len = c.slices.len) (R : Option Out) : ∀ j i fu, i + j = c.slices.len → j < fu →
    (bif allF (rateB c t k) j i then L87x1 (E F (d + 1)) F c l t m0 (IntKind.i64.wrap ((k : Int) + 1)) else some (.ret (.bool false))) = R →
    L87x2 (E F (d + 1)) F c l t m0 fu k (t.rates.el k).nl (t.rates.el k).len (fun u => [.int .i64 ((t.rates.el k).el u)]) (t.rates.el k).len i = R := by
  have hB : c.slices.len < 4611686018427387904 := hcl
  intro j
  induction j with
  | zero =>
    intro i fu h hf K
    obtain ⟨fu, rfl⟩ : ∃ k, fu = k + 1 := ⟨fu - 1, by omega⟩
    rw [L87x2s, decide_eq_false (by omega), pF]
    simp only [allF, cond_true] at K
    exact K
  | succ j ih =>
    intro i fu h hf K
    obtain ⟨fu, rfl⟩ : ∃ k, fu = k + 1 := ⟨fu - 1, by omega⟩
    rw [L87x2s]
    simp (disch := omega) only [decide_eq_true, decide_true, pT, Int.toNat_natCast, tkCons_c, tkInt_i, s59, tkOut_ret, tkBool_b]
    simp only [allF] at K
    by_cases hr : (c.slices.el i).rate.lo ≤ (t.rates.el k).el i ∧ (t.rates.el k).el i ≤ (c.slices.el i).rate.hi
    · rw [show rateB c t k i = true from decide_eq_true hr, Bool.true_and] at K
      rw [decide_eq_true hr, Bool.not_true, pF, wrS (by omega)]
      exact ih (i + 1) fu (by omega) (by omega) K
    · rw [show rateB c t k i = false from decide_eq_false hr, Bool.false_and, cond_false] at K
      rw [decide_eq_false hr, Bool.not_false, pT]
      exact K
theorem l87x1 : ∀ j k fu, k + j = t.rates.len → j < fu → L87x1 (E F (d + 1)) F c l t fu k = some (.ret (.bool (allF (rowB c t) j k))) := by
  have hB : c.slices.len < 4611686018427387904 := hcl
  have hT : t.rates.len < 4611686018427387904 := htl
  intro j
  induction j with
  | zero =>
    intro k fu h hf
    obtain ⟨fu, rfl⟩ : ∃ k, fu = k + 1 := ⟨fu - 1, by omega⟩
    rw [L87x1s, decide_eq_false (by omega), pF]
    rfl
  | succ j ih =>
    intro k fu h hf
    obtain ⟨fu, rfl⟩ : ∃ k, fu = k + 1 := ⟨fu - 1, by omega⟩
    rw [L87x1s]
    simp (disch := omega) only [decide_eq_true, decide_true, pT, Int.toNat_natCast]
    by_cases hk : (t.rates.el k).len = c.slices.len
    · rw [show (((t.rates.el k).len : Int) != (c.slices.len : Int)) = false by rw [hk]; simp, pF]
      refine l87x2 F d c l t hcl htl hCF hTF fu k hk _ c.slices.len 0 F (by omega) (by omega) ?_
      simp only [allF, rowB, decide_eq_true hk, Bool.true_and]
      rw [wrS (by omega)]
      cases allF (rateB c t k) c.slices.len 0 with
      | true => rw [cond_true, Bool.true_and]; exact ih (k + 1) fu (by omega) (by omega)
      | false => rw [cond_false, Bool.false_and]
    · rw [show (((t.rates.el k).len : Int) != (c.slices.len : Int)) = true by simp; omega, pT]
      simp only [allF, rowB, decide_eq_false hk, Bool.false_and]
theorem l87x0 (hv : t.vols.len = c.slices.len) : ∀ j i fu, i + j = t.vols.len → j < fu → L87x0 (E F (d + 1)) F c l t fu i = some (.ret (.bool (allF (fun i => decide ((c.slices.el i).vol.lo ≤ t.vols.el i ∧ t.vols.el i ≤ (c.slices.el i).vol.hi)) j i && allF (rowB c t) t.rates.len 0))) := by
  have hB : c.slices.len < 4611686018427387904 := hcl
  intro j
  induction j with
  | zero =>
    intro i fu h hf
    obtain ⟨fu, rfl⟩ : ∃ k, fu = k + 1 := ⟨fu - 1, by omega⟩
    rw [L87x0s, decide_eq_false (by omega), pF]
    exact l87x1 F d c l t hcl htl hCF hTF t.rates.len 0 F (by omega) (by omega)
  | succ j ih =>
    intro i fu h hf
    obtain ⟨fu, rfl⟩ : ∃ k, fu = k + 1 := ⟨fu - 1, by omega⟩
    rw [L87x0s]
    simp (disch := omega) only [decide_eq_true (show (i : Int) < (t.vols.len : Int) by omega), decide_eq_true (show (i : Int) < (c.slices.len : Int) by omega), decide_eq_true (show (0 : Int) ≤ (i : Int) by omega), pT, Int.toNat_natCast, s59, tkOut_ret, tkBool_b]
    simp only [allF]
    cases decide ((c.slices.el i).vol.lo ≤ t.vols.el i ∧ t.vols.el i ≤ (c.slices.el i).vol.hi) with
    | true => rw [Bool.not_true, pF, wrS (by omega), Bool.true_and]; exact ih (i + 1) fu (by omega) (by omega)
    | false => rw [Bool.not_false, pT]; rfl
theorem s87 : (E F (d + 2)).pf 87 [.agg (eCav c), sl eStg 4 l, .agg (eTruth t)] = some (.ret (.bool (decide (TruthOk c l.len t)))) := by
  rw [E_pf, t87]
  by_cases hv : t.vols.len = c.slices.len
  · rw [show ((t.vols.len : Int) != (c.slices.len : Int)) = false by rw [hv]; simp, pF]
    by_cases hr : t.rates.len = l.len
    · rw [show ((t.rates.len : Int) != (l.len : Int)) = false by rw [hr]; simp, pF]
      refine (l87x0 F d c l t hcl htl hCF hTF hv t.vols.len 0 F (by omega) (by omega)).trans (b3 (b2 ?_))
      rw [allF_dec, allF_dec]
      simp only [Bool.and_eq_true, decide_eq_true_eq, rowB_iff]
      exact ⟨fun h => ⟨hv, hr, h.1, h.2⟩, fun h => ⟨h.2.2.1, h.2.2.2⟩⟩
    · rw [show ((t.rates.len : Int) != (l.len : Int)) = true by simp; omega, pT]
      exact b3 (Eq.symm (decide_eq_false fun h => hr h.2.1))
  · rw [show ((t.vols.len : Int) != (c.slices.len : Int)) = true by simp; omega, pT]
    exact b3 (Eq.symm (decide_eq_false fun h => hv h.1))
theorem l47x2 (m0 k : Nat) (hkr : k < t.rates.len) (hk : (t.rates.el k).len = c.slices.len) (R : Option Out) : ∀ j i fu, i + j = c.slices.len → j < fu →
    (bif allF (rateB c t k) j i then L47x1 (E F (d + 1)) F c l t m0 (IntKind.i64.wrap ((k : Int) + 1)) else some (.ret (.bool false))) = R →
    L47x2 (E F (d + 1)) F c l t m0 fu k i = R := by
  have hB : c.slices.len < 4611686018427387904 := hcl
  intro j
  induction j with
  | zero =>
    intro i fu h hf K
    obtain ⟨fu, rfl⟩ : ∃ k, fu = k + 1 := ⟨fu - 1, by omega⟩
    rw [L47x2s, decide_eq_false (by omega), pF]
    simp only [allF, cond_true] at K
    exact K
  | succ j ih =>
    intro i fu h hf K
    obtain ⟨fu, rfl⟩ : ∃ k, fu = k + 1 := ⟨fu - 1, by omega⟩
    rw [L47x2s]
    simp (disch := omega) only [decide_eq_true, decide_true, pT, Int.toNat_natCast, s64, tkOut_ret, tkBool_b]
    simp only [allF] at K
    by_cases hr : (c.slices.el i).rate.lo ≤ (t.rates.el k).el i ∧ (t.rates.el k).el i ≤ (c.slices.el i).rate.hi
    · rw [show rateB c t k i = true from decide_eq_true hr, Bool.true_and] at K
      rw [decide_eq_true hr, Bool.not_true, pF, wrS (by omega)]
      exact ih (i + 1) fu (by omega) (by omega) K
    · rw [show rateB c t k i = false from decide_eq_false hr, Bool.false_and, cond_false] at K
      rw [decide_eq_false hr, Bool.not_false, pT]
      exact K
theorem l47x1 : ∀ j k fu, k + j = t.rates.len → j < fu → L47x1 (E F (d + 1)) F c l t fu k = some (.ret (.bool (allF (rowB c t) j k))) := by
  have hB : c.slices.len < 4611686018427387904 := hcl
  have hT : t.rates.len < 4611686018427387904 := htl
  intro j
  induction j with
  | zero =>
    intro k fu h hf
    obtain ⟨fu, rfl⟩ : ∃ k, fu = k + 1 := ⟨fu - 1, by omega⟩
    rw [L47x1s, decide_eq_false (by omega), pF]
    rfl
  | succ j ih =>
    intro k fu h hf
    obtain ⟨fu, rfl⟩ : ∃ k, fu = k + 1 := ⟨fu - 1, by omega⟩
    rw [L47x1s]
    simp (disch := omega) only [decide_eq_true, decide_true, pT, Int.toNat_natCast]
    by_cases hk : (t.rates.el k).len = c.slices.len
    · rw [show (((t.rates.el k).len : Int) != (c.slices.len : Int)) = false by rw [hk]; simp, pF]
      refine l47x2 F d c l t hcl htl hCF hTF fu k (by omega) hk _ c.slices.len 0 F (by omega) (by omega) ?_
      simp only [allF, rowB, decide_eq_true hk, Bool.true_and]
      rw [wrS (by omega)]
      cases allF (rateB c t k) c.slices.len 0 with
      | true => rw [cond_true, Bool.true_and]; exact ih (k + 1) fu (by omega) (by omega)
      | false => rw [cond_false, Bool.false_and]
    · rw [show (((t.rates.el k).len : Int) != (c.slices.len : Int)) = true by simp; omega, pT]
      simp only [allF, rowB, decide_eq_false hk, Bool.false_and]
theorem l47x0 (hv : t.vols.len = c.slices.len) : ∀ j i fu, i + j = t.vols.len → j < fu → L47x0 (E F (d + 1)) F c l t fu i = some (.ret (.bool (allF (fun i => decide ((c.slices.el i).vol.lo ≤ t.vols.el i ∧ t.vols.el i ≤ (c.slices.el i).vol.hi)) j i && allF (rowB c t) t.rates.len 0))) := by
  have hB : c.slices.len < 4611686018427387904 := hcl
  intro j
  induction j with
  | zero =>
    intro i fu h hf
    obtain ⟨fu, rfl⟩ : ∃ k, fu = k + 1 := ⟨fu - 1, by omega⟩
    rw [L47x0s, decide_eq_false (by omega), pF]
    exact l47x1 F d c l t hcl htl hCF hTF t.rates.len 0 F (by omega) (by omega)
  | succ j ih =>
    intro i fu h hf
    obtain ⟨fu, rfl⟩ : ∃ k, fu = k + 1 := ⟨fu - 1, by omega⟩
    rw [L47x0s]
    simp (disch := omega) only [decide_eq_true (show (i : Int) < (t.vols.len : Int) by omega), decide_eq_true (show (i : Int) < (c.slices.len : Int) by omega), decide_eq_true (show (0 : Int) ≤ (i : Int) by omega), pT, Int.toNat_natCast, s64, tkOut_ret, tkBool_b]
    simp only [allF]
    cases decide ((c.slices.el i).vol.lo ≤ t.vols.el i ∧ t.vols.el i ≤ (c.slices.el i).vol.hi) with
    | true => rw [Bool.not_true, pF, wrS (by omega), Bool.true_and]; exact ih (i + 1) fu (by omega) (by omega)
    | false => rw [Bool.not_false, pT]; rfl
theorem s47 : (E F (d + 2)).pf 47 [.agg (eCav c), sl eStg 4 l, .agg (eTruth t)] = some (.ret (.bool (decide (TruthOk c l.len t)))) := by
  rw [E_pf, t47]
  by_cases hv : t.vols.len = c.slices.len
  · rw [show ((t.vols.len : Int) != (c.slices.len : Int)) = false by rw [hv]; simp, pF]
    by_cases hr : t.rates.len = l.len
    · rw [show ((t.rates.len : Int) != (l.len : Int)) = false by rw [hr]; simp, pF]
      refine (l47x0 F d c l t hcl htl hCF hTF hv t.vols.len 0 F (by omega) (by omega)).trans (b3 (b2 ?_))
      rw [allF_dec, allF_dec]
      simp only [Bool.and_eq_true, decide_eq_true_eq, rowB_iff]
      exact ⟨fun h => ⟨hv, hr, h.1, h.2⟩, fun h => ⟨h.2.2.1, h.2.2.2⟩⟩
    · rw [show ((t.rates.len : Int) != (l.len : Int)) = true by simp; omega, pT]
      exact b3 (Eq.symm (decide_eq_false fun h => hr h.2.1))
  · rw [show ((t.vols.len : Int) != (c.slices.len : Int)) = true by simp; omega, pT]
    exact b3 (Eq.symm (decide_eq_false fun h => hv h.1))
end
end Go.Sim.Le


namespace Go.Sim.Le
open Go.Proofs
abbrev wK (t : Truth) (j : Nat) : Nat → Int := (t.rates.el j).el
abbrev opnF (c : Cav) (i : Nat) : Int := (c.slices.el i).opn
abbrev fallF (c : Cav) (i : Nat) : Int := (c.slices.el i).fall
def volS (c : Cav) (l : Nat → Stg) (t : Truth) : Nat → Nat → Int
  | 0 => t.vols.el
  | j + 1 => fun i => volS c l t j i + opnF c i * (takeRow c (l j) (wK t j) (pathN (l j)) i * (l j).water)
def tkE (c : Cav) (l : Nat → Stg) (t : Truth) (j : Nat) : Int × Int := tkT c (l j) (wK t j) (pathN (l j))
def saltP (c : Cav) (l : Nat → Stg) (t : Truth) : Nat → Int
  | 0 => 0
  | j + 1 => saltP c l t j + (l j).water * (tkE c l t j).1
def sumpS (c : Cav) (l : Nat → Stg) (t : Truth) : Nat → Int
  | 0 => 0
  | j + 1 => sumpS c l t j + (l j).water * pathSum c (l j) (wK t j) (fallF c) (pathN (l j))
def brineS (c : Cav) (l : Nat → Stg) (t : Truth) : Nat → Int
  | 0 => 0
  | j + 1 => brineS c l t j + (1000000 * (l j).water - (l j).water * (tkE c l t j).2)
def outS (c : Cav) (l : Nat → Stg) (t : Truth) : Nat → Int
  | 0 => 0
  | j + 1 => outS c l t j + (1000000 * ((l j).water * (tkE c l t j).1) - c.hold * ((l j).water * (tkE c l t j).2))
def endV (c : Cav) (l : Nat → Stg) (t : Truth) (n : Nat) : List V := [sl eInt 1 ⟨false, c.slices.len, volS c l t n⟩, .int .i64 (sumpS c l t n), .int .i64 (saltP c l t n), .int .i64 (brineS c l t n), .int .i64 (outS c l t n)]
section
variable {c : Cav} (hc : CavOk c) {s : Stg} (hs : StgOk c.slices.len s) (w : Nat → Int) (hw : RatesOk c w)
include hc hs hw
theorem pathSum_in (g : Nat → Int) (hg : ∀ i, i < c.slices.len → 0 ≤ g i ∧ g i ≤ 3000) : ∀ k, k ≤ pathN s → 0 ≤ pathSum c s w g k ∧ pathSum c s w g k ≤ 3000 * (tkT c s w k).1 := by
  intro k
  induction k with
  | zero => intro _; simp [pathSum, tkT]
  | succ k ih =>
    intro h
    have i := ih (by omega)
    have hin := pathAt_in hs (k := k) (by omega)
    have hn := takeN_in hc hs w hw (k := k) (by omega)
    have hgi := hg (pathAt s k).toNat (by omega)
    have m1 : 0 ≤ g (pathAt s k).toNat * takeN c s w k := Int.mul_nonneg hgi.1 hn.1
    have m2 : g (pathAt s k).toNat * takeN c s w k ≤ 3000 * takeN c s w k := Int.mul_le_mul_of_nonneg_right hgi.2 hn.1
    simp only [pathSum, tkT]
    unfold takeN at *
    omega
omit hc hs hw in
theorem pathSum_sub : ∀ k, pathSum c s w (opnF c) k - pathSum c s w (fallF c) k = (tkT c s w k).2 := by
  intro k
  induction k with
  | zero => rfl
  | succ k ih =>
    simp only [pathSum, tkT]
    rw [← ih]
    have : (opnF c (pathAt s k).toNat) * takeN c s w k - (fallF c (pathAt s k).toNat) * takeN c s w k = min (w (pathAt s k).toNat) (c.hold - (tkT c s w k).1) * oAt c s k := by
      rw [← Int.sub_mul, Int.mul_comm]; rfl
    omega
end
theorem opn_in {c : Cav} (hc : CavOk c) : ∀ i, i < c.slices.len → 0 ≤ opnF c i ∧ opnF c i ≤ 3000 := fun i hi => by
  have : 1000 ≤ (c.slices.el i).opn ∧ (c.slices.el i).opn ≤ 3000 := (hc.2.2.2 i hi).2.1
  exact ⟨by show 0 ≤ (c.slices.el i).opn; omega, this.2⟩
theorem fall_in {c : Cav} (hc : CavOk c) : ∀ i, i < c.slices.len → 0 ≤ fallF c i ∧ fallF c i ≤ 3000 := fun i hi => by
  have h1 : 1000 ≤ (c.slices.el i).opn ∧ (c.slices.el i).opn ≤ 3000 := (hc.2.2.2 i hi).2.1
  have h2 : 0 ≤ (c.slices.el i).fall ∧ (c.slices.el i).fall ≤ (c.slices.el i).opn - 1 := (hc.2.2.2 i hi).2.2.1
  exact ⟨h2.1, by show (c.slices.el i).fall ≤ 3000; omega⟩
theorem truth_rates {c : Cav} {n : Nat} {t : Truth} (ht : TruthOk c n t) {j : Nat} (hj : j < n) : RatesOk c (wK t j) := fun i hi => (ht.2.2.2 j (by rw [ht.2.1]; exact hj)).2 i hi
theorem mulnn {a b x y : Int} (h1 : 0 ≤ a) (h2 : a ≤ x) (h3 : 0 ≤ b) (h4 : b ≤ y) : 0 ≤ a * b ∧ a * b ≤ x * y := ⟨Int.mul_nonneg h1 h3, Int.mul_le_mul h2 h4 h3 (by omega)⟩
section
variable {c : Cav} (hc : CavOk c) {n : Nat} {l : Nat → Stg} (hl : ∀ i, i < n → StgOk c.slices.len (l i)) {t : Truth} (ht : TruthOk c n t)
include hc hl ht
theorem vol_bd {i : Nat} (hi : i < c.slices.len) : ∀ j, j ≤ n → 0 ≤ volS c l t j i ∧ volS c l t j i ≤ 10000000000000 + 900000000000 * j := by
  intro j
  induction j with
  | zero =>
    intro _
    have h1 := ht.2.2.1 i (by rw [ht.1]; exact hi)
    have h2 : SpanIn (c.slices.el i).vol 0 10000000000000 := (hc.2.2.2 i hi).1
    unfold SpanIn at h2
    simp only [volS]
    omega
  | succ j ih =>
    intro h
    have i1 := ih (by omega)
    have hs := hl j (by omega)
    have h1 := takeRow_in hc hs (wK t j) (truth_rates ht (by omega)) (pathN (l j)) (Nat.le_refl _) i
    have hwa := hs.1
    have ho := opn_in hc i hi
    have m1 := mulnn (a := takeRow c (l j) (wK t j) (pathN (l j)) i) (b := (l j).water) (x := 300) (y := 1000000) h1.1 h1.2 (by omega) (by omega)
    have m2 := mulnn (a := opnF c i) (b := takeRow c (l j) (wK t j) (pathN (l j)) i * (l j).water) (x := 3000) (y := 300000000) ho.1 ho.2 m1.1 (by omega)
    simp only [volS]
    omega
theorem tkE_in {j : Nat} (hj : j < n) : (0 ≤ (tkE c l t j).1 ∧ (tkE c l t j).1 ≤ 300) ∧ (0 ≤ (tkE c l t j).2 ∧ (tkE c l t j).2 ≤ 900000) ∧ (0 ≤ (l j).water * (tkE c l t j).1 ∧ (l j).water * (tkE c l t j).1 ≤ 300000000) ∧ 0 ≤ (l j).water * (tkE c l t j).2 ∧ (l j).water * (tkE c l t j).2 ≤ 900000000000 := by
  have hs := hl j hj
  have hr := reach_in hc hs (take_reach hc hs (wK t j) (truth_rates ht hj) (pathN (l j)) (Nat.le_refl _)) (Nat.le_refl _)
  have hH := hc.2.1
  have hwa := hs.1
  unfold tkE
  have m1 := mulnn (a := (l j).water) (b := (tkT c (l j) (wK t j) (pathN (l j))).1) (x := 1000000) (y := 300) (by omega) (by omega) (by omega) (by omega)
  have m2 := mulnn (a := (l j).water) (b := (tkT c (l j) (wK t j) (pathN (l j))).2) (x := 1000000) (y := 900000) (by omega) (by omega) (by omega) (by omega)
  exact ⟨by omega, by omega, by omega, by omega⟩
theorem sums_in : ∀ j, j ≤ n → (0 ≤ saltP c l t j ∧ saltP c l t j ≤ 300000000 * j) ∧ (0 ≤ sumpS c l t j ∧ sumpS c l t j ≤ 900000000000 * j) ∧ (0 ≤ brineS c l t j ∧ brineS c l t j ≤ 1000000000000 * j) ∧ (-(270000000000000 * j) ≤ outS c l t j ∧ outS c l t j ≤ 300000000000000 * j) := by
  intro j
  induction j with
  | zero => intro _; simp [saltP, sumpS, brineS, outS]
  | succ j ih =>
    intro h
    have i := ih (by omega)
    have hs := hl j (by omega)
    have hwa := hs.1
    have hH := hc.2.1
    have ht1 := tkE_in hc hl ht (j := j) (by omega)
    have hps := pathSum_in hc hs (wK t j) (truth_rates ht (by omega)) (fallF c) (fall_in hc) (pathN (l j)) (Nat.le_refl _)
    have he : (tkT c (l j) (wK t j) (pathN (l j))).1 = (tkE c l t j).1 := rfl
    rw [he] at hps
    have m1 := mulnn (a := (l j).water) (b := pathSum c (l j) (wK t j) (fallF c) (pathN (l j))) (x := 1000000) (y := 900000) (by omega) (by omega) (by omega) (by omega)
    have m2 := mulnn (a := c.hold) (b := (l j).water * (tkE c l t j).2) (x := 300) (y := 900000000000) (by omega) (by omega) (by omega) (by omega)
    have m3 : (l j).water * (tkE c l t j).2 ≤ (l j).water * 900000 := Int.mul_le_mul_of_nonneg_left (by omega) (by omega)
    simp only [saltP, sumpS, brineS, outS]
    omega
end
variable (F d : Nat)
theorem s88g (a b : Int) (hF : 20 < F) (h1 : I64 a) (h3 : I64 (a + b)) :
    (E F (d + 3)).pf 88 [.row false 2 1 (fun u => List.take 1 (List.drop (Min.min u 1 * 1) [V.int .i64 a, V.int .i64 b]))] = some (.ret (.int .i64 (a + b))) := s88 F (d + 2) a b hF h1 h3
section
variable {c : Cav} (hc : CavOk c) {l : Sl Stg} (hL : l.len ≤ 300) (hl : ∀ i, i < l.len → StgOk c.slices.len (l.el i)) {t : Truth} (ht : TruthOk c l.len t) (hF : 400 < F)
include hc hL hl ht hF
theorem l44x3 (m0 jj : Nat) (hj : jj < l.len) (b0 : Bool) (y1 : Int) (y2 : Nat) (y3 y4 y5 y6 y7 y8 y9 y10 : Int) : ∀ j k fu, k + 1 + j = pathN (l.el jj) → j < fu →
    L44x3 (E F (d + 3)) F c l t m0 fu (fun _ => eStg (l.el jj)) (stepOf (l.el jj)) .i64 (pathAt (l.el jj) k) c.slices.len (sumpS c l.el t jj) (saltP c l.el t jj) (brineS c l.el t jj) (outS c l.el t jj) jj (l.el jj).water (l.el jj).into (l.el jj).out (l.el jj).blanket
      (c.hold - (tkT c (l.el jj) (wK t jj) k).1) .i64 ((l.el jj).water * pathSum c (l.el jj) (wK t jj) (opnF c) k) .i64 ((l.el jj).water * pathSum c (l.el jj) (wK t jj) (fallF c) k) .i64 ((l.el jj).water * (tkT c (l.el jj) (wK t jj) k).1) c.slices.len
      (fun i => eInt (volS c l.el t jj i + opnF c i * (takeRow c (l.el jj) (wK t jj) k i * (l.el jj).water))) jj b0 y1 y2 y3 y4 y5 y6 y7 y8 y9 y10 (fun _ => eStg (l.el jj))
    = L44x1 (E F (d + 3)) F c l t m0 ((jj + 1 : Nat) : Int) c.slices.len (sumpS c l.el t (jj + 1)) (saltP c l.el t (jj + 1)) (brineS c l.el t (jj + 1)) (outS c l.el t (jj + 1)) c.slices.len (fun i => eInt (volS c l.el t (jj + 1) i)) := by
  have hs := hl jj hj
  have hw := truth_rates ht hj
  have hp := pathN_le hs
  have hcl := hc.1
  have hH := hc.2.1
  have hwa := hs.1
  have htr := ht.2.2.2 jj (by rw [ht.2.1]; exact hj)
  have htl := ht.2.1
  have hsum := sums_in hc hl ht jj (by omega)
  have hsum' := sums_in hc hl ht (jj + 1) (by omega)
  have htr1 := htr.1
  intro j
  induction j with
  | zero =>
    intro k fu h hf
    obtain ⟨fu, rfl⟩ : ∃ k, fu = k + 1 := ⟨fu - 1, by omega⟩
    have hin := pathAt_in hs (k := k) (by omega)
    have hr := reach_in hc hs (take_reach hc hs (wK t jj) hw k (by omega)) (by omega)
    have hr' := reach_in hc hs (take_reach hc hs (wK t jj) hw (k + 1) (by omega)) (by omega)
    have hn := takeN_in hc hs (wK t jj) hw (k := k) (by omega)
    have hno : min ((t.rates.el jj).el (pathAt (l.el jj) k).toNat) (c.hold - (tkT c (l.el jj) (wK t jj) k).1) = takeN c (l.el jj) (wK t jj) k := rfl
    have hv := vol_bd hc hl ht (i := (pathAt (l.el jj) k).toNat) (by omega) jj (by omega)
    have ho : 0 ≤ (c.slices.el (pathAt (l.el jj) k).toNat).opn ∧ (c.slices.el (pathAt (l.el jj) k).toNat).opn ≤ 3000 := opn_in hc (pathAt (l.el jj) k).toNat (by omega)
    have hfa : 0 ≤ (c.slices.el (pathAt (l.el jj) k).toNat).fall ∧ (c.slices.el (pathAt (l.el jj) k).toNat).fall ≤ 3000 := fall_in hc (pathAt (l.el jj) k).toNat (by omega)
    have p1 := pathSum_in hc hs (wK t jj) hw (opnF c) (opn_in hc) k (by omega)
    have p2 := pathSum_in hc hs (wK t jj) hw (fallF c) (fall_in hc) k (by omega)
    have p1' := pathSum_in hc hs (wK t jj) hw (opnF c) (opn_in hc) (k + 1) (by omega)
    have p2' := pathSum_in hc hs (wK t jj) hw (fallF c) (fall_in hc) (k + 1) (by omega)
    have ht0 : takeRow c (l.el jj) (wK t jj) k (pathAt (l.el jj) k).toNat = 0 := takeRow_0 hs (wK t jj) k k (Nat.le_refl _) (by omega)
    have q1 := mulnn (a := takeN c (l.el jj) (wK t jj) k) (b := (l.el jj).water) (x := 300) (y := 1000000) hn.1 hn.2.1 (by omega) (by omega)
    have q2 := mulnn (a := takeN c (l.el jj) (wK t jj) k * (l.el jj).water) (b := (c.slices.el (pathAt (l.el jj) k).toNat).opn) (x := 300000000) (y := 3000) q1.1 (by omega) ho.1 ho.2
    have q3 := mulnn (a := takeN c (l.el jj) (wK t jj) k * (l.el jj).water) (b := (c.slices.el (pathAt (l.el jj) k).toNat).fall) (x := 300000000) (y := 3000) q1.1 (by omega) hfa.1 hfa.2
    have r1 := mulnn (a := (l.el jj).water) (b := (tkT c (l.el jj) (wK t jj) k).1) (x := 1000000) (y := 300) (by omega) (by omega) (by omega) (by omega)
    have r2 := mulnn (a := (l.el jj).water) (b := pathSum c (l.el jj) (wK t jj) (opnF c) k) (x := 1000000) (y := 900000) (by omega) (by omega) (by omega) (by omega)
    have r3 := mulnn (a := (l.el jj).water) (b := pathSum c (l.el jj) (wK t jj) (fallF c) k) (x := 1000000) (y := 900000) (by omega) (by omega) (by omega) (by omega)
    have es1 : (l.el jj).water * (tkT c (l.el jj) (wK t jj) k).1 + takeN c (l.el jj) (wK t jj) k * (l.el jj).water = (l.el jj).water * (tkT c (l.el jj) (wK t jj) (k + 1)).1 := by
      show _ = (l.el jj).water * ((tkT c (l.el jj) (wK t jj) k).1 + takeN c (l.el jj) (wK t jj) k)
      rw [Int.mul_add, Int.mul_comm (takeN c (l.el jj) (wK t jj) k)]
    have es2 : (l.el jj).water * pathSum c (l.el jj) (wK t jj) (opnF c) k + takeN c (l.el jj) (wK t jj) k * (l.el jj).water * (c.slices.el (pathAt (l.el jj) k).toNat).opn = (l.el jj).water * pathSum c (l.el jj) (wK t jj) (opnF c) (k + 1) := by
      show _ = (l.el jj).water * (pathSum c (l.el jj) (wK t jj) (opnF c) k + (c.slices.el (pathAt (l.el jj) k).toNat).opn * takeN c (l.el jj) (wK t jj) k)
      rw [Int.mul_add, Int.mul_comm (takeN c (l.el jj) (wK t jj) k), Int.mul_assoc, Int.mul_comm (takeN c (l.el jj) (wK t jj) k)]
    have es3 : (l.el jj).water * pathSum c (l.el jj) (wK t jj) (fallF c) k + takeN c (l.el jj) (wK t jj) k * (l.el jj).water * (c.slices.el (pathAt (l.el jj) k).toNat).fall = (l.el jj).water * pathSum c (l.el jj) (wK t jj) (fallF c) (k + 1) := by
      show _ = (l.el jj).water * (pathSum c (l.el jj) (wK t jj) (fallF c) k + (c.slices.el (pathAt (l.el jj) k).toNat).fall * takeN c (l.el jj) (wK t jj) k)
      rw [Int.mul_add, Int.mul_comm (takeN c (l.el jj) (wK t jj) k), Int.mul_assoc, Int.mul_comm (takeN c (l.el jj) (wK t jj) k)]
    have eu : updGet (fun i => eInt (volS c l.el t jj i + opnF c i * (takeRow c (l.el jj) (wK t jj) k i * (l.el jj).water))) (pathAt (l.el jj) k).toNat 0 [V.int .i64 (volS c l.el t jj (pathAt (l.el jj) k).toNat + takeN c (l.el jj) (wK t jj) k * (l.el jj).water * (c.slices.el (pathAt (l.el jj) k).toNat).opn)] =
        fun i => eInt (volS c l.el t jj i + opnF c i * (takeRow c (l.el jj) (wK t jj) (k + 1) i * (l.el jj).water)) := by
      refine (upd_int _ _ _).trans ?_
      funext i
      refine congrArg eInt ?_
      by_cases hi : i = (pathAt (l.el jj) k).toNat
      · rw [if_pos hi, hi]
        simp only [takeRow, if_pos]
        rw [Int.mul_comm (takeN c (l.el jj) (wK t jj) k * (l.el jj).water)]
      · rw [if_neg hi]
        simp only [takeRow, if_neg hi]
    have hk' : k = pathN (l.el jj) - 1 := by omega
    have e1 : pathAt (l.el jj) k = (l.el jj).out := by rw [hk', pathAt_last]
    have e2 : k + 1 = pathN (l.el jj) := by omega
    have ebif : (pathAt (l.el jj) k != (l.el jj).out) = false := by simp [e1]
    rw [L44x3s]
    have hA : decide ((0 : Int) ≤ (jj : Int)) = true := decide_eq_true (Int.natCast_nonneg _)
    have hB : decide ((jj : Int) < (t.rates.len : Int)) = true := decide_eq_true (by rw [htl]; exact Int.ofNat_lt.2 hj)
    have hC : decide ((0 : Int) ≤ pathAt (l.el jj) k) = true := decide_eq_true hin.1
    have hD : decide (pathAt (l.el jj) k < ((t.rates.el jj).len : Int)) = true := decide_eq_true (by rw [htr1]; exact hin.2)
    have hE : decide (pathAt (l.el jj) k < (c.slices.len : Int)) = true := decide_eq_true hin.2
    have w1 : IntKind.i64.wrap (takeN c (l.el jj) (wK t jj) k * (l.el jj).water) = takeN c (l.el jj) (wK t jj) k * (l.el jj).water := wr (by omega)
    have w2 : IntKind.i64.wrap (takeN c (l.el jj) (wK t jj) k * (l.el jj).water * (c.slices.el (pathAt (l.el jj) k).toNat).opn) = takeN c (l.el jj) (wK t jj) k * (l.el jj).water * (c.slices.el (pathAt (l.el jj) k).toNat).opn := wr (by omega)
    have w3 : IntKind.i64.wrap (takeN c (l.el jj) (wK t jj) k * (l.el jj).water * (c.slices.el (pathAt (l.el jj) k).toNat).fall) = takeN c (l.el jj) (wK t jj) k * (l.el jj).water * (c.slices.el (pathAt (l.el jj) k).toNat).fall := wr (by omega)
    have w4 : IntKind.i64.wrap (volS c l.el t jj (pathAt (l.el jj) k).toNat + takeN c (l.el jj) (wK t jj) k * (l.el jj).water * (c.slices.el (pathAt (l.el jj) k).toNat).opn) = volS c l.el t jj (pathAt (l.el jj) k).toNat + takeN c (l.el jj) (wK t jj) k * (l.el jj).water * (c.slices.el (pathAt (l.el jj) k).toNat).opn := wr (by omega)
    have e88a := s88g F d ((l.el jj).water * (tkT c (l.el jj) (wK t jj) k).1) (takeN c (l.el jj) (wK t jj) k * (l.el jj).water) (by omega) (by omega) (by omega)
    have e88b := s88g F d ((l.el jj).water * pathSum c (l.el jj) (wK t jj) (opnF c) k) (takeN c (l.el jj) (wK t jj) k * (l.el jj).water * (c.slices.el (pathAt (l.el jj) k).toNat).opn) (by omega) (by omega) (by omega)
    have e88c := s88g F d ((l.el jj).water * pathSum c (l.el jj) (wK t jj) (fallF c) k) (takeN c (l.el jj) (wK t jj) k * (l.el jj).water * (c.slices.el (pathAt (l.el jj) k).toNat).fall) (by omega) (by omega) (by omega)
    simp only [hA, hB, hC, hD, hE, decide_true, pT, Int.toNat_natCast, mnE, hno, w1, w2, w3, e88a, e88b, e88c, tkOut_ret, tkInt_i, tkCons_c, List.drop, ht0, Int.zero_mul, Int.mul_zero, Int.add_zero, w4]
    rw [es1, es2, es3, eu]
    rw [ebif, pF, e2]
    rw [e2] at p1' p2' hr'
    have hT := tkE_in hc hl ht hj
    have eT1 : (tkT c (l.el jj) (wK t jj) (pathN (l.el jj))).1 = (tkE c l.el t jj).1 := rfl
    have eT2 : (tkT c (l.el jj) (wK t jj) (pathN (l.el jj))).2 = (tkE c l.el t jj).2 := rfl
    have eq3 : (l.el jj).water * pathSum c (l.el jj) (wK t jj) (opnF c) (pathN (l.el jj)) - (l.el jj).water * pathSum c (l.el jj) (wK t jj) (fallF c) (pathN (l.el jj)) = (l.el jj).water * (tkE c l.el t jj).2 := by
      rw [← Int.mul_sub, pathSum_sub]; rfl
    rw [eT1] at p1' p2' hr' ⊢
    have f2 := mulnn (a := (l.el jj).water) (b := pathSum c (l.el jj) (wK t jj) (opnF c) (pathN (l.el jj))) (x := 1000000) (y := 900000) (by omega) (by omega) (by omega) (by omega)
    have f3 := mulnn (a := (l.el jj).water) (b := pathSum c (l.el jj) (wK t jj) (fallF c) (pathN (l.el jj))) (x := 1000000) (y := 900000) (by omega) (by omega) (by omega) (by omega)
    have f4 := mulnn (a := c.hold) (b := (l.el jj).water * (tkE c l.el t jj).2) (x := 300) (y := 900000000000) (by omega) (by omega) (by omega) (by omega)
    clear q1 q2 q3 r1 r2 r3 es1 es2 es3 eu w1 w2 w3 w4 e88a e88b e88c hA hB hC hD hE hno ht0 p1 p2 hv ho hfa hn hr
    simp only [sumpS, saltP, brineS, outS] at hsum'
    generalize (l.el jj).water * pathSum c (l.el jj) (wK t jj) (opnF c) (pathN (l.el jj)) = Rm at *
    generalize hFl : (l.el jj).water * pathSum c (l.el jj) (wK t jj) (fallF c) (pathN (l.el jj)) = Fl at *
    rw [wr (n := Rm - Fl) (by omega), eq3]
    have eb : 1000000 * (l.el jj).water - Rm + Fl = 1000000 * (l.el jj).water - (l.el jj).water * (tkE c l.el t jj).2 := by omega
    rw [wr (n := 1000000 * (l.el jj).water) (by omega), wr (n := 1000000 * (l.el jj).water - Rm) (by omega), eb, wr (n := 1000000 * (l.el jj).water - (l.el jj).water * (tkE c l.el t jj).2) (by omega)]
    rw [wr (n := 1000000 * ((l.el jj).water * (tkE c l.el t jj).1)) (by omega), wr (n := c.hold * ((l.el jj).water * (tkE c l.el t jj).2)) (by omega), wr (n := 1000000 * ((l.el jj).water * (tkE c l.el t jj).1) - c.hold * ((l.el jj).water * (tkE c l.el t jj).2)) (by omega)]
    rw [wr (n := sumpS c l.el t jj + Fl) (by omega), wr (n := saltP c l.el t jj + (l.el jj).water * (tkE c l.el t jj).1) (by omega), wr (n := brineS c l.el t jj + (1000000 * (l.el jj).water - (l.el jj).water * (tkE c l.el t jj).2)) (by omega), wr (n := outS c l.el t jj + (1000000 * ((l.el jj).water * (tkE c l.el t jj).1) - c.hold * ((l.el jj).water * (tkE c l.el t jj).2))) (by omega), wrS (by omega)]
    rw [← hFl]
    rfl
  | succ j ih =>
    intro k fu h hf
    obtain ⟨fu, rfl⟩ : ∃ k, fu = k + 1 := ⟨fu - 1, by omega⟩
    have hin := pathAt_in hs (k := k) (by omega)
    have hr := reach_in hc hs (take_reach hc hs (wK t jj) hw k (by omega)) (by omega)
    have hr' := reach_in hc hs (take_reach hc hs (wK t jj) hw (k + 1) (by omega)) (by omega)
    have hn := takeN_in hc hs (wK t jj) hw (k := k) (by omega)
    have hno : min ((t.rates.el jj).el (pathAt (l.el jj) k).toNat) (c.hold - (tkT c (l.el jj) (wK t jj) k).1) = takeN c (l.el jj) (wK t jj) k := rfl
    have hv := vol_bd hc hl ht (i := (pathAt (l.el jj) k).toNat) (by omega) jj (by omega)
    have ho : 0 ≤ (c.slices.el (pathAt (l.el jj) k).toNat).opn ∧ (c.slices.el (pathAt (l.el jj) k).toNat).opn ≤ 3000 := opn_in hc (pathAt (l.el jj) k).toNat (by omega)
    have hfa : 0 ≤ (c.slices.el (pathAt (l.el jj) k).toNat).fall ∧ (c.slices.el (pathAt (l.el jj) k).toNat).fall ≤ 3000 := fall_in hc (pathAt (l.el jj) k).toNat (by omega)
    have p1 := pathSum_in hc hs (wK t jj) hw (opnF c) (opn_in hc) k (by omega)
    have p2 := pathSum_in hc hs (wK t jj) hw (fallF c) (fall_in hc) k (by omega)
    have p1' := pathSum_in hc hs (wK t jj) hw (opnF c) (opn_in hc) (k + 1) (by omega)
    have p2' := pathSum_in hc hs (wK t jj) hw (fallF c) (fall_in hc) (k + 1) (by omega)
    have ht0 : takeRow c (l.el jj) (wK t jj) k (pathAt (l.el jj) k).toNat = 0 := takeRow_0 hs (wK t jj) k k (Nat.le_refl _) (by omega)
    have q1 := mulnn (a := takeN c (l.el jj) (wK t jj) k) (b := (l.el jj).water) (x := 300) (y := 1000000) hn.1 hn.2.1 (by omega) (by omega)
    have q2 := mulnn (a := takeN c (l.el jj) (wK t jj) k * (l.el jj).water) (b := (c.slices.el (pathAt (l.el jj) k).toNat).opn) (x := 300000000) (y := 3000) q1.1 (by omega) ho.1 ho.2
    have q3 := mulnn (a := takeN c (l.el jj) (wK t jj) k * (l.el jj).water) (b := (c.slices.el (pathAt (l.el jj) k).toNat).fall) (x := 300000000) (y := 3000) q1.1 (by omega) hfa.1 hfa.2
    have r1 := mulnn (a := (l.el jj).water) (b := (tkT c (l.el jj) (wK t jj) k).1) (x := 1000000) (y := 300) (by omega) (by omega) (by omega) (by omega)
    have r2 := mulnn (a := (l.el jj).water) (b := pathSum c (l.el jj) (wK t jj) (opnF c) k) (x := 1000000) (y := 900000) (by omega) (by omega) (by omega) (by omega)
    have r3 := mulnn (a := (l.el jj).water) (b := pathSum c (l.el jj) (wK t jj) (fallF c) k) (x := 1000000) (y := 900000) (by omega) (by omega) (by omega) (by omega)
    have es1 : (l.el jj).water * (tkT c (l.el jj) (wK t jj) k).1 + takeN c (l.el jj) (wK t jj) k * (l.el jj).water = (l.el jj).water * (tkT c (l.el jj) (wK t jj) (k + 1)).1 := by
      show _ = (l.el jj).water * ((tkT c (l.el jj) (wK t jj) k).1 + takeN c (l.el jj) (wK t jj) k)
      rw [Int.mul_add, Int.mul_comm (takeN c (l.el jj) (wK t jj) k)]
    have es2 : (l.el jj).water * pathSum c (l.el jj) (wK t jj) (opnF c) k + takeN c (l.el jj) (wK t jj) k * (l.el jj).water * (c.slices.el (pathAt (l.el jj) k).toNat).opn = (l.el jj).water * pathSum c (l.el jj) (wK t jj) (opnF c) (k + 1) := by
      show _ = (l.el jj).water * (pathSum c (l.el jj) (wK t jj) (opnF c) k + (c.slices.el (pathAt (l.el jj) k).toNat).opn * takeN c (l.el jj) (wK t jj) k)
      rw [Int.mul_add, Int.mul_comm (takeN c (l.el jj) (wK t jj) k), Int.mul_assoc, Int.mul_comm (takeN c (l.el jj) (wK t jj) k)]
    have es3 : (l.el jj).water * pathSum c (l.el jj) (wK t jj) (fallF c) k + takeN c (l.el jj) (wK t jj) k * (l.el jj).water * (c.slices.el (pathAt (l.el jj) k).toNat).fall = (l.el jj).water * pathSum c (l.el jj) (wK t jj) (fallF c) (k + 1) := by
      show _ = (l.el jj).water * (pathSum c (l.el jj) (wK t jj) (fallF c) k + (c.slices.el (pathAt (l.el jj) k).toNat).fall * takeN c (l.el jj) (wK t jj) k)
      rw [Int.mul_add, Int.mul_comm (takeN c (l.el jj) (wK t jj) k), Int.mul_assoc, Int.mul_comm (takeN c (l.el jj) (wK t jj) k)]
    have eu : updGet (fun i => eInt (volS c l.el t jj i + opnF c i * (takeRow c (l.el jj) (wK t jj) k i * (l.el jj).water))) (pathAt (l.el jj) k).toNat 0 [V.int .i64 (volS c l.el t jj (pathAt (l.el jj) k).toNat + takeN c (l.el jj) (wK t jj) k * (l.el jj).water * (c.slices.el (pathAt (l.el jj) k).toNat).opn)] =
        fun i => eInt (volS c l.el t jj i + opnF c i * (takeRow c (l.el jj) (wK t jj) (k + 1) i * (l.el jj).water)) := by
      refine (upd_int _ _ _).trans ?_
      funext i
      refine congrArg eInt ?_
      by_cases hi : i = (pathAt (l.el jj) k).toNat
      · rw [if_pos hi, hi]
        simp only [takeRow, if_pos]
        rw [Int.mul_comm (takeN c (l.el jj) (wK t jj) k * (l.el jj).water)]
      · rw [if_neg hi]
        simp only [takeRow, if_neg hi]
    have hne : (pathAt (l.el jj) k != (l.el jj).out) = true := by
      have := pathAt_ne (l.el jj) (k := k) (by omega)
      simpa using this
    have hS : pathAt (l.el jj) k + stepOf (l.el jj) = pathAt (l.el jj) (k + 1) := by rw [← pathAt_S]
    have hin2 := pathAt_in hs (k := k + 1) (by omega)
    rw [L44x3s]
    have hA : decide ((0 : Int) ≤ (jj : Int)) = true := decide_eq_true (Int.natCast_nonneg _)
    have hB : decide ((jj : Int) < (t.rates.len : Int)) = true := decide_eq_true (by rw [htl]; exact Int.ofNat_lt.2 hj)
    have hC : decide ((0 : Int) ≤ pathAt (l.el jj) k) = true := decide_eq_true hin.1
    have hD : decide (pathAt (l.el jj) k < ((t.rates.el jj).len : Int)) = true := decide_eq_true (by rw [htr1]; exact hin.2)
    have hE : decide (pathAt (l.el jj) k < (c.slices.len : Int)) = true := decide_eq_true hin.2
    have w1 : IntKind.i64.wrap (takeN c (l.el jj) (wK t jj) k * (l.el jj).water) = takeN c (l.el jj) (wK t jj) k * (l.el jj).water := wr (by omega)
    have w2 : IntKind.i64.wrap (takeN c (l.el jj) (wK t jj) k * (l.el jj).water * (c.slices.el (pathAt (l.el jj) k).toNat).opn) = takeN c (l.el jj) (wK t jj) k * (l.el jj).water * (c.slices.el (pathAt (l.el jj) k).toNat).opn := wr (by omega)
    have w3 : IntKind.i64.wrap (takeN c (l.el jj) (wK t jj) k * (l.el jj).water * (c.slices.el (pathAt (l.el jj) k).toNat).fall) = takeN c (l.el jj) (wK t jj) k * (l.el jj).water * (c.slices.el (pathAt (l.el jj) k).toNat).fall := wr (by omega)
    have w4 : IntKind.i64.wrap (volS c l.el t jj (pathAt (l.el jj) k).toNat + takeN c (l.el jj) (wK t jj) k * (l.el jj).water * (c.slices.el (pathAt (l.el jj) k).toNat).opn) = volS c l.el t jj (pathAt (l.el jj) k).toNat + takeN c (l.el jj) (wK t jj) k * (l.el jj).water * (c.slices.el (pathAt (l.el jj) k).toNat).opn := wr (by omega)
    have e88a := s88g F d ((l.el jj).water * (tkT c (l.el jj) (wK t jj) k).1) (takeN c (l.el jj) (wK t jj) k * (l.el jj).water) (by omega) (by omega) (by omega)
    have e88b := s88g F d ((l.el jj).water * pathSum c (l.el jj) (wK t jj) (opnF c) k) (takeN c (l.el jj) (wK t jj) k * (l.el jj).water * (c.slices.el (pathAt (l.el jj) k).toNat).opn) (by omega) (by omega) (by omega)
    have e88c := s88g F d ((l.el jj).water * pathSum c (l.el jj) (wK t jj) (fallF c) k) (takeN c (l.el jj) (wK t jj) k * (l.el jj).water * (c.slices.el (pathAt (l.el jj) k).toNat).fall) (by omega) (by omega) (by omega)
    simp only [hA, hB, hC, hD, hE, decide_true, pT, Int.toNat_natCast, mnE, hno, w1, w2, w3, e88a, e88b, e88c, tkOut_ret, tkInt_i, tkCons_c, List.drop, ht0, Int.zero_mul, Int.mul_zero, Int.add_zero, w4]
    rw [es1, es2, es3, eu]
    rw [hne, pT, hS, wr (n := pathAt (l.el jj) (k + 1)) (by omega), wr (n := c.hold - (tkT c (l.el jj) (wK t jj) k).1 - takeN c (l.el jj) (wK t jj) k) (by omega)]
    rw [show c.hold - (tkT c (l.el jj) (wK t jj) k).1 - takeN c (l.el jj) (wK t jj) k = c.hold - (tkT c (l.el jj) (wK t jj) (k + 1)).1 by
      show _ = c.hold - ((tkT c (l.el jj) (wK t jj) k).1 + takeN c (l.el jj) (wK t jj) k); omega]
    exact ih (k + 1) fu (by omega) (by omega)
theorem l44x1 : ∀ j k fu, k + j = l.len → j < fu →
    L44x1 (E F (d + 3)) F c l t fu k c.slices.len (sumpS c l.el t k) (saltP c l.el t k) (brineS c l.el t k) (outS c l.el t k) c.slices.len (fun i => eInt (volS c l.el t k i)) = some (.ret (.tup [.agg (endV c l.el t l.len), .int .i64 0])) := by
  intro j
  induction j with
  | zero =>
    intro k fu h hf
    obtain ⟨fu, rfl⟩ : ∃ k, fu = k + 1 := ⟨fu - 1, by omega⟩
    have hk : k = l.len := by omega
    subst hk
    rw [L44x1s, decide_eq_false (by omega), pF]
    rfl
  | succ j ih =>
    intro k fu h hf
    obtain ⟨fu, rfl⟩ : ∃ k, fu = k + 1 := ⟨fu - 1, by omega⟩
    have hs := hl k (by omega)
    have hp := pathN_le hs
    have hp1 := pathN_pos (l.el k)
    have hcl := hc.1
    have hH := hc.2.1
    have e := fun b0 y1 y2 y3 y4 y5 y6 y7 y8 y9 y10 => l44x3 F d hc hL hl ht hF fu k (by omega) b0 y1 y2 y3 y4 y5 y6 y7 y8 y9 y10 (pathN (l.el k) - 1) 0 F (by omega) (by omega)
    have e2 := ih (k + 1) fu (by omega) (by omega)
    have ev : (fun i => eInt (volS c l.el t k i + opnF c i * (takeRow c (l.el k) (wK t k) 0 i * (l.el k).water))) = fun i => eInt (volS c l.el t k i) := by
      funext i
      simp only [takeRow, Int.zero_mul, Int.mul_zero, Int.add_zero]
    simp only [ev, tkT, pathSum, Int.mul_zero, Int.sub_zero, pathAt_0] at e
    have q68 : (E F (d + 3)).pf 68 [.agg (eStg (l.el k))] = _ := s68 F (d + 2) (l.el k)
    rw [L44x1s]
    simp (disch := omega) only [decide_eq_true (show (k : Int) < (l.len : Int) by omega), decide_eq_true (show (0 : Int) ≤ (k : Int) by omega), pT, Int.toNat_natCast, q68, tkOut_ret, tkFn_f, tkNil_n, tkCons_c, tkPtr_p, tkInt_i, Nat.beq_refl, Bool.and_self, decide_true]
    unfold stepOf at e
    by_cases hd : (l.el k).out < (l.el k).into
    · simp only [if_pos hd] at e
      rw [decide_eq_true hd, pT]
      exact (e _ _ _ _ _ _ _ _ _ _ _).trans e2
    · simp only [if_neg hd] at e
      rw [decide_eq_false hd, pF]
      exact (e _ _ _ _ _ _ _ _ _ _ _).trans e2
end
theorem s79w (w : Sl Int) (hnl : w.nl = false) (h0 : 0 < w.len) (h1 : w.len ≤ 300) : (E F (d + 1)).hv 79 [sl eInt 1 w] [] = some (.ret (.osl 0 0 w.len), [.arr 3 1 w.len (fun i => eInt (w.el i)) true]) := by
  rw [E_hv, t79, hnl]
  simp only [pF, Nat.zero_add]
  rw [show (w.len == 0) = false by rw [beq_eq_false_iff_ne]; omega, pF, decide_eq_true (by omega), pT]
  rfl
theorem s44 (c : Cav) (l : Sl Stg) (t : Truth) (hC : c.slices.len < Big) (hCF : c.slices.len < F) (hB : l.len < Big) (hLF : l.len < F) (hT : t.rates.len < Big) (hTF : t.rates.len < F) (hnl : t.vols.nl = true → t.vols.len = 0) (hF : 400 < F) :
    (E F (d + 8)).pf 44 [.agg (eCav c), sl eStg 4 l, .agg (eTruth t)] = some (.ret (.tup (if errP c l true = 0 ∧ TruthOk c l.len t then [.agg (endV c l.el t l.len), .int .i64 0] else [.agg [.row true 0 0 (fun _ => []), .int .i64 0, .int .i64 0, .int .i64 0, .int .i64 0], .int .i64 (if errP c l true = 0 then 2 else errP c l true)]))) := by
  have q87 : (E F (d + 7)).pf 87 [.agg (eCav c), sl eStg 4 l, .agg (eTruth t)] = _ := s87 F (d + 5) c l t hC hT hCF hTF
  rw [E_pf, t44]
  simp only [s57e F d c l hC hCF hB hLF, tkOut_ret, tkInt_i, decide_true, pT]
  by_cases h0 : errP c l true = 0
  · obtain ⟨h8, hc, hl, _⟩ := errP_0.1 h0
    rw [h0, show ((0 : Int) != 0) = false from rfl, pF, q87]
    simp only [tkOut_ret, tkBool_b]
    by_cases ht : TruthOk c l.len t
    · rw [decide_eq_true ht, Bool.not_true, pF, if_pos ⟨trivial, ht⟩]
      have hcl := hc.1
      have hvl := ht.1
      have hn : t.vols.nl = false := by
        cases h : t.vols.nl with
        | false => rfl
        | true => have := hnl h; omega
      have q79 : (E F (d + 7)).hv 79 [sl eInt 1 t.vols] [] = _ := s79w F (d + 6) t.vols hn (by omega) (by omega)
      simp only [q79, tkHv_h, tkSl_o, Nat.beq_refl, Bool.and_self, beq_self_eq_true, pT, tkSCons_c, tkSNil_n, tkArr_a]
      rw [hvl]
      exact l44x1 F (d + 4) hc (by omega) hl ht hF l.len 0 F (by omega) (by omega)
    · rw [decide_eq_false ht, Bool.not_false, pT, if_neg (fun h => ht h.2), if_pos trivial]
  · rw [show (errP c l true != 0) = true by simpa using h0, pT, if_neg (fun h => h0 h.1), if_neg h0]
end Go.Sim.Le


namespace Go.Sim.Le
open Go.Proofs
variable (F d : Nat)
section
variable {c : Cav} (hc : CavOk c) {l : Sl Stg} (hL : l.len ≤ 300) (hl : ∀ i, i < l.len → StgOk c.slices.len (l.el i)) {t : Truth} (ht : TruthOk c l.len t) (hF : 400 < F)
include hc hL hl ht hF
end
end Go.Sim.Le


namespace Go.Sim.Le
open Go.Proofs
variable (F d : Nat)
end Go.Sim.Le


namespace Go.Sim.Le
open Go.Proofs
theorem sumF_add (f g : Nat → Int) : ∀ n, sumF (fun i => f i + g i) n = sumF f n + sumF g n
  | 0 => rfl
  | n + 1 => by simp only [sumF]; rw [sumF_add f g n]; omega
def watT (l : Nat → Stg) : Nat → Int
  | 0 => 0
  | j + 1 => watT l j + (l j).water
def roomS (c : Cav) (l : Nat → Stg) (t : Truth) : Nat → Int
  | 0 => 0
  | j + 1 => roomS c l t j + (l j).water * (tkE c l t j).2
section
variable {c : Cav} (hc : CavOk c) {n : Nat} {l : Nat → Stg} (hl : ∀ i, i < n → StgOk c.slices.len (l i)) {t : Truth} (ht : TruthOk c n t)
include hc hl ht
end
variable (F d : Nat)
section
variable {c : Cav} (hc : CavOk c) {l : Sl Stg} (hL : l.len ≤ 8) (hl : ∀ i, i < l.len → StgOk c.slices.len (l.el i)) {t : Truth} (ht : TruthOk c l.len t) (hF : 1000000000 < F)
include hc hL hl ht hF
theorem l45 (a b x y : Int) (ha : 0 ≤ a ∧ a ≤ 100000000000000) : ∀ j i fu, i + j = c.slices.len → j < fu →
    L45x0 (E F d) F c ⟨false, c.slices.len, volS c l.el t l.len⟩ a b x y fu i = some (.ret (.bool true)) := by
  have hcl := hc.1
  intro j
  induction j with
  | zero =>
    intro i fu h hf
    obtain ⟨fu, rfl⟩ : ∃ k, fu = k + 1 := ⟨fu - 1, by omega⟩
    rw [L45x0s, decide_eq_false (by show ¬ (i : Int) < (c.slices.len : Int); omega), pF]
    rw [show (((c.slices.len : Nat) : Int) == ((c.slices.len : Nat) : Int)) = true from beq_self_eq_true _, pT, decide_eq_true (show a ≥ 0 by omega), pT, decide_eq_true ha.2]
  | succ j ih =>
    intro i fu h hf
    obtain ⟨fu, rfl⟩ : ∃ k, fu = k + 1 := ⟨fu - 1, by omega⟩
    have hv := vol_bd hc hl ht (i := i) (by omega) l.len (Nat.le_refl _)
    rw [L45x0s]
    simp only [Int.toNat_natCast]
    rw [decide_eq_true (show (i : Int) < (c.slices.len : Int) by omega), decide_eq_true (show (0 : Int) ≤ (i : Int) by omega)]
    simp only [pT]
    rw [decide_eq_false (show ¬ volS c l.el t l.len i < 0 by omega), pF, decide_eq_false (show ¬ volS c l.el t l.len i > 100000000000000 by omega), pF, wrS (by omega)]
    exact ih (i + 1) fu (by omega) (by omega)
theorem s45 : (E F (d + 1)).pf 45 [.agg (eCav c), .agg (endV c l.el t l.len)] = some (.ret (.bool true)) := by
  have hcl := hc.1
  have hs := sums_in hc hl ht l.len (Nat.le_refl _)
  rw [E_pf]
  refine (t45 _ _ c ⟨false, c.slices.len, volS c l.el t l.len⟩ _ _ _ _).trans ?_
  exact l45 F d hc hL hl ht hF _ _ _ _ (by omega) c.slices.len 0 F (by omega) (by omega)
end
end Go.Sim.Le


namespace Go.Sim.Le
open Go.Proofs
variable (F d : Nat)
end Go.Sim.Le


namespace Go.Sim.Le
open Go.Proofs
def saltS (c : Cav) (l : Nat → Stg) : Nat → Nat → Span
  | 0, _ => ⟨0, 0⟩
  | j + 1, k => addS (saltS c l j k) (timesS (rtRow c (l j) (pathN (l j)) k) (l j).water)
def volK (c : Cav) (l : Nat → Stg) (n k : Nat) : Span := addS (c.slices.el k).vol (timesS (saltS c l n k) (c.slices.el k).opn)
section
variable {c : Cav} (hc : CavOk c) {l : Nat → Stg} {n : Nat} (hl : ∀ i, i < n → StgOk c.slices.len (l i))
include hc hl
end
def saltSl (c : Cav) (l : Nat → Stg) (n : Nat) : Sl Span := ⟨false, c.slices.len, saltS c l n⟩
variable (F d : Nat)
section
variable {c : Cav} (hc : CavOk c) {l : Sl Stg} (h8 : l.len ≤ 8) (hl : ∀ i, i < l.len → StgOk c.slices.len (l.el i)) (hF : 400 < F)
include hc h8 hl hF
end
end Go.Sim.Le


namespace Go.Sim.Le
open Go.Proofs
def sumpM (c : Cav) : Mea := ⟨⟨false, c.slices.len, fun _ => 0⟩, 1⟩
def afterV (c : Cav) (l : Nat → Stg) (n : Nat) : List V := [sl eSpan 2 (saltSl c l n), sl eSpan 2 (tabP (volK c l n) c.slices.len), .int .i64 (boundS c l (sumpM c) n).lo, .int .i64 (boundS c l (sumpM c) n).hi]
def after0 : List V := [.row true 0 0 fun _ => [], .row true 0 0 fun _ => [], .int .i64 0, .int .i64 0]
variable (F d : Nat)
end Go.Sim.Le


namespace Go.Sim.Le
open Go.Proofs
theorem le_bestHi {f : Int → Int} {a : Int} {n : Int} (h1 : a ≤ n) : ∀ j : Nat, n ≤ a + j → f n ≤ bestHi f a j
  | 0, h => by rw [show n = a by omega]; exact Int.le_refl _
  | j + 1, h => by
    simp only [bestHi]
    by_cases h2 : n ≤ a + j
    · have := le_bestHi h1 (f := f) j h2; omega
    · rw [show n = a + ((j + 1 : Nat) : Int) by omega]; omega
theorem bestLo_le {f : Int → Int} {a : Int} {n : Int} (h1 : a ≤ n) : ∀ j : Nat, n ≤ a + j → bestLo f a j ≤ f n
  | 0, h => by rw [show n = a by omega]; exact Int.le_refl _
  | j + 1, h => by
    simp only [bestLo]
    by_cases h2 : n ≤ a + j
    · have := bestLo_le h1 (f := f) j h2; omega
    · rw [show n = a + ((j + 1 : Nat) : Int) by omega]; omega
def oneM (c : Cav) (u : Nat) : Mea := ⟨⟨false, c.slices.len, oneW u⟩, 0⟩
section
variable {c : Cav} (hc : CavOk c) {s : Stg} (hs : StgOk c.slices.len s)
include hc hs
end
end Go.Sim.Le


namespace Go.Sim.Le
open Go.Proofs
section
variable {c : Cav} (hc : CavOk c)
include hc
end
variable (F d : Nat)
section
variable {c : Cav} (hc : CavOk c) {l : Sl Stg} (h8 : l.len ≤ 8) (hl : ∀ i, i < l.len → StgOk c.slices.len (l.el i)) (hF : 1000000000 < F)
include hc h8 hl hF
def afterR (c : Cav) (l : Nat → Stg) (n : Nat) : List V := [sl eSpan 2 (tabP (saltS c l n) c.slices.len), sl eSpan 2 (tabP (volK c l n) c.slices.len), .int .i64 (boundS c l (sumpM c) n).lo, .int .i64 (boundS c l (sumpM c) n).hi]
end
end Go.Sim.Le


namespace Go.Sim.Le
open Go.Proofs
variable (F d : Nat)
end Go.Sim.Le


namespace Go.Sim.Le
open Go.Proofs
def rotF {α : Type} (l : Nat → α) (n q u : Nat) : α := if u < n - q then l (u + q) else l (u - (n - q))
def narrow (d : Int) (x : Slc) : Slc := { x with vol := ⟨x.vol.lo, x.vol.hi - min d (x.vol.hi - x.vol.lo)⟩, rate := ⟨x.rate.lo + min d (x.rate.hi - x.rate.lo), x.rate.hi⟩ }
def narrowC (d : Int) (c : Cav) : Cav := { c with slices := ⟨false, c.slices.len, fun u => if u < c.slices.len then narrow d (c.slices.el u) else c.slices.el u⟩ }
section
variable {d : Int} (hd : 0 ≤ d) {c : Cav} (hc : CavOk c) {s : Stg} (hs : StgOk c.slices.len s)
include hd hc hs
end
section
variable {d : Int} (hd : 0 ≤ d) {c : Cav} (hc : CavOk c) {l : Nat → Stg} {n : Nat} (hl : ∀ i, i < n → StgOk c.slices.len (l i))
include hd hc hl
end
def moreL (d : Int) (q : Nat) (l : Nat → Stg) (u : Nat) : Stg := if u = q then { l u with water := min 1000000 ((l u).water + d) } else l u
section
variable {d : Int} (hd : 0 ≤ d) {c : Cav} (hc : CavOk c) {l : Nat → Stg} {n : Nat} (hl : ∀ i, i < n → StgOk c.slices.len (l i)) (q : Nat)
include hd hl
include hc
end
end Go.Sim.Le


namespace Go.Sim.Le
open Go.Proofs
section
variable {d : Int} (hd : 0 ≤ d) {c : Cav} (hc : CavOk c) {s : Stg} (hs : StgOk c.slices.len s)
include hd hc hs
end
variable (F d : Nat)
section
variable {c : Cav} (hc : CavOk c) {l : Sl Stg} (h8 : l.len ≤ 8) (hl : ∀ i, i < l.len → StgOk c.slices.len (l.el i)) (hF : 1000000000 < F)
include hc h8 hl hF
end
end Go.Sim.Le


namespace Go.Sim.Le
open Go.Proofs
variable (F d : Nat)
end Go.Sim.Le


namespace Go.Sim.Le
open Go.Proofs
def trueM (c : Cav) (l : Nat → Stg) (t : Truth) (m : Mea) (j : Nat) : Int := sumF (fun i => m.weights.el i * volS c l t j i) c.slices.len + m.sump * sumpS c l t j
theorem timesS_mem {p : Span} {n x : Int} (h1 : p.lo ≤ x) (h2 : x ≤ p.hi) : (timesS p n).lo ≤ n * x ∧ n * x ≤ (timesS p n).hi := by
  unfold timesS
  by_cases h : n < 0
  · rw [if_pos h]
    exact ⟨Int.mul_le_mul_of_nonpos_left (by omega) h2, Int.mul_le_mul_of_nonpos_left (by omega) h1⟩
  · rw [if_neg h]
    exact ⟨Int.mul_le_mul_of_nonneg_left h1 (by omega), Int.mul_le_mul_of_nonneg_left h2 (by omega)⟩
section
variable {c : Cav} (hc : CavOk c) {s : Stg} (hs : StgOk c.slices.len s) (w : Nat → Int) (hw : RatesOk c w)
include hc hs hw
theorem play_rest (m : Mea) : ∀ r, r ≤ pathN s → (restS c m s r (c.hold - (tkT c s w (pathN s - r)).1)).lo ≤ pathSum c s w (gainI c m) (pathN s) - pathSum c s w (gainI c m) (pathN s - r) ∧ pathSum c s w (gainI c m) (pathN s) - pathSum c s w (gainI c m) (pathN s - r) ≤ (restS c m s r (c.hold - (tkT c s w (pathN s - r)).1)).hi := by
  intro r
  induction r with
  | zero => intro _; simp [restS]
  | succ r ih =>
    intro h
    have i := ih (by omega)
    have ho : SpanIn (slAt c s (pathN s - (r + 1))).rate 0 300 := (slcOk_at hc hs (k := pathN s - (r + 1)) (by omega)).2.2.2.1
    unfold SpanIn at ho
    have hin := pathAt_in hs (k := pathN s - (r + 1)) (by omega)
    have hwr : (slAt c s (pathN s - (r + 1))).rate.lo ≤ w (pathAt s (pathN s - (r + 1))).toNat ∧ w (pathAt s (pathN s - (r + 1))).toNat ≤ (slAt c s (pathN s - (r + 1))).rate.hi := hw _ (by omega)
    have hS : pathN s - r = pathN s - (r + 1) + 1 := by omega
    rw [hS] at i
    simp only [pathSum, tkT] at i
    simp only [restS]
    generalize hk : pathN s - (r + 1) = k at *
    have hn : min (w (pathAt s k).toNat) (c.hold - (tkT c s w k).1) = takeN c s w k := rfl
    rw [hn] at i
    have hn1 : min (slAt c s k).rate.lo (c.hold - (tkT c s w k).1) ≤ takeN c s w k := by unfold takeN; omega
    have hn2 : takeN c s w k ≤ min (slAt c s k).rate.hi (c.hold - (tkT c s w k).1) := by unfold takeN; omega
    generalize hg : gainI c m (pathAt s k).toNat = g at *
    rw [show c.hold - ((tkT c s w k).1 + takeN c s w k) = c.hold - (tkT c s w k).1 - takeN c s w k by omega] at i
    generalize hb : c.hold - (tkT c s w k).1 = b at *
    have e1 := le_bestHi (f := fun n => (restS c m s r (b - n)).hi + n * g) hn1 (min (slAt c s k).rate.hi b - min (slAt c s k).rate.lo b).toNat (by omega)
    have e2 := bestLo_le (f := fun n => (restS c m s r (b - n)).lo + n * g) hn1 (min (slAt c s k).rate.hi b - min (slAt c s k).rate.lo b).toNat (by omega)
    rw [Int.mul_comm g] at i
    omega
theorem play_grown (m : Mea) : (grownS c m s).lo ≤ s.water * pathSum c s w (gainI c m) (pathN s) ∧ s.water * pathSum c s w (gainI c m) (pathN s) ≤ (grownS c m s).hi := by
  have h := play_rest hc hs w hw m (pathN s) (Nat.le_refl _)
  rw [Nat.sub_self] at h
  simp only [tkT, pathSum, Int.sub_zero] at h
  unfold grownS
  exact timesS_mem h.1 h.2
end
theorem pathSum_lin {c : Cav} {s : Stg} {w : Nat → Int} (f g : Nat → Int) (x : Int) : ∀ k, pathSum c s w (fun i => f i + g i * x) k = pathSum c s w f k + x * pathSum c s w g k
  | 0 => by simp [pathSum]
  | k + 1 => by
    simp only [pathSum]
    rw [pathSum_lin f g x k, Int.add_mul, Int.mul_add]
    have : g (pathAt s k).toNat * x * takeN c s w k = x * (g (pathAt s k).toNat * takeN c s w k) := by rw [Int.mul_comm (g (pathAt s k).toNat), Int.mul_assoc]
    omega
section
variable {c : Cav} (hc : CavOk c) {n : Nat} {l : Nat → Stg} (hl : ∀ i, i < n → StgOk c.slices.len (l i)) {t : Truth} (ht : TruthOk c n t)
include hl in
theorem true_step (m : Mea) {j : Nat} (hj : j < n) : trueM c l t m (j + 1) = trueM c l t m j + (l j).water * pathSum c (l j) (wK t j) (gainI c m) (pathN (l j)) := by
  have hs := hl j hj
  have e1 : sumF (fun i => m.weights.el i * volS c l t (j + 1) i) c.slices.len = sumF (fun i => m.weights.el i * volS c l t j i) c.slices.len + (l j).water * pathSum c (l j) (wK t j) (fun i => (c.slices.el i).opn * m.weights.el i) (pathN (l j)) := by
    rw [← take_sum hs (wK t j) (fun i => (c.slices.el i).opn * m.weights.el i) (pathN (l j)) (Nat.le_refl _), ← sumF_mul, ← sumF_add]
    refine sumF_cong _ fun i _ => ?_
    simp only [volS, opnF]
    rw [Int.mul_add]
    congr 1
    rw [← Int.mul_assoc, Int.mul_comm (m.weights.el i), Int.mul_assoc]
    simp only [Int.mul_assoc]
  have e2 : pathSum c (l j) (wK t j) (gainI c m) (pathN (l j)) = pathSum c (l j) (wK t j) (fun i => (c.slices.el i).opn * m.weights.el i) (pathN (l j)) + m.sump * pathSum c (l j) (wK t j) (fallF c) (pathN (l j)) := pathSum_lin (fun i => (c.slices.el i).opn * m.weights.el i) (fallF c) m.sump _
  unfold trueM
  rw [e1, e2]
  simp only [sumpS]
  rw [Int.mul_add, Int.mul_add, Int.mul_left_comm m.sump]
  omega
include hc ht in
theorem true_first (m : Mea) : ∀ k, k ≤ c.slices.len → (firstS c m k).lo ≤ sumF (fun i => m.weights.el i * volS c l t 0 i) k ∧ sumF (fun i => m.weights.el i * volS c l t 0 i) k ≤ (firstS c m k).hi
  | 0, _ => by simp [firstS, sumF]
  | k + 1, h => by
    have i := true_first m k (by omega)
    have h1 := ht.2.2.1 k (by rw [ht.1]; omega)
    have h2 := timesS_mem (p := (c.slices.el k).vol) (n := m.weights.el k) h1.1 h1.2
    simp only [firstS, sumF, addS, volS]
    simp only [volS] at i
    omega
include hc hl ht
theorem true_in (m : Mea) : ∀ j, j ≤ n → (boundS c l m j).lo ≤ trueM c l t m j ∧ trueM c l t m j ≤ (boundS c l m j).hi
  | 0, _ => by
    have i := true_first hc ht (l := l) m c.slices.len (Nat.le_refl _)
    simp only [boundS, trueM, sumpS, Int.mul_zero, Int.add_zero]
    exact i
  | j + 1, h => by
    have i := true_in m j (by omega)
    have hg := play_grown hc (hl j (by omega)) (wK t j) (truth_rates ht (by omega)) m
    rw [true_step hl m (by omega)]
    simp only [boundS, addS]
    omega
end
theorem sumF_one (f : Nat → Int) (u : Nat) : ∀ n, sumF (fun i => oneW u i * f i) n = if u < n then f u else 0
  | 0 => rfl
  | n + 1 => by
    simp only [sumF]
    rw [sumF_one f u n]
    unfold oneW
    by_cases h1 : n = u
    · subst h1; rw [if_neg (by omega), if_pos rfl, if_pos (by omega)]; omega
    · rw [if_neg h1]
      by_cases h2 : u < n
      · rw [if_pos h2, if_pos (by omega)]; omega
      · rw [if_neg h2, if_neg (by omega)]; omega
section
variable {c : Cav} (hc : CavOk c) {n : Nat} {l : Nat → Stg} (hl : ∀ i, i < n → StgOk c.slices.len (l i)) {t : Truth} (ht : TruthOk c n t)
include hc hl ht
def takenS (l : Nat → Stg) (t : Truth) (c : Cav) (u : Nat) : Nat → Int
  | 0 => 0
  | j + 1 => takenS l t c u j + (l j).water * takeRow c (l j) (wK t j) (pathN (l j)) u
end
end Go.Sim.Le


namespace Go.Sim.Le
open Go.Proofs
variable (F d : Nat)
section
variable {c : Cav} (hc : CavOk c) {l : Sl Stg} (h8 : l.len ≤ 8) (hl : ∀ i, i < l.len → StgOk c.slices.len (l.el i)) {t : Truth} (ht : TruthOk c l.len t)
include hc h8 hl ht
end
end Go.Sim.Le


namespace Go.Sim.Le
open Go.Proofs
theorem wide_none {c : Cav} {l : Nat → Stg} {k : Nat} : ∀ j i, (wideR c l k j i).2 = false → ∀ u, i ≤ u → u < i + j → (boundS c l (meaS c 2 (u : Int)) (k + 1)).hi ≤ (c.slices.el u).most
  | 0, i, _, u, h1, h2 => by omega
  | j + 1, i, h, u, h1, h2 => by
    simp only [wideR] at h
    by_cases hd : (boundS c l (meaS c 2 (i : Int)) (k + 1)).hi > (c.slices.el i).most
    · rw [decide_eq_true hd] at h; simp at h
    · rw [decide_eq_false hd] at h
      by_cases hu : u = i
      · subst hu; omega
      · exact wide_none j (i + 1) h u (by omega) (by omega)
theorem fault_rule {c : Cav} {l : Nat → Stg} : ∀ j k, ((faultR c l j k).1 = -1 ∧ (faultR c l j k).2.1 = 1) ∨ ((k : Int) ≤ (faultR c l j k).1 ∧ (faultR c l j k).1 < ((k + j : Nat) : Int) ∧ (faultR c l j k).2.1 ≠ 1)
  | 0, k => .inl ⟨rfl, rfl⟩
  | j + 1, k => by
    have i := fault_rule (c := c) (l := l) j (k + 1)
    simp only [faultR]
    cases decide (topOf (l k) ≥ (l k).blanket) with
    | true => right; simp only [cond_true]; omega
    | false =>
      simp only [cond_false]
      cases buriedB c l k with
      | true => right; simp only [cond_true]; omega
      | false =>
        simp only [cond_false]
        cases oiledB c l k with
        | true => right; simp only [cond_true]; omega
        | false =>
          simp only [cond_false]
          cases (wideR c l k c.slices.len 0).2 with
          | true => right; simp only [cond_true]; omega
          | false => simp only [cond_false]; omega
theorem fault_none {c : Cav} {l : Nat → Stg} : ∀ j k, (faultR c l j k).2.1 = 1 → ∀ u, k ≤ u → u < k + j → (topOf (l u) < (l u).blanket) ∧ buriedB c l u = false ∧ oiledB c l u = false ∧ (wideR c l u c.slices.len 0).2 = false
  | 0, k, _, u, h1, h2 => by omega
  | j + 1, k, h, u, h1, h2 => by
    simp only [faultR] at h
    cases g1 : decide (topOf (l k) ≥ (l k).blanket) with
    | true => rw [g1] at h; simp at h
    | false =>
      rw [g1, cond_false] at h
      cases g2 : buriedB c l k with
      | true => rw [g2] at h; simp at h
      | false =>
        rw [g2, cond_false] at h
        cases g3 : oiledB c l k with
        | true => rw [g3] at h; simp at h
        | false =>
          rw [g3, cond_false] at h
          cases g4 : (wideR c l k c.slices.len 0).2 with
          | true => rw [g4] at h; simp at h
          | false =>
            rw [g4, cond_false] at h
            by_cases hu : u = k
            · subst hu
              exact ⟨by have := of_decide_eq_false g1; omega, g2, g3, g4⟩
            · exact fault_none j (k + 1) h u (by omega) (by omega)
def tP (t : Truth) (k : Nat) : Truth := ⟨t.vols, ⟨t.rates.nl, k, t.rates.el⟩⟩
theorem tP_ok {c : Cav} {n : Nat} {t : Truth} (ht : TruthOk c n t) {k : Nat} (hk : k ≤ n) : TruthOk c k (tP t k) := ⟨ht.1, rfl, ht.2.2.1, fun i hi => ht.2.2.2 i (by have : i < k := hi; rw [ht.2.1]; omega)⟩
def deepF (x y : Int) (v : Nat → Int) (u : Nat) : Int := if (u : Int) ≤ x ∧ (u : Int) ≤ y then v u else 0
def highF' (b : Int) (v : Nat → Int) (u : Nat) : Int := if (u : Int) ≥ b then v u else 0
theorem sumF_neg (f : Nat → Int) : ∀ n, sumF (fun i => -f i) n = -sumF f n
  | 0 => rfl
  | n + 1 => by simp only [sumF]; rw [sumF_neg f n]; omega
theorem trueM_deep (c : Cav) (l : Nat → Stg) (t : Truth) (x y : Int) (j : Nat) : trueM c l t (meaS c 0 (min x y)) j = -(-sumpS c l t j + sumF (deepF x y (volS c l t j)) c.slices.len) := by
  unfold trueM
  have e : sumF (fun i => (meaS c 0 (min x y)).weights.el i * volS c l t j i) c.slices.len = sumF (fun i => -deepF x y (volS c l t j) i) c.slices.len := by
    refine sumF_cong _ fun u hu => ?_
    show meaW 0 (min x y) c.slices.len u * volS c l t j u = _
    unfold meaW deepF
    rw [if_pos hu, wv0]
    by_cases h : (u : Int) ≤ x ∧ (u : Int) ≤ y
    · rw [if_pos h, if_pos (by omega)]; omega
    · rw [if_neg h, if_neg (by omega)]; omega
  rw [e, sumF_neg]
  show _ + 1 * sumpS c l t j = _
  omega
theorem trueM_high (c : Cav) (l : Nat → Stg) (t : Truth) (b : Int) (j : Nat) : trueM c l t (meaS c 1 b) j = sumF (highF' b (volS c l t j)) c.slices.len := by
  unfold trueM
  have e : sumF (fun i => (meaS c 1 b).weights.el i * volS c l t j i) c.slices.len = sumF (highF' b (volS c l t j)) c.slices.len := by
    refine sumF_cong _ fun u hu => ?_
    show meaW 1 b c.slices.len u * volS c l t j u = _
    unfold meaW highF'
    rw [if_pos hu, wv1]
    by_cases h : (u : Int) ≥ b
    · rw [if_pos h, if_pos (by omega)]; omega
    · rw [if_neg h, if_neg (by omega)]; omega
  rw [e]
  show _ + 0 * sumpS c l t j = _
  omega
theorem trueM_wide (c : Cav) (l : Nat → Stg) (t : Truth) {u : Nat} (hu : u < c.slices.len) (j : Nat) : trueM c l t (meaS c 2 (u : Int)) j = volS c l t j u := by
  unfold trueM
  have e : sumF (fun i => (meaS c 2 (u : Int)).weights.el i * volS c l t j i) c.slices.len = sumF (fun i => oneW u i * volS c l t j i) c.slices.len := by
    refine sumF_cong _ fun i hi => ?_
    show meaW 2 (u : Int) c.slices.len i * volS c l t j i = _
    unfold meaW oneW
    rw [if_pos hi, wv2]
    by_cases h : i = u
    · rw [if_pos h, if_pos (by omega)]
    · rw [if_neg h, if_neg (by omega)]
  rw [e, sumF_one, if_pos hu]
  show _ + 0 * sumpS c l t j = _
  omega
variable (F d : Nat)
theorem l15x1 {c : Cav} (hc : CavOk c) (l : Sl Stg) (t : Truth) (m0 k : Nat) (V1 V2 : Nat → Int) (p1 p2 : Int) (hp1 : 0 ≤ p1 ∧ p1 ≤ 7200000000000) (hp2 : 0 ≤ p2 ∧ p2 ≤ 7200000000000) (h1 : ∀ u, u < c.slices.len → 0 ≤ V1 u ∧ V1 u ≤ 20000000000000) (h2 : ∀ u, u < c.slices.len → 0 ≤ V2 u ∧ V2 u ≤ 20000000000000) (hm : ∀ u, u < c.slices.len → V2 u ≤ (c.slices.el u).most) (hk : k < 300) (x y b w : Int)
    (g1 : 0 ≤ -p1 + sumF (deepF x y V1) c.slices.len) (g2 : 0 ≤ -p2 + sumF (deepF x y V2) c.slices.len) (g3 : sumF (highF' b V1) c.slices.len ≤ c.oil) (s1 r1 o1 s2 r2 o2 : Int) : ∀ j u fu, u + j = c.slices.len → j < fu →
    L15x1 (E F (d + 19)) F c l t m0 fu k .i64 (-p1 + sumF (deepF x y V1) u) .i64 (-p2 + sumF (deepF x y V2) u) (sumF (highF' b V1) u) u w x y b false c.slices.len 1 (fun i => eInt (V1 i)) .i64 p1 .i64 s1 .i64 r1 .i64 o1 false c.slices.len 1 (fun i => eInt (V2 i)) .i64 p2 .i64 s2 .i64 r2 .i64 o2
      = L15x0 (E F (d + 19)) F c l t m0 ((k + 1 : Nat) : Int) := by
  have hcl := hc.1
  have hd : ∀ V : Nat → Int, (∀ u, u < c.slices.len → 0 ≤ V u ∧ V u ≤ 20000000000000) → ∀ i, i ≤ c.slices.len → 0 ≤ sumF (deepF x y V) i ∧ sumF (deepF x y V) i ≤ 200000000000000 := fun V hV i hi => by
    have := sumF_in (f := deepF x y V) (a := 0) (b := 20000000000000) i fun u hu => by
      have := hV u (by omega)
      unfold deepF
      split <;> omega
    omega
  have hh : ∀ i, i ≤ c.slices.len → 0 ≤ sumF (highF' b V1) i ∧ sumF (highF' b V1) i ≤ 200000000000000 := fun i hi => by
    have := sumF_in (f := highF' b V1) (a := 0) (b := 20000000000000) i fun u hu => by
      have := h1 u (by omega)
      unfold highF'
      split <;> omega
    omega
  intro j
  induction j with
  | zero =>
    intro u fu h hf
    obtain ⟨fu, rfl⟩ : ∃ k, fu = k + 1 := ⟨fu - 1, by omega⟩
    have hu : u = c.slices.len := by omega
    subst hu
    rw [L15x1s, decide_eq_false (by omega), pF]
    simp only [decide_true, pT]
    rw [decide_eq_false (by omega), pF, decide_eq_false (by omega), pF, decide_eq_false (by omega), pF, wrS (by omega)]
  | succ j ih =>
    intro u fu h hf
    obtain ⟨fu, rfl⟩ : ∃ k, fu = k + 1 := ⟨fu - 1, by omega⟩
    have e := ih (u + 1) fu (by omega) (by omega)
    have a1 := h1 u (by omega)
    have a2 := h2 u (by omega)
    have a3 := hm u (by omega)
    have a4 := hd V1 h1 u (by omega)
    have a5 := hd V2 h2 u (by omega)
    have a6 := hh u (by omega)
    have hS : IntKind.i64.wrap ((u : Int) + 1) = ((u + 1 : Nat) : Int) := wrS (by omega)
    have w1 : IntKind.i64.wrap (-p1 + sumF (deepF x y V1) u + V1 u) = -p1 + sumF (deepF x y V1) u + V1 u := wr (by omega)
    have w2 : IntKind.i64.wrap (-p2 + sumF (deepF x y V2) u + V2 u) = -p2 + sumF (deepF x y V2) u + V2 u := wr (by omega)
    have w3 : IntKind.i64.wrap (sumF (highF' b V1) u + V1 u) = sumF (highF' b V1) u + V1 u := wr (by omega)
    have hlt : decide ((u : Int) < (c.slices.len : Int)) = true := decide_eq_true (by omega)
    have hge : decide ((0 : Int) ≤ (u : Int)) = true := decide_eq_true (by omega)
    have hmo : decide (V2 u > (c.slices.el u).most) = false := decide_eq_false (by omega)
    simp only [sumF, ← Int.add_assoc] at e
    rw [L15x1s]
    by_cases c1 : (u : Int) ≤ x
    · by_cases c2 : (u : Int) ≤ y
      · by_cases c3 : (u : Int) ≥ b
        · have d1 : ∀ V, deepF x y V u = V u := fun V => if_pos ⟨c1, c2⟩
          have d2 : highF' b V1 u = V1 u := if_pos c3
          rw [d1, d1, d2] at e
          simp only [hlt, hge, decide_eq_true c1, decide_eq_true c2, decide_eq_true c3, pT, pF, Int.toNat_natCast, show ((1 : Nat) == 1) = true from rfl, tkCons_c, tkInt_i, decide_true, hmo, w1, w2, w3, hS]
          exact e
        · have d1 : ∀ V, deepF x y V u = V u := fun V => if_pos ⟨c1, c2⟩
          have d2 : highF' b V1 u = 0 := if_neg c3
          rw [d1, d1, d2] at e
          simp only [hlt, hge, decide_eq_true c1, decide_eq_true c2, decide_eq_false c3, pT, pF, Int.toNat_natCast, show ((1 : Nat) == 1) = true from rfl, tkCons_c, tkInt_i, decide_true, hmo, w1, w2, w3, hS]
          simp only [Int.add_zero] at e
          exact e
      · have d1 : ∀ V, deepF x y V u = 0 := fun V => if_neg (fun h => c2 h.2)
        rw [d1, d1] at e
        by_cases c3 : (u : Int) ≥ b
        · have d2 : highF' b V1 u = V1 u := if_pos c3
          rw [d2] at e
          simp only [hlt, hge, decide_eq_true c1, decide_eq_false c2, decide_eq_true c3, pT, pF, Int.toNat_natCast, show ((1 : Nat) == 1) = true from rfl, tkCons_c, tkInt_i, decide_true, hmo, w1, w2, w3, hS]
          simp only [Int.add_zero] at e
          exact e
        · have d2 : highF' b V1 u = 0 := if_neg c3
          rw [d2] at e
          simp only [hlt, hge, decide_eq_true c1, decide_eq_false c2, decide_eq_false c3, pT, pF, Int.toNat_natCast, show ((1 : Nat) == 1) = true from rfl, tkCons_c, tkInt_i, decide_true, hmo, w1, w2, w3, hS]
          simp only [Int.add_zero] at e
          exact e
    · have d1 : ∀ V, deepF x y V u = 0 := fun V => if_neg (fun h => c1 h.1)
      rw [d1, d1] at e
      by_cases c3 : (u : Int) ≥ b
      · have d2 : highF' b V1 u = V1 u := if_pos c3
        rw [d2] at e
        simp only [hlt, hge, decide_eq_false c1, decide_eq_true c3, pT, pF, Int.toNat_natCast, show ((1 : Nat) == 1) = true from rfl, tkCons_c, tkInt_i, decide_true, hmo, w1, w2, w3, hS]
        simp only [Int.add_zero] at e
        exact e
      · have d2 : highF' b V1 u = 0 := if_neg c3
        rw [d2] at e
        simp only [hlt, hge, decide_eq_false c1, decide_eq_false c3, pT, pF, Int.toNat_natCast, show ((1 : Nat) == 1) = true from rfl, tkCons_c, tkInt_i, decide_true, hmo, w1, w2, w3, hS]
        simp only [Int.add_zero] at e
        exact e
end Go.Sim.Le


namespace Go.Sim.Le
open Go.Proofs
variable (F d : Nat)
section
variable {c : Cav} (hc : CavOk c) {l : Sl Stg} (h8 : l.len ≤ 8) (hl : ∀ i, i < l.len → StgOk c.slices.len (l.el i)) {t : Truth} (ht : TruthOk c l.len t) (hF : 1000000000 < F) (hnl : t.vols.nl = true → t.vols.len = 0)
include hc h8 hl ht hF hnl
theorem q44P {k : Nat} (hk : k ≤ l.len) : (E F (d + 19)).pf 44 [.agg (eCav c), .row l.nl k 4 (fun u => eStg (l.el u)), .agg [sl eInt 1 t.vols, .row t.rates.nl k 1 (fun u => [sl eInt 1 (t.rates.el u)])]] = some (.ret (.tup [.agg (endV c l.el (tP t k) k), .int .i64 0])) := by
  have hcl := hc.1
  have he : errP c ⟨l.nl, k, l.el⟩ true = 0 := errP_0.2 ⟨by show k ≤ 8; omega, hc, fun i hi => hl i (by have : i < k := hi; omega), rfl⟩
  have := s44 F (d + 11) c ⟨l.nl, k, l.el⟩ (tP t k) (by show c.slices.len < 4611686018427387904; omega) (by omega) (by show k < 4611686018427387904; omega) (by show k < F; omega) (by show k < 4611686018427387904; omega) (by show k < F; omega) hnl (by omega)
  rw [if_pos ⟨he, tP_ok ht hk⟩] at this
  exact this
theorem q45P {k : Nat} (hk : k ≤ l.len) : (E F (d + 19)).pf 45 [.agg (eCav c), .agg (endV c l.el (tP t k) k)] = some (.ret (.bool true)) :=
  s45 F (d + 18) hc (l := ⟨l.nl, k, l.el⟩) (by show k ≤ 8; omega) (fun i hi => hl i (by have : i < k := hi; omega)) (tP_ok ht hk) hF
theorem l15x0 (hg : (faultR c l.el l.len 0).2.1 = 1) : ∀ j k fu, k + j = l.len → j < fu →
    L15x0 (E F (d + 19)) F c l t fu k = some (.ret (.bool true)) := by
  have hcl := hc.1
  have hvl := ht.1
  have hrl := ht.2.1
  have q21 : (E F (d + 19)).pf 21 [] = _ := s21 F d hF
  intro j
  induction j with
  | zero =>
    intro k fu h hf
    obtain ⟨fu, rfl⟩ : ∃ k, fu = k + 1 := ⟨fu - 1, by omega⟩
    rw [L15x0s, decide_eq_false (by omega), pF]
    simp only [q21, tkOut_ret, tkBool_b]
  | succ j ih =>
    intro k fu h hf
    obtain ⟨fu, rfl⟩ : ∃ k, fu = k + 1 := ⟨fu - 1, by omega⟩
    have q1 := q44P F d hc h8 hl ht hF hnl (k := k) (by omega)
    have q2 := q44P F d hc h8 hl ht hF hnl (k := k + 1) (by omega)
    have q3 := q45P F d hc h8 hl ht hF hnl (k := k) (by omega)
    have q4 := q45P F d hc h8 hl ht hF hnl (k := k + 1) (by omega)
    obtain ⟨f1, f2, f3, f4⟩ := fault_none l.len 0 hg k (by omega) (by omega)
    have t1 := tP_ok ht (k := k) (by omega)
    have t2 := tP_ok ht (k := k + 1) (by omega)
    have hl1 : ∀ i, i < k → StgOk c.slices.len (l.el i) := fun i hi => hl i (by omega)
    have hl2 : ∀ i, i < k + 1 → StgOk c.slices.len (l.el i) := fun i hi => hl i (by omega)
    have s1 := sums_in hc hl1 t1 k (Nat.le_refl _)
    have s2 := sums_in hc hl2 t2 (k + 1) (Nat.le_refl _)
    have b1 := (true_in hc hl1 t1 (meaS c 0 (min (l.el k).into (l.el k).out)) k (Nat.le_refl _)).2
    have b2 := (true_in hc hl2 t2 (meaS c 0 (min (l.el k).into (l.el k).out)) (k + 1) (Nat.le_refl _)).2
    have b3 := (true_in hc hl1 t1 (meaS c 1 (l.el k).blanket) k (Nat.le_refl _)).2
    have f2' := of_decide_eq_false f2
    have f3' := of_decide_eq_false f3
    rw [trueM_deep] at b1 b2
    rw [trueM_high] at b3
    have b4 : ∀ u, u < c.slices.len → volS c l.el (tP t (k + 1)) (k + 1) u ≤ (c.slices.el u).most := fun u hu => by
      have x1 := (true_in hc hl2 t2 (meaS c 2 (u : Int)) (k + 1) (Nat.le_refl _)).2
      rw [trueM_wide c l.el (tP t (k + 1)) hu] at x1
      have x2 := wide_none c.slices.len 0 f4 u (by omega) (by omega)
      omega
    have e := l15x1 F d hc l t fu k (volS c l.el (tP t k) k) (volS c l.el (tP t (k + 1)) (k + 1)) (sumpS c l.el (tP t k) k) (sumpS c l.el (tP t (k + 1)) (k + 1)) (by omega) (by omega) (fun u hu => by have := vol_bd hc hl1 t1 hu k (Nat.le_refl _); omega) (fun u hu => by have := vol_bd hc hl2 t2 hu (k + 1) (Nat.le_refl _); omega) b4 (by omega) (l.el k).into (l.el k).out (l.el k).blanket (l.el k).water (by omega) (by omega) (by omega) (saltP c l.el (tP t k) k) (brineS c l.el (tP t k) k) (outS c l.el (tP t k) k) (saltP c l.el (tP t (k + 1)) (k + 1)) (brineS c l.el (tP t (k + 1)) (k + 1)) (outS c l.el (tP t (k + 1)) (k + 1)) c.slices.len 0 F (by omega) (by omega)
    simp only [sumF, Int.add_zero] at e
    have hS : IntKind.i64.wrap ((k : Int) + 1) = ((k + 1 : Nat) : Int) := wrS (by omega)
    unfold topOf at f1
    simp only [endV, sl] at q1 q2 q3 q4
    rw [L15x0s]
    simp only [hS, Int.toNat_natCast]
    rw [decide_eq_true (show (k : Int) < (l.len : Int) by omega), decide_eq_true (show (0 : Int) ≤ (k : Int) by omega), decide_eq_true (show (0 : Int) ≤ ((k + 1 : Nat) : Int) by omega), decide_eq_true (show 0 ≤ k by omega), decide_eq_true (show 0 ≤ k + 1 by omega), decide_eq_true (show k ≤ l.len by omega), decide_eq_true (show k + 1 ≤ l.len by omega), decide_eq_true (show k ≤ t.rates.len by omega), decide_eq_true (show k + 1 ≤ t.rates.len by omega)]
    simp only [pT, Bool.true_or, Nat.sub_zero, sl, q1, q2, tkOut_ret, tkTup_t, tkAgg_a, tkCons_c, tkInt_i, tkRow_r, tkNil_n, decide_true, z0', pF, q3, q4, tkBool_b, Bool.not_true]
    rw [decide_eq_false (show ¬ (l.el k).into ≥ (l.el k).blanket by omega), pF, decide_eq_false (show ¬ (l.el k).out ≥ (l.el k).blanket by omega), pF]
    rw [wr (n := 0 - sumpS c l.el (tP t k) k) (by omega), wr (n := 0 - sumpS c l.el (tP t (k + 1)) (k + 1)) (by omega), Int.zero_sub, Int.zero_sub]
    exact e.trans (ih (k + 1) fu (by omega) (by omega))
end
theorem s15 (c : Cav) (l : Sl Stg) (t : Truth) (hC : c.slices.len < Big) (hCF : c.slices.len < F) (hB : l.len < Big) (hLF : l.len < F) (hT : t.rates.len < Big) (hTF : t.rates.len < F) (hnl : t.vols.nl = true → t.vols.len = 0) (hF : 1000000000 < F) : (E F (d + 20)).pf 15 [.agg (eCav c), sl eStg 4 l, .agg (eTruth t)] = some (.ret (.bool true)) := by
  have q19 : (E F (d + 19)).pf 19 [.agg (eCav c)] = _ := s19 F (d + 18) c
  have q21 : (E F (d + 19)).pf 21 [] = _ := s21 F d hF
  have q20 : (E F (d + 19)).pf 20 [.agg (eCav c), sl eStg 4 l, .int .i64 5, .int .i64 100, .int .i64 8] = _ := s20 F (d + 14) c l 5 100 8 hC hCF hB hLF
  have q23 : (E F (d + 19)).pf 23 [.agg (eCav c), sl eStg 4 l, .bool true] = _ := s23 F (d + 15) c l true hC hCF hB hLF
  have q30 : (E F (d + 19)).pf 30 [.agg (eCav c), sl eStg 4 l] = _ := s30 F (d + 1) c l hC hCF hB hLF (by omega)
  have q47 : (E F (d + 19)).pf 47 [.agg (eCav c), sl eStg 4 l, .agg (eTruth t)] = _ := s47 F (d + 17) c l t hC hT hCF hTF
  rw [E_pf, t15]
  cases h0 : decide (c.slices.len ≤ 20) with
  | false => rw [h0] at q19; simp only [q19, q21, tkOut_ret, tkBool_b, Bool.not_false, pT]
  | true =>
    rw [h0] at q19
    simp only [q19, tkOut_ret, tkBool_b, Bool.not_true, pF]
    cases decide ((l.len : Int) > 20) with
    | true => simp only [q21, tkOut_ret, tkBool_b, pT]
    | false =>
      rw [pF]
      cases decide ((t.vols.len : Int) > 20) with
      | true => simp only [q21, tkOut_ret, tkBool_b, pT]
      | false =>
        rw [pF]
        cases decide ((t.rates.len : Int) > 20) with
        | true => simp only [q21, tkOut_ret, tkBool_b, pT]
        | false =>
          rw [pF]
          simp only [q23, tkOut_ret, tkInt_i, decide_true, pT]
          by_cases h3 : errP c l true = 0
          · obtain ⟨h8, hc, hl, _⟩ := errP_0.1 h3
            rw [if_pos h3] at q30
            rw [h3]
            simp only [z0', pF, q20, tkOut_ret, tkBool_b]
            generalize decide (errP c l true ≠ 0 ∨ (c.slices.len : Int) ≤ 5 ∧ c.hold ≤ 100 ∧ (l.len : Int) ≤ 8) = e
            cases e with
            | false => simp only [q21, tkOut_ret, tkBool_b, Bool.not_false, pT]
            | true =>
              simp only [Bool.not_true, pF, q47, tkOut_ret, tkBool_b]
              by_cases ht : TruthOk c l.len t
              · have hr := fault_rule (c := c) (l := l.el) l.len 0
                rw [decide_eq_true ht]
                simp only [Bool.not_true, pF, q30, tkOut_ret, tkTup_t, tkCons_c, tkInt_i, tkNil_n, decide_true, pT, z0']
                by_cases hg : (faultR c l.el l.len 0).2.1 = 1
                · have hg1 : (faultR c l.el l.len 0).1 = -1 := by omega
                  have e := l15x0 F d hc h8 hl ht hF hnl hg l.len 0 F (by omega) hLF
                  rw [hg1, hg, decide_eq_false (show ¬ (-1 : Int) < -1 by omega), decide_eq_false (show ¬ (-1 : Int) ≥ (l.len : Int) by omega)]
                  simp only [beq_self_eq_true, Bool.not_true, pF, bne_self_eq_false]
                  exact e
                · have hg1 : (0 : Int) ≤ (faultR c l.el l.len 0).1 ∧ (faultR c l.el l.len 0).1 < (l.len : Int) := by omega
                  rw [show ((faultR c l.el l.len 0).2.1 == (1 : Int)) = false from beq_eq_false_iff_ne.2 hg, show ((faultR c l.el l.len 0).1 == (-(1 : Int))) = false from beq_eq_false_iff_ne.2 (by omega), decide_eq_false (show ¬ (faultR c l.el l.len 0).1 < -1 by omega), decide_eq_false (show ¬ (faultR c l.el l.len 0).1 ≥ (l.len : Int) by omega), show ((faultR c l.el l.len 0).2.1 != (1 : Int)) = true from bne_iff_ne.2 hg]
                  simp only [beq_self_eq_true, Bool.not_true, pF, pT, q21, tkOut_ret, tkBool_b]
              · rw [decide_eq_false ht]
                simp only [q21, tkOut_ret, tkBool_b, Bool.not_false, pT]
          · have e1 : (errP c l true != 0) = true := by simpa using h3
            simp only [e1, pT, q21, tkOut_ret, tkBool_b]
end Go.Sim.Le
