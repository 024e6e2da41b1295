import Derived.Test.YthbpdkcfnbiejaaAg
import Derived.KernelRfl
import Derived.Test.YthbpdkcfnbiejaaRows
set_option linter.unusedVariables false
set_option linter.unusedSimpArgs false
set_option linter.unusedSectionVars false
set_option maxRecDepth 100000
namespace Go.Sim.Le
open Go.Proofs
noncomputable def L45x0 (env : Env) (F : Nat) (c : Cav) (v : Sl Int) (a : Int) (b : Int) (d : Int) (g : Int) (fu : Nat) (i0 : Int) : Option Out := atLoop Try.prog (cfg F) env 45 [.r, .l, .r, .d] [] fu { tm := tmL 44 0 [(2, (.optr 0 0 0)), (3, (.optr 1 0 0)), (5, (i64 i0))], hp := [(.box 24 (eCav c) true), (.box 84 [(sl eInt 1 v), (i64 a), (i64 b), (i64 d), (i64 g)] true)] }
theorem t45 (env : Env) (F : Nat) (c : Cav) (v : Sl Int) (a : Int) (b : Int) (d : Int) (g : Int) : (evFun Try.prog (cfg F) env 45 [(.agg (eCav c)), (.agg [(sl eInt 1 v), (i64 a), (i64 b), (i64 d), (i64 g)])]) = (L45x0 env F c v a b d g F (0 : Int)) := by kernel_rfl
theorem L45x0s (env : Env) (F : Nat) (c : Cav) (v : Sl Int) (a : Int) (b : Int) (d : Int) (g : Int) (fu : Nat) (i0 : Int) : L45x0 env F c v a b d g (fu + 1) i0 = (bif (decide (i0 < (((Sl.len v) : Nat) : Int))) then (bif (decide ((0 : Int) ≤ i0)) then (bif (decide (i0 < (((Sl.len v) : Nat) : Int))) then (bif (decide ((Sl.el v (Int.toNat i0)) < (0 : Int))) then some (.ret (.bool false)) else (bif (decide ((0 : Int) ≤ i0)) then (bif (decide (i0 < (((Sl.len v) : Nat) : Int))) then (bif (decide ((Sl.el v (Int.toNat i0)) > (100000000000000 : Int))) then some (.ret (.bool false)) else (L45x0 env F c v a b d g fu (IntKind.wrap .i64 (i0 + (1 : Int))))) else none) else none)) else none) else none) else (bif ((((Sl.len v) : Nat) : Int) == (((Sl.len (Cav.slices c)) : Nat) : Int)) then (bif (decide (a ≥ (0 : Int))) then some (.ret (.bool (decide (a ≤ (100000000000000 : Int))))) else some (.ret (.bool false))) else some (.ret (.bool false)))) := by kernel_rfl
noncomputable def L87x0 (env : Env) (F : Nat) (c : Cav) (l : Sl Stg) (t : Truth) (fu : Nat) (i0 : Int) : Option Out := atLoop Try.prog (cfg F) env 87 [.r, .r, .l, .r, .d] [] fu { tm := tmL 91 0 [(3, (.optr 0 0 0)), (5, (.optr 1 0 0)), (32, (sl eInt 1 (Truth.vols t))), (33, (i64 (((Sl.len (Truth.vols t)) : Nat) : Int))), (34, (i64 i0))], hp := [(.box 103 (eCav c) true), (.box 82 (eTruth t) true)] }
noncomputable def L87x1 (env : Env) (F : Nat) (c : Cav) (l : Sl Stg) (t : Truth) (fu : Nat) (i0 : Int) : Option Out := atLoop Try.prog (cfg F) env 87 [.r, .r, .r, .l, .r, .d] [] fu { tm := tmL 91 0 [(3, (.optr 0 0 0)), (55, (sl eIL 1 (Truth.rates t))), (56, (i64 (((Sl.len (Truth.rates t)) : Nat) : Int))), (57, (i64 i0))], hp := [(.box 103 (eCav c) true)] }
noncomputable def L87x2 (env : Env) (F : Nat) (c : Cav) (l : Sl Stg) (t : Truth) (m0 : Nat) (fu : Nat) (i0 : Int) (b1 : Bool) (k2 : Nat) (g3 : Nat → List V) (i4 : Int) (i5 : Int) : Option Out := atLoop Try.prog (cfg F) env 87 [.r, .r, .r, .l, .r, .d, .d, .r, .r, .l, .d, .r, .r, .r, .d] [m0] fu { tm := tmL 91 0 [(3, (.optr 0 0 0)), (55, (sl eIL 1 (Truth.rates t))), (56, (i64 (((Sl.len (Truth.rates t)) : Nat) : Int))), (57, (i64 i0)), (68, (.row b1 k2 1 g3)), (69, (i64 i4)), (70, (i64 i5))], hp := [(.box 103 (eCav c) true)] }
theorem t87 (env : Env) (F : Nat) (c : Cav) (l : Sl Stg) (t : Truth) : (evFun Try.prog (cfg F) env 87 [(.agg (eCav c)), (sl eStg 4 l), (.agg (eTruth t))]) = (bif ((((Sl.len (Truth.vols t)) : Nat) : Int) != (((Sl.len (Cav.slices c)) : Nat) : Int)) then some (.ret (.bool false)) else (bif ((((Sl.len (Truth.rates t)) : Nat) : Int) != (((Sl.len l) : Nat) : Int)) then some (.ret (.bool false)) else (L87x0 env F c l t F (0 : Int)))) := by kernel_rfl
theorem L87x0s (env : Env) (F : Nat) (c : Cav) (l : Sl Stg) (t : Truth) (fu : Nat) (i0 : Int) : L87x0 env F c l t (fu + 1) i0 = (bif (decide (i0 < (((Sl.len (Truth.vols t)) : Nat) : Int))) then (bif (decide ((0 : Int) ≤ i0)) then (bif (decide (i0 < (((Sl.len (Truth.vols t)) : Nat) : Int))) then (bif (decide ((0 : Int) ≤ i0)) then (bif (decide (i0 < (((Sl.len (Cav.slices c)) : Nat) : Int))) then (tkOut (env.pf 59 [(i64 (Sl.el (Truth.vols t) (Int.toNat i0))), (i64 (Span.lo (Slc.vol (Sl.el (Cav.slices c) (Int.toNat i0))))), (i64 (Span.hi (Slc.vol (Sl.el (Cav.slices c) (Int.toNat i0)))))]) none (fun v7 => (tkBool v7 none fun b8 => (bif (!b8) then some (.ret (.bool false)) else (L87x0 env F c l t fu (IntKind.wrap .i64 (i0 + (1 : Int))))))) (fun p7 => (tkIfc p7 none fun t8 x9 => (bif (flatP (.iface t8 x9)) then some (.pan (.iface t8 x9)) else none)))) else none) else none) else none) else none) else (L87x1 env F c l t F (0 : Int))) := by kernel_rfl
theorem L87x1s (env : Env) (F : Nat) (c : Cav) (l : Sl Stg) (t : Truth) (fu : Nat) (i0 : Int) : L87x1 env F c l t (fu + 1) i0 = (bif (decide (i0 < (((Sl.len (Truth.rates t)) : Nat) : Int))) then (bif (decide ((0 : Int) ≤ i0)) then (bif (decide (i0 < (((Sl.len (Truth.rates t)) : Nat) : Int))) then (bif ((((Sl.len (Sl.el (Truth.rates t) (Int.toNat i0))) : Nat) : Int) != (((Sl.len (Cav.slices c)) : Nat) : Int)) then some (.ret (.bool false)) else (L87x2 env F c l t fu F i0 (Sl.nl (Sl.el (Truth.rates t) (Int.toNat i0))) (Sl.len (Sl.el (Truth.rates t) (Int.toNat i0))) (fun u7 => [(i64 (Sl.el (Sl.el (Truth.rates t) (Int.toNat i0)) u7))]) (((Sl.len (Sl.el (Truth.rates t) (Int.toNat i0))) : Nat) : Int) (0 : Int))) else none) else none) else some (.ret (.bool true))) := by kernel_rfl
theorem L87x2s (env : Env) (F : Nat) (c : Cav) (l : Sl Stg) (t : Truth) (m0 : Nat) (fu : Nat) (i0 : Int) (b1 : Bool) (k2 : Nat) (g3 : Nat → List V) (i4 : Int) (i5 : Int) : L87x2 env F c l t m0 (fu + 1) i0 b1 k2 g3 i4 i5 = (bif (decide (i5 < i4)) then (bif (decide ((0 : Int) ≤ i5)) then (bif (decide (i5 < ((k2 : Nat) : Int))) then (tkCons (g3 (Int.toNat i5)) none fun v13 r14 => (tkInt v13 none fun q15 n16 => (bif (decide ((0 : Int) ≤ i5)) then (bif (decide (i5 < (((Sl.len (Cav.slices c)) : Nat) : Int))) then (tkOut (env.pf 59 [(.int q15 n16), (i64 (Span.lo (Slc.rate (Sl.el (Cav.slices c) (Int.toNat i5))))), (i64 (Span.hi (Slc.rate (Sl.el (Cav.slices c) (Int.toNat i5)))))]) none (fun v17 => (tkBool v17 none fun b18 => (bif (!b18) then some (.ret (.bool false)) else (L87x2 env F c l t m0 fu i0 b1 k2 g3 i4 (IntKind.wrap .i64 (i5 + (1 : Int))))))) (fun p17 => (tkIfc p17 none fun t18 x19 => (bif (flatP (.iface t18 x19)) then some (.pan (.iface t18 x19)) else none)))) else none) else none))) else none) else none) else (L87x1 env F c l t m0 (IntKind.wrap .i64 (i0 + (1 : Int))))) := by kernel_rfl
noncomputable def L44x0 (env : Env) (F : Nat) (c : Cav) (l : Sl Stg) (t : Truth) (fu : Nat) (k0 : Nat) (g1 : Nat → List V) : Option Out := atLoop Try.prog (cfg F) env 44 [.r, .r, .r, .r, .r, .l, .r, .d] [] fu { tm := tmL 145 0 [(3, (.optr 0 0 0)), (5, (.optr 1 0 0)), (6, (.optr 2 0 0)), (10, (.optr 3 0 0)), (39, (sl eStg 4 l)), (40, (i64 (((Sl.len l) : Nat) : Int))), (41, (i64 (0 : Int)))], hp := [(.box 24 (eCav c) true), (.box 82 (eTruth t) true), (.box 84 [(.row true 0 0 (fun u8 => [])), (i64 (0 : Int)), (i64 (0 : Int)), (i64 (0 : Int)), (i64 (0 : Int))] true), (.box 84 [(.row true 0 k0 g1), (i64 (0 : Int)), (i64 (0 : Int)), (i64 (0 : Int)), (i64 (0 : Int))] true)] }
noncomputable def L44x1 (env : Env) (F : Nat) (c : Cav) (l : Sl Stg) (t : Truth) (fu : Nat) (i0 : Int) (k1 : Nat) (i2 : Int) (i3 : Int) (i4 : Int) (i5 : Int) (k6 : Nat) (g7 : Nat → List V) : Option Out := atLoop Try.prog (cfg F) env 44 [.r, .r, .r, .r, .r, .l, .r, .d] [] fu { tm := tmL 145 0 [(3, (.optr 0 0 0)), (5, (.optr 1 0 0)), (6, (.optr 2 0 0)), (10, (.optr 3 0 0)), (39, (sl eStg 4 l)), (40, (i64 (((Sl.len l) : Nat) : Int))), (41, (i64 i0))], hp := [(.box 24 (eCav c) true), (.box 82 (eTruth t) true), (.box 84 [(.row true 0 0 (fun u14 => [])), (i64 (0 : Int)), (i64 (0 : Int)), (i64 (0 : Int)), (i64 (0 : Int))] true), (.box 84 [(.osl 4 0 k1), (i64 i2), (i64 i3), (i64 i4), (i64 i5)] true), (.arr 3 1 k6 g7 true)] }
noncomputable def L44x2 (env : Env) (F : Nat) (c : Cav) (l : Sl Stg) (t : Truth) (m0 : Nat) (fu : Nat) (g0 : Nat → List V) (i1 : Int) (q2 : IntKind) (i3 : Int) (k4 : Nat) (g5 : Nat → List V) (g6 : Nat → List V) : Option Out := atLoop Try.prog (cfg F) env 44 [.r, .r, .r, .r, .r, .l, .r, .d, .d, .r, .r, .l, .d, .r, .r, .l, .r, .d, .g 99, .r, .r, .r, .d] [m0] fu { tm := tmL 24 0 [(0, (.yld 0)), (1, (.rptr 1 4 g0 0 0)), (3, (i64 i1)), (4, (.int q2 i3))], hp := [.lp, (.box 24 (eCav c) true), (.box 82 (eTruth t) true), (.box 84 [(.row true 0 0 (fun u14 => [])), (i64 (0 : Int)), (i64 (0 : Int)), (i64 (0 : Int)), (i64 (0 : Int))] true), (.box 84 [(.row true 0 k4 g5), (i64 (0 : Int)), (i64 (0 : Int)), (i64 (0 : Int)), (i64 (0 : Int))] true), (.box 3 [(i64 (0 : Int))] true), (.box 40 (eStg (Sl.el l 0)) true), (.box 3 [(i64 (Cav.hold c))] true), (.box 3 [(i64 (0 : Int))] true), (.box 3 [(i64 (0 : Int))] true), (.box 3 [(i64 (0 : Int))] true)], ext := [(.yld 0), .top, .top, .top, (.optr 1 0 0), .top, (.optr 2 0 0), (.optr 3 0 0), .top, .top, .top, (.optr 4 0 0), (.optr 5 0 0), (.optr 6 0 0), (.optr 7 0 0), (.optr 8 0 0), (.optr 9 0 0), (.optr 10 0 0), .top, .top, .top, .top, .top, .top, .top, .top, .top, .top, .top, .top, .top, .top, .top, .top, .top, .top, .top, .top, .top, .top, (sl eStg 4 l), (i64 (((Sl.len l) : Nat) : Int)), (i64 (0 : Int)), (.bool (decide ((0 : Int) < (((Sl.len l) : Nat) : Int)))), (i64 (0 : Int)), (.rptr (Sl.len l) 4 (fun u14 => (eStg (Sl.el l u14))) 0 0), (.agg (eStg (Sl.el l 0))), (.optr 1 0 1), (i64 (Cav.hold c)), (.agg (eStg (Sl.el l 0))), (.fn (.func 99) [] [(.rptr 1 4 g6 0 0)]), .top, .top, .top, .top, .top, .top, .top, .top, .top, .top, .top, .top, .top, .top, .top, .top, .top, .top, .top, .top, .top, .top, .top, .top, .top, .top, .top, .top, .top, .top, .top, .top, .top, .top, .top, .top, .top, .top, .top, .top, .top, .top, .top, .top, .top, .top, .top, .top, .top, .top, .top, .top, .top, .top, .top, .top, .top, .top, .top, .top, .top, .top, .top, .top, .top, .top, .top, .top, .top, .top, .top, .top, .top, .top, .top, .top, .top, .top, .top, .top, .top, .top, .top, .top, .top, .top, .top, .top, .top, .top, .top, .top, .top, .top, .top] }
noncomputable def L44x3 (env : Env) (F : Nat) (c : Cav) (l : Sl Stg) (t : Truth) (m0 : Nat) (fu : Nat) (g0 : Nat → List V) (i1 : Int) (q2 : IntKind) (i3 : Int) (k4 : Nat) (i5 : Int) (i6 : Int) (i7 : Int) (i8 : Int) (i9 : Int) (i10 : Int) (i11 : Int) (i12 : Int) (i13 : Int) (i14 : Int) (q15 : IntKind) (i16 : Int) (q17 : IntKind) (i18 : Int) (q19 : IntKind) (i20 : Int) (k21 : Nat) (g22 : Nat → List V) (i23 : Int) (b24 : Bool) (i25 : Int) (k26 : Nat) (i27 : Int) (i28 : Int) (i29 : Int) (i30 : Int) (i31 : Int) (i32 : Int) (i33 : Int) (i34 : Int) (g35 : Nat → List V) : Option Out := atLoop Try.prog (cfg F) env 44 [.r, .r, .r, .r, .r, .l, .r, .d, .d, .r, .r, .l, .d, .r, .r, .l, .r, .d, .g 99, .r, .r, .r, .d] [m0] fu { tm := tmL 24 0 [(0, (.yld 0)), (1, (.rptr 1 4 g0 0 0)), (3, (i64 i1)), (4, (.int q2 i3))], hp := [.lp, (.box 24 (eCav c) true), (.box 82 (eTruth t) true), (.box 84 [(.row true 0 0 (fun u43 => [])), (i64 (0 : Int)), (i64 (0 : Int)), (i64 (0 : Int)), (i64 (0 : Int))] true), (.box 84 [(.osl 11 0 k4), (i64 i5), (i64 i6), (i64 i7), (i64 i8)] true), (.box 3 [(i64 i9)] true), (.box 40 [(i64 i10), (i64 i11), (i64 i12), (i64 i13)] true), (.box 3 [(i64 i14)] true), (.box 3 [(.int q15 i16)] true), (.box 3 [(.int q17 i18)] true), (.box 3 [(.int q19 i20)] true), (.arr 3 1 k21 g22 true)], ext := [(.yld 0), .top, .top, .top, (.optr 1 0 0), .top, (.optr 2 0 0), (.optr 3 0 0), .top, .top, .top, (.optr 4 0 0), (.optr 5 0 0), (.optr 6 0 0), (.optr 7 0 0), (.optr 8 0 0), (.optr 9 0 0), (.optr 10 0 0), .top, .top, .top, .top, .top, .top, .top, .top, .top, .top, .top, .top, .top, .top, .top, .top, .top, .top, .top, .top, .top, .top, (sl eStg 4 l), (i64 (((Sl.len l) : Nat) : Int)), (i64 i23), (.bool b24), (i64 i25), (.rptr (Sl.len l) 4 (fun u43 => (eStg (Sl.el l u43))) k26 0), (.agg [(i64 i27), (i64 i28), (i64 i29), (i64 i30)]), (.optr 1 0 1), (i64 (Cav.hold c)), (.agg [(i64 i31), (i64 i32), (i64 i33), (i64 i34)]), (.fn (.func 99) [] [(.rptr 1 4 g35 0 0)]), .top, .top, .top, .top, .top, .top, .top, .top, .top, .top, .top, .top, .top, .top, .top, .top, .top, .top, .top, .top, .top, .top, .top, .top, .top, .top, .top, .top, .top, .top, .top, .top, .top, .top, .top, .top, .top, .top, .top, .top, .top, .top, .top, .top, .top, .top, .top, .top, .top, .top, .top, .top, .top, .top, .top, .top, .top, .top, .top, .top, .top, .top, .top, .top, .top, .top, .top, .top, .top, .top, .top, .top, .top, .top, .top, .top, .top, .top, .top, .top, .top, .top, .top, .top, .top, .top, .top, .top, .top, .top, .top, .top, .top, .top, .top] }
theorem t44 (env : Env) (F : Nat) (c : Cav) (l : Sl Stg) (t : Truth) : (evFun Try.prog (cfg F) env 44 [(.agg (eCav c)), (sl eStg 4 l), (.agg (eTruth t))]) = (tkOut (env.pf 57 [(.agg (eCav c)), (sl eStg 4 l)]) none (fun v5 => (tkInt v5 none fun q6 n7 => (bif (decide (q6 = .i64)) then (bif (n7 != (0 : Int)) then some (.ret (.tup [(.agg [(.row true 0 0 (fun u8 => [])), (i64 (0 : Int)), (i64 (0 : Int)), (i64 (0 : Int)), (i64 (0 : Int))]), (.int q6 n7)])) else (tkOut (env.pf 87 [(.agg (eCav c)), (sl eStg 4 l), (.agg (eTruth t))]) none (fun v8 => (tkBool v8 none fun b9 => (bif (!b9) then some (.ret (.tup [(.agg [(.row true 0 0 (fun u10 => [])), (i64 (0 : Int)), (i64 (0 : Int)), (i64 (0 : Int)), (i64 (0 : Int))]), (i64 (2 : Int))])) else (tkHv (env.hv 79 [(sl eInt 1 (Truth.vols t))] []) none fun v10 h11 => (tkSl v10 none (fun nl12 n13 wd14 g15 => (bif (nl12 && (Nat.beq n13 0)) then (tkSNil h11 none ((L44x0 env F c l t F wd14 g15))) else none)) (fun b12 lo13 n14 => (bif ((Nat.beq b12 0) && (Nat.beq lo13 0)) then (tkSCons h11 none fun s15 r16 => (tkSNil r16 none ((tkArr s15 none fun e17 wd18 n19 g20 wr21 => (bif (((Nat.beq e17 3) && (Nat.beq wd18 1)) && (wr21 == true)) then (L44x1 env F c l t F (0 : Int) n14 (0 : Int) (0 : Int) (0 : Int) (0 : Int) n19 g20) else none))))) else none))))))) (fun p8 => (tkIfc p8 none fun t9 x10 => (bif (flatP (.iface t9 x10)) then some (.pan (.iface t9 x10)) else none))))) else none))) (fun p5 => (tkIfc p5 none fun t6 x7 => (bif (flatP (.iface t6 x7)) then some (.pan (.iface t6 x7)) else none)))) := by kernel_rfl
theorem L44x0s (env : Env) (F : Nat) (c : Cav) (l : Sl Stg) (t : Truth) (fu : Nat) (k0 : Nat) (g1 : Nat → List V) : L44x0 env F c l t (fu + 1) k0 g1 = (bif (decide ((0 : Int) < (((Sl.len l) : Nat) : Int))) then (bif (decide ((0 : Int) < (((Sl.len l) : Nat) : Int))) then (tkOut (env.pf 68 [(.agg (eStg (Sl.el l 0)))]) none (fun v8 => (tkFn v8 none fun f9 a10 c11 => (bif (Nat.beq f9 99) then (tkNil a10 none ((tkCons c11 none fun v12 r13 => (tkPtr v12 none fun n14 wd15 g16 i17 off18 => (bif (((Nat.beq n14 1) && (Nat.beq wd15 4)) && ((Nat.beq i17 0) && (Nat.beq off18 0))) then (tkCons (g16 0) none fun v19 r20 => (tkInt v19 none fun q21 n22 => (tkCons r20 none fun v23 r24 => (tkInt v23 none fun q25 n26 => (tkCons r24 none fun v27 r28 => (tkInt v27 none fun q29 n30 => (tkCons r28 none fun v31 r32 => (tkInt v31 none fun q33 n34 => (tkNil r32 none ((tkNil r13 none ((bif (decide (q29 = q25)) then (bif (decide (n30 < n26)) then (L44x2 env F c l t fu F (fun u35 => [(.int q21 n22), (.int q25 n26), (.int q29 n30), (.int q33 n34)]) (-(1 : Int)) q25 n26 k0 g1 (fun u35 => [(.int q21 n22), (.int q25 n26), (.int q29 n30), (.int q33 n34)])) else (L44x2 env F c l t fu F (fun u35 => [(.int q21 n22), (.int q25 n26), (.int q29 n30), (.int q33 n34)]) (1 : Int) q25 n26 k0 g1 (fun u35 => [(.int q21 n22), (.int q25 n26), (.int q29 n30), (.int q33 n34)]))) else none))))))))))))) else none))))) else none))) (fun p8 => (tkIfc p8 none fun t9 x10 => (bif (flatP (.iface t9 x10)) then some (.pan (.iface t9 x10)) else none)))) else none) else some (.ret (.tup [(.agg [(.row true 0 k0 g1), (i64 (0 : Int)), (i64 (0 : Int)), (i64 (0 : Int)), (i64 (0 : Int))]), (i64 (0 : Int))]))) := by kernel_rfl
theorem L44x1s (env : Env) (F : Nat) (c : Cav) (l : Sl Stg) (t : Truth) (fu : Nat) (i0 : Int) (k1 : Nat) (i2 : Int) (i3 : Int) (i4 : Int) (i5 : Int) (k6 : Nat) (g7 : Nat → List V) : L44x1 env F c l t (fu + 1) i0 k1 i2 i3 i4 i5 k6 g7 = (bif (decide (i0 < (((Sl.len l) : Nat) : Int))) then (bif (decide ((0 : Int) ≤ i0)) then (bif (decide (i0 < (((Sl.len l) : Nat) : Int))) then (tkOut (env.pf 68 [(.agg (eStg (Sl.el l (Int.toNat i0))))]) none (fun v14 => (tkFn v14 none fun f15 a16 c17 => (bif (Nat.beq f15 99) then (tkNil a16 none ((tkCons c17 none fun v18 r19 => (tkPtr v18 none fun n20 wd21 g22 i23 off24 => (bif (((Nat.beq n20 1) && (Nat.beq wd21 4)) && ((Nat.beq i23 0) && (Nat.beq off24 0))) then (tkCons (g22 0) none fun v25 r26 => (tkInt v25 none fun q27 n28 => (tkCons r26 none fun v29 r30 => (tkInt v29 none fun q31 n32 => (tkCons r30 none fun v33 r34 => (tkInt v33 none fun q35 n36 => (tkCons r34 none fun v37 r38 => (tkInt v37 none fun q39 n40 => (tkNil r38 none ((tkNil r19 none ((bif (decide (q35 = q31)) then (bif (decide (n36 < n32)) then (L44x3 env F c l t fu F (fun u41 => [(.int q27 n28), (.int q31 n32), (.int q35 n36), (.int q39 n40)]) (-(1 : Int)) q31 n32 k1 i2 i3 i4 i5 i0 (Stg.water (Sl.el l (Int.toNat i0))) (Stg.into (Sl.el l (Int.toNat i0))) (Stg.out (Sl.el l (Int.toNat i0))) (Stg.blanket (Sl.el l (Int.toNat i0))) (Cav.hold c) .i64 (0 : Int) .i64 (0 : Int) .i64 (0 : Int) k6 g7 i0 (decide (i0 < (((Sl.len l) : Nat) : Int))) i0 (Int.toNat i0) (Stg.water (Sl.el l (Int.toNat i0))) (Stg.into (Sl.el l (Int.toNat i0))) (Stg.out (Sl.el l (Int.toNat i0))) (Stg.blanket (Sl.el l (Int.toNat i0))) (Stg.water (Sl.el l (Int.toNat i0))) (Stg.into (Sl.el l (Int.toNat i0))) (Stg.out (Sl.el l (Int.toNat i0))) (Stg.blanket (Sl.el l (Int.toNat i0))) (fun u41 => [(.int q27 n28), (.int q31 n32), (.int q35 n36), (.int q39 n40)])) else (L44x3 env F c l t fu F (fun u41 => [(.int q27 n28), (.int q31 n32), (.int q35 n36), (.int q39 n40)]) (1 : Int) q31 n32 k1 i2 i3 i4 i5 i0 (Stg.water (Sl.el l (Int.toNat i0))) (Stg.into (Sl.el l (Int.toNat i0))) (Stg.out (Sl.el l (Int.toNat i0))) (Stg.blanket (Sl.el l (Int.toNat i0))) (Cav.hold c) .i64 (0 : Int) .i64 (0 : Int) .i64 (0 : Int) k6 g7 i0 (decide (i0 < (((Sl.len l) : Nat) : Int))) i0 (Int.toNat i0) (Stg.water (Sl.el l (Int.toNat i0))) (Stg.into (Sl.el l (Int.toNat i0))) (Stg.out (Sl.el l (Int.toNat i0))) (Stg.blanket (Sl.el l (Int.toNat i0))) (Stg.water (Sl.el l (Int.toNat i0))) (Stg.into (Sl.el l (Int.toNat i0))) (Stg.out (Sl.el l (Int.toNat i0))) (Stg.blanket (Sl.el l (Int.toNat i0))) (fun u41 => [(.int q27 n28), (.int q31 n32), (.int q35 n36), (.int q39 n40)]))) else none))))))))))))) else none))))) else none))) (fun p14 => (tkIfc p14 none fun t15 x16 => (bif (flatP (.iface t15 x16)) then some (.pan (.iface t15 x16)) else none)))) else none) else none) else some (.ret (.tup [(.agg [(.row false k1 1 (fun u14 => (g7 u14))), (i64 i2), (i64 i3), (i64 i4), (i64 i5)]), (i64 (0 : Int))]))) := by kernel_rfl
theorem L44x2s (env : Env) (F : Nat) (c : Cav) (l : Sl Stg) (t : Truth) (m0 : Nat) (fu : Nat) (g0 : Nat → List V) (i1 : Int) (q2 : IntKind) (i3 : Int) (k4 : Nat) (g5 : Nat → List V) (g6 : Nat → List V) : L44x2 env F c l t m0 (fu + 1) g0 i1 q2 i3 k4 g5 g6 = (bif (decide ((0 : Int) < (((Sl.len (Truth.rates t)) : Nat) : Int))) then (bif (decide ((0 : Int) ≤ i3)) then (bif (decide (i3 < (((Sl.len (Sl.el (Truth.rates t) 0)) : Nat) : Int))) then (tkOut (env.pf 88 [(.row false 2 1 (fun u14 => (List.take 1 (List.drop ((Min.min u14 1) * 1) [(i64 (0 : Int)), (i64 (IntKind.wrap .i64 ((if (Cav.hold c) < (Sl.el (Sl.el (Truth.rates t) 0) (Int.toNat i3)) then (Cav.hold c) else (Sl.el (Sl.el (Truth.rates t) 0) (Int.toNat i3))) * (Stg.water (Sl.el l 0)))))]))))]) none (fun v14 => (tkInt v14 none fun q15 n16 => (bif (k4 == 1) then (bif (decide ((0 : Int) ≤ i3)) then (bif (decide (i3 < ((0 : Nat) : Int))) then (tkCons (g5 (Int.toNat i3)) none fun v17 r18 => (tkInt v17 none fun q19 n20 => (bif (decide ((0 : Int) ≤ i3)) then (bif (decide (i3 < (((Sl.len (Cav.slices c)) : Nat) : Int))) then (bif (decide (q19 = .i64)) then (bif (k4 == 1) then (bif (decide ((0 : Int) ≤ i3)) then (bif (decide (i3 < ((0 : Nat) : Int))) then none else none) else none) else none) else none) else none) else none))) else none) else none) else none))) (fun p14 => (tkIfc p14 none fun t15 x16 => (bif (flatP (.iface t15 x16)) then none else none)))) else none) else none) else none) := by kernel_rfl
theorem L44x3s (env : Env) (F : Nat) (c : Cav) (l : Sl Stg) (t : Truth) (m0 : Nat) (fu : Nat) (g0 : Nat → List V) (i1 : Int) (q2 : IntKind) (i3 : Int) (k4 : Nat) (i5 : Int) (i6 : Int) (i7 : Int) (i8 : Int) (i9 : Int) (i10 : Int) (i11 : Int) (i12 : Int) (i13 : Int) (i14 : Int) (q15 : IntKind) (i16 : Int) (q17 : IntKind) (i18 : Int) (q19 : IntKind) (i20 : Int) (k21 : Nat) (g22 : Nat → List V) (i23 : Int) (b24 : Bool) (i25 : Int) (k26 : Nat) (i27 : Int) (i28 : Int) (i29 : Int) (i30 : Int) (i31 : Int) (i32 : Int) (i33 : Int) (i34 : Int) (g35 : Nat → List V) : L44x3 env F c l t m0 (fu + 1) g0 i1 q2 i3 k4 i5 i6 i7 i8 i9 i10 i11 i12 i13 i14 q15 i16 q17 i18 q19 i20 k21 g22 i23 b24 i25 k26 i27 i28 i29 i30 i31 i32 i33 i34 g35 = (bif (decide ((0 : Int) ≤ i9)) then (bif (decide (i9 < (((Sl.len (Truth.rates t)) : Nat) : Int))) then (bif (decide ((0 : Int) ≤ i3)) then (bif (decide (i3 < (((Sl.len (Sl.el (Truth.rates t) (Int.toNat i9))) : Nat) : Int))) then (tkOut (env.pf 88 [(.row false 2 1 (fun u43 => (List.take 1 (List.drop ((Min.min u43 1) * 1) [(.int q19 i20), (i64 (IntKind.wrap .i64 ((if i14 < (Sl.el (Sl.el (Truth.rates t) (Int.toNat i9)) (Int.toNat i3)) then i14 else (Sl.el (Sl.el (Truth.rates t) (Int.toNat i9)) (Int.toNat i3))) * i10)))]))))]) none (fun v43 => (tkInt v43 none fun q44 n45 => (bif (decide ((0 : Int) ≤ i3)) then (bif (decide (i3 < ((k4 : Nat) : Int))) then (tkCons (g22 (Int.toNat i3)) none fun v46 r47 => (tkInt v46 none fun q48 n49 => (bif (decide ((0 : Int) ≤ i3)) then (bif (decide (i3 < (((Sl.len (Cav.slices c)) : Nat) : Int))) then (bif (decide (q48 = .i64)) then (bif (decide ((0 : Int) ≤ i3)) then (bif (decide (i3 < ((k4 : Nat) : Int))) then (bif (decide ((0 : Int) ≤ i3)) then (bif (decide (i3 < (((Sl.len (Cav.slices c)) : Nat) : Int))) then (tkOut (env.pf 88 [(.row false 2 1 (fun u50 => (List.take 1 (List.drop ((Min.min u50 1) * 1) [(.int q15 i16), (i64 (IntKind.wrap .i64 ((IntKind.wrap .i64 ((if i14 < (Sl.el (Sl.el (Truth.rates t) (Int.toNat i9)) (Int.toNat i3)) then i14 else (Sl.el (Sl.el (Truth.rates t) (Int.toNat i9)) (Int.toNat i3))) * i10)) * (Slc.opn (Sl.el (Cav.slices c) (Int.toNat i3))))))]))))]) none (fun v50 => (tkInt v50 none fun q51 n52 => (bif (decide ((0 : Int) ≤ i3)) then (bif (decide (i3 < (((Sl.len (Cav.slices c)) : Nat) : Int))) then (tkOut (env.pf 88 [(.row false 2 1 (fun u53 => (List.take 1 (List.drop ((Min.min u53 1) * 1) [(.int q17 i18), (i64 (IntKind.wrap .i64 ((IntKind.wrap .i64 ((if i14 < (Sl.el (Sl.el (Truth.rates t) (Int.toNat i9)) (Int.toNat i3)) then i14 else (Sl.el (Sl.el (Truth.rates t) (Int.toNat i9)) (Int.toNat i3))) * i10)) * (Slc.fall (Sl.el (Cav.slices c) (Int.toNat i3))))))]))))]) none (fun v53 => (tkInt v53 none fun q54 n55 => (tkCons (List.drop 2 (g0 0)) none fun v56 r57 => (tkInt v56 none fun q58 n59 => (bif (decide (q2 = q58)) then (bif (i3 != n59) then (bif (decide (q2 = .i64)) then (L44x3 env F c l t m0 fu g0 i1 q2 (IntKind.wrap q2 (i3 + i1)) k4 i5 i6 i7 i8 i9 i10 i11 i12 i13 (IntKind.wrap .i64 (i14 - (if i14 < (Sl.el (Sl.el (Truth.rates t) (Int.toNat i9)) (Int.toNat i3)) then i14 else (Sl.el (Sl.el (Truth.rates t) (Int.toNat i9)) (Int.toNat i3))))) q51 n52 q54 n55 q44 n45 k21 (updGet g22 (Int.toNat i3) 0 [(.int q48 (IntKind.wrap q48 (n49 + (IntKind.wrap .i64 ((IntKind.wrap .i64 ((if i14 < (Sl.el (Sl.el (Truth.rates t) (Int.toNat i9)) (Int.toNat i3)) then i14 else (Sl.el (Sl.el (Truth.rates t) (Int.toNat i9)) (Int.toNat i3))) * i10)) * (Slc.opn (Sl.el (Cav.slices c) (Int.toNat i3))))))))]) i23 b24 i25 k26 i27 i28 i29 i30 i31 i32 i33 i34 g35) else none) else (bif (decide (.i64 = q54)) then (bif (decide (.i64 = q44)) then (bif (decide (.i64 = q51)) then (bif (decide (.i64 = q54)) then (bif (decide (.i64 = q44)) then (bif (decide (q51 = q54)) then (bif (decide (.i64 = q51)) then (L44x1 env F c l t m0 (IntKind.wrap .i64 (i23 + (1 : Int))) k4 (IntKind.wrap .i64 (i5 + n55)) (IntKind.wrap .i64 (i6 + n45)) (IntKind.wrap .i64 (i7 + (IntKind.wrap .i64 ((IntKind.wrap .i64 ((IntKind.wrap .i64 ((1000000 : Int) * i10)) - n52)) + n55)))) (IntKind.wrap .i64 (i8 + (IntKind.wrap .i64 ((IntKind.wrap .i64 ((1000000 : Int) * n45)) - (IntKind.wrap .i64 ((Cav.hold c) * (IntKind.wrap q51 (n52 - n55)))))))) k21 (updGet g22 (Int.toNat i3) 0 [(.int q48 (IntKind.wrap q48 (n49 + (IntKind.wrap .i64 ((IntKind.wrap .i64 ((if i14 < (Sl.el (Sl.el (Truth.rates t) (Int.toNat i9)) (Int.toNat i3)) then i14 else (Sl.el (Sl.el (Truth.rates t) (Int.toNat i9)) (Int.toNat i3))) * i10)) * (Slc.opn (Sl.el (Cav.slices c) (Int.toNat i3))))))))])) else none) else none) else none) else none) else none) else none) else none)) else none))))) (fun p53 => (tkIfc p53 none fun t54 x55 => (bif (flatP (.iface t54 x55)) then none else none)))) else none) else none))) (fun p50 => (tkIfc p50 none fun t51 x52 => (bif (flatP (.iface t51 x52)) then none else none)))) else none) else none) else none) else none) else none) else none) else none))) else none) else none))) (fun p43 => (tkIfc p43 none fun t44 x45 => (bif (flatP (.iface t44 x45)) then none else none)))) else none) else none) else none) else none) := by kernel_rfl
noncomputable def L16x0 (env : Env) (F : Nat) (c : Cav) (s : Stg) (fu : Nat) (i0 : Int) (i1 : Int) : Option Out := atLoop Try.prog (cfg F) env 16 [.r, .r, .r, .r, .l, .r, .d] [] fu { tm := tmL 274 0 [(2, (.optr 0 0 0)), (5, (.osl 1 0 1)), (6, (i64 i0)), (7, (i64 i1))], hp := [(.box 24 (eCav c) true), (.arr 40 4 1 (fun u7 => (eStg s)) true)] }
noncomputable def L16x1 (env : Env) (F : Nat) (c : Cav) (s : Stg) (fu : Nat) (i0 : Int) (q1 : IntKind) (i2 : Int) (q3 : IntKind) (i4 : Int) (i5 : Int) (b6 : Bool) : Option Out := atLoop Try.prog (cfg F) env 16 [.r, .r, .r, .r, .r, .r, .r, .r, .l, .r, .d] [] fu { tm := tmL 274 0 [(2, (.optr 0 0 0)), (5, (.osl 1 0 1)), (6, (i64 i0)), (9, (.int q1 i2)), (10, (.int q3 i4)), (12, (i64 i5))], hp := [(.box 24 (eCav c) true), (.arr 40 4 1 (fun u12 => (eStg s)) b6)] }
noncomputable def L16x2 (env : Env) (F : Nat) (c : Cav) (s : Stg) (m0 : Nat) (fu : Nat) (i0 : Int) (q1 : IntKind) (i2 : Int) (q3 : IntKind) (i4 : Int) (i5 : Int) (i6 : Int) (b7 : Bool) : Option Out := atLoop Try.prog (cfg F) env 16 [.r, .r, .r, .r, .r, .r, .r, .r, .l, .r, .d, .d, .r, .l, .d, .r, .l, .r, .d] [m0] fu { tm := tmL 274 0 [(2, (.optr 0 0 0)), (5, (.osl 1 0 1)), (6, (i64 i0)), (9, (.int q1 i2)), (10, (.int q3 i4)), (12, (i64 i5)), (13, (i64 i6)), (14, (.optr 2 0 0)), (15, (.optr 3 0 0)), (16, (i64 (0 : Int)))], hp := [(.box 24 (eCav c) true), (.arr 40 4 1 (fun u14 => (eStg s)) b7), (.box 82 [(.row true 0 0 (fun u14 => [])), (.osl 4 0 1)] true), (.box 82 [(.row true 0 0 (fun u14 => [])), (.row true 0 0 (fun u14 => []))] true), (.box 26 [(.row true 0 0 (fun u14 => []))] true)] }
noncomputable def L16x3 (env : Env) (F : Nat) (c : Cav) (s : Stg) (m0 : Nat) (fu : Nat) (i0 : Int) (q1 : IntKind) (i2 : Int) (q3 : IntKind) (i4 : Int) (i5 : Int) (i6 : Int) (i7 : Int) (b8 : Bool) (k9 : Nat) (k10 : Nat) (k11 : Nat) (g12 : Nat → List V) (k13 : Nat) (k14 : Nat) (g15 : Nat → List V) (k16 : Nat) (g17 : Nat → List V) : Option Out := atLoop Try.prog (cfg F) env 16 [.r, .r, .r, .r, .r, .r, .r, .r, .l, .r, .d, .d, .r, .l, .d, .r, .l, .r, .d] [m0] fu { tm := tmL 274 0 [(2, (.optr 0 0 0)), (5, (.osl 1 0 1)), (6, (i64 i0)), (9, (.int q1 i2)), (10, (.int q3 i4)), (12, (i64 i5)), (13, (i64 i6)), (14, (.optr 2 0 0)), (15, (.optr 3 0 0)), (16, (i64 i7))], hp := [(.box 24 (eCav c) true), (.arr 40 4 1 (fun u24 => (eStg s)) b8), (.box 82 [(.osl 4 0 k9), (.osl 5 0 1)] true), (.box 82 [(.osl 6 0 k10), (.row true 0 0 (fun u24 => []))] true), (.arr 3 1 k11 g12 true), (.box 26 [(.osl 7 0 k13)] true), (.arr 3 1 k14 g15 true), (.arr 3 1 k16 g17 true)] }
noncomputable def L16x4 (env : Env) (F : Nat) (c : Cav) (s : Stg) (m0 : Nat) (fu : Nat) (i0 : Int) (q1 : IntKind) (i2 : Int) (q3 : IntKind) (i4 : Int) (i5 : Int) (i6 : Int) (i7 : Int) (b8 : Bool) (k9 : Nat) (k10 : Nat) (g11 : Nat → List V) (q12 : IntKind) (i13 : Int) (q14 : IntKind) (i15 : Int) (q16 : IntKind) (i17 : Int) (q18 : IntKind) (i19 : Int) (b20 : Bool) (k21 : Nat) (k22 : Nat) (g23 : Nat → List V) (q24 : IntKind) (i25 : Int) (q26 : IntKind) (i27 : Int) (q28 : IntKind) (i29 : Int) (q30 : IntKind) (i31 : Int) : Option Out := atLoop Try.prog (cfg F) env 16 [.r, .r, .r, .r, .r, .r, .r, .r, .l, .r, .d, .d, .r, .l, .d, .r, .r, .r, .r, .r, .r, .r, .l, .r, .d] [m0] fu { tm := tmL 274 0 [(2, (.optr 0 0 0)), (5, (.osl 1 0 1)), (6, (i64 i0)), (9, (.int q1 i2)), (10, (.int q3 i4)), (12, (i64 i5)), (18, (.optr 2 0 0)), (20, (.optr 3 0 0)), (22, (i64 i6)), (23, (i64 i7))], hp := [(.box 24 (eCav c) true), (.arr 40 4 1 (fun u38 => (eStg s)) false), (.box 84 [(.row b8 k9 k10 g11), (.int q12 i13), (.int q14 i15), (.int q16 i17), (.int q18 i19)] true), (.box 84 [(.row b20 k21 k22 g23), (.int q24 i25), (.int q26 i27), (.int q28 i29), (.int q30 i31)] true)] }
theorem t16 (env : Env) (F : Nat) (c : Cav) (s : Stg) : (evFun Try.prog (cfg F) env 16 [(.agg (eCav c)), (.agg (eStg s))]) = (bif (decide ((((Sl.len (Cav.slices c)) : Nat) : Int) > (3 : Int))) then (tkOut (env.pf 21 []) none (fun v4 => (tkBool v4 none fun b5 => some (.ret (.bool b5)))) (fun p4 => (tkIfc p4 none fun t5 x6 => (bif (flatP (.iface t5 x6)) then some (.pan (.iface t5 x6)) else none)))) else (tkOut (env.pf 23 [(.agg (eCav c)), (.row false 1 4 (fun u4 => (eStg s))), (.bool true)]) none (fun v4 => (tkInt v4 none fun q5 n6 => (bif (decide (q5 = .i64)) then (bif (n6 != (0 : Int)) then (tkOut (env.pf 21 []) none (fun v7 => (tkBool v7 none fun b8 => some (.ret (.bool b8)))) (fun p7 => (tkIfc p7 none fun t8 x9 => (bif (flatP (.iface t8 x9)) then some (.pan (.iface t8 x9)) else none)))) else (L16x0 env F c s F (1 : Int) (0 : Int))) else none))) (fun p4 => (tkIfc p4 none fun t5 x6 => (bif (flatP (.iface t5 x6)) then some (.pan (.iface t5 x6)) else none))))) := by kernel_rfl
theorem L16x0s (env : Env) (F : Nat) (c : Cav) (s : Stg) (fu : Nat) (i0 : Int) (i1 : Int) : L16x0 env F c s (fu + 1) i0 i1 = (bif (decide (i1 < (((Sl.len (Cav.slices c)) : Nat) : Int))) then (bif (decide ((0 : Int) ≤ i1)) then (bif (decide (i1 < (((Sl.len (Cav.slices c)) : Nat) : Int))) then (bif (decide ((0 : Int) ≤ i1)) then (bif (decide (i1 < (((Sl.len (Cav.slices c)) : Nat) : Int))) then (bif (decide ((IntKind.wrap .i64 ((Span.hi (Slc.rate (Sl.el (Cav.slices c) (Int.toNat i1)))) - (Span.lo (Slc.rate (Sl.el (Cav.slices c) (Int.toNat i1)))))) > (4 : Int))) then (tkOut (env.pf 21 []) none (fun v7 => (tkBool v7 none fun b8 => some (.ret (.bool b8)))) (fun p7 => (tkIfc p7 none fun t8 x9 => (bif (flatP (.iface t8 x9)) then some (.pan (.iface t8 x9)) else none)))) else (bif (decide ((0 : Int) ≤ i1)) then (bif (decide (i1 < (((Sl.len (Cav.slices c)) : Nat) : Int))) then (bif (decide ((0 : Int) ≤ i1)) then (bif (decide (i1 < (((Sl.len (Cav.slices c)) : Nat) : Int))) then (L16x0 env F c s fu (IntKind.wrap .i64 (i0 * (IntKind.wrap .i64 ((IntKind.wrap .i64 ((Span.hi (Slc.rate (Sl.el (Cav.slices c) (Int.toNat i1)))) - (Span.lo (Slc.rate (Sl.el (Cav.slices c) (Int.toNat i1)))))) + (1 : Int))))) (IntKind.wrap .i64 (i1 + (1 : Int)))) else none) else none) else none) else none)) else none) else none) else none) else none) else (tkOut (env.pf 30 [(.agg (eCav c)), (.row false 1 4 (fun u7 => (eStg s)))]) none (fun v7 => (tkTup v7 none fun l8 => (tkCons l8 none fun v9 r10 => (tkInt v9 none fun q11 n12 => (tkCons r10 none fun v13 r14 => (tkInt v13 none fun q15 n16 => (tkCons r14 none fun v17 r18 => (tkInt v17 none fun q19 n20 => (tkCons r18 none fun v21 r22 => (tkInt v21 none fun q23 n24 => (tkNil r22 none ((bif (decide (q23 = .i64)) then (bif (n24 != (0 : Int)) then some (.ret (.bool false)) else (bif (decide (q19 = .i64)) then (bif (decide (n20 < (0 : Int))) then some (.ret (.bool false)) else (bif (decide (q19 = .i64)) then (bif (decide (n20 > (((Sl.len (Cav.slices c)) : Nat) : Int))) then some (.ret (.bool false)) else (bif (decide (q15 = .i64)) then (bif (n16 != (5 : Int)) then (bif (decide (q15 = .i64)) then (bif (n16 != (3 : Int)) then (bif (decide (q15 = .i64)) then (bif (n16 == (1 : Int)) then (tkOut (env.pf 21 []) none (fun v25 => (tkBool v25 none fun b26 => some (.ret (.bool b26)))) (fun p25 => (tkIfc p25 none fun t26 x27 => (bif (flatP (.iface t26 x27)) then some (.pan (.iface t26 x27)) else none)))) else (bif (decide (q15 = .i64)) then (bif (n16 == (2 : Int)) then (tkOut (env.pf 21 []) none (fun v25 => (tkBool v25 none fun b26 => some (.ret (.bool b26)))) (fun p25 => (tkIfc p25 none fun t26 x27 => (bif (flatP (.iface t26 x27)) then some (.pan (.iface t26 x27)) else none)))) else (bif (decide (q15 = .i64)) then (bif (n16 == (4 : Int)) then (tkOut (env.pf 21 []) none (fun v25 => (tkBool v25 none fun b26 => some (.ret (.bool b26)))) (fun p25 => (tkIfc p25 none fun t26 x27 => (bif (flatP (.iface t26 x27)) then some (.pan (.iface t26 x27)) else none)))) else some (.ret (.bool false))) else none)) else none)) else none) else (bif (decide (q19 = .i64)) then (bif (decide (n20 ≥ (((Sl.len (Cav.slices c)) : Nat) : Int))) then (bif (decide (q15 = .i64)) then (bif (n16 == (1 : Int)) then (tkOut (env.pf 21 []) none (fun v25 => (tkBool v25 none fun b26 => some (.ret (.bool b26)))) (fun p25 => (tkIfc p25 none fun t26 x27 => (bif (flatP (.iface t26 x27)) then some (.pan (.iface t26 x27)) else none)))) else (bif (decide (q15 = .i64)) then (bif (n16 == (2 : Int)) then (tkOut (env.pf 21 []) none (fun v25 => (tkBool v25 none fun b26 => some (.ret (.bool b26)))) (fun p25 => (tkIfc p25 none fun t26 x27 => (bif (flatP (.iface t26 x27)) then some (.pan (.iface t26 x27)) else none)))) else (bif (decide (q15 = .i64)) then (bif (n16 == (4 : Int)) then (tkOut (env.pf 21 []) none (fun v25 => (tkBool v25 none fun b26 => some (.ret (.bool b26)))) (fun p25 => (tkIfc p25 none fun t26 x27 => (bif (flatP (.iface t26 x27)) then some (.pan (.iface t26 x27)) else none)))) else some (.ret (.bool false))) else none)) else none)) else none) else (L16x1 env F c s F i0 q15 n16 q19 n20 (0 : Int) true)) else none)) else none) else (bif (decide (q19 = .i64)) then (bif (decide (n20 ≥ (((Sl.len (Cav.slices c)) : Nat) : Int))) then (bif (decide (q15 = .i64)) then (bif (n16 == (1 : Int)) then (tkOut (env.pf 21 []) none (fun v25 => (tkBool v25 none fun b26 => some (.ret (.bool b26)))) (fun p25 => (tkIfc p25 none fun t26 x27 => (bif (flatP (.iface t26 x27)) then some (.pan (.iface t26 x27)) else none)))) else (bif (decide (q15 = .i64)) then (bif (n16 == (2 : Int)) then (tkOut (env.pf 21 []) none (fun v25 => (tkBool v25 none fun b26 => some (.ret (.bool b26)))) (fun p25 => (tkIfc p25 none fun t26 x27 => (bif (flatP (.iface t26 x27)) then some (.pan (.iface t26 x27)) else none)))) else (bif (decide (q15 = .i64)) then (bif (n16 == (4 : Int)) then (tkOut (env.pf 21 []) none (fun v25 => (tkBool v25 none fun b26 => some (.ret (.bool b26)))) (fun p25 => (tkIfc p25 none fun t26 x27 => (bif (flatP (.iface t26 x27)) then some (.pan (.iface t26 x27)) else none)))) else some (.ret (.bool false))) else none)) else none)) else none) else (L16x1 env F c s F i0 q15 n16 q19 n20 (0 : Int) true)) else none)) else none)) else none)) else none)) else none))))))))))))) (fun p7 => (tkIfc p7 none fun t8 x9 => (bif (flatP (.iface t8 x9)) then some (.pan (.iface t8 x9)) else none))))) := by kernel_rfl
theorem L16x1s (env : Env) (F : Nat) (c : Cav) (s : Stg) (fu : Nat) (i0 : Int) (q1 : IntKind) (i2 : Int) (q3 : IntKind) (i4 : Int) (i5 : Int) (b6 : Bool) : L16x1 env F c s (fu + 1) i0 q1 i2 q3 i4 i5 b6 = (bif (decide (i5 < i0)) then (L16x2 env F c s fu F i0 q1 i2 q3 i4 i5 i5 b6) else some (.ret (.bool false))) := by kernel_rfl
theorem L16x2s (env : Env) (F : Nat) (c : Cav) (s : Stg) (m0 : Nat) (fu : Nat) (i0 : Int) (q1 : IntKind) (i2 : Int) (q3 : IntKind) (i4 : Int) (i5 : Int) (i6 : Int) (b7 : Bool) : L16x2 env F c s m0 (fu + 1) i0 q1 i2 q3 i4 i5 i6 b7 = (bif (decide ((0 : Int) < (((Sl.len (Cav.slices c)) : Nat) : Int))) then (bif (decide ((0 : Int) < (((Sl.len (Cav.slices c)) : Nat) : Int))) then (bif (decide ((IntKind.wrap .i64 ((IntKind.wrap .i64 ((Span.hi (Slc.rate (Sl.el (Cav.slices c) 0))) - (Span.lo (Slc.rate (Sl.el (Cav.slices c) 0))))) + (1 : Int))) = (0 : Int))) then none else (bif (decide ((IntKind.wrap .i64 ((IntKind.wrap .i64 ((Span.hi (Slc.rate (Sl.el (Cav.slices c) 0))) - (Span.lo (Slc.rate (Sl.el (Cav.slices c) 0))))) + (1 : Int))) = (0 : Int))) then none else (bif (decide ((0 : Int) < (((Sl.len (Cav.slices c)) : Nat) : Int))) then (bif (decide ((0 : Int) < (((Sl.len (Cav.slices c)) : Nat) : Int))) then (L16x3 env F c s m0 fu i0 q1 i2 q3 i4 i5 (IntKind.wrap .i64 (Int.tdiv i6 (IntKind.wrap .i64 ((IntKind.wrap .i64 ((Span.hi (Slc.rate (Sl.el (Cav.slices c) 0))) - (Span.lo (Slc.rate (Sl.el (Cav.slices c) 0))))) + (1 : Int))))) (IntKind.wrap .i64 ((0 : Int) + (1 : Int))) b7 1 1 1 (fun u14 => [(i64 (Span.lo (Slc.vol (Sl.el (Cav.slices c) 0))))]) 1 1 (fun u14 => [(i64 (Span.hi (Slc.vol (Sl.el (Cav.slices c) 0))))]) 1 (fun u14 => [(i64 (IntKind.wrap .i64 ((Span.lo (Slc.rate (Sl.el (Cav.slices c) 0))) + (Int.tmod i6 (IntKind.wrap .i64 ((IntKind.wrap .i64 ((Span.hi (Slc.rate (Sl.el (Cav.slices c) 0))) - (Span.lo (Slc.rate (Sl.el (Cav.slices c) 0))))) + (1 : Int)))))))])) else none) else none))) else none) else (tkOut (env.pf 44 [(.agg (eCav c)), (.row false 1 4 (fun u14 => (eStg s))), (.agg [(.row true 0 0 (fun u14 => [])), (.row false 1 1 (fun u14 => [(.row true 0 0 (fun u15 => []))]))])]) none (fun v14 => (tkTup v14 none fun l15 => (tkCons l15 none fun v16 r17 => (tkAgg v16 none fun l18 => (tkCons l18 none fun v19 r20 => (tkRow v19 none fun nl21 n22 wd23 g24 => (tkCons r20 none fun v25 r26 => (tkInt v25 none fun q27 n28 => (tkCons r26 none fun v29 r30 => (tkInt v29 none fun q31 n32 => (tkCons r30 none fun v33 r34 => (tkInt v33 none fun q35 n36 => (tkCons r34 none fun v37 r38 => (tkInt v37 none fun q39 n40 => (tkNil r38 none ((tkCons r17 none fun v41 r42 => (tkInt v41 none fun q43 n44 => (tkNil r42 none ((tkOut (env.pf 44 [(.agg (eCav c)), (.row false 1 4 (fun u45 => (eStg s))), (.agg [(.row true 0 0 (fun u45 => [])), (.row false 1 1 (fun u45 => [(.row true 0 0 (fun u46 => []))]))])]) none (fun v45 => (tkTup v45 none fun l46 => (tkCons l46 none fun v47 r48 => (tkAgg v47 none fun l49 => (tkCons l49 none fun v50 r51 => (tkRow v50 none fun nl52 n53 wd54 g55 => (tkCons r51 none fun v56 r57 => (tkInt v56 none fun q58 n59 => (tkCons r57 none fun v60 r61 => (tkInt v60 none fun q62 n63 => (tkCons r61 none fun v64 r65 => (tkInt v64 none fun q66 n67 => (tkCons r65 none fun v68 r69 => (tkInt v68 none fun q70 n71 => (tkNil r69 none ((tkCons r48 none fun v72 r73 => (tkInt v72 none fun q74 n75 => (tkNil r73 none ((bif (decide (q43 = .i64)) then (bif (n44 != (0 : Int)) then some (.ret (.bool false)) else (bif (decide (q74 = .i64)) then (bif (n75 != (0 : Int)) then some (.ret (.bool false)) else (tkOut (env.pf 45 [(.agg (eCav c)), (.agg [(.row nl21 n22 wd23 g24), (.int q27 n28), (.int q31 n32), (.int q35 n36), (.int q39 n40)])]) none (fun v76 => (tkBool v76 none fun b77 => (bif (!b77) then some (.ret (.bool false)) else (tkOut (env.pf 45 [(.agg (eCav c)), (.agg [(.row nl52 n53 wd54 g55), (.int q58 n59), (.int q62 n63), (.int q66 n67), (.int q70 n71)])]) none (fun v78 => (tkBool v78 none fun b79 => (bif (!b79) then some (.ret (.bool false)) else (L16x4 env F c s m0 F i0 q1 i2 q3 i4 i5 (0 : Int) (0 : Int) nl21 n22 wd23 g24 q27 n28 q31 n32 q35 n36 q39 n40 nl52 n53 wd54 g55 q58 n59 q62 n63 q66 n67 q70 n71)))) (fun p78 => (tkIfc p78 none fun t79 x80 => (bif (flatP (.iface t79 x80)) then some (.pan (.iface t79 x80)) else none))))))) (fun p76 => (tkIfc p76 none fun t77 x78 => (bif (flatP (.iface t77 x78)) then some (.pan (.iface t77 x78)) else none))))) else none)) else none))))))))))))))))))))) (fun p45 => (tkIfc p45 none fun t46 x47 => (bif (flatP (.iface t46 x47)) then some (.pan (.iface t46 x47)) else none)))))))))))))))))))))))) (fun p14 => (tkIfc p14 none fun t15 x16 => (bif (flatP (.iface t15 x16)) then some (.pan (.iface t15 x16)) else none))))) := by kernel_rfl
theorem L16x3s (env : Env) (F : Nat) (c : Cav) (s : Stg) (m0 : Nat) (fu : Nat) (i0 : Int) (q1 : IntKind) (i2 : Int) (q3 : IntKind) (i4 : Int) (i5 : Int) (i6 : Int) (i7 : Int) (b8 : Bool) (k9 : Nat) (k10 : Nat) (k11 : Nat) (g12 : Nat → List V) (k13 : Nat) (k14 : Nat) (g15 : Nat → List V) (k16 : Nat) (g17 : Nat → List V) : L16x3 env F c s m0 (fu + 1) i0 q1 i2 q3 i4 i5 i6 i7 b8 k9 k10 k11 g12 k13 k14 g15 k16 g17 = (bif (decide (i7 < (((Sl.len (Cav.slices c)) : Nat) : Int))) then (bif (decide ((0 : Int) ≤ i7)) then (bif (decide (i7 < (((Sl.len (Cav.slices c)) : Nat) : Int))) then (bif (decide ((IntKind.wrap .i64 ((IntKind.wrap .i64 ((Span.hi (Slc.rate (Sl.el (Cav.slices c) (Int.toNat i7)))) - (Span.lo (Slc.rate (Sl.el (Cav.slices c) (Int.toNat i7)))))) + (1 : Int))) = (0 : Int))) then none else (bif (decide (((k13 + 1) * 8) ≤ 140737488355328)) then (bif (decide ((IntKind.wrap .i64 ((IntKind.wrap .i64 ((Span.hi (Slc.rate (Sl.el (Cav.slices c) (Int.toNat i7)))) - (Span.lo (Slc.rate (Sl.el (Cav.slices c) (Int.toNat i7)))))) + (1 : Int))) = (0 : Int))) then none else (bif (decide ((0 : Int) ≤ i7)) then (bif (decide (i7 < (((Sl.len (Cav.slices c)) : Nat) : Int))) then (bif (decide (((k9 + 1) * 8) ≤ 140737488355328)) then (bif (decide ((0 : Int) ≤ i7)) then (bif (decide (i7 < (((Sl.len (Cav.slices c)) : Nat) : Int))) then (bif (decide (((k10 + 1) * 8) ≤ 140737488355328)) then (L16x3 env F c s m0 fu i0 q1 i2 q3 i4 i5 (IntKind.wrap .i64 (Int.tdiv i6 (IntKind.wrap .i64 ((IntKind.wrap .i64 ((Span.hi (Slc.rate (Sl.el (Cav.slices c) (Int.toNat i7)))) - (Span.lo (Slc.rate (Sl.el (Cav.slices c) (Int.toNat i7)))))) + (1 : Int))))) (IntKind.wrap .i64 (i7 + (1 : Int))) b8 (k9 + 1) (k10 + 1) (k9 + 1) (appGet k9 g12 (fun u24 => [(i64 (Span.lo (Slc.vol (Sl.el (Cav.slices c) (Int.toNat i7)))))])) (k13 + 1) (k10 + 1) (appGet k10 g15 (fun u24 => [(i64 (Span.hi (Slc.vol (Sl.el (Cav.slices c) (Int.toNat i7)))))])) (k13 + 1) (appGet k13 g17 (fun u24 => [(i64 (IntKind.wrap .i64 ((Span.lo (Slc.rate (Sl.el (Cav.slices c) (Int.toNat i7)))) + (Int.tmod i6 (IntKind.wrap .i64 ((IntKind.wrap .i64 ((Span.hi (Slc.rate (Sl.el (Cav.slices c) (Int.toNat i7)))) - (Span.lo (Slc.rate (Sl.el (Cav.slices c) (Int.toNat i7)))))) + (1 : Int)))))))]))) else none) else none) else none) else none) else none) else none)) else none)) else none) else none) else (tkOut (env.pf 44 [(.agg (eCav c)), (.row false 1 4 (fun u24 => (eStg s))), (.agg [(.row false k9 1 (fun u24 => (g12 u24))), (.row false 1 1 (fun u24 => [(.row false k13 1 (fun u25 => (g17 u25)))]))])]) none (fun v24 => (tkTup v24 none fun l25 => (tkCons l25 none fun v26 r27 => (tkAgg v26 none fun l28 => (tkCons l28 none fun v29 r30 => (tkRow v29 none fun nl31 n32 wd33 g34 => (tkCons r30 none fun v35 r36 => (tkInt v35 none fun q37 n38 => (tkCons r36 none fun v39 r40 => (tkInt v39 none fun q41 n42 => (tkCons r40 none fun v43 r44 => (tkInt v43 none fun q45 n46 => (tkCons r44 none fun v47 r48 => (tkInt v47 none fun q49 n50 => (tkNil r48 none ((tkCons r27 none fun v51 r52 => (tkInt v51 none fun q53 n54 => (tkNil r52 none ((tkOut (env.pf 44 [(.agg (eCav c)), (.row false 1 4 (fun u55 => (eStg s))), (.agg [(.row false k10 1 (fun u55 => (g15 u55))), (.row false 1 1 (fun u55 => [(.row false k13 1 (fun u56 => (g17 u56)))]))])]) none (fun v55 => (tkTup v55 none fun l56 => (tkCons l56 none fun v57 r58 => (tkAgg v57 none fun l59 => (tkCons l59 none fun v60 r61 => (tkRow v60 none fun nl62 n63 wd64 g65 => (tkCons r61 none fun v66 r67 => (tkInt v66 none fun q68 n69 => (tkCons r67 none fun v70 r71 => (tkInt v70 none fun q72 n73 => (tkCons r71 none fun v74 r75 => (tkInt v74 none fun q76 n77 => (tkCons r75 none fun v78 r79 => (tkInt v78 none fun q80 n81 => (tkNil r79 none ((tkCons r58 none fun v82 r83 => (tkInt v82 none fun q84 n85 => (tkNil r83 none ((bif (decide (q53 = .i64)) then (bif (n54 != (0 : Int)) then some (.ret (.bool false)) else (bif (decide (q84 = .i64)) then (bif (n85 != (0 : Int)) then some (.ret (.bool false)) else (tkOut (env.pf 45 [(.agg (eCav c)), (.agg [(.row nl31 n32 wd33 g34), (.int q37 n38), (.int q41 n42), (.int q45 n46), (.int q49 n50)])]) none (fun v86 => (tkBool v86 none fun b87 => (bif (!b87) then some (.ret (.bool false)) else (tkOut (env.pf 45 [(.agg (eCav c)), (.agg [(.row nl62 n63 wd64 g65), (.int q68 n69), (.int q72 n73), (.int q76 n77), (.int q80 n81)])]) none (fun v88 => (tkBool v88 none fun b89 => (bif (!b89) then some (.ret (.bool false)) else (L16x4 env F c s m0 F i0 q1 i2 q3 i4 i5 (0 : Int) (0 : Int) nl31 n32 wd33 g34 q37 n38 q41 n42 q45 n46 q49 n50 nl62 n63 wd64 g65 q68 n69 q72 n73 q76 n77 q80 n81)))) (fun p88 => (tkIfc p88 none fun t89 x90 => (bif (flatP (.iface t89 x90)) then some (.pan (.iface t89 x90)) else none))))))) (fun p86 => (tkIfc p86 none fun t87 x88 => (bif (flatP (.iface t87 x88)) then some (.pan (.iface t87 x88)) else none))))) else none)) else none))))))))))))))))))))) (fun p55 => (tkIfc p55 none fun t56 x57 => (bif (flatP (.iface t56 x57)) then some (.pan (.iface t56 x57)) else none)))))))))))))))))))))))) (fun p24 => (tkIfc p24 none fun t25 x26 => (bif (flatP (.iface t25 x26)) then some (.pan (.iface t25 x26)) else none))))) := by kernel_rfl
theorem L16x4s (env : Env) (F : Nat) (c : Cav) (s : Stg) (m0 : Nat) (fu : Nat) (i0 : Int) (q1 : IntKind) (i2 : Int) (q3 : IntKind) (i4 : Int) (i5 : Int) (i6 : Int) (i7 : Int) (b8 : Bool) (k9 : Nat) (k10 : Nat) (g11 : Nat → List V) (q12 : IntKind) (i13 : Int) (q14 : IntKind) (i15 : Int) (q16 : IntKind) (i17 : Int) (q18 : IntKind) (i19 : Int) (b20 : Bool) (k21 : Nat) (k22 : Nat) (g23 : Nat → List V) (q24 : IntKind) (i25 : Int) (q26 : IntKind) (i27 : Int) (q28 : IntKind) (i29 : Int) (q30 : IntKind) (i31 : Int) : L16x4 env F c s m0 (fu + 1) i0 q1 i2 q3 i4 i5 i6 i7 b8 k9 k10 g11 q12 i13 q14 i15 q16 i17 q18 i19 b20 k21 k22 g23 q24 i25 q26 i27 q28 i29 q30 i31 = (bif (decide (.i64 = q3)) then (bif (decide (i7 ≤ i4)) then (bif (k10 == 1) then (bif (decide ((0 : Int) ≤ i7)) then (bif (decide (i7 < ((k9 : Nat) : Int))) then (tkCons (g11 (Int.toNat i7)) none fun v38 r39 => (tkInt v38 none fun q40 n41 => (bif (decide (.i64 = q40)) then (L16x4 env F c s m0 fu i0 q1 i2 q3 i4 i5 (IntKind.wrap .i64 (i6 + n41)) (IntKind.wrap .i64 (i7 + (1 : Int))) b8 k9 k10 g11 q12 i13 q14 i15 q16 i17 q18 i19 b20 k21 k22 g23 q24 i25 q26 i27 q28 i29 q30 i31) else none))) else none) else none) else none) else (bif (decide (q1 = .i64)) then (bif (i2 == (5 : Int)) then (bif (k22 == 1) then (bif (decide ((0 : Int) ≤ i4)) then (bif (decide (i4 < ((k21 : Nat) : Int))) then (tkCons (g23 (Int.toNat i4)) none fun v38 r39 => (tkInt v38 none fun q40 n41 => (bif (decide ((0 : Int) ≤ i4)) then (bif (decide (i4 < (((Sl.len (Cav.slices c)) : Nat) : Int))) then (bif (decide (q40 = .i64)) then (bif (decide (n41 > (Slc.most (Sl.el (Cav.slices c) (Int.toNat i4))))) then (tkOut (env.pf 21 []) none (fun v42 => (tkBool v42 none fun b43 => some (.ret (.bool b43)))) (fun p42 => (tkIfc p42 none fun t43 x44 => (bif (flatP (.iface t43 x44)) then some (.pan (.iface t43 x44)) else none)))) else (bif (decide (q1 = .i64)) then (bif (i2 == (3 : Int)) then (bif (decide (q12 = .i64)) then (bif (decide (i13 > i6)) then (tkOut (env.pf 21 []) none (fun v42 => (tkBool v42 none fun b43 => some (.ret (.bool b43)))) (fun p42 => (tkIfc p42 none fun t43 x44 => (bif (flatP (.iface t43 x44)) then some (.pan (.iface t43 x44)) else none)))) else (L16x1 env F c s m0 i0 q1 i2 q3 i4 (IntKind.wrap .i64 (i5 + (1 : Int))) false)) else none) else (L16x1 env F c s m0 i0 q1 i2 q3 i4 (IntKind.wrap .i64 (i5 + (1 : Int))) false)) else none)) else none) else none) else none))) else none) else none) else none) else (bif (decide (q1 = .i64)) then (bif (i2 == (3 : Int)) then (bif (decide (q12 = .i64)) then (bif (decide (i13 > i6)) then (tkOut (env.pf 21 []) none (fun v38 => (tkBool v38 none fun b39 => some (.ret (.bool b39)))) (fun p38 => (tkIfc p38 none fun t39 x40 => (bif (flatP (.iface t39 x40)) then some (.pan (.iface t39 x40)) else none)))) else (L16x1 env F c s m0 i0 q1 i2 q3 i4 (IntKind.wrap .i64 (i5 + (1 : Int))) false)) else none) else (L16x1 env F c s m0 i0 q1 i2 q3 i4 (IntKind.wrap .i64 (i5 + (1 : Int))) false)) else none)) else none)) else none) := by kernel_rfl
end Go.Sim.Le


namespace Go.Sim.Le
open Go.Proofs
theorem fitInt {k : IntKind} {c : V} (h : Fit (.int k) c) : ∃ n, c = .int k n ∧ k.min ≤ n ∧ n ≤ k.max := by
  cases h with
  | int h => exact ⟨_, rfl, h⟩
theorem fitL_nil {cs : List V} (h : FitL [] cs) : cs = [] := by
  have := h.1
  exact List.eq_nil_of_length_eq_zero this
theorem fitL_cons {s : Sh} {l : List Sh} {cs : List V} (h : FitL (s :: l) cs) : ∃ c cs', cs = c :: cs' ∧ Fit s c ∧ FitL l cs' := by
  obtain ⟨h1, h2⟩ := h
  cases cs with
  | nil => simp at h1
  | cons c cs' => exact ⟨c, cs', rfl, h2 0 s c rfl rfl, by simpa using h1, fun j s' c' g1 g2 => h2 (j + 1) s' c' (by simpa using g1) (by simpa using g2)⟩
theorem fitL_int {k : IntKind} {l : List Sh} {cs : List V} (h : FitL (.int k :: l) cs) : ∃ n cs', cs = .int k n :: cs' ∧ FitL l cs' := by
  obtain ⟨c, cs', rfl, h1, h2⟩ := fitL_cons h
  obtain ⟨n, rfl, _⟩ := fitInt h1
  exact ⟨n, cs', rfl, h2⟩
abbrev SlOk {α : Type} (s : Sl α) : Prop := s.len ≤ 140737488355328 ∧ (s.nl = true → s.len = 0)
theorem fitRow {α : Type} {e : α → List V} {P : α → Prop} {l : List Sh} (dec : ∀ cs, FitL l cs → ∃ a : α, cs = e a ∧ P a) {c : V} (h : Fit (.row l) c) : ∃ s : Sl α, c = sl e l.length s ∧ SlOk s ∧ ∀ i, P (s.el i) := by
  cases h with
  | row h hn hl hf =>
    rename_i nl len get
    have hx : ∀ i, ∃ a : α, get i = e a ∧ P a := fun i => dec _ ⟨hl i, hf i⟩
    refine ⟨⟨nl, len, fun i => (hx i).choose⟩, ?_, ⟨h, hn⟩, fun i => (hx i).choose_spec.2⟩
    show V.row nl len l.length get = V.row nl len l.length fun i => e (hx i).choose
    congr 1
    funext i
    exact (hx i).choose_spec.1
theorem fitL_row {α : Type} {e : α → List V} {P : α → Prop} {l r : List Sh} (dec : ∀ cs, FitL l cs → ∃ a : α, cs = e a ∧ P a) {cs : List V} (h : FitL (.row l :: r) cs) : ∃ (s : Sl α) (cs' : List V), cs = sl e l.length s :: cs' ∧ SlOk s ∧ (∀ i, P (s.el i)) ∧ FitL r cs' := by
  obtain ⟨c, cs', rfl, h1, h2⟩ := fitL_cons h
  obtain ⟨s, rfl, h3, h4⟩ := fitRow dec h1
  exact ⟨s, cs', rfl, h3, h4, h2⟩
abbrev i8 : Sh := .int .i64
abbrev shSlc : List Sh := [i8, i8, i8, i8, i8, i8, i8]
abbrev shCav : List Sh := [.row shSlc, i8, i8]
abbrev shStg : List Sh := [i8, i8, i8, i8]
abbrev shTruth : List Sh := [.row [i8], .row [.row [i8]]]
theorem decSlc (cs : List V) (h : FitL shSlc cs) : ∃ c : Slc, cs = eSlc c ∧ True := by
  obtain ⟨a0, _, rfl, h1⟩ := fitL_int h
  obtain ⟨a1, _, rfl, h2⟩ := fitL_int h1
  obtain ⟨a2, _, rfl, h3⟩ := fitL_int h2
  obtain ⟨a3, _, rfl, h4⟩ := fitL_int h3
  obtain ⟨a4, _, rfl, h5⟩ := fitL_int h4
  obtain ⟨a5, _, rfl, h6⟩ := fitL_int h5
  obtain ⟨a6, _, rfl, h7⟩ := fitL_int h6
  obtain rfl := fitL_nil h7
  exact ⟨⟨⟨a0, a1⟩, a2, a3, ⟨a4, a5⟩, a6⟩, rfl, trivial⟩
theorem decStg (cs : List V) (h : FitL shStg cs) : ∃ c : Stg, cs = eStg c ∧ True := by
  obtain ⟨a0, _, rfl, h1⟩ := fitL_int h
  obtain ⟨a1, _, rfl, h2⟩ := fitL_int h1
  obtain ⟨a2, _, rfl, h3⟩ := fitL_int h2
  obtain ⟨a3, _, rfl, h4⟩ := fitL_int h3
  obtain rfl := fitL_nil h4
  exact ⟨⟨a0, a1, a2, a3⟩, rfl, trivial⟩
theorem decCav (cs : List V) (h : FitL shCav cs) : ∃ c : Cav, cs = eCav c ∧ SlOk c.slices := by
  obtain ⟨a, _, rfl, h0, _, h1⟩ := fitL_row decSlc h
  obtain ⟨b, _, rfl, h2⟩ := fitL_int h1
  obtain ⟨d, _, rfl, h3⟩ := fitL_int h2
  obtain rfl := fitL_nil h3
  exact ⟨⟨a, b, d⟩, rfl, h0⟩
theorem own : ownKnob Try.prog.godebug = none := by kernel_rfl
end Go.Sim.Le


namespace Go.Sim.Le
open Go.Proofs
variable (F d : Nat)
theorem z0' {α : Type} (a b : α) : (bif ((0 : Int) != 0) then a else b) = b := rfl
theorem lenB {n : Nat} (h : n ≤ 140737488355328) : n < Big := by show n < 4611686018427387904; omega
end Go.Sim.Le


namespace Go.Sim.Le
open Go.Proofs
variable (F d : Nat)
end Go.Sim.Le


namespace Go.Sim.Le
open Go.Proofs
variable (F d : Nat)
def oneW (n u : Nat) : Int := if u = n then 1 else 0
def negW (q u : Nat) : Int := if u < q then -1 else 0
section
variable {c : Cav} (hc : CavOk c) (l : Sl Stg) (hL : l.len ≤ 300) (hs : ∀ i, i < l.len → StgOk c.slices.len (l.el i)) (hF : 400 < F)
include hc hL hs hF
def upW (b q u : Nat) : Int := if b ≤ u ∧ u < q then 1 else 0
end
end Go.Sim.Le


namespace Go.Sim.Le
open Go.Proofs
abbrev TruthOk (c : Cav) (n : Nat) (t : Truth) : Prop := t.vols.len = c.slices.len ∧ t.rates.len = n ∧ (∀ i, i < t.vols.len → (c.slices.el i).vol.lo ≤ t.vols.el i ∧ t.vols.el i ≤ (c.slices.el i).vol.hi) ∧
  ∀ k, k < t.rates.len → (t.rates.el k).len = c.slices.len ∧ ∀ i, i < c.slices.len → (c.slices.el i).rate.lo ≤ (t.rates.el k).el i ∧ (t.rates.el k).el i ≤ (c.slices.el i).rate.hi
variable (F d : Nat)
section
variable (c : Cav) (l : Sl Stg) (t : Truth) (hcl : c.slices.len < Big) (htl : t.rates.len < Big) (hCF : c.slices.len < F) (hTF : t.rates.len < F)
def rateB (k i : Nat) : Bool := decide ((c.slices.el i).rate.lo ≤ (t.rates.el k).el i ∧ (t.rates.el k).el i ≤ (c.slices.el i).rate.hi)
def rowB (k : Nat) : Bool := decide ((t.rates.el k).len = c.slices.len) && allF (rateB c t k) c.slices.len 0
theorem rowB_iff (k : Nat) : rowB c t k = true ↔ ((t.rates.el k).len = c.slices.len ∧ ∀ i, i < c.slices.len → (c.slices.el i).rate.lo ≤ (t.rates.el k).el i ∧ (t.rates.el k).el i ≤ (c.slices.el i).rate.hi) := by
  unfold rowB
  rw [allF_dec]
  simp only [Bool.and_eq_true, decide_eq_true_eq, rateB]
include hcl htl hCF hTF
theorem l87x2 (m0 k : Nat) (hk : (t.rates.el k).len = c.slices.len) (R : Option Out) : ∀ j i fu, i + j = c.slices.len → j < fu →
    (bif allF (rateB c t k) j i then L87x1 (E F (d + 1)) F c l t m0 (IntKind.i64.wrap ((k : Int) + 1)) else some (.ret (.bool false))) = R →
    L87x2 (E F (d + 1)) F c l t m0 fu k (t.rates.el k).nl (t.rates.el k).len (fun u => [.int .i64 ((t.rates.el k).el u)]) (t.rates.el k).len i = R := by
  have hB : c.slices.len < 4611686018427387904 := hcl
  intro j
  induction j with
  | zero =>
    intro i fu h hf K
    obtain ⟨fu, rfl⟩ : ∃ k, fu = k + 1 := ⟨fu - 1, by omega⟩
    rw [L87x2s, decide_eq_false (by omega), pF]
    simp only [allF, cond_true] at K
    exact K
  | succ j ih =>
    intro i fu h hf K
    obtain ⟨fu, rfl⟩ : ∃ k, fu = k + 1 := ⟨fu - 1, by omega⟩
    rw [L87x2s]
    simp (disch := omega) only [decide_eq_true, decide_true, pT, Int.toNat_natCast, tkCons_c, tkInt_i, s59, tkOut_ret, tkBool_b]
    simp only [allF] at K
    by_cases hr : (c.slices.el i).rate.lo ≤ (t.rates.el k).el i ∧ (t.rates.el k).el i ≤ (c.slices.el i).rate.hi
    · rw [show rateB c t k i = true from decide_eq_true hr, Bool.true_and] at K
      rw [decide_eq_true hr, Bool.not_true, pF, wrS (by omega)]
      exact ih (i + 1) fu (by omega) (by omega) K
    · rw [show rateB c t k i = false from decide_eq_false hr, Bool.false_and, cond_false] at K
      rw [decide_eq_false hr, Bool.not_false, pT]
      exact K
theorem l87x1 : ∀ j k fu, k + j = t.rates.len → j < fu → L87x1 (E F (d + 1)) F c l t fu k = some (.ret (.bool (allF (rowB c t) j k))) := by
  have hB : c.slices.len < 4611686018427387904 := hcl
  have hT : t.rates.len < 4611686018427387904 := htl
  intro j
  induction j with
  | zero =>
    intro k fu h hf
    obtain ⟨fu, rfl⟩ : ∃ k, fu = k + 1 := ⟨fu - 1, by omega⟩
    rw [L87x1s, decide_eq_false (by omega), pF]
    rfl
  | succ j ih =>
    intro k fu h hf
    obtain ⟨fu, rfl⟩ : ∃ k, fu = k + 1 := ⟨fu - 1, by omega⟩
    rw [L87x1s]
    simp (disch := omega) only [decide_eq_true, decide_true, pT, Int.toNat_natCast]
    by_cases hk : (t.rates.el k).len = c.slices.len
    · rw [show (((t.rates.el k).len : Int) != (c.slices.len : Int)) = false by rw [hk]; simp, pF]
      refine l87x2 F d c l t hcl htl hCF hTF fu k hk _ c.slices.len 0 F (by omega) (by omega) ?_
      simp only [allF, rowB, decide_eq_true hk, Bool.true_and]
      rw [wrS (by omega)]
      cases allF (rateB c t k) c.slices.len 0 with
      | true => rw [cond_true, Bool.true_and]; exact ih (k + 1) fu (by omega) (by omega)
      | false => rw [cond_false, Bool.false_and]
    · rw [show (((t.rates.el k).len : Int) != (c.slices.len : Int)) = true by simp; omega, pT]
      simp only [allF, rowB, decide_eq_false hk, Bool.false_and]
theorem l87x0 (hv : t.vols.len = c.slices.len) : ∀ j i fu, i + j = t.vols.len → j < fu → L87x0 (E F (d + 1)) F c l t fu i = some (.ret (.bool (allF (fun i => decide ((c.slices.el i).vol.lo ≤ t.vols.el i ∧ t.vols.el i ≤ (c.slices.el i).vol.hi)) j i && allF (rowB c t) t.rates.len 0))) := by
  have hB : c.slices.len < 4611686018427387904 := hcl
  intro j
  induction j with
  | zero =>
    intro i fu h hf
    obtain ⟨fu, rfl⟩ : ∃ k, fu = k + 1 := ⟨fu - 1, by omega⟩
    rw [L87x0s, decide_eq_false (by omega), pF]
    exact l87x1 F d c l t hcl htl hCF hTF t.rates.len 0 F (by omega) (by omega)
  | succ j ih =>
    intro i fu h hf
    obtain ⟨fu, rfl⟩ : ∃ k, fu = k + 1 := ⟨fu - 1, by omega⟩
    rw [L87x0s]
    simp (disch := omega) only [decide_eq_true (show (i : Int) < (t.vols.len : Int) by omega), decide_eq_true (show (i : Int) < (c.slices.len : Int) by omega), decide_eq_true (show (0 : Int) ≤ (i : Int) by omega), pT, Int.toNat_natCast, s59, tkOut_ret, tkBool_b]
    simp only [allF]
    cases decide ((c.slices.el i).vol.lo ≤ t.vols.el i ∧ t.vols.el i ≤ (c.slices.el i).vol.hi) with
    | true => rw [Bool.not_true, pF, wrS (by omega), Bool.true_and]; exact ih (i + 1) fu (by omega) (by omega)
    | false => rw [Bool.not_false, pT]; rfl
theorem s87 : (E F (d + 2)).pf 87 [.agg (eCav c), sl eStg 4 l, .agg (eTruth t)] = some (.ret (.bool (decide (TruthOk c l.len t)))) := by
  rw [E_pf, t87]
  by_cases hv : t.vols.len = c.slices.len
  · rw [show ((t.vols.len : Int) != (c.slices.len : Int)) = false by rw [hv]; simp, pF]
    by_cases hr : t.rates.len = l.len
    · rw [show ((t.rates.len : Int) != (l.len : Int)) = false by rw [hr]; simp, pF]
      refine (l87x0 F d c l t hcl htl hCF hTF hv t.vols.len 0 F (by omega) (by omega)).trans (b3 (b2 ?_))
      rw [allF_dec, allF_dec]
      simp only [Bool.and_eq_true, decide_eq_true_eq, rowB_iff]
      exact ⟨fun h => ⟨hv, hr, h.1, h.2⟩, fun h => ⟨h.2.2.1, h.2.2.2⟩⟩
    · rw [show ((t.rates.len : Int) != (l.len : Int)) = true by simp; omega, pT]
      exact b3 (Eq.symm (decide_eq_false fun h => hr h.2.1))
  · rw [show ((t.vols.len : Int) != (c.slices.len : Int)) = true by simp; omega, pT]
    exact b3 (Eq.symm (decide_eq_false fun h => hv h.1))
end
end Go.Sim.Le


namespace Go.Sim.Le
open Go.Proofs
abbrev wK (t : Truth) (j : Nat) : Nat → Int := (t.rates.el j).el
abbrev opnF (c : Cav) (i : Nat) : Int := (c.slices.el i).opn
abbrev fallF (c : Cav) (i : Nat) : Int := (c.slices.el i).fall
def volS (c : Cav) (l : Nat → Stg) (t : Truth) : Nat → Nat → Int
  | 0 => t.vols.el
  | j + 1 => fun i => volS c l t j i + opnF c i * (takeRow c (l j) (wK t j) (pathN (l j)) i * (l j).water)
def tkE (c : Cav) (l : Nat → Stg) (t : Truth) (j : Nat) : Int × Int := tkT c (l j) (wK t j) (pathN (l j))
def saltP (c : Cav) (l : Nat → Stg) (t : Truth) : Nat → Int
  | 0 => 0
  | j + 1 => saltP c l t j + (l j).water * (tkE c l t j).1
def sumpS (c : Cav) (l : Nat → Stg) (t : Truth) : Nat → Int
  | 0 => 0
  | j + 1 => sumpS c l t j + (l j).water * pathSum c (l j) (wK t j) (fallF c) (pathN (l j))
def brineS (c : Cav) (l : Nat → Stg) (t : Truth) : Nat → Int
  | 0 => 0
  | j + 1 => brineS c l t j + (1000000 * (l j).water - (l j).water * (tkE c l t j).2)
def outS (c : Cav) (l : Nat → Stg) (t : Truth) : Nat → Int
  | 0 => 0
  | j + 1 => outS c l t j + (1000000 * ((l j).water * (tkE c l t j).1) - c.hold * ((l j).water * (tkE c l t j).2))
def endV (c : Cav) (l : Nat → Stg) (t : Truth) (n : Nat) : List V := [sl eInt 1 ⟨false, c.slices.len, volS c l t n⟩, .int .i64 (sumpS c l t n), .int .i64 (saltP c l t n), .int .i64 (brineS c l t n), .int .i64 (outS c l t n)]
section
variable {c : Cav} (hc : CavOk c) {s : Stg} (hs : StgOk c.slices.len s) (w : Nat → Int) (hw : RatesOk c w)
include hc hs hw
theorem pathSum_in (g : Nat → Int) (hg : ∀ i, i < c.slices.len → 0 ≤ g i ∧ g i ≤ 3000) : ∀ k, k ≤ pathN s → 0 ≤ pathSum c s w g k ∧ pathSum c s w g k ≤ 3000 * (tkT c s w k).1 := by
  intro k
  induction k with
  | zero => intro _; simp [pathSum, tkT]
  | succ k ih =>
    intro h
    have i := ih (by omega)
    have hin := pathAt_in hs (k := k) (by omega)
    have hn := takeN_in hc hs w hw (k := k) (by omega)
    have hgi := hg (pathAt s k).toNat (by omega)
    have m1 : 0 ≤ g (pathAt s k).toNat * takeN c s w k := Int.mul_nonneg hgi.1 hn.1
    have m2 : g (pathAt s k).toNat * takeN c s w k ≤ 3000 * takeN c s w k := Int.mul_le_mul_of_nonneg_right hgi.2 hn.1
    simp only [pathSum, tkT]
    unfold takeN at *
    omega
omit hc hs hw in
theorem pathSum_sub : ∀ k, pathSum c s w (opnF c) k - pathSum c s w (fallF c) k = (tkT c s w k).2 := by
  intro k
  induction k with
  | zero => rfl
  | succ k ih =>
    simp only [pathSum, tkT]
    rw [← ih]
    have : (opnF c (pathAt s k).toNat) * takeN c s w k - (fallF c (pathAt s k).toNat) * takeN c s w k = min (w (pathAt s k).toNat) (c.hold - (tkT c s w k).1) * oAt c s k := by
      rw [← Int.sub_mul, Int.mul_comm]; rfl
    omega
end
theorem opn_in {c : Cav} (hc : CavOk c) : ∀ i, i < c.slices.len → 0 ≤ opnF c i ∧ opnF c i ≤ 3000 := fun i hi => by
  have : 1000 ≤ (c.slices.el i).opn ∧ (c.slices.el i).opn ≤ 3000 := (hc.2.2.2 i hi).2.1
  exact ⟨by show 0 ≤ (c.slices.el i).opn; omega, this.2⟩
theorem fall_in {c : Cav} (hc : CavOk c) : ∀ i, i < c.slices.len → 0 ≤ fallF c i ∧ fallF c i ≤ 3000 := fun i hi => by
  have h1 : 1000 ≤ (c.slices.el i).opn ∧ (c.slices.el i).opn ≤ 3000 := (hc.2.2.2 i hi).2.1
  have h2 : 0 ≤ (c.slices.el i).fall ∧ (c.slices.el i).fall ≤ (c.slices.el i).opn - 1 := (hc.2.2.2 i hi).2.2.1
  exact ⟨h2.1, by show (c.slices.el i).fall ≤ 3000; omega⟩
theorem truth_rates {c : Cav} {n : Nat} {t : Truth} (ht : TruthOk c n t) {j : Nat} (hj : j < n) : RatesOk c (wK t j) := fun i hi => (ht.2.2.2 j (by rw [ht.2.1]; exact hj)).2 i hi
theorem mulnn {a b x y : Int} (h1 : 0 ≤ a) (h2 : a ≤ x) (h3 : 0 ≤ b) (h4 : b ≤ y) : 0 ≤ a * b ∧ a * b ≤ x * y := ⟨Int.mul_nonneg h1 h3, Int.mul_le_mul h2 h4 h3 (by omega)⟩
section
variable {c : Cav} (hc : CavOk c) {n : Nat} {l : Nat → Stg} (hl : ∀ i, i < n → StgOk c.slices.len (l i)) {t : Truth} (ht : TruthOk c n t)
include hc hl ht
theorem vol_bd {i : Nat} (hi : i < c.slices.len) : ∀ j, j ≤ n → 0 ≤ volS c l t j i ∧ volS c l t j i ≤ 10000000000000 + 900000000000 * j := by
  intro j
  induction j with
  | zero =>
    intro _
    have h1 := ht.2.2.1 i (by rw [ht.1]; exact hi)
    have h2 : SpanIn (c.slices.el i).vol 0 10000000000000 := (hc.2.2.2 i hi).1
    unfold SpanIn at h2
    simp only [volS]
    omega
  | succ j ih =>
    intro h
    have i1 := ih (by omega)
    have hs := hl j (by omega)
    have h1 := takeRow_in hc hs (wK t j) (truth_rates ht (by omega)) (pathN (l j)) (Nat.le_refl _) i
    have hwa := hs.1
    have ho := opn_in hc i hi
    have m1 := mulnn (a := takeRow c (l j) (wK t j) (pathN (l j)) i) (b := (l j).water) (x := 300) (y := 1000000) h1.1 h1.2 (by omega) (by omega)
    have m2 := mulnn (a := opnF c i) (b := takeRow c (l j) (wK t j) (pathN (l j)) i * (l j).water) (x := 3000) (y := 300000000) ho.1 ho.2 m1.1 (by omega)
    simp only [volS]
    omega
theorem tkE_in {j : Nat} (hj : j < n) : (0 ≤ (tkE c l t j).1 ∧ (tkE c l t j).1 ≤ 300) ∧ (0 ≤ (tkE c l t j).2 ∧ (tkE c l t j).2 ≤ 900000) ∧ (0 ≤ (l j).water * (tkE c l t j).1 ∧ (l j).water * (tkE c l t j).1 ≤ 300000000) ∧ 0 ≤ (l j).water * (tkE c l t j).2 ∧ (l j).water * (tkE c l t j).2 ≤ 900000000000 := by
  have hs := hl j hj
  have hr := reach_in hc hs (take_reach hc hs (wK t j) (truth_rates ht hj) (pathN (l j)) (Nat.le_refl _)) (Nat.le_refl _)
  have hH := hc.2.1
  have hwa := hs.1
  unfold tkE
  have m1 := mulnn (a := (l j).water) (b := (tkT c (l j) (wK t j) (pathN (l j))).1) (x := 1000000) (y := 300) (by omega) (by omega) (by omega) (by omega)
  have m2 := mulnn (a := (l j).water) (b := (tkT c (l j) (wK t j) (pathN (l j))).2) (x := 1000000) (y := 900000) (by omega) (by omega) (by omega) (by omega)
  exact ⟨by omega, by omega, by omega, by omega⟩
theorem sums_in : ∀ j, j ≤ n → (0 ≤ saltP c l t j ∧ saltP c l t j ≤ 300000000 * j) ∧ (0 ≤ sumpS c l t j ∧ sumpS c l t j ≤ 900000000000 * j) ∧ (0 ≤ brineS c l t j ∧ brineS c l t j ≤ 1000000000000 * j) ∧ (-(270000000000000 * j) ≤ outS c l t j ∧ outS c l t j ≤ 300000000000000 * j) := by
  intro j
  induction j with
  | zero => intro _; simp [saltP, sumpS, brineS, outS]
  | succ j ih =>
    intro h
    have i := ih (by omega)
    have hs := hl j (by omega)
    have hwa := hs.1
    have hH := hc.2.1
    have ht1 := tkE_in hc hl ht (j := j) (by omega)
    have hps := pathSum_in hc hs (wK t j) (truth_rates ht (by omega)) (fallF c) (fall_in hc) (pathN (l j)) (Nat.le_refl _)
    have he : (tkT c (l j) (wK t j) (pathN (l j))).1 = (tkE c l t j).1 := rfl
    rw [he] at hps
    have m1 := mulnn (a := (l j).water) (b := pathSum c (l j) (wK t j) (fallF c) (pathN (l j))) (x := 1000000) (y := 900000) (by omega) (by omega) (by omega) (by omega)
    have m2 := mulnn (a := c.hold) (b := (l j).water * (tkE c l t j).2) (x := 300) (y := 900000000000) (by omega) (by omega) (by omega) (by omega)
    have m3 : (l j).water * (tkE c l t j).2 ≤ (l j).water * 900000 := Int.mul_le_mul_of_nonneg_left (by omega) (by omega)
    simp only [saltP, sumpS, brineS, outS]
    omega
end
variable (F d : Nat)
theorem s88g (a b : Int) (hF : 20 < F) (h1 : I64 a) (h3 : I64 (a + b)) :
    (E F (d + 3)).pf 88 [.row false 2 1 (fun u => List.take 1 (List.drop (Min.min u 1 * 1) [V.int .i64 a, V.int .i64 b]))] = some (.ret (.int .i64 (a + b))) := s88 F (d + 2) a b hF h1 h3
section
variable {c : Cav} (hc : CavOk c) {l : Sl Stg} (hL : l.len ≤ 300) (hl : ∀ i, i < l.len → StgOk c.slices.len (l.el i)) {t : Truth} (ht : TruthOk c l.len t) (hF : 400 < F)
include hc hL hl ht hF
theorem l44x3 (m0 jj : Nat) (hj : jj < l.len) (b0 : Bool) (y1 : Int) (y2 : Nat) (y3 y4 y5 y6 y7 y8 y9 y10 : Int) : ∀ j k fu, k + 1 + j = pathN (l.el jj) → j < fu →
    L44x3 (E F (d + 3)) F c l t m0 fu (fun _ => eStg (l.el jj)) (stepOf (l.el jj)) .i64 (pathAt (l.el jj) k) c.slices.len (sumpS c l.el t jj) (saltP c l.el t jj) (brineS c l.el t jj) (outS c l.el t jj) jj (l.el jj).water (l.el jj).into (l.el jj).out (l.el jj).blanket
      (c.hold - (tkT c (l.el jj) (wK t jj) k).1) .i64 ((l.el jj).water * pathSum c (l.el jj) (wK t jj) (opnF c) k) .i64 ((l.el jj).water * pathSum c (l.el jj) (wK t jj) (fallF c) k) .i64 ((l.el jj).water * (tkT c (l.el jj) (wK t jj) k).1) c.slices.len
      (fun i => eInt (volS c l.el t jj i + opnF c i * (takeRow c (l.el jj) (wK t jj) k i * (l.el jj).water))) jj b0 y1 y2 y3 y4 y5 y6 y7 y8 y9 y10 (fun _ => eStg (l.el jj))
    = L44x1 (E F (d + 3)) F c l t m0 ((jj + 1 : Nat) : Int) c.slices.len (sumpS c l.el t (jj + 1)) (saltP c l.el t (jj + 1)) (brineS c l.el t (jj + 1)) (outS c l.el t (jj + 1)) c.slices.len (fun i => eInt (volS c l.el t (jj + 1) i)) := by
  have hs := hl jj hj
  have hw := truth_rates ht hj
  have hp := pathN_le hs
  have hcl := hc.1
  have hH := hc.2.1
  have hwa := hs.1
  have htr := ht.2.2.2 jj (by rw [ht.2.1]; exact hj)
  have htl := ht.2.1
  have hsum := sums_in hc hl ht jj (by omega)
  have hsum' := sums_in hc hl ht (jj + 1) (by omega)
  have htr1 := htr.1
  intro j
  induction j with
  | zero =>
    intro k fu h hf
    obtain ⟨fu, rfl⟩ : ∃ k, fu = k + 1 := ⟨fu - 1, by omega⟩
    have hin := pathAt_in hs (k := k) (by omega)
    have hr := reach_in hc hs (take_reach hc hs (wK t jj) hw k (by omega)) (by omega)
    have hr' := reach_in hc hs (take_reach hc hs (wK t jj) hw (k + 1) (by omega)) (by omega)
    have hn := takeN_in hc hs (wK t jj) hw (k := k) (by omega)
    have hno : min ((t.rates.el jj).el (pathAt (l.el jj) k).toNat) (c.hold - (tkT c (l.el jj) (wK t jj) k).1) = takeN c (l.el jj) (wK t jj) k := rfl
    have hv := vol_bd hc hl ht (i := (pathAt (l.el jj) k).toNat) (by omega) jj (by omega)
    have ho : 0 ≤ (c.slices.el (pathAt (l.el jj) k).toNat).opn ∧ (c.slices.el (pathAt (l.el jj) k).toNat).opn ≤ 3000 := opn_in hc (pathAt (l.el jj) k).toNat (by omega)
    have hfa : 0 ≤ (c.slices.el (pathAt (l.el jj) k).toNat).fall ∧ (c.slices.el (pathAt (l.el jj) k).toNat).fall ≤ 3000 := fall_in hc (pathAt (l.el jj) k).toNat (by omega)
    have p1 := pathSum_in hc hs (wK t jj) hw (opnF c) (opn_in hc) k (by omega)
    have p2 := pathSum_in hc hs (wK t jj) hw (fallF c) (fall_in hc) k (by omega)
    have p1' := pathSum_in hc hs (wK t jj) hw (opnF c) (opn_in hc) (k + 1) (by omega)
    have p2' := pathSum_in hc hs (wK t jj) hw (fallF c) (fall_in hc) (k + 1) (by omega)
    have ht0 : takeRow c (l.el jj) (wK t jj) k (pathAt (l.el jj) k).toNat = 0 := takeRow_0 hs (wK t jj) k k (Nat.le_refl _) (by omega)
    have q1 := mulnn (a := takeN c (l.el jj) (wK t jj) k) (b := (l.el jj).water) (x := 300) (y := 1000000) hn.1 hn.2.1 (by omega) (by omega)
    have q2 := mulnn (a := takeN c (l.el jj) (wK t jj) k * (l.el jj).water) (b := (c.slices.el (pathAt (l.el jj) k).toNat).opn) (x := 300000000) (y := 3000) q1.1 (by omega) ho.1 ho.2
    have q3 := mulnn (a := takeN c (l.el jj) (wK t jj) k * (l.el jj).water) (b := (c.slices.el (pathAt (l.el jj) k).toNat).fall) (x := 300000000) (y := 3000) q1.1 (by omega) hfa.1 hfa.2
    have r1 := mulnn (a := (l.el jj).water) (b := (tkT c (l.el jj) (wK t jj) k).1) (x := 1000000) (y := 300) (by omega) (by omega) (by omega) (by omega)
    have r2 := mulnn (a := (l.el jj).water) (b := pathSum c (l.el jj) (wK t jj) (opnF c) k) (x := 1000000) (y := 900000) (by omega) (by omega) (by omega) (by omega)
    have r3 := mulnn (a := (l.el jj).water) (b := pathSum c (l.el jj) (wK t jj) (fallF c) k) (x := 1000000) (y := 900000) (by omega) (by omega) (by omega) (by omega)
    have es1 : (l.el jj).water * (tkT c (l.el jj) (wK t jj) k).1 + takeN c (l.el jj) (wK t jj) k * (l.el jj).water = (l.el jj).water * (tkT c (l.el jj) (wK t jj) (k + 1)).1 := by
      show _ = (l.el jj).water * ((tkT c (l.el jj) (wK t jj) k).1 + takeN c (l.el jj) (wK t jj) k)
      rw [Int.mul_add, Int.mul_comm (takeN c (l.el jj) (wK t jj) k)]
    have es2 : (l.el jj).water * pathSum c (l.el jj) (wK t jj) (opnF c) k + takeN c (l.el jj) (wK t jj) k * (l.el jj).water * (c.slices.el (pathAt (l.el jj) k).toNat).opn = (l.el jj).water * pathSum c (l.el jj) (wK t jj) (opnF c) (k + 1) := by
      show _ = (l.el jj).water * (pathSum c (l.el jj) (wK t jj) (opnF c) k + (c.slices.el (pathAt (l.el jj) k).toNat).opn * takeN c (l.el jj) (wK t jj) k)
      rw [Int.mul_add, Int.mul_comm (takeN c (l.el jj) (wK t jj) k), Int.mul_assoc, Int.mul_comm (takeN c (l.el jj) (wK t jj) k)]
    have es3 : (l.el jj).water * pathSum c (l.el jj) (wK t jj) (fallF c) k + takeN c (l.el jj) (wK t jj) k * (l.el jj).water * (c.slices.el (pathAt (l.el jj) k).toNat).fall = (l.el jj).water * pathSum c (l.el jj) (wK t jj) (fallF c) (k + 1) := by
      show _ = (l.el jj).water * (pathSum c (l.el jj) (wK t jj) (fallF c) k + (c.slices.el (pathAt (l.el jj) k).toNat).fall * takeN c (l.el jj) (wK t jj) k)
      rw [Int.mul_add, Int.mul_comm (takeN c (l.el jj) (wK t jj) k), Int.mul_assoc, Int.mul_comm (takeN c (l.el jj) (wK t jj) k)]
    have eu : updGet (fun i => eInt (volS c l.el t jj i + opnF c i * (takeRow c (l.el jj) (wK t jj) k i * (l.el jj).water))) (pathAt (l.el jj) k).toNat 0 [V.int .i64 (volS c l.el t jj (pathAt (l.el jj) k).toNat + takeN c (l.el jj) (wK t jj) k * (l.el jj).water * (c.slices.el (pathAt (l.el jj) k).toNat).opn)] =
        fun i => eInt (volS c l.el t jj i + opnF c i * (takeRow c (l.el jj) (wK t jj) (k + 1) i * (l.el jj).water)) := by
      refine (upd_int _ _ _).trans ?_
      funext i
      refine congrArg eInt ?_
      by_cases hi : i = (pathAt (l.el jj) k).toNat
      · rw [if_pos hi, hi]
        simp only [takeRow, if_pos]
        rw [Int.mul_comm (takeN c (l.el jj) (wK t jj) k * (l.el jj).water)]
      · rw [if_neg hi]
        simp only [takeRow, if_neg hi]
    have hk' : k = pathN (l.el jj) - 1 := by omega
    have e1 : pathAt (l.el jj) k = (l.el jj).out := by rw [hk', pathAt_last]
    have e2 : k + 1 = pathN (l.el jj) := by omega
    have ebif : (pathAt (l.el jj) k != (l.el jj).out) = false := by simp [e1]
    rw [L44x3s]
    have hA : decide ((0 : Int) ≤ (jj : Int)) = true := decide_eq_true (Int.natCast_nonneg _)
    have hB : decide ((jj : Int) < (t.rates.len : Int)) = true := decide_eq_true (by rw [htl]; exact Int.ofNat_lt.2 hj)
    have hC : decide ((0 : Int) ≤ pathAt (l.el jj) k) = true := decide_eq_true hin.1
    have hD : decide (pathAt (l.el jj) k < ((t.rates.el jj).len : Int)) = true := decide_eq_true (by rw [htr1]; exact hin.2)
    have hE : decide (pathAt (l.el jj) k < (c.slices.len : Int)) = true := decide_eq_true hin.2
    have w1 : IntKind.i64.wrap (takeN c (l.el jj) (wK t jj) k * (l.el jj).water) = takeN c (l.el jj) (wK t jj) k * (l.el jj).water := wr (by omega)
    have w2 : IntKind.i64.wrap (takeN c (l.el jj) (wK t jj) k * (l.el jj).water * (c.slices.el (pathAt (l.el jj) k).toNat).opn) = takeN c (l.el jj) (wK t jj) k * (l.el jj).water * (c.slices.el (pathAt (l.el jj) k).toNat).opn := wr (by omega)
    have w3 : IntKind.i64.wrap (takeN c (l.el jj) (wK t jj) k * (l.el jj).water * (c.slices.el (pathAt (l.el jj) k).toNat).fall) = takeN c (l.el jj) (wK t jj) k * (l.el jj).water * (c.slices.el (pathAt (l.el jj) k).toNat).fall := wr (by omega)
    have w4 : IntKind.i64.wrap (volS c l.el t jj (pathAt (l.el jj) k).toNat + takeN c (l.el jj) (wK t jj) k * (l.el jj).water * (c.slices.el (pathAt (l.el jj) k).toNat).opn) = volS c l.el t jj (pathAt (l.el jj) k).toNat + takeN c (l.el jj) (wK t jj) k * (l.el jj).water * (c.slices.el (pathAt (l.el jj) k).toNat).opn := wr (by omega)
    have e88a := s88g F d ((l.el jj).water * (tkT c (l.el jj) (wK t jj) k).1) (takeN c (l.el jj) (wK t jj) k * (l.el jj).water) (by omega) (by omega) (by omega)
    have e88b := s88g F d ((l.el jj).water * pathSum c (l.el jj) (wK t jj) (opnF c) k) (takeN c (l.el jj) (wK t jj) k * (l.el jj).water * (c.slices.el (pathAt (l.el jj) k).toNat).opn) (by omega) (by omega) (by omega)
    have e88c := s88g F d ((l.el jj).water * pathSum c (l.el jj) (wK t jj) (fallF c) k) (takeN c (l.el jj) (wK t jj) k * (l.el jj).water * (c.slices.el (pathAt (l.el jj) k).toNat).fall) (by omega) (by omega) (by omega)
    simp only [hA, hB, hC, hD, hE, decide_true, pT, Int.toNat_natCast, mnE, hno, w1, w2, w3, e88a, e88b, e88c, tkOut_ret, tkInt_i, tkCons_c, List.drop, ht0, Int.zero_mul, Int.mul_zero, Int.add_zero, w4]
    rw [es1, es2, es3, eu]
    rw [ebif, pF, e2]
    rw [e2] at p1' p2' hr'
    have hT := tkE_in hc hl ht hj
    have eT1 : (tkT c (l.el jj) (wK t jj) (pathN (l.el jj))).1 = (tkE c l.el t jj).1 := rfl
    have eT2 : (tkT c (l.el jj) (wK t jj) (pathN (l.el jj))).2 = (tkE c l.el t jj).2 := rfl
    have eq3 : (l.el jj).water * pathSum c (l.el jj) (wK t jj) (opnF c) (pathN (l.el jj)) - (l.el jj).water * pathSum c (l.el jj) (wK t jj) (fallF c) (pathN (l.el jj)) = (l.el jj).water * (tkE c l.el t jj).2 := by
      rw [← Int.mul_sub, pathSum_sub]; rfl
    rw [eT1] at p1' p2' hr' ⊢
    have f2 := mulnn (a := (l.el jj).water) (b := pathSum c (l.el jj) (wK t jj) (opnF c) (pathN (l.el jj))) (x := 1000000) (y := 900000) (by omega) (by omega) (by omega) (by omega)
    have f3 := mulnn (a := (l.el jj).water) (b := pathSum c (l.el jj) (wK t jj) (fallF c) (pathN (l.el jj))) (x := 1000000) (y := 900000) (by omega) (by omega) (by omega) (by omega)
    have f4 := mulnn (a := c.hold) (b := (l.el jj).water * (tkE c l.el t jj).2) (x := 300) (y := 900000000000) (by omega) (by omega) (by omega) (by omega)
    clear q1 q2 q3 r1 r2 r3 es1 es2 es3 eu w1 w2 w3 w4 e88a e88b e88c hA hB hC hD hE hno ht0 p1 p2 hv ho hfa hn hr
    simp only [sumpS, saltP, brineS, outS] at hsum'
    generalize (l.el jj).water * pathSum c (l.el jj) (wK t jj) (opnF c) (pathN (l.el jj)) = Rm at *
    generalize hFl : (l.el jj).water * pathSum c (l.el jj) (wK t jj) (fallF c) (pathN (l.el jj)) = Fl at *
    rw [wr (n := Rm - Fl) (by omega), eq3]
    have eb : 1000000 * (l.el jj).water - Rm + Fl = 1000000 * (l.el jj).water - (l.el jj).water * (tkE c l.el t jj).2 := by omega
    rw [wr (n := 1000000 * (l.el jj).water) (by omega), wr (n := 1000000 * (l.el jj).water - Rm) (by omega), eb, wr (n := 1000000 * (l.el jj).water - (l.el jj).water * (tkE c l.el t jj).2) (by omega)]
    rw [wr (n := 1000000 * ((l.el jj).water * (tkE c l.el t jj).1)) (by omega), wr (n := c.hold * ((l.el jj).water * (tkE c l.el t jj).2)) (by omega), wr (n := 1000000 * ((l.el jj).water * (tkE c l.el t jj).1) - c.hold * ((l.el jj).water * (tkE c l.el t jj).2)) (by omega)]
    rw [wr (n := sumpS c l.el t jj + Fl) (by omega), wr (n := saltP c l.el t jj + (l.el jj).water * (tkE c l.el t jj).1) (by omega), wr (n := brineS c l.el t jj + (1000000 * (l.el jj).water - (l.el jj).water * (tkE c l.el t jj).2)) (by omega), wr (n := outS c l.el t jj + (1000000 * ((l.el jj).water * (tkE c l.el t jj).1) - c.hold * ((l.el jj).water * (tkE c l.el t jj).2))) (by omega), wrS (by omega)]
    rw [← hFl]
    rfl
  | succ j ih =>
    intro k fu h hf
    obtain ⟨fu, rfl⟩ : ∃ k, fu = k + 1 := ⟨fu - 1, by omega⟩
    have hin := pathAt_in hs (k := k) (by omega)
    have hr := reach_in hc hs (take_reach hc hs (wK t jj) hw k (by omega)) (by omega)
    have hr' := reach_in hc hs (take_reach hc hs (wK t jj) hw (k + 1) (by omega)) (by omega)
    have hn := takeN_in hc hs (wK t jj) hw (k := k) (by omega)
    have hno : min ((t.rates.el jj).el (pathAt (l.el jj) k).toNat) (c.hold - (tkT c (l.el jj) (wK t jj) k).1) = takeN c (l.el jj) (wK t jj) k := rfl
    have hv := vol_bd hc hl ht (i := (pathAt (l.el jj) k).toNat) (by omega) jj (by omega)
    have ho : 0 ≤ (c.slices.el (pathAt (l.el jj) k).toNat).opn ∧ (c.slices.el (pathAt (l.el jj) k).toNat).opn ≤ 3000 := opn_in hc (pathAt (l.el jj) k).toNat (by omega)
    have hfa : 0 ≤ (c.slices.el (pathAt (l.el jj) k).toNat).fall ∧ (c.slices.el (pathAt (l.el jj) k).toNat).fall ≤ 3000 := fall_in hc (pathAt (l.el jj) k).toNat (by omega)
    have p1 := pathSum_in hc hs (wK t jj) hw (opnF c) (opn_in hc) k (by omega)
    have p2 := pathSum_in hc hs (wK t jj) hw (fallF c) (fall_in hc) k (by omega)
    have p1' := pathSum_in hc hs (wK t jj) hw (opnF c) (opn_in hc) (k + 1) (by omega)
    have p2' := pathSum_in hc hs (wK t jj) hw (fallF c) (fall_in hc) (k + 1) (by omega)
    have ht0 : takeRow c (l.el jj) (wK t jj) k (pathAt (l.el jj) k).toNat = 0 := takeRow_0 hs (wK t jj) k k (Nat.le_refl _) (by omega)
    have q1 := mulnn (a := takeN c (l.el jj) (wK t jj) k) (b := (l.el jj).water) (x := 300) (y := 1000000) hn.1 hn.2.1 (by omega) (by omega)
    have q2 := mulnn (a := takeN c (l.el jj) (wK t jj) k * (l.el jj).water) (b := (c.slices.el (pathAt (l.el jj) k).toNat).opn) (x := 300000000) (y := 3000) q1.1 (by omega) ho.1 ho.2
    have q3 := mulnn (a := takeN c (l.el jj) (wK t jj) k * (l.el jj).water) (b := (c.slices.el (pathAt (l.el jj) k).toNat).fall) (x := 300000000) (y := 3000) q1.1 (by omega) hfa.1 hfa.2
    have r1 := mulnn (a := (l.el jj).water) (b := (tkT c (l.el jj) (wK t jj) k).1) (x := 1000000) (y := 300) (by omega) (by omega) (by omega) (by omega)
    have r2 := mulnn (a := (l.el jj).water) (b := pathSum c (l.el jj) (wK t jj) (opnF c) k) (x := 1000000) (y := 900000) (by omega) (by omega) (by omega) (by omega)
    have r3 := mulnn (a := (l.el jj).water) (b := pathSum c (l.el jj) (wK t jj) (fallF c) k) (x := 1000000) (y := 900000) (by omega) (by omega) (by omega) (by omega)
    have es1 : (l.el jj).water * (tkT c (l.el jj) (wK t jj) k).1 + takeN c (l.el jj) (wK t jj) k * (l.el jj).water = (l.el jj).water * (tkT c (l.el jj) (wK t jj) (k + 1)).1 := by
      show _ = (l.el jj).water * ((tkT c (l.el jj) (wK t jj) k).1 + takeN c (l.el jj) (wK t jj) k)
      rw [Int.mul_add, Int.mul_comm (takeN c (l.el jj) (wK t jj) k)]
    have es2 : (l.el jj).water * pathSum c (l.el jj) (wK t jj) (opnF c) k + takeN c (l.el jj) (wK t jj) k * (l.el jj).water * (c.slices.el (pathAt (l.el jj) k).toNat).opn = (l.el jj).water * pathSum c (l.el jj) (wK t jj) (opnF c) (k + 1) := by
      show _ = (l.el jj).water * (pathSum c (l.el jj) (wK t jj) (opnF c) k + (c.slices.el (pathAt (l.el jj) k).toNat).opn * takeN c (l.el jj) (wK t jj) k)
      rw [Int.mul_add, Int.mul_comm (takeN c (l.el jj) (wK t jj) k), Int.mul_assoc, Int.mul_comm (takeN c (l.el jj) (wK t jj) k)]
    have es3 : (l.el jj).water * pathSum c (l.el jj) (wK t jj) (fallF c) k + takeN c (l.el jj) (wK t jj) k * (l.el jj).water * (c.slices.el (pathAt (l.el jj) k).toNat).fall = (l.el jj).water * pathSum c (l.el jj) (wK t jj) (fallF c) (k + 1) := by
      show _ = (l.el jj).water * (pathSum c (l.el jj) (wK t jj) (fallF c) k + (c.slices.el (pathAt (l.el jj) k).toNat).fall * takeN c (l.el jj) (wK t jj) k)
      rw [Int.mul_add, Int.mul_comm (takeN c (l.el jj) (wK t jj) k), Int.mul_assoc, Int.mul_comm (takeN c (l.el jj) (wK t jj) k)]
    have eu : updGet (fun i => eInt (volS c l.el t jj i + opnF c i * (takeRow c (l.el jj) (wK t jj) k i * (l.el jj).water))) (pathAt (l.el jj) k).toNat 0 [V.int .i64 (volS c l.el t jj (pathAt (l.el jj) k).toNat + takeN c (l.el jj) (wK t jj) k * (l.el jj).water * (c.slices.el (pathAt (l.el jj) k).toNat).opn)] =
        fun i => eInt (volS c l.el t jj i + opnF c i * (takeRow c (l.el jj) (wK t jj) (k + 1) i * (l.el jj).water)) := by
      refine (upd_int _ _ _).trans ?_
      funext i
      refine congrArg eInt ?_
      by_cases hi : i = (pathAt (l.el jj) k).toNat
      · rw [if_pos hi, hi]
        simp only [takeRow, if_pos]
        rw [Int.mul_comm (takeN c (l.el jj) (wK t jj) k * (l.el jj).water)]
      · rw [if_neg hi]
        simp only [takeRow, if_neg hi]
    have hne : (pathAt (l.el jj) k != (l.el jj).out) = true := by
      have := pathAt_ne (l.el jj) (k := k) (by omega)
      simpa using this
    have hS : pathAt (l.el jj) k + stepOf (l.el jj) = pathAt (l.el jj) (k + 1) := by rw [← pathAt_S]
    have hin2 := pathAt_in hs (k := k + 1) (by omega)
    rw [L44x3s]
    have hA : decide ((0 : Int) ≤ (jj : Int)) = true := decide_eq_true (Int.natCast_nonneg _)
    have hB : decide ((jj : Int) < (t.rates.len : Int)) = true := decide_eq_true (by rw [htl]; exact Int.ofNat_lt.2 hj)
    have hC : decide ((0 : Int) ≤ pathAt (l.el jj) k) = true := decide_eq_true hin.1
    have hD : decide (pathAt (l.el jj) k < ((t.rates.el jj).len : Int)) = true := decide_eq_true (by rw [htr1]; exact hin.2)
    have hE : decide (pathAt (l.el jj) k < (c.slices.len : Int)) = true := decide_eq_true hin.2
    have w1 : IntKind.i64.wrap (takeN c (l.el jj) (wK t jj) k * (l.el jj).water) = takeN c (l.el jj) (wK t jj) k * (l.el jj).water := wr (by omega)
    have w2 : IntKind.i64.wrap (takeN c (l.el jj) (wK t jj) k * (l.el jj).water * (c.slices.el (pathAt (l.el jj) k).toNat).opn) = takeN c (l.el jj) (wK t jj) k * (l.el jj).water * (c.slices.el (pathAt (l.el jj) k).toNat).opn := wr (by omega)
    have w3 : IntKind.i64.wrap (takeN c (l.el jj) (wK t jj) k * (l.el jj).water * (c.slices.el (pathAt (l.el jj) k).toNat).fall) = takeN c (l.el jj) (wK t jj) k * (l.el jj).water * (c.slices.el (pathAt (l.el jj) k).toNat).fall := wr (by omega)
    have w4 : IntKind.i64.wrap (volS c l.el t jj (pathAt (l.el jj) k).toNat + takeN c (l.el jj) (wK t jj) k * (l.el jj).water * (c.slices.el (pathAt (l.el jj) k).toNat).opn) = volS c l.el t jj (pathAt (l.el jj) k).toNat + takeN c (l.el jj) (wK t jj) k * (l.el jj).water * (c.slices.el (pathAt (l.el jj) k).toNat).opn := wr (by omega)
    have e88a := s88g F d ((l.el jj).water * (tkT c (l.el jj) (wK t jj) k).1) (takeN c (l.el jj) (wK t jj) k * (l.el jj).water) (by omega) (by omega) (by omega)
    have e88b := s88g F d ((l.el jj).water * pathSum c (l.el jj) (wK t jj) (opnF c) k) (takeN c (l.el jj) (wK t jj) k * (l.el jj).water * (c.slices.el (pathAt (l.el jj) k).toNat).opn) (by omega) (by omega) (by omega)
    have e88c := s88g F d ((l.el jj).water * pathSum c (l.el jj) (wK t jj) (fallF c) k) (takeN c (l.el jj) (wK t jj) k * (l.el jj).water * (c.slices.el (pathAt (l.el jj) k).toNat).fall) (by omega) (by omega) (by omega)
    simp only [hA, hB, hC, hD, hE, decide_true, pT, Int.toNat_natCast, mnE, hno, w1, w2, w3, e88a, e88b, e88c, tkOut_ret, tkInt_i, tkCons_c, List.drop, ht0, Int.zero_mul, Int.mul_zero, Int.add_zero, w4]
    rw [es1, es2, es3, eu]
    rw [hne, pT, hS, wr (n := pathAt (l.el jj) (k + 1)) (by omega), wr (n := c.hold - (tkT c (l.el jj) (wK t jj) k).1 - takeN c (l.el jj) (wK t jj) k) (by omega)]
    rw [show c.hold - (tkT c (l.el jj) (wK t jj) k).1 - takeN c (l.el jj) (wK t jj) k = c.hold - (tkT c (l.el jj) (wK t jj) (k + 1)).1 by
      show _ = c.hold - ((tkT c (l.el jj) (wK t jj) k).1 + takeN c (l.el jj) (wK t jj) k); omega]
    exact ih (k + 1) fu (by omega) (by omega)
theorem l44x1 : ∀ j k fu, k + j = l.len → j < fu →
    L44x1 (E F (d + 3)) F c l t fu k c.slices.len (sumpS c l.el t k) (saltP c l.el t k) (brineS c l.el t k) (outS c l.el t k) c.slices.len (fun i => eInt (volS c l.el t k i)) = some (.ret (.tup [.agg (endV c l.el t l.len), .int .i64 0])) := by
  intro j
  induction j with
  | zero =>
    intro k fu h hf
    obtain ⟨fu, rfl⟩ : ∃ k, fu = k + 1 := ⟨fu - 1, by omega⟩
    have hk : k = l.len := by omega
    subst hk
    rw [L44x1s, decide_eq_false (by omega), pF]
    rfl
  | succ j ih =>
    intro k fu h hf
    obtain ⟨fu, rfl⟩ : ∃ k, fu = k + 1 := ⟨fu - 1, by omega⟩
    have hs := hl k (by omega)
    have hp := pathN_le hs
    have hp1 := pathN_pos (l.el k)
    have hcl := hc.1
    have hH := hc.2.1
    have e := fun b0 y1 y2 y3 y4 y5 y6 y7 y8 y9 y10 => l44x3 F d hc hL hl ht hF fu k (by omega) b0 y1 y2 y3 y4 y5 y6 y7 y8 y9 y10 (pathN (l.el k) - 1) 0 F (by omega) (by omega)
    have e2 := ih (k + 1) fu (by omega) (by omega)
    have ev : (fun i => eInt (volS c l.el t k i + opnF c i * (takeRow c (l.el k) (wK t k) 0 i * (l.el k).water))) = fun i => eInt (volS c l.el t k i) := by
      funext i
      simp only [takeRow, Int.zero_mul, Int.mul_zero, Int.add_zero]
    simp only [ev, tkT, pathSum, Int.mul_zero, Int.sub_zero, pathAt_0] at e
    have q68 : (E F (d + 3)).pf 68 [.agg (eStg (l.el k))] = _ := s68 F (d + 2) (l.el k)
    rw [L44x1s]
    simp (disch := omega) only [decide_eq_true (show (k : Int) < (l.len : Int) by omega), decide_eq_true (show (0 : Int) ≤ (k : Int) by omega), pT, Int.toNat_natCast, q68, tkOut_ret, tkFn_f, tkNil_n, tkCons_c, tkPtr_p, tkInt_i, Nat.beq_refl, Bool.and_self, decide_true]
    unfold stepOf at e
    by_cases hd : (l.el k).out < (l.el k).into
    · simp only [if_pos hd] at e
      rw [decide_eq_true hd, pT]
      exact (e _ _ _ _ _ _ _ _ _ _ _).trans e2
    · simp only [if_neg hd] at e
      rw [decide_eq_false hd, pF]
      exact (e _ _ _ _ _ _ _ _ _ _ _).trans e2
end
theorem s79w (w : Sl Int) (hnl : w.nl = false) (h0 : 0 < w.len) (h1 : w.len ≤ 300) : (E F (d + 1)).hv 79 [sl eInt 1 w] [] = some (.ret (.osl 0 0 w.len), [.arr 3 1 w.len (fun i => eInt (w.el i)) true]) := by
  rw [E_hv, t79, hnl]
  simp only [pF, Nat.zero_add]
  rw [show (w.len == 0) = false by rw [beq_eq_false_iff_ne]; omega, pF, decide_eq_true (by omega), pT]
  rfl
theorem s44 (c : Cav) (l : Sl Stg) (t : Truth) (hC : c.slices.len < Big) (hCF : c.slices.len < F) (hB : l.len < Big) (hLF : l.len < F) (hT : t.rates.len < Big) (hTF : t.rates.len < F) (hnl : t.vols.nl = true → t.vols.len = 0) (hF : 400 < F) :
    (E F (d + 8)).pf 44 [.agg (eCav c), sl eStg 4 l, .agg (eTruth t)] = some (.ret (.tup (if errP c l true = 0 ∧ TruthOk c l.len t then [.agg (endV c l.el t l.len), .int .i64 0] else [.agg [.row true 0 0 (fun _ => []), .int .i64 0, .int .i64 0, .int .i64 0, .int .i64 0], .int .i64 (if errP c l true = 0 then 2 else errP c l true)]))) := by
  have q87 : (E F (d + 7)).pf 87 [.agg (eCav c), sl eStg 4 l, .agg (eTruth t)] = _ := s87 F (d + 5) c l t hC hT hCF hTF
  rw [E_pf, t44]
  simp only [s57e F d c l hC hCF hB hLF, tkOut_ret, tkInt_i, decide_true, pT]
  by_cases h0 : errP c l true = 0
  · obtain ⟨h8, hc, hl, _⟩ := errP_0.1 h0
    rw [h0, show ((0 : Int) != 0) = false from rfl, pF, q87]
    simp only [tkOut_ret, tkBool_b]
    by_cases ht : TruthOk c l.len t
    · rw [decide_eq_true ht, Bool.not_true, pF, if_pos ⟨trivial, ht⟩]
      have hcl := hc.1
      have hvl := ht.1
      have hn : t.vols.nl = false := by
        cases h : t.vols.nl with
        | false => rfl
        | true => have := hnl h; omega
      have q79 : (E F (d + 7)).hv 79 [sl eInt 1 t.vols] [] = _ := s79w F (d + 6) t.vols hn (by omega) (by omega)
      simp only [q79, tkHv_h, tkSl_o, Nat.beq_refl, Bool.and_self, beq_self_eq_true, pT, tkSCons_c, tkSNil_n, tkArr_a]
      rw [hvl]
      exact l44x1 F (d + 4) hc (by omega) hl ht hF l.len 0 F (by omega) (by omega)
    · rw [decide_eq_false ht, Bool.not_false, pT, if_neg (fun h => ht h.2), if_pos trivial]
  · rw [show (errP c l true != 0) = true by simpa using h0, pT, if_neg (fun h => h0 h.1), if_neg h0]
end Go.Sim.Le


namespace Go.Sim.Le
open Go.Proofs
variable (F d : Nat)
section
variable {c : Cav} (hc : CavOk c) {l : Sl Stg} (hL : l.len ≤ 300) (hl : ∀ i, i < l.len → StgOk c.slices.len (l.el i)) {t : Truth} (ht : TruthOk c l.len t) (hF : 400 < F)
include hc hL hl ht hF
end
end Go.Sim.Le


namespace Go.Sim.Le
open Go.Proofs
variable (F d : Nat)
end Go.Sim.Le


namespace Go.Sim.Le
open Go.Proofs
theorem sumF_add (f g : Nat → Int) : ∀ n, sumF (fun i => f i + g i) n = sumF f n + sumF g n
  | 0 => rfl
  | n + 1 => by simp only [sumF]; rw [sumF_add f g n]; omega
def watT (l : Nat → Stg) : Nat → Int
  | 0 => 0
  | j + 1 => watT l j + (l j).water
def roomS (c : Cav) (l : Nat → Stg) (t : Truth) : Nat → Int
  | 0 => 0
  | j + 1 => roomS c l t j + (l j).water * (tkE c l t j).2
section
variable {c : Cav} (hc : CavOk c) {n : Nat} {l : Nat → Stg} (hl : ∀ i, i < n → StgOk c.slices.len (l i)) {t : Truth} (ht : TruthOk c n t)
include hc hl ht
end
variable (F d : Nat)
section
variable {c : Cav} (hc : CavOk c) {l : Sl Stg} (hL : l.len ≤ 8) (hl : ∀ i, i < l.len → StgOk c.slices.len (l.el i)) {t : Truth} (ht : TruthOk c l.len t) (hF : 1000000000 < F)
include hc hL hl ht hF
theorem l45 (a b x y : Int) (ha : 0 ≤ a ∧ a ≤ 100000000000000) : ∀ j i fu, i + j = c.slices.len → j < fu →
    L45x0 (E F d) F c ⟨false, c.slices.len, volS c l.el t l.len⟩ a b x y fu i = some (.ret (.bool true)) := by
  have hcl := hc.1
  intro j
  induction j with
  | zero =>
    intro i fu h hf
    obtain ⟨fu, rfl⟩ : ∃ k, fu = k + 1 := ⟨fu - 1, by omega⟩
    rw [L45x0s, decide_eq_false (by show ¬ (i : Int) < (c.slices.len : Int); omega), pF]
    rw [show (((c.slices.len : Nat) : Int) == ((c.slices.len : Nat) : Int)) = true from beq_self_eq_true _, pT, decide_eq_true (show a ≥ 0 by omega), pT, decide_eq_true ha.2]
  | succ j ih =>
    intro i fu h hf
    obtain ⟨fu, rfl⟩ : ∃ k, fu = k + 1 := ⟨fu - 1, by omega⟩
    have hv := vol_bd hc hl ht (i := i) (by omega) l.len (Nat.le_refl _)
    rw [L45x0s]
    simp only [Int.toNat_natCast]
    rw [decide_eq_true (show (i : Int) < (c.slices.len : Int) by omega), decide_eq_true (show (0 : Int) ≤ (i : Int) by omega)]
    simp only [pT]
    rw [decide_eq_false (show ¬ volS c l.el t l.len i < 0 by omega), pF, decide_eq_false (show ¬ volS c l.el t l.len i > 100000000000000 by omega), pF, wrS (by omega)]
    exact ih (i + 1) fu (by omega) (by omega)
theorem s45 : (E F (d + 1)).pf 45 [.agg (eCav c), .agg (endV c l.el t l.len)] = some (.ret (.bool true)) := by
  have hcl := hc.1
  have hs := sums_in hc hl ht l.len (Nat.le_refl _)
  rw [E_pf]
  refine (t45 _ _ c ⟨false, c.slices.len, volS c l.el t l.len⟩ _ _ _ _).trans ?_
  exact l45 F d hc hL hl ht hF _ _ _ _ (by omega) c.slices.len 0 F (by omega) (by omega)
end
end Go.Sim.Le


namespace Go.Sim.Le
open Go.Proofs
variable (F d : Nat)
end Go.Sim.Le


namespace Go.Sim.Le
open Go.Proofs
def saltS (c : Cav) (l : Nat → Stg) : Nat → Nat → Span
  | 0, _ => ⟨0, 0⟩
  | j + 1, k => addS (saltS c l j k) (timesS (rtRow c (l j) (pathN (l j)) k) (l j).water)
def volK (c : Cav) (l : Nat → Stg) (n k : Nat) : Span := addS (c.slices.el k).vol (timesS (saltS c l n k) (c.slices.el k).opn)
section
variable {c : Cav} (hc : CavOk c) {l : Nat → Stg} {n : Nat} (hl : ∀ i, i < n → StgOk c.slices.len (l i))
include hc hl
end
def saltSl (c : Cav) (l : Nat → Stg) (n : Nat) : Sl Span := ⟨false, c.slices.len, saltS c l n⟩
variable (F d : Nat)
section
variable {c : Cav} (hc : CavOk c) {l : Sl Stg} (h8 : l.len ≤ 8) (hl : ∀ i, i < l.len → StgOk c.slices.len (l.el i)) (hF : 400 < F)
include hc h8 hl hF
end
end Go.Sim.Le


namespace Go.Sim.Le
open Go.Proofs
def sumpM (c : Cav) : Mea := ⟨⟨false, c.slices.len, fun _ => 0⟩, 1⟩
def afterV (c : Cav) (l : Nat → Stg) (n : Nat) : List V := [sl eSpan 2 (saltSl c l n), sl eSpan 2 (tabP (volK c l n) c.slices.len), .int .i64 (boundS c l (sumpM c) n).lo, .int .i64 (boundS c l (sumpM c) n).hi]
def after0 : List V := [.row true 0 0 fun _ => [], .row true 0 0 fun _ => [], .int .i64 0, .int .i64 0]
variable (F d : Nat)
end Go.Sim.Le


namespace Go.Sim.Le
open Go.Proofs
theorem le_bestHi {f : Int → Int} {a : Int} {n : Int} (h1 : a ≤ n) : ∀ j : Nat, n ≤ a + j → f n ≤ bestHi f a j
  | 0, h => by rw [show n = a by omega]; exact Int.le_refl _
  | j + 1, h => by
    simp only [bestHi]
    by_cases h2 : n ≤ a + j
    · have := le_bestHi h1 (f := f) j h2; omega
    · rw [show n = a + ((j + 1 : Nat) : Int) by omega]; omega
theorem bestLo_le {f : Int → Int} {a : Int} {n : Int} (h1 : a ≤ n) : ∀ j : Nat, n ≤ a + j → bestLo f a j ≤ f n
  | 0, h => by rw [show n = a by omega]; exact Int.le_refl _
  | j + 1, h => by
    simp only [bestLo]
    by_cases h2 : n ≤ a + j
    · have := bestLo_le h1 (f := f) j h2; omega
    · rw [show n = a + ((j + 1 : Nat) : Int) by omega]; omega
def oneM (c : Cav) (u : Nat) : Mea := ⟨⟨false, c.slices.len, oneW u⟩, 0⟩
section
variable {c : Cav} (hc : CavOk c) {s : Stg} (hs : StgOk c.slices.len s)
include hc hs
end
end Go.Sim.Le


namespace Go.Sim.Le
open Go.Proofs
section
variable {c : Cav} (hc : CavOk c)
include hc
end
variable (F d : Nat)
section
variable {c : Cav} (hc : CavOk c) {l : Sl Stg} (h8 : l.len ≤ 8) (hl : ∀ i, i < l.len → StgOk c.slices.len (l.el i)) (hF : 1000000000 < F)
include hc h8 hl hF
def afterR (c : Cav) (l : Nat → Stg) (n : Nat) : List V := [sl eSpan 2 (tabP (saltS c l n) c.slices.len), sl eSpan 2 (tabP (volK c l n) c.slices.len), .int .i64 (boundS c l (sumpM c) n).lo, .int .i64 (boundS c l (sumpM c) n).hi]
end
end Go.Sim.Le


namespace Go.Sim.Le
open Go.Proofs
variable (F d : Nat)
end Go.Sim.Le


namespace Go.Sim.Le
open Go.Proofs
def rotF {α : Type} (l : Nat → α) (n q u : Nat) : α := if u < n - q then l (u + q) else l (u - (n - q))
def narrow (d : Int) (x : Slc) : Slc := { x with vol := ⟨x.vol.lo, x.vol.hi - min d (x.vol.hi - x.vol.lo)⟩, rate := ⟨x.rate.lo + min d (x.rate.hi - x.rate.lo), x.rate.hi⟩ }
def narrowC (d : Int) (c : Cav) : Cav := { c with slices := ⟨false, c.slices.len, fun u => if u < c.slices.len then narrow d (c.slices.el u) else c.slices.el u⟩ }
section
variable {d : Int} (hd : 0 ≤ d) {c : Cav} (hc : CavOk c) {s : Stg} (hs : StgOk c.slices.len s)
include hd hc hs
end
section
variable {d : Int} (hd : 0 ≤ d) {c : Cav} (hc : CavOk c) {l : Nat → Stg} {n : Nat} (hl : ∀ i, i < n → StgOk c.slices.len (l i))
include hd hc hl
end
def moreL (d : Int) (q : Nat) (l : Nat → Stg) (u : Nat) : Stg := if u = q then { l u with water := min 1000000 ((l u).water + d) } else l u
section
variable {d : Int} (hd : 0 ≤ d) {c : Cav} (hc : CavOk c) {l : Nat → Stg} {n : Nat} (hl : ∀ i, i < n → StgOk c.slices.len (l i)) (q : Nat)
include hd hl
include hc
end
end Go.Sim.Le


namespace Go.Sim.Le
open Go.Proofs
section
variable {d : Int} (hd : 0 ≤ d) {c : Cav} (hc : CavOk c) {s : Stg} (hs : StgOk c.slices.len s)
include hd hc hs
end
variable (F d : Nat)
section
variable {c : Cav} (hc : CavOk c) {l : Sl Stg} (h8 : l.len ≤ 8) (hl : ∀ i, i < l.len → StgOk c.slices.len (l.el i)) (hF : 1000000000 < F)
include hc h8 hl hF
end
end Go.Sim.Le


namespace Go.Sim.Le
open Go.Proofs
variable (F d : Nat)
end Go.Sim.Le


namespace Go.Sim.Le
open Go.Proofs
def trueM (c : Cav) (l : Nat → Stg) (t : Truth) (m : Mea) (j : Nat) : Int := sumF (fun i => m.weights.el i * volS c l t j i) c.slices.len + m.sump * sumpS c l t j
theorem timesS_mem {p : Span} {n x : Int} (h1 : p.lo ≤ x) (h2 : x ≤ p.hi) : (timesS p n).lo ≤ n * x ∧ n * x ≤ (timesS p n).hi := by
  unfold timesS
  by_cases h : n < 0
  · rw [if_pos h]
    exact ⟨Int.mul_le_mul_of_nonpos_left (by omega) h2, Int.mul_le_mul_of_nonpos_left (by omega) h1⟩
  · rw [if_neg h]
    exact ⟨Int.mul_le_mul_of_nonneg_left h1 (by omega), Int.mul_le_mul_of_nonneg_left h2 (by omega)⟩
section
variable {c : Cav} (hc : CavOk c) {s : Stg} (hs : StgOk c.slices.len s) (w : Nat → Int) (hw : RatesOk c w)
include hc hs hw
theorem play_rest (m : Mea) : ∀ r, r ≤ pathN s → (restS c m s r (c.hold - (tkT c s w (pathN s - r)).1)).lo ≤ pathSum c s w (gainI c m) (pathN s) - pathSum c s w (gainI c m) (pathN s - r) ∧ pathSum c s w (gainI c m) (pathN s) - pathSum c s w (gainI c m) (pathN s - r) ≤ (restS c m s r (c.hold - (tkT c s w (pathN s - r)).1)).hi := by
  intro r
  induction r with
  | zero => intro _; simp [restS]
  | succ r ih =>
    intro h
    have i := ih (by omega)
    have ho : SpanIn (slAt c s (pathN s - (r + 1))).rate 0 300 := (slcOk_at hc hs (k := pathN s - (r + 1)) (by omega)).2.2.2.1
    unfold SpanIn at ho
    have hin := pathAt_in hs (k := pathN s - (r + 1)) (by omega)
    have hwr : (slAt c s (pathN s - (r + 1))).rate.lo ≤ w (pathAt s (pathN s - (r + 1))).toNat ∧ w (pathAt s (pathN s - (r + 1))).toNat ≤ (slAt c s (pathN s - (r + 1))).rate.hi := hw _ (by omega)
    have hS : pathN s - r = pathN s - (r + 1) + 1 := by omega
    rw [hS] at i
    simp only [pathSum, tkT] at i
    simp only [restS]
    generalize hk : pathN s - (r + 1) = k at *
    have hn : min (w (pathAt s k).toNat) (c.hold - (tkT c s w k).1) = takeN c s w k := rfl
    rw [hn] at i
    have hn1 : min (slAt c s k).rate.lo (c.hold - (tkT c s w k).1) ≤ takeN c s w k := by unfold takeN; omega
    have hn2 : takeN c s w k ≤ min (slAt c s k).rate.hi (c.hold - (tkT c s w k).1) := by unfold takeN; omega
    generalize hg : gainI c m (pathAt s k).toNat = g at *
    rw [show c.hold - ((tkT c s w k).1 + takeN c s w k) = c.hold - (tkT c s w k).1 - takeN c s w k by omega] at i
    generalize hb : c.hold - (tkT c s w k).1 = b at *
    have e1 := le_bestHi (f := fun n => (restS c m s r (b - n)).hi + n * g) hn1 (min (slAt c s k).rate.hi b - min (slAt c s k).rate.lo b).toNat (by omega)
    have e2 := bestLo_le (f := fun n => (restS c m s r (b - n)).lo + n * g) hn1 (min (slAt c s k).rate.hi b - min (slAt c s k).rate.lo b).toNat (by omega)
    rw [Int.mul_comm g] at i
    omega
theorem play_grown (m : Mea) : (grownS c m s).lo ≤ s.water * pathSum c s w (gainI c m) (pathN s) ∧ s.water * pathSum c s w (gainI c m) (pathN s) ≤ (grownS c m s).hi := by
  have h := play_rest hc hs w hw m (pathN s) (Nat.le_refl _)
  rw [Nat.sub_self] at h
  simp only [tkT, pathSum, Int.sub_zero] at h
  unfold grownS
  exact timesS_mem h.1 h.2
end
theorem pathSum_lin {c : Cav} {s : Stg} {w : Nat → Int} (f g : Nat → Int) (x : Int) : ∀ k, pathSum c s w (fun i => f i + g i * x) k = pathSum c s w f k + x * pathSum c s w g k
  | 0 => by simp [pathSum]
  | k + 1 => by
    simp only [pathSum]
    rw [pathSum_lin f g x k, Int.add_mul, Int.mul_add]
    have : g (pathAt s k).toNat * x * takeN c s w k = x * (g (pathAt s k).toNat * takeN c s w k) := by rw [Int.mul_comm (g (pathAt s k).toNat), Int.mul_assoc]
    omega
section
variable {c : Cav} (hc : CavOk c) {n : Nat} {l : Nat → Stg} (hl : ∀ i, i < n → StgOk c.slices.len (l i)) {t : Truth} (ht : TruthOk c n t)
include hl in
theorem true_step (m : Mea) {j : Nat} (hj : j < n) : trueM c l t m (j + 1) = trueM c l t m j + (l j).water * pathSum c (l j) (wK t j) (gainI c m) (pathN (l j)) := by
  have hs := hl j hj
  have e1 : sumF (fun i => m.weights.el i * volS c l t (j + 1) i) c.slices.len = sumF (fun i => m.weights.el i * volS c l t j i) c.slices.len + (l j).water * pathSum c (l j) (wK t j) (fun i => (c.slices.el i).opn * m.weights.el i) (pathN (l j)) := by
    rw [← take_sum hs (wK t j) (fun i => (c.slices.el i).opn * m.weights.el i) (pathN (l j)) (Nat.le_refl _), ← sumF_mul, ← sumF_add]
    refine sumF_cong _ fun i _ => ?_
    simp only [volS, opnF]
    rw [Int.mul_add]
    congr 1
    rw [← Int.mul_assoc, Int.mul_comm (m.weights.el i), Int.mul_assoc]
    simp only [Int.mul_assoc]
  have e2 : pathSum c (l j) (wK t j) (gainI c m) (pathN (l j)) = pathSum c (l j) (wK t j) (fun i => (c.slices.el i).opn * m.weights.el i) (pathN (l j)) + m.sump * pathSum c (l j) (wK t j) (fallF c) (pathN (l j)) := pathSum_lin (fun i => (c.slices.el i).opn * m.weights.el i) (fallF c) m.sump _
  unfold trueM
  rw [e1, e2]
  simp only [sumpS]
  rw [Int.mul_add, Int.mul_add, Int.mul_left_comm m.sump]
  omega
include hc hl ht
end
theorem sumF_one (f : Nat → Int) (u : Nat) : ∀ n, sumF (fun i => oneW u i * f i) n = if u < n then f u else 0
  | 0 => rfl
  | n + 1 => by
    simp only [sumF]
    rw [sumF_one f u n]
    unfold oneW
    by_cases h1 : n = u
    · subst h1; rw [if_neg (by omega), if_pos rfl, if_pos (by omega)]; omega
    · rw [if_neg h1]
      by_cases h2 : u < n
      · rw [if_pos h2, if_pos (by omega)]; omega
      · rw [if_neg h2, if_neg (by omega)]; omega
section
variable {c : Cav} (hc : CavOk c) {n : Nat} {l : Nat → Stg} (hl : ∀ i, i < n → StgOk c.slices.len (l i)) {t : Truth} (ht : TruthOk c n t)
include hc hl ht
def takenS (l : Nat → Stg) (t : Truth) (c : Cav) (u : Nat) : Nat → Int
  | 0 => 0
  | j + 1 => takenS l t c u j + (l j).water * takeRow c (l j) (wK t j) (pathN (l j)) u
end
end Go.Sim.Le


namespace Go.Sim.Le
open Go.Proofs
variable (F d : Nat)
section
variable {c : Cav} (hc : CavOk c) {l : Sl Stg} (h8 : l.len ≤ 8) (hl : ∀ i, i < l.len → StgOk c.slices.len (l.el i)) {t : Truth} (ht : TruthOk c l.len t)
include hc h8 hl ht
end
end Go.Sim.Le


namespace Go.Sim.Le
open Go.Proofs
def tP (t : Truth) (k : Nat) : Truth := ⟨t.vols, ⟨t.rates.nl, k, t.rates.el⟩⟩
def deepF (x y : Int) (v : Nat → Int) (u : Nat) : Int := if (u : Int) ≤ x ∧ (u : Int) ≤ y then v u else 0
def highF' (b : Int) (v : Nat → Int) (u : Nat) : Int := if (u : Int) ≥ b then v u else 0
variable (F d : Nat)
end Go.Sim.Le


namespace Go.Sim.Le
open Go.Proofs
variable (F d : Nat)
section
variable {c : Cav} (hc : CavOk c) {l : Sl Stg} (h8 : l.len ≤ 8) (hl : ∀ i, i < l.len → StgOk c.slices.len (l.el i)) {t : Truth} (ht : TruthOk c l.len t) (hF : 1000000000 < F) (hnl : t.vols.nl = true → t.vols.len = 0)
include hc h8 hl ht hF hnl
end
end Go.Sim.Le


namespace Go.Sim.Le
open Go.Proofs
theorem bestHi_mem {f : Int → Int} {a : Int} : ∀ j : Nat, ∃ n, a ≤ n ∧ n ≤ a + j ∧ bestHi f a j = f n
  | 0 => ⟨a, by omega, by omega, rfl⟩
  | j + 1 => by
    obtain ⟨n, h1, h2, h3⟩ := bestHi_mem (f := f) (a := a) j
    by_cases h : bestHi f a j ≤ f (a + ((j + 1 : Nat) : Int))
    · exact ⟨a + ((j + 1 : Nat) : Int), by omega, by omega, by simp only [bestHi]; omega⟩
    · exact ⟨n, h1, by omega, by simp only [bestHi]; omega⟩
theorem tk_cong {c : Cav} {s : Stg} {w w' : Nat → Int} (g : Nat → Int) : ∀ k, (∀ i, i < k → w (pathAt s i).toNat = w' (pathAt s i).toNat) → tkT c s w k = tkT c s w' k ∧ pathSum c s w g k = pathSum c s w' g k
  | 0, _ => ⟨rfl, rfl⟩
  | k + 1, h => by
    obtain ⟨h1, h2⟩ := tk_cong g k fun i hi => h i (by omega)
    have h3 := h k (by omega)
    constructor
    · simp only [tkT]; rw [h1, h3]
    · simp only [pathSum, takeN]; rw [h1, h2, h3]
section
variable {c : Cav} (hc : CavOk c) {s : Stg} (hs : StgOk c.slices.len s)
include hc hs
theorem rest_hit (m : Mea) : ∀ r, r ≤ pathN s → ∀ w0, RatesOk c w0 → ∃ w, RatesOk c w ∧ (∀ i, i < pathN s - r → w (pathAt s i).toNat = w0 (pathAt s i).toNat) ∧
    pathSum c s w (gainI c m) (pathN s) - pathSum c s w (gainI c m) (pathN s - r) = (restS c m s r (c.hold - (tkT c s w (pathN s - r)).1)).hi := by
  intro r
  induction r with
  | zero => intro _ w0 hw; exact ⟨w0, hw, fun _ _ => rfl, by simp [restS]⟩
  | succ r ih =>
    intro h w0 hw
    have ho : SpanIn (slAt c s (pathN s - (r + 1))).rate 0 300 := (slcOk_at hc hs (k := pathN s - (r + 1)) (by omega)).2.2.2.1
    unfold SpanIn at ho
    have hin := pathAt_in hs (k := pathN s - (r + 1)) (by omega)
    have hwr : (slAt c s (pathN s - (r + 1))).rate.lo ≤ w0 (pathAt s (pathN s - (r + 1))).toNat ∧ w0 (pathAt s (pathN s - (r + 1))).toNat ≤ (slAt c s (pathN s - (r + 1))).rate.hi := hw _ (by omega)
    have hI := ih (by omega)
    have hS : pathN s - r = pathN s - (r + 1) + 1 := by omega
    rw [hS] at hI
    simp only [restS]
    generalize hk : pathN s - (r + 1) = k at *
    have hsl : slAt c s k = c.slices.el (pathAt s k).toNat := rfl
    generalize hg : gainI c m (pathAt s k).toNat = g at *
    obtain ⟨n, n1, n2, n3⟩ := bestHi_mem (f := fun n => (restS c m s r (c.hold - (tkT c s w0 k).1 - n)).hi + n * g) (a := min (slAt c s k).rate.lo (c.hold - (tkT c s w0 k).1)) (min (slAt c s k).rate.hi (c.hold - (tkT c s w0 k).1) - min (slAt c s k).rate.lo (c.hold - (tkT c s w0 k).1)).toNat
    have hw1 : RatesOk c (fun u => if u = (pathAt s k).toNat then max (slAt c s k).rate.lo n else w0 u) := fun i hi => by
      by_cases h1 : i = (pathAt s k).toNat
      · simp only [if_pos h1]
        rw [h1, ← hsl]
        omega
      · simp only [if_neg h1]
        exact hw i hi
    obtain ⟨w, w1, w2, w3⟩ := hI _ hw1
    have w4 : ∀ i, i < k → w (pathAt s i).toNat = w0 (pathAt s i).toNat := fun i hi => by
      have hin2 := pathAt_in hs (k := i) (by omega)
      have := w2 i (by omega)
      rw [if_neg (fun e => by have := pathAt_inj (s := s) (j := i) (k := k) (by omega); omega)] at this
      exact this
    have w5 : w (pathAt s k).toNat = max (slAt c s k).rate.lo n := by
      have := w2 k (by omega)
      rw [if_pos rfl] at this
      exact this
    have hT := (tk_cong (c := c) (s := s) (gainI c m) k w4).1
    have hn : takeN c s w k = n := by
      unfold takeN
      rw [w5, hT]
      omega
    have hn' : min (w (pathAt s k).toNat) (c.hold - (tkT c s w k).1) = n := hn
    refine ⟨w, w1, w4, ?_⟩
    simp only [pathSum, tkT, hn, hn', hg] at w3
    rw [hT] at w3 ⊢
    rw [n3]
    rw [show c.hold - (tkT c s w0 k).1 - n = c.hold - ((tkT c s w0 k).1 + n) by omega]
    rw [Int.mul_comm g] at w3
    omega
theorem loRates : RatesOk c (fun u => (c.slices.el u).rate.lo) := fun i hi => by
  have ho : SpanIn (c.slices.el i).rate 0 300 := (hc.2.2.2 i hi).2.2.2.1
  exact ⟨Int.le_refl _, ho.2.1⟩
theorem hit_hi (m : Mea) : ∃ w, RatesOk c w ∧ pathSum c s w (gainI c m) (pathN s) = (restS c m s (pathN s) c.hold).hi := by
  obtain ⟨w, h1, _, h3⟩ := rest_hit hc hs m (pathN s) (Nat.le_refl _) _ (loRates hc hs)
  refine ⟨w, h1, ?_⟩
  rw [Nat.sub_self] at h3
  simp only [tkT, pathSum, Int.sub_zero] at h3
  exact h3
end
end Go.Sim.Le


namespace Go.Sim.Le
open Go.Proofs
abbrev slK (k : Nat) (r : List Int) : Sl Int := ⟨false, k, fun j => r.getD j (r.getLastD 0)⟩
abbrev slI (r : List Int) : Sl Int := slK r.length r
theorem slI_map {f : Nat → Int} {n k j : Nat} (h : j < k) : (slK n ((List.range k).map f)).el j = f j := by
  simp only [List.getD_eq_getElem?_getD, List.getElem?_map, List.getElem?_range h, Option.map_some, Option.getD_some]
def radW (c : Cav) (i : Nat) : Int := (c.slices.el i).rate.hi - (c.slices.el i).rate.lo + 1
def xd (c : Cav) (x : Int) : Nat → Int
  | 0 => x
  | i + 1 => xd c x i / radW c i
def dg (c : Cav) (x : Int) (i : Nat) : Int := (c.slices.el i).rate.lo + xd c x i % radW c i
def manyW (c : Cav) : Nat → Int
  | 0 => 1
  | i + 1 => manyW c i * radW c i
def numW (c : Cav) (w : Nat → Int) : Nat → Nat → Int
  | 0, _ => 0
  | j + 1, i => (w i - (c.slices.el i).rate.lo) + radW c i * numW c w j (i + 1)
section
variable {c : Cav} (hc : CavOk c)
include hc
theorem rad_pos {i : Nat} (hi : i < c.slices.len) : 1 ≤ radW c i := by
  have ho : SpanIn (c.slices.el i).rate 0 300 := (hc.2.2.2 i hi).2.2.2.1
  unfold SpanIn at ho
  unfold radW
  omega
theorem xd_nn {x : Int} (hx : 0 ≤ x) : ∀ i, i ≤ c.slices.len → 0 ≤ xd c x i ∧ xd c x i ≤ x
  | 0, _ => ⟨hx, Int.le_refl _⟩
  | i + 1, h => by
    have h1 := xd_nn hx i (by omega)
    have h2 := rad_pos hc (i := i) (by omega)
    simp only [xd]
    refine ⟨Int.ediv_nonneg h1.1 (by omega), Int.le_trans (Int.ediv_le_self _ h1.1) h1.2⟩
theorem dg_in {x : Int} {i : Nat} (hi : i < c.slices.len) : (c.slices.el i).rate.lo ≤ dg c x i ∧ dg c x i ≤ (c.slices.el i).rate.hi := by
  have h2 := rad_pos hc hi
  have h3 := Int.emod_nonneg (xd c x i) (show radW c i ≠ 0 by omega)
  have h4 := Int.emod_lt_of_pos (xd c x i) (show 0 < radW c i by omega)
  unfold dg
  unfold radW at *
  omega
theorem many_in : ∀ i, i ≤ c.slices.len → (∀ k, k < i → radW c k ≤ 5) → 1 ≤ manyW c i ∧ manyW c i ≤ 5 ^ i
  | 0, _, _ => by simp [manyW]
  | i + 1, h, hr => by
    have h1 := many_in i (by omega) fun k hk => hr k (by omega)
    have h2 := rad_pos hc (i := i) (by omega)
    have h3 := hr i (by omega)
    simp only [manyW]
    constructor
    · have := Int.mul_le_mul (a := 1) (c := manyW c i) (b := 1) (d := radW c i) h1.1 h2 (by omega) (by omega)
      omega
    · rw [Int.pow_succ]
      exact Int.mul_le_mul h1.2 h3 (by omega) (by omega)
theorem num_lt {w : Nat → Int} (hw : RatesOk c w) : ∀ j i, i + j ≤ c.slices.len → 0 ≤ manyW c i → 0 ≤ numW c w j i ∧ manyW c i * (numW c w j i + 1) ≤ manyW c (i + j)
  | 0, i, _, _ => by simp [numW]
  | j + 1, i, h, hm => by
    have h2 := rad_pos hc (i := i) (by omega)
    have hm1 : 0 ≤ manyW c (i + 1) := Int.mul_nonneg hm (by omega)
    obtain ⟨h3, h4⟩ := num_lt hw j (i + 1) (by omega) hm1
    have h5 := hw i (by omega)
    have h6 : 0 ≤ radW c i * numW c w j (i + 1) := Int.mul_nonneg (by omega) h3
    simp only [numW]
    refine ⟨by omega, ?_⟩
    rw [show i + (j + 1) = i + 1 + j by omega]
    refine Int.le_trans ?_ h4
    simp only [manyW]
    rw [Int.mul_assoc]
    refine Int.mul_le_mul_of_nonneg_left ?_ hm
    rw [Int.mul_add, Int.mul_one]
    unfold radW
    unfold radW at h6
    omega
theorem xd_num {w : Nat → Int} (hw : RatesOk c w) : ∀ i, i ≤ c.slices.len → xd c (numW c w c.slices.len 0) i = numW c w (c.slices.len - i) i
  | 0, _ => rfl
  | i + 1, h => by
    have h2 := rad_pos hc (i := i) (by omega)
    have h5 := hw i (by omega)
    simp only [xd]
    rw [xd_num hw i (by omega), show c.slices.len - i = (c.slices.len - (i + 1)) + 1 by omega]
    simp only [numW]
    rw [Int.add_mul_ediv_left _ _ (by omega), Int.ediv_eq_zero_of_lt (by omega) (by unfold radW; omega), Int.zero_add]
theorem dg_num {w : Nat → Int} (hw : RatesOk c w) {i : Nat} (hi : i < c.slices.len) : dg c (numW c w c.slices.len 0) i = w i := by
  have h5 := hw i hi
  unfold dg
  rw [xd_num hc hw i (by omega), show c.slices.len - i = (c.slices.len - (i + 1)) + 1 by omega]
  simp only [numW]
  rw [Int.add_mul_emod_self_left, Int.emod_eq_of_lt (by omega) (by unfold radW; omega)]
  omega
theorem all_met {w : Nat → Int} (hw : RatesOk c w) : ∃ n : Nat, (n : Int) < manyW c c.slices.len ∧ ∀ i, i < c.slices.len → dg c n i = w i := by
  obtain ⟨h1, h2⟩ := num_lt hc hw c.slices.len 0 (by omega) (by simp [manyW])
  rw [Nat.zero_add, show manyW c 0 = 1 from rfl, Int.one_mul] at h2
  refine ⟨(numW c w c.slices.len 0).toNat, by omega, fun i hi => ?_⟩
  rw [Int.toNat_of_nonneg h1]
  exact dg_num hc hw hi
end
def truthX (k : Nat) (vs rs : List Int) : Truth := ⟨slK k vs, ⟨false, 1, fun _ => slK k rs⟩⟩
def rts (c : Cav) (x : Int) (k : Nat) : List Int := (List.range k).map (dg c x)
def lowV (c : Cav) (w : Nat → Int) (i : Nat) : Int := if w i < 0 then (c.slices.el i).vol.hi else (c.slices.el i).vol.lo
def highV (c : Cav) (w : Nat → Int) (i : Nat) : Int := if w i < 0 then (c.slices.el i).vol.lo else (c.slices.el i).vol.hi
def vls (f : Nat → Int) (k : Nat) : List Int := (List.range k).map f
section
variable {c : Cav} (hc : CavOk c)
include hc
theorem truthX_ok {f : Nat → Int} (hf : ∀ i, i < c.slices.len → (c.slices.el i).vol.lo ≤ f i ∧ f i ≤ (c.slices.el i).vol.hi) (x : Int) : TruthOk c 1 (truthX c.slices.len (vls f c.slices.len) (rts c x c.slices.len)) := by
  refine ⟨rfl, rfl, fun i hi => ?_, fun k _ => ⟨rfl, fun i hi => ?_⟩⟩
  · have hi2 : i < c.slices.len := hi
    show _ ≤ (slK c.slices.len (vls f c.slices.len)).el i ∧ (slK c.slices.len (vls f c.slices.len)).el i ≤ _
    unfold vls
    rw [slI_map hi2]
    exact hf i hi2
  · show _ ≤ (slK c.slices.len (rts c x c.slices.len)).el i ∧ (slK c.slices.len (rts c x c.slices.len)).el i ≤ _
    unfold rts
    rw [slI_map hi]
    exact dg_in hc hi
omit hc in
theorem high_sum (m : Mea) : ∀ k, sumF (fun i => m.weights.el i * highV c m.weights.el i) k = (firstS c m k).hi
  | 0 => rfl
  | k + 1 => by
    simp only [sumF, firstS, addS, timesS]
    rw [high_sum m k]
    unfold highV
    split <;> rfl
theorem trueX {s : Stg} (hs : StgOk c.slices.len s) (f : Nat → Int) (x : Int) (m : Mea) :
    trueM c (fun _ => s) (truthX c.slices.len (vls f c.slices.len) (rts c x c.slices.len)) m 1 = sumF (fun i => m.weights.el i * f i) c.slices.len + s.water * pathSum c s (dg c x) (gainI c m) (pathN s) := by
  rw [true_step (n := 1) (l := fun _ => s) (fun _ _ => hs) m (by omega)]
  congr 1
  · unfold trueM
    simp only [sumpS, Int.mul_zero, Int.add_zero]
    refine sumF_cong _ fun i hi => ?_
    simp only [volS]
    show _ * (slK c.slices.len (vls f c.slices.len)).el i = _
    unfold vls
    rw [slI_map hi]
  · congr 1
    refine (tk_cong (gainI c m) _ fun i hi => ?_).2
    have hin := pathAt_in hs (k := i) hi
    show (slK c.slices.len (rts c x c.slices.len)).el _ = _
    unfold rts
    rw [slI_map (by omega)]
theorem dg_rates (x : Int) : RatesOk c (dg c x) := fun _ hi => dg_in hc hi
theorem bound1 (s : Stg) (m : Mea) : boundS c (fun _ => s) m 1 = addS (firstS c m c.slices.len) (grownS c m s) := rfl
omit hc in
theorem water_grown (s : Stg) (hs : 1 ≤ s.water) (m : Mea) : (grownS c m s).lo = s.water * (restS c m s (pathN s) c.hold).lo ∧ (grownS c m s).hi = s.water * (restS c m s (pathN s) c.hold).hi := by
  unfold grownS timesS
  rw [if_neg (by omega)]
  exact ⟨rfl, rfl⟩
theorem sharp_hi {s : Stg} (hs : StgOk c.slices.len s) (m : Mea) : (∀ x, trueM c (fun _ => s) (truthX c.slices.len (vls (highV c m.weights.el) c.slices.len) (rts c x c.slices.len)) m 1 ≤ (boundS c (fun _ => s) m 1).hi) ∧
    ∃ n : Nat, (n : Int) < manyW c c.slices.len ∧ trueM c (fun _ => s) (truthX c.slices.len (vls (highV c m.weights.el) c.slices.len) (rts c n c.slices.len)) m 1 = (boundS c (fun _ => s) m 1).hi := by
  have hg := water_grown (c := c) s hs.1.1 m
  constructor
  · intro x
    have h := play_grown hc hs (dg c x) (dg_rates hc x) m
    rw [trueX hc hs, high_sum, bound1 hc]
    simp only [addS]
    omega
  · obtain ⟨w, h1, h2⟩ := hit_hi hc hs m
    obtain ⟨n, h3, h4⟩ := all_met hc h1
    refine ⟨n, h3, ?_⟩
    have h5 : pathSum c s (dg c n) (gainI c m) (pathN s) = pathSum c s w (gainI c m) (pathN s) := (tk_cong (gainI c m) _ fun i hi => by
      have hin := pathAt_in hs (k := i) hi
      exact h4 _ (by omega)).2
    rw [trueX hc hs, high_sum, h5, h2, bound1 hc]
    simp only [addS]
    omega
end
theorem vls_snoc (f : Nat → Int) (k : Nat) : vls f (k + 1) = vls f k ++ [f k] := by simp [vls, List.range_succ]
theorem rts_snoc (c : Cav) (x : Int) (k : Nat) : rts c x (k + 1) = rts c x k ++ [dg c x k] := by simp [rts, List.range_succ]
theorem vls_len (f : Nat → Int) (k : Nat) : (vls f k).length = k := by simp [vls]
theorem rts_len (c : Cav) (x : Int) (k : Nat) : (rts c x k).length = k := by simp [rts]
def mnR (f : Nat → Int) : Nat → Int
  | 0 => 0
  | k + 1 => if k = 0 then f 0 else if f k < mnR f k then f k else mnR f k
def mxR (f : Nat → Int) : Nat → Int
  | 0 => 0
  | k + 1 => if k = 0 then f 0 else if f k > mxR f k then f k else mxR f k
end Go.Sim.Le


namespace Go.Sim.Le
open Go.Proofs
variable (F d : Nat)
def pLo (c : Cav) (s : Stg) (m : Mea) (q : Nat) : Int := trueM c (fun _ => s) (truthX c.slices.len (vls (lowV c m.weights.el) c.slices.len) (rts c q c.slices.len)) m 1
def pHi (c : Cav) (s : Stg) (m : Mea) (q : Nat) : Int := trueM c (fun _ => s) (truthX c.slices.len (vls (highV c m.weights.el) c.slices.len) (rts c q c.slices.len)) m 1
section
variable {c : Cav} (hc : CavOk c) (h3 : c.slices.len ≤ 3) (hr : ∀ i, i < c.slices.len → radW c i ≤ 5) {s : Stg} (hs : StgOk c.slices.len s) (hF : 1000000000 < F)
include hc h3 hr hs hF
theorem q44x {f : Nat → Int} (hf : ∀ i, i < c.slices.len → (c.slices.el i).vol.lo ≤ f i ∧ f i ≤ (c.slices.el i).vol.hi) (x : Int) :
    (E F (d + 8)).pf 44 [.agg (eCav c), .row false 1 4 (fun _ => eStg s), .agg [.row false c.slices.len 1 (gl eInt 0 (vls f c.slices.len)), .row false 1 1 (fun _ => [.row false c.slices.len 1 (gl eInt 0 (rts c x c.slices.len))])]] = some (.ret (.tup [.agg (endV c (fun _ => s) (truthX c.slices.len (vls f c.slices.len) (rts c x c.slices.len)) 1), .int .i64 0])) := by
  have hcl := hc.1
  have ht := truthX_ok hc hf x
  have hE : errP c ⟨false, 1, fun _ => s⟩ true = 0 := errP_0.2 ⟨by show 1 ≤ 8; omega, hc, fun _ _ => hs, rfl⟩
  have e := s44 F d c ⟨false, 1, fun _ => s⟩ (truthX c.slices.len (vls f c.slices.len) (rts c x c.slices.len)) (by show _ < 4611686018427387904; omega) (by omega) (by show 1 < 4611686018427387904; omega) (by show 1 < F; omega) (by show 1 < 4611686018427387904; omega) (by show 1 < F; omega) (by intro h; cases h) (by omega)
  rw [if_pos ⟨hE, ht⟩] at e
  exact e
theorem q45x {f : Nat → Int} (hf : ∀ i, i < c.slices.len → (c.slices.el i).vol.lo ≤ f i ∧ f i ≤ (c.slices.el i).vol.hi) (x : Int) :
    (E F (d + 1)).pf 45 [.agg (eCav c), .agg (endV c (fun _ => s) (truthX c.slices.len (vls f c.slices.len) (rts c x c.slices.len)) 1)] = some (.ret (.bool true)) :=
  s45 F d hc (l := ⟨false, 1, fun _ => s⟩) (by show 1 ≤ 8; omega) (fun _ _ => hs) (truthX_ok hc hf x) hF
end
section
variable {c : Cav} (hc : CavOk c) (h3 : c.slices.len ≤ 3) {s : Stg} (hs : StgOk c.slices.len s) (hF : 1000000000 < F)
include hc h3 hs hF
end
end Go.Sim.Le


namespace Go.Sim.Le
open Go.Proofs
variable (F d : Nat)
def tL (c : Cav) (q : Nat) : Truth := truthX c.slices.len (vls (fun i => (c.slices.el i).vol.lo) c.slices.len) (rts c q c.slices.len)
def tH (c : Cav) (q : Nat) : Truth := truthX c.slices.len (vls (fun i => (c.slices.el i).vol.hi) c.slices.len) (rts c q c.slices.len)
def Flaw (c : Cav) (s : Stg) (r : Int) (o q : Nat) : Prop := (r = 5 ∧ volS c (fun _ => s) (tH c q) 1 o > (c.slices.el o).most) ∨ (r = 3 ∧ sumpS c (fun _ => s) (tL c q) 1 > sumF (volS c (fun _ => s) (tL c q) 1) (o + 1))
theorem fault1 (c : Cav) (s : Stg) : faultR c (fun _ => s) 1 0 = (0, 2, topOf s) ∨ (buriedB c (fun _ => s) 0 = true ∧ faultR c (fun _ => s) 1 0 = (0, 3, lowOf s)) ∨ faultR c (fun _ => s) 1 0 = (0, 4, s.blanket) ∨
    ((wideR c (fun _ => s) 0 c.slices.len 0).2 = true ∧ faultR c (fun _ => s) 1 0 = (0, 5, (wideR c (fun _ => s) 0 c.slices.len 0).1)) ∨ faultR c (fun _ => s) 1 0 = (-1, 1, 0) := by
  simp only [faultR]
  cases decide (topOf s ≥ s.blanket) with
  | true => exact .inl rfl
  | false =>
    cases buriedB c (fun _ => s) 0 with
    | true => exact .inr (.inl ⟨rfl, rfl⟩)
    | false =>
      cases oiledB c (fun _ => s) 0 with
      | true => exact .inr (.inr (.inl rfl))
      | false =>
        cases (wideR c (fun _ => s) 0 c.slices.len 0).2 with
        | true => exact .inr (.inr (.inr (.inl ⟨rfl, rfl⟩)))
        | false => exact .inr (.inr (.inr (.inr rfl)))
theorem sum_bury (v : Nat → Int) (o n : Nat) : ∀ k, k ≤ n → sumF (fun i => meaW 0 o n i * v i) k = -sumF v (min k (o + 1))
  | 0, _ => by simp [sumF]
  | k + 1, h => by
    simp only [sumF]
    rw [sum_bury v o n k (by omega)]
    unfold meaW wv
    rw [if_pos (by omega)]
    by_cases h1 : k ≤ o
    · rw [if_pos ⟨rfl, by omega⟩, show min (k + 1) (o + 1) = k + 1 by omega, show min k (o + 1) = k by omega]
      simp only [sumF]
      omega
    · rw [if_neg (by omega), if_neg (by omega), show min (k + 1) (o + 1) = o + 1 by omega, show min k (o + 1) = o + 1 by omega]
      omega
section
variable {c : Cav} (hc : CavOk c) {s : Stg} (hs : StgOk c.slices.len s)
include hc
theorem lo_in : ∀ i, i < c.slices.len → (c.slices.el i).vol.lo ≤ (c.slices.el i).vol.lo ∧ (c.slices.el i).vol.lo ≤ (c.slices.el i).vol.hi := fun i hi => by
  have hv : SpanIn (c.slices.el i).vol 0 10000000000000 := (hc.2.2.2 i hi).1
  unfold SpanIn at hv
  omega
theorem hi_in : ∀ i, i < c.slices.len → (c.slices.el i).vol.lo ≤ (c.slices.el i).vol.hi ∧ (c.slices.el i).vol.hi ≤ (c.slices.el i).vol.hi := fun i hi => by
  have hv : SpanIn (c.slices.el i).vol 0 10000000000000 := (hc.2.2.2 i hi).1
  unfold SpanIn at hv
  omega
include hs
theorem flaw_wide {o : Nat} (ho : o < c.slices.len) (h : (boundS c (fun _ => s) (meaS c 2 o) 1).hi > (c.slices.el o).most) : ∃ n : Nat, (n : Int) < manyW c c.slices.len ∧ Flaw c s 5 o n := by
  obtain ⟨_, n, h1, h2⟩ := sharp_hi hc hs (meaS c 2 o)
  refine ⟨n, h1, .inl ⟨rfl, ?_⟩⟩
  have e1 := trueX hc hs (fun i => (c.slices.el i).vol.hi) n (meaS c 2 o)
  rw [trueX hc hs] at h2
  have e2 : sumF (fun i => (meaS c 2 o).weights.el i * highV c (meaS c 2 o).weights.el i) c.slices.len = sumF (fun i => (meaS c 2 o).weights.el i * (c.slices.el i).vol.hi) c.slices.len := sumF_cong _ fun i hi => by
    congr 1
    unfold highV
    rw [if_neg]
    show ¬ meaW 2 o c.slices.len i < 0
    unfold meaW wv
    rw [if_pos hi, if_neg (by omega)]
    split <;> omega
  rw [e2, ← e1] at h2
  have e3 : trueM c (fun _ => s) (tH c n) (meaS c 2 o) 1 = volS c (fun _ => s) (tH c n) 1 o := by
    unfold trueM
    have := sumF_one (fun i => volS c (fun _ => s) (tH c n) 1 i) o c.slices.len
    rw [if_pos ho] at this
    rw [show (meaS c 2 o).sump = 0 from rfl, Int.zero_mul, Int.add_zero, ← this]
    refine sumF_cong _ fun i hi => ?_
    congr 1
    show meaW 2 o c.slices.len i = oneW o i
    unfold meaW wv oneW
    rw [if_pos hi, if_neg (by omega)]
    by_cases hio : i = o
    · rw [if_pos hio, if_pos (by omega)]
    · rw [if_neg hio, if_neg (by omega)]
  have h2' : trueM c (fun _ => s) (tH c n) (meaS c 2 o) 1 = _ := h2
  rw [e3] at h2'
  omega
theorem flaw_bury {o : Nat} (ho : (o : Int) = lowOf s) (h : buriedB c (fun _ => s) 0 = true) : ∃ n : Nat, (n : Int) < manyW c c.slices.len ∧ Flaw c s 3 o n := by
  have h0 : (boundS c (fun _ => s) (meaS c 0 o) 1).hi > 0 := by
    unfold buriedB at h
    have h' := of_decide_eq_true h
    unfold lowOf at ho
    simp only [← ho] at h'
    have hz : (boundS c (fun _ => s) (meaS c 0 o) 0).hi ≤ 0 := by
      show (firstS c (meaS c 0 o) c.slices.len).hi ≤ 0
      have : ∀ k, k ≤ c.slices.len → (firstS c (meaS c 0 o) k).hi ≤ 0 := by
        intro k
        induction k with
        | zero => intro _; simp [firstS]
        | succ k ih =>
          intro hk
          have i := ih (by omega)
          have hv : SpanIn (c.slices.el k).vol 0 10000000000000 := (hc.2.2.2 k (by omega)).1
          unfold SpanIn at hv
          simp only [firstS, addS]
          have ht : (timesS (c.slices.el k).vol ((meaS c 0 o).weights.el k)).hi ≤ 0 := by
            show (timesS (c.slices.el k).vol (meaW 0 o c.slices.len k)).hi ≤ 0
            unfold meaW wv
            rw [if_pos (by omega)]
            by_cases hko : (0 : Int) = 0 ∧ (k : Int) ≤ o
            · rw [if_pos hko]; unfold timesS; rw [if_pos (by omega)]; simp only; omega
            · rw [if_neg hko, if_neg (by omega)]; unfold timesS; rw [if_neg (by omega)]; simp
          omega
      exact this _ (Nat.le_refl _)
    have h'' : max (boundS c (fun _ => s) (meaS c 0 o) 0).hi (boundS c (fun _ => s) (meaS c 0 o) 1).hi > 0 := h'
    omega
  obtain ⟨_, n, h1, h2⟩ := sharp_hi hc hs (meaS c 0 o)
  refine ⟨n, h1, .inr ⟨rfl, ?_⟩⟩
  have e1 := trueX hc hs (fun i => (c.slices.el i).vol.lo) n (meaS c 0 o)
  rw [trueX hc hs] at h2
  have e2 : sumF (fun i => (meaS c 0 o).weights.el i * highV c (meaS c 0 o).weights.el i) c.slices.len = sumF (fun i => (meaS c 0 o).weights.el i * (c.slices.el i).vol.lo) c.slices.len := sumF_cong _ fun i hi => by
    have hw : (meaS c 0 o).weights.el i = if (i : Int) ≤ o then -1 else 0 := by
      show meaW 0 o c.slices.len i = _
      unfold meaW wv
      rw [if_pos hi]
      by_cases hio : (i : Int) ≤ o
      · rw [if_pos ⟨rfl, hio⟩, if_pos hio]
      · rw [if_neg (by omega), if_neg (by omega), if_neg hio]
    unfold highV
    rw [hw]
    split
    · rfl
    · simp
  rw [e2, ← e1] at h2
  have e3 : trueM c (fun _ => s) (tL c n) (meaS c 0 o) 1 = sumpS c (fun _ => s) (tL c n) 1 - sumF (volS c (fun _ => s) (tL c n) 1) (o + 1) := by
    unfold trueM
    have e4 := sum_bury (volS c (fun _ => s) (tL c n) 1) o c.slices.len c.slices.len (Nat.le_refl _)
    have hlo : o < c.slices.len := by
      obtain ⟨_, _, _, _, _⟩ := hs
      unfold lowOf at ho
      omega
    rw [show min c.slices.len (o + 1) = o + 1 by omega] at e4
    have e4' : sumF (fun i => (meaS c 0 o).weights.el i * volS c (fun _ => s) (tL c n) 1 i) c.slices.len = _ := e4
    rw [e4', show (meaS c 0 o).sump = 1 from rfl, Int.one_mul]
    omega
  have h2' : trueM c (fun _ => s) (tL c n) (meaS c 0 o) 1 = _ := h2
  rw [e3] at h2'
  omega
end
section
variable {c : Cav} (hc : CavOk c) (h3 : c.slices.len ≤ 3) (hr : ∀ i, i < c.slices.len → radW c i ≤ 5) {s : Stg} (hs : StgOk c.slices.len s) (hF : 1000000000 < F)
include hc h3 hr hs hF
theorem l16x4 (m0 q : Nat) (hq : q < 1000) (r : Int) (hrr : r = 5 ∨ r = 3) (o : Nat) (ho : o < c.slices.len) (b0 : Bool) (R : Option Out) (hy : Flaw c s r o q → some (.ret (.bool true)) = R)
    (hn : ¬ Flaw c s r o q → L16x1 (E F (d + 19)) F c s m0 (manyW c c.slices.len) .i64 r .i64 o ((q + 1 : Nat) : Int) b0 = R) (x1 x2 x3 x4 x5 x6 x7 : Int) (hb : b0 = false) :
    ∀ j i fu, i + j = o + 1 → j < fu →
    L16x4 (E F (d + 19)) F c s m0 fu (manyW c c.slices.len) .i64 r .i64 o q (sumF (volS c (fun _ => s) (tL c q) 1) i) i false c.slices.len 1 (fun i => [.int .i64 (volS c (fun _ => s) (tL c q) 1 i)]) .i64 (sumpS c (fun _ => s) (tL c q) 1) .i64 x1 .i64 x2 .i64 x3 false c.slices.len 1 (fun i => [.int .i64 (volS c (fun _ => s) (tH c q) 1 i)]) .i64 x4 .i64 x5 .i64 x6 .i64 x7 = R := by
  have hcl := hc.1
  have q21 : (E F (d + 19)).pf 21 [] = _ := s21 F d hF
  have hvL : ∀ i, i < c.slices.len → _ := fun i hi => vol_bd hc (l := fun _ => s) (n := 1) (fun _ _ => hs) (truthX_ok hc (lo_in hc) q) (i := i) hi 1 (Nat.le_refl _)
  intro j
  induction j with
  | zero =>
    intro i fu h hf
    obtain ⟨fu, rfl⟩ : ∃ k, fu = k + 1 := ⟨fu - 1, by omega⟩
    have hi : i = o + 1 := by omega
    subst hi
    have hS2 : IntKind.i64.wrap ((q : Int) + 1) = ((q + 1 : Nat) : Int) := wrS (by omega)
    subst hb
    rw [L16x4s]
    simp only [decide_true, pT]
    rw [decide_eq_false (by omega)]
    simp only [pF]
    rcases hrr with rfl | rfl
    · rw [show ((5 : Int) == 5) = true from rfl, show ((5 : Int) == 3) = false from rfl]
      simp only [pT, pF]
      rw [show ((1 : Nat) == 1) = true from rfl]
      simp (disch := omega) only [decide_eq_true, pT, Int.toNat_natCast, tkCons_c, tkInt_i, hS2]
      by_cases hfl : volS c (fun _ => s) (tH c q) 1 o > (c.slices.el o).most
      · rw [decide_eq_true hfl, pT, q21, tkOut_ret, tkBool_b]
        exact hy (.inl ⟨rfl, hfl⟩)
      · rw [decide_eq_false hfl]
        repeat rw [pF]
        simp only [decide_true, pT]; exact hn (fun hh => by rcases hh with ⟨_, hh⟩ | ⟨hh, _⟩ <;> omega)
    · rw [show ((3 : Int) == 5) = false from rfl, show ((3 : Int) == 3) = true from rfl]
      simp only [pT, pF, hS2]
      by_cases hfl : sumpS c (fun _ => s) (tL c q) 1 > sumF (volS c (fun _ => s) (tL c q) 1) (o + 1)
      · rw [decide_eq_true hfl, pT, q21, tkOut_ret, tkBool_b]
        exact hy (.inr ⟨rfl, hfl⟩)
      · rw [decide_eq_false hfl, pF]
        exact hn (fun hh => by rcases hh with ⟨hh, _⟩ | ⟨_, hh⟩ <;> omega)
  | succ j ih =>
    intro i fu h hf
    obtain ⟨fu, rfl⟩ : ∃ k, fu = k + 1 := ⟨fu - 1, by omega⟩
    have hv := hvL i (by omega)
    have hv' : 0 ≤ volS c (fun _ => s) (tL c q) 1 i ∧ volS c (fun _ => s) (tL c q) 1 i ≤ 10000000000000 + 900000000000 * 1 := hv
    have hsm := sumF_in (f := volS c (fun _ => s) (tL c q) 1) (a := 0) (b := 10900000000000) i fun u hu => by
      have : 0 ≤ volS c (fun _ => s) (tL c q) 1 u ∧ volS c (fun _ => s) (tL c q) 1 u ≤ 10000000000000 + 900000000000 * 1 := hvL u (by omega)
      omega
    have hS2 : IntKind.i64.wrap ((i : Int) + 1) = ((i + 1 : Nat) : Int) := wrS (by omega)
    have e := ih (i + 1) fu (by omega) (by omega)
    rw [L16x4s]
    simp (disch := omega) only [decide_true, decide_eq_true, pT, show ((1 : Nat) == 1) = true from rfl, Int.toNat_natCast, tkCons_c, tkInt_i, hS2]
    rw [wr (n := sumF (volS c (fun _ => s) (tL c q) 1) i + volS c (fun _ => s) (tL c q) 1 i) (by omega)]
    exact e
theorem l16x3 (m0 q : Nat) (hq : q < 1000) (r : Int) (hrr : r = 5 ∨ r = 3) (o : Nat) (ho : o < c.slices.len) (b : Bool) (R : Option Out) (hy : Flaw c s r o q → some (.ret (.bool true)) = R)
    (hn : ¬ Flaw c s r o q → L16x1 (E F (d + 19)) F c s m0 (manyW c c.slices.len) .i64 r .i64 o ((q + 1 : Nat) : Int) false = R) :
    ∀ j i fu, i + j = c.slices.len → 1 ≤ i → j < fu →
    L16x3 (E F (d + 19)) F c s m0 fu (manyW c c.slices.len) .i64 r .i64 o q (xd c q i) i b i i i (gl eInt 0 (vls (fun i => (c.slices.el i).vol.lo) i)) i i (gl eInt 0 (vls (fun i => (c.slices.el i).vol.hi) i)) i (gl eInt 0 (rts c q i)) = R := by
  have hcl := hc.1
  intro j
  induction j with
  | zero =>
    intro i fu h h1 hf
    obtain ⟨fu, rfl⟩ : ∃ k, fu = k + 1 := ⟨fu - 1, by omega⟩
    have hi : i = c.slices.len := by omega
    subst hi
    have q44l := q44x F (d + 11) hc h3 hr hs hF (lo_in hc) q
    have q44h := q44x F (d + 11) hc h3 hr hs hF (hi_in hc) q
    have q45l := q45x F (d + 18) hc h3 hr hs hF (lo_in hc) q
    have q45h := q45x F (d + 18) hc h3 hr hs hF (hi_in hc) q
    have e := fun x1 x2 x3 x4 x5 x6 x7 => l16x4 F d hc h3 hr hs hF m0 q hq r hrr o ho false R hy hn x1 x2 x3 x4 x5 x6 x7 rfl (o + 1) 0 F (by omega) (by omega)
    simp only [endV, sl, eInt] at q44l q44h q45l q45h
    rw [L16x3s, decide_eq_false (by omega), pF]
    simp only [q44l, q44h, q45l, q45h, tkOut_ret, tkBool_b, tkTup_t, tkAgg_a, tkCons_c, tkInt_i, tkRow_r, tkNil_n, Bool.not_true, pF, decide_true, pT, z0']
    exact e _ _ _ _ _ _ _
  | succ j ih =>
    intro i fu h h1 hf
    obtain ⟨fu, rfl⟩ : ∃ k, fu = k + 1 := ⟨fu - 1, by omega⟩
    have e := ih (i + 1) fu (by omega) (by omega) (by omega)
    have ho : SpanIn (c.slices.el i).rate 0 300 := (hc.2.2.2 i (by omega)).2.2.2.1
    unfold SpanIn at ho
    have hx := xd_nn hc (x := (q : Int)) (by omega) i (by omega)
    have hr1 := rad_pos hc (i := i) (by omega)
    have hdg := dg_in hc (x := (q : Int)) (i := i) (by omega)
    have hx1 := xd_nn hc (x := (q : Int)) (by omega) (i + 1) (by omega)
    have hS2 : IntKind.i64.wrap ((i : Int) + 1) = ((i + 1 : Nat) : Int) := wrS (by omega)
    rw [vls_snoc, vls_snoc, rts_snoc, ← gl_snoc (e := eInt) (z := 0) (m := (c.slices.el i).vol.lo) (k := i) (vls_len ..) rfl, ← gl_snoc (e := eInt) (z := 0) (m := (c.slices.el i).vol.hi) (k := i) (vls_len ..) rfl, ← gl_snoc (e := eInt) (z := 0) (m := dg c q i) (k := i) (rts_len ..) rfl] at e
    have hrw : IntKind.i64.wrap (IntKind.i64.wrap ((c.slices.el i).rate.hi - (c.slices.el i).rate.lo) + 1) = radW c i := by
      rw [wr (n := (c.slices.el i).rate.hi - (c.slices.el i).rate.lo) (by omega), wr (by omega)]; rfl
    rw [L16x3s]
    simp (disch := omega) only [decide_eq_true, decide_true, pT, Int.toNat_natCast, hrw, hS2]
    rw [decide_eq_false (show ¬ radW c i = 0 by omega), pF]
    rw [Int.tdiv_eq_ediv_of_nonneg hx.1, Int.tmod_eq_emod_of_nonneg hx.1]
    have hX : xd c q i / radW c i = xd c q (i + 1) := rfl
    have hD : (c.slices.el i).rate.lo + xd c q i % radW c i = dg c q i := rfl
    rw [hX, hD, wr (n := xd c q (i + 1)) (by omega), wr (n := dg c q i) (by omega)]
    simp only [pF]
    exact e
theorem l16x1 (r : Int) (hrr : r = 5 ∨ r = 3) (o : Nat) (ho : o < c.slices.len) (n : Nat) (hnm : (n : Int) < manyW c c.slices.len) (hfl : Flaw c s r o n) : ∀ j q fu b, q + j = n → j < fu →
    L16x1 (E F (d + 19)) F c s fu (manyW c c.slices.len) .i64 r .i64 o q b = some (.ret (.bool true)) := by
  have hcl := hc.1
  have hmany := many_in hc c.slices.len (Nat.le_refl _) hr
  have hle : manyW c c.slices.len ≤ 125 := by
    refine Int.le_trans hmany.2 ?_
    have h5 : (5 : Nat) ^ c.slices.len ≤ 5 ^ 3 := Nat.pow_le_pow_right (by omega) h3
    exact_mod_cast h5
  have key : ∀ q fu b, q ≤ n → (¬ Flaw c s r o q → L16x1 (E F (d + 19)) F c s fu (manyW c c.slices.len) .i64 r .i64 o ((q + 1 : Nat) : Int) false = some (.ret (.bool true))) →
      L16x1 (E F (d + 19)) F c s (fu + 1) (manyW c c.slices.len) .i64 r .i64 o q b = some (.ret (.bool true)) := by
    intro q fu b hq hn
    obtain ⟨F, rfl⟩ : ∃ k, F = k + 1 := ⟨F - 1, by omega⟩
    have ho : SpanIn (c.slices.el 0).rate 0 300 := (hc.2.2.2 0 (by omega)).2.2.2.1
    unfold SpanIn at ho
    have hr1 := rad_pos hc (i := 0) (by omega)
    have hdg := dg_in hc (x := (q : Int)) (i := 0) (by omega)
    have hx1 := xd_nn hc (x := (q : Int)) (by omega) 1 (by omega)
    have e := l16x3 (F + 1) d hc h3 hr hs hF fu q (by omega) r hrr o (by assumption) b _ (fun _ => rfl) hn (c.slices.len - 1) 1 F (by omega) (by omega) (by omega)
    rw [show vls (fun i => (c.slices.el i).vol.lo) 1 = [(c.slices.el 0).vol.lo] from rfl, show vls (fun i => (c.slices.el i).vol.hi) 1 = [(c.slices.el 0).vol.hi] from rfl, show rts c q 1 = [dg c q 0] from rfl, ← gl_one rfl, ← gl_one rfl, ← gl_one rfl] at e
    have hrw : IntKind.i64.wrap (IntKind.i64.wrap ((c.slices.el 0).rate.hi - (c.slices.el 0).rate.lo) + 1) = radW c 0 := by
      rw [wr (n := (c.slices.el 0).rate.hi - (c.slices.el 0).rate.lo) (by omega), wr (by omega)]; rfl
    rw [L16x1s, decide_eq_true (by omega), pT, L16x2s]
    simp (disch := omega) only [decide_eq_true, decide_true, pT, hrw]
    rw [decide_eq_false (show ¬ radW c 0 = 0 by omega), pF]
    rw [Int.tdiv_eq_ediv_of_nonneg (by omega), Int.tmod_eq_emod_of_nonneg (by omega)]
    have hX : (q : Int) / radW c 0 = xd c q 1 := rfl
    have hD : (c.slices.el 0).rate.lo + (q : Int) % radW c 0 = dg c q 0 := rfl
    rw [hX, hD, wr (n := xd c q 1) (by omega), wr (n := dg c q 0) (by omega), wr (n := (0 : Int) + 1) (by omega)]
    simp only [pF]
    exact e
  intro j
  induction j with
  | zero =>
    intro q fu b h hf
    obtain ⟨fu, rfl⟩ : ∃ k, fu = k + 1 := ⟨fu - 1, by omega⟩
    have hq : q = n := by omega
    subst hq
    exact key q fu b (Nat.le_refl _) fun hh => (hh hfl).elim
  | succ j ih =>
    intro q fu b h hf
    obtain ⟨fu, rfl⟩ : ∃ k, fu = k + 1 := ⟨fu - 1, by omega⟩
    exact key q fu b (by omega) fun _ => ih (q + 1) fu false (by omega) (by omega)
end
section
variable {c : Cav} (hc : CavOk c) (h3 : c.slices.len ≤ 3) {s : Stg} (hs : StgOk c.slices.len s) (hF : 1000000000 < F)
include hc h3 hs hF
theorem l16x0 : ∀ j i fu, i + j = c.slices.len → (∀ k, k < i → radW c k ≤ 5) → j < fu →
    L16x0 (E F (d + 19)) F c s fu (manyW c i) i = some (.ret (.bool true)) := by
  have hcl := hc.1
  have q21 : (E F (d + 19)).pf 21 [] = _ := s21 F d hF
  intro j
  induction j with
  | zero =>
    intro i fu h hr hf
    obtain ⟨fu, rfl⟩ : ∃ k, fu = k + 1 := ⟨fu - 1, by omega⟩
    have hi : i = c.slices.len := by omega
    subst hi
    have hmany := many_in hc c.slices.len (Nat.le_refl _) hr
    have hle : manyW c c.slices.len ≤ 125 := by
      refine Int.le_trans hmany.2 ?_
      have h5 : (5 : Nat) ^ c.slices.len ≤ 5 ^ 3 := Nat.pow_le_pow_right (by omega) h3
      exact_mod_cast h5
    have hE : errP c ⟨false, 1, fun _ => s⟩ true = 0 := errP_0.2 ⟨by show 1 ≤ 8; omega, hc, fun _ _ => hs, rfl⟩
    have q30 := s30 F (d + 1) c ⟨false, 1, fun _ => s⟩ (by show _ < 4611686018427387904; omega) (by omega) (by show 1 < 4611686018427387904; omega) (by show 1 < F; omega) (by omega)
    rw [if_pos hE] at q30
    have q30' : (E F (d + 19)).pf 30 [.agg (eCav c), .row false 1 4 (fun _ => eStg s)] = some (.ret (.tup [.int .i64 (faultR c (fun _ => s) 1 0).1, .int .i64 (faultR c (fun _ => s) 1 0).2.1, .int .i64 (faultR c (fun _ => s) 1 0).2.2, .int .i64 0])) := q30
    have hs' := hs
    obtain ⟨g1, g2, g3, g4, g5⟩ := hs'
    rw [L16x0s, decide_eq_false (by omega), pF]
    simp only [q30', tkOut_ret, tkBool_b, tkTup_t, tkAgg_a, tkCons_c, tkInt_i, tkRow_r, tkNil_n, decide_true, pT, z0']
    have tp : 0 ≤ topOf s ∧ topOf s < c.slices.len := by unfold topOf; omega
    have lw : 0 ≤ lowOf s ∧ lowOf s < c.slices.len := by unfold lowOf; omega
    rcases fault1 c s with hf0 | ⟨h2, hf0⟩ | hf0 | ⟨h5, hf0⟩ | hf0
    · rw [hf0]
      simp only
      rw [decide_eq_false (show ¬ topOf s < 0 by omega), decide_eq_false (show ¬ topOf s > (c.slices.len : Int) by omega)]
      rw [show ((2 : Int) != 5) = true from rfl, show ((2 : Int) != 3) = true from rfl, show ((2 : Int) == 1) = false from rfl, show ((2 : Int) == 2) = true from rfl]
      simp only [pT, pF, q21, tkOut_ret, tkBool_b]
    · have ho : ((lowOf s).toNat : Int) = lowOf s := Int.toNat_of_nonneg lw.1
      obtain ⟨n, hn1, hn2⟩ := flaw_bury hc hs ho h2
      have e := l16x1 F d hc h3 hr hs hF 3 (.inr rfl) (lowOf s).toNat (by omega) n hn1 hn2 n 0 F true (by omega) (by omega)
      rw [ho] at e
      rw [hf0]
      simp only
      rw [decide_eq_false (show ¬ lowOf s < 0 by omega), decide_eq_false (show ¬ lowOf s > (c.slices.len : Int) by omega), decide_eq_false (show ¬ lowOf s ≥ (c.slices.len : Int) by omega)]
      rw [show ((3 : Int) != 5) = true from rfl, show ((3 : Int) != 3) = false from rfl]
      simp only [pT, pF]
      exact e
    · rw [hf0]
      simp only
      rw [decide_eq_false (show ¬ s.blanket < 0 by omega), decide_eq_false (show ¬ s.blanket > (c.slices.len : Int) by omega)]
      rw [show ((4 : Int) != 5) = true from rfl, show ((4 : Int) != 3) = true from rfl, show ((4 : Int) == 1) = false from rfl, show ((4 : Int) == 2) = false from rfl, show ((4 : Int) == 4) = true from rfl]
      simp only [pT, pF, q21, tkOut_ret, tkBool_b]
    · have hwd : ∀ j i, i + j = c.slices.len → (wideR c (fun _ => s) 0 j i).2 = true → ∃ o : Nat, o < c.slices.len ∧ (wideR c (fun _ => s) 0 j i).1 = o ∧ (boundS c (fun _ => s) (meaS c 2 o) 1).hi > (c.slices.el o).most := by
        intro j
        induction j with
        | zero => intro i _ h; simp [wideR] at h
        | succ j ih =>
          intro i hij h
          simp only [wideR] at h ⊢
          by_cases hd : (boundS c (fun _ => s) (meaS c 2 (i : Int)) (0 + 1)).hi > (c.slices.el i).most
          · rw [decide_eq_true hd, cond_true]
            exact ⟨i, by omega, rfl, hd⟩
          · rw [decide_eq_false hd, cond_false] at h ⊢
            exact ih (i + 1) (by omega) h
      obtain ⟨o, ho, ho1, ho2⟩ := hwd c.slices.len 0 (by omega) h5
      obtain ⟨n, hn1, hn2⟩ := flaw_wide hc hs ho ho2
      have e := l16x1 F d hc h3 hr hs hF 5 (.inl rfl) o ho n hn1 hn2 n 0 F true (by omega) (by omega)
      rw [hf0]
      simp only
      rw [ho1]
      rw [decide_eq_false (show ¬ (o : Int) < 0 by omega), decide_eq_false (show ¬ (o : Int) > (c.slices.len : Int) by omega), decide_eq_false (show ¬ (o : Int) ≥ (c.slices.len : Int) by omega)]
      rw [show ((5 : Int) != 5) = false from rfl]
      simp only [pT, pF]
      exact e
    · rw [hf0]
      simp only
      rw [decide_eq_false (show ¬ (0 : Int) < 0 by omega), decide_eq_false (show ¬ (0 : Int) > (c.slices.len : Int) by omega)]
      rw [show ((1 : Int) != 5) = true from rfl, show ((1 : Int) != 3) = true from rfl, show ((1 : Int) == 1) = true from rfl]
      simp only [pT, pF, q21, tkOut_ret, tkBool_b]
  | succ j ih =>
    intro i fu h hr hf
    obtain ⟨fu, rfl⟩ : ∃ k, fu = k + 1 := ⟨fu - 1, by omega⟩
    have ho : SpanIn (c.slices.el i).rate 0 300 := (hc.2.2.2 i (by omega)).2.2.2.1
    unfold SpanIn at ho
    have hr1 := rad_pos hc (i := i) (by omega)
    have hS2 : IntKind.i64.wrap ((i : Int) + 1) = ((i + 1 : Nat) : Int) := wrS (by omega)
    rw [L16x0s]
    simp (disch := omega) only [decide_eq_true, pT, Int.toNat_natCast, hS2, wr (n := (c.slices.el i).rate.hi - (c.slices.el i).rate.lo)]
    by_cases h4 : (c.slices.el i).rate.hi - (c.slices.el i).rate.lo > 4
    · rw [decide_eq_true h4, pT, q21, tkOut_ret, tkBool_b]
    · rw [decide_eq_false h4, pF]
      have hr' : ∀ k, k < i + 1 → radW c k ≤ 5 := fun k hk => by
        rcases Nat.eq_or_lt_of_le (Nat.le_of_lt_succ hk) with rfl | h'
        · unfold radW; omega
        · exact hr k h'
      have hm1 := many_in hc (i + 1) (by omega) hr'
      have hle : manyW c (i + 1) ≤ 125 := by
        refine Int.le_trans hm1.2 ?_
        have h5 : (5 : Nat) ^ (i + 1) ≤ 5 ^ 3 := Nat.pow_le_pow_right (by omega) (by omega)
        exact_mod_cast h5
      have e := ih (i + 1) fu (by omega) hr' (by omega)
      rw [wr (n := (c.slices.el i).rate.hi - (c.slices.el i).rate.lo + 1) (by omega), show manyW c i * ((c.slices.el i).rate.hi - (c.slices.el i).rate.lo + 1) = manyW c (i + 1) from rfl, wr (n := manyW c (i + 1)) (by omega)]
      exact e
end
theorem s16 (c : Cav) (s : Stg) (hC : c.slices.len < Big) (hCF : c.slices.len < F) (hF : 1000000000 < F) : (E F (d + 20)).pf 16 [.agg (eCav c), .agg (eStg s)] = some (.ret (.bool true)) := by
  have q21 : (E F (d + 19)).pf 21 [] = _ := s21 F d hF
  have q23 := s23 F (d + 15) c ⟨false, 1, fun _ => s⟩ true hC hCF (by show 1 < 4611686018427387904; omega) (by show 1 < F; omega)
  have q23' : (E F (d + 19)).pf 23 [.agg (eCav c), .row false 1 4 (fun _ => eStg s), .bool true] = some (.ret (.int .i64 (errP c ⟨false, 1, fun _ => s⟩ true))) := q23
  rw [E_pf, t16]
  by_cases h1 : (c.slices.len : Int) > 3
  · simp only [q21, tkOut_ret, tkBool_b, decide_eq_true h1, pT]
  simp only [decide_eq_false h1, pF, q23', tkOut_ret, tkInt_i, decide_true, pT]
  by_cases h0 : errP c ⟨false, 1, fun _ => s⟩ true = 0
  · obtain ⟨_, hc, hs, _⟩ := errP_0.1 h0
    have hcl := hc.1
    rw [h0, z0']
    exact l16x0 F d hc (by omega) (hs 0 (by show 0 < 1; omega)) hF c.slices.len 0 F (by omega) (by omega) (by omega)
  · rw [show (errP c ⟨false, 1, fun _ => s⟩ true != 0) = true by simpa using h0, pT, q21, tkOut_ret, tkBool_b]
end Go.Sim.Le
