import Derived.Test.YthbpdkcfnbiejaaAg
import Derived.KernelRfl
import Derived.Test.YthbpdkcfnbiejaaRows
set_option linter.unusedVariables false
set_option linter.unusedSimpArgs false
set_option linter.unusedSectionVars false
set_option maxRecDepth 100000
namespace Go.Sim.Le
open Go.Proofs
theorem t19 (env : Env) (F : Nat) (c : Cav) : (evFun Try.prog (cfg F) env 19 [(.agg (eCav c))]) = some (.ret (.bool (decide (((c.slices.len : Nat) : Int) ≤ (20 : Int))))) := by kernel_rfl
noncomputable def L51x0 (env : Env) (F : Nat) (l : Sl Stg) (w : Sl Int) (fu : Nat) (i0 : Int) : Option Out := atLoop Try.prog (cfg F) env 51 [.r, .l, .r, .d] [] fu { tm := tmL 24 0 [(0, (sl eStg 4 l)), (1, (sl eInt 1 w)), (5, (i64 i0))], hp := [] }
theorem t51 (env : Env) (F : Nat) (l : Sl Stg) (w : Sl Int) : (evFun Try.prog (cfg F) env 51 [(sl eStg 4 l), (sl eInt 1 w)]) = (L51x0 env F l w F (0 : Int)) := by kernel_rfl
theorem L51x0s (env : Env) (F : Nat) (l : Sl Stg) (w : Sl Int) (fu : Nat) (i0 : Int) : L51x0 env F l w (fu + 1) i0 = (bif (decide (i0 < ((w.len : Nat) : Int))) then (bif (decide ((0 : Int) ≤ i0)) then (bif (decide (i0 < ((w.len : Nat) : Int))) then (tkOut (env.pf 64 [(i64 (Sl.el w i0.toNat)), (i64 (0 : Int)), (i64 (IntKind.wrap .i64 (((l.len : Nat) : Int) - (1 : Int))))]) none (fun v6 => (tkBool v6 none fun b7 => (bif (!b7) then some (.ret (.bool false)) else (L51x0 env F l w fu (IntKind.wrap .i64 (i0 + (1 : Int))))))) pK) else none) else none) else some (.ret (.bool (decide (((w.len : Nat) : Int) ≤ (5 : Int)))))) := by kernel_rfl
noncomputable def L52x0 (env : Env) (F : Nat) (l : Sl Stg) (w : Sl Int) (fu : Nat) : Option Out := atLoop Try.prog (cfg F) env 52 [.r, .r, .l, .r, .d] [] fu { tm := tmL 24 0 [(0, (sl eStg 4 l)), (1, (sl eInt 1 w)), (5, (.row true 0 0 (fun u5 => []))), (6, (i64 (0 : Int)))], hp := [] }
noncomputable def L52x1 (env : Env) (F : Nat) (l : Sl Stg) (w : Sl Int) (fu : Nat) (k0 : Nat) (i1 : Int) (k2 : Nat) (g3 : Nat → List V) : Option Out := atLoop Try.prog (cfg F) env 52 [.r, .r, .l, .r, .d] [] fu { tm := tmL 24 0 [(0, (sl eStg 4 l)), (1, (sl eInt 1 w)), (5, (.osl 0 0 k0)), (6, (i64 i1))], hp := [(.arr 40 4 k2 g3 true)] }
theorem t52 (env : Env) (F : Nat) (l : Sl Stg) (w : Sl Int) : (evFun Try.prog (cfg F) env 52 [(sl eStg 4 l), (sl eInt 1 w)]) = (L52x0 env F l w F) := by kernel_rfl
theorem L52x0s (env : Env) (F : Nat) (l : Sl Stg) (w : Sl Int) (fu : Nat) : L52x0 env F l w (fu + 1) = (bif (decide ((0 : Int) < ((w.len : Nat) : Int))) then (bif (decide ((0 : Int) < ((w.len : Nat) : Int))) then (bif (decide ((0 : Int) ≤ (Sl.el w 0))) then (bif (decide ((Sl.el w 0) < ((l.len : Nat) : Int))) then (L52x1 env F l w fu 1 (IntKind.wrap .i64 ((0 : Int) + (1 : Int))) 1 (fun u5 => (eStg (Sl.el l (Int.toNat (Sl.el w 0)))))) else none) else none) else none) else some (.ret (.row true 0 0 (fun u5 => [])))) := by kernel_rfl
theorem L52x1s (env : Env) (F : Nat) (l : Sl Stg) (w : Sl Int) (fu : Nat) (k0 : Nat) (i1 : Int) (k2 : Nat) (g3 : Nat → List V) : L52x1 env F l w (fu + 1) k0 i1 k2 g3 = (bif (decide (i1 < ((w.len : Nat) : Int))) then (bif (decide ((0 : Int) ≤ i1)) then (bif (decide (i1 < ((w.len : Nat) : Int))) then (bif (decide ((0 : Int) ≤ (Sl.el w i1.toNat))) then (bif (decide ((Sl.el w i1.toNat) < ((l.len : Nat) : Int))) then (bif (decide (((k0 + 1) * 32) ≤ 140737488355328)) then (L52x1 env F l w fu (k0 + 1) (IntKind.wrap .i64 (i1 + (1 : Int))) (k0 + 1) (appGet k0 g3 (fun u9 => (eStg (Sl.el l (Int.toNat (Sl.el w i1.toNat))))))) else none) else none) else none) else none) else none) else some (.ret (.row false k0 4 (fun u9 => (g3 u9))))) := by kernel_rfl
noncomputable def L53x0 (env : Env) (F : Nat) (l : Sl Stg) (a : Sl Int) (b : Sl Int) (fu : Nat) (i0 : Int) : Option Out := atLoop Try.prog (cfg F) env 53 [.r, .r, .r, .l, .r, .d] [] fu { tm := tmL 56 0 [(1, (sl eInt 1 a)), (2, (sl eInt 1 b)), (9, (i64 i0))], hp := [] }
theorem t53 (env : Env) (F : Nat) (l : Sl Stg) (a : Sl Int) (b : Sl Int) : (evFun Try.prog (cfg F) env 53 [(sl eStg 4 l), (sl eInt 1 a), (sl eInt 1 b)]) = (bif ((((Sl.len a) : Nat) : Int) != (((Sl.len b) : Nat) : Int)) then some (.ret (.bool (decide ((((Sl.len a) : Nat) : Int) < (((Sl.len b) : Nat) : Int))))) else (tkOut (env.pf 89 [(sl eStg 4 l), (sl eInt 1 a)]) none (fun v5 => (tkInt v5 none fun q6 n7 => (tkOut (env.pf 89 [(sl eStg 4 l), (sl eInt 1 b)]) none (fun v8 => (tkInt v8 none fun q9 n10 => (bif (decide (q6 = q9)) then (bif (n7 != n10) then (bif (decide (q6 = q9)) then some (.ret (.bool (decide (n7 < n10)))) else none) else (L53x0 env F l a b F (0 : Int))) else none))) pK))) pK)) := by kernel_rfl
theorem L53x0s (env : Env) (F : Nat) (l : Sl Stg) (a : Sl Int) (b : Sl Int) (fu : Nat) (i0 : Int) : L53x0 env F l a b (fu + 1) i0 = (bif (decide (i0 < (((Sl.len a) : Nat) : Int))) then (bif (decide ((0 : Int) ≤ i0)) then (bif (decide (i0 < (((Sl.len a) : Nat) : Int))) then (bif (decide ((0 : Int) ≤ i0)) then (bif (decide (i0 < (((Sl.len b) : Nat) : Int))) then (bif ((Sl.el a i0.toNat) != (Sl.el b i0.toNat)) then (bif (decide ((0 : Int) ≤ i0)) then (bif (decide (i0 < (((Sl.len a) : Nat) : Int))) then (bif (decide ((0 : Int) ≤ i0)) then (bif (decide (i0 < (((Sl.len b) : Nat) : Int))) then some (.ret (.bool (decide ((Sl.el a i0.toNat) < (Sl.el b i0.toNat))))) else none) else none) else none) else none) else (L53x0 env F l a b fu (IntKind.wrap .i64 (i0 + (1 : Int))))) else none) else none) else none) else none) else some (.ret (.bool false))) := by kernel_rfl
noncomputable def L89x0 (env : Env) (F : Nat) (l : Sl Stg) (w : Sl Int) (fu : Nat) (i0 : Int) (i1 : Int) : Option Out := atLoop Try.prog (cfg F) env 89 [.r, .r, .l, .r, .d] [] fu { tm := tmL 24 0 [(0, (sl eStg 4 l)), (1, (sl eInt 1 w)), (5, (i64 i0)), (6, (i64 i1))], hp := [] }
theorem t89 (env : Env) (F : Nat) (l : Sl Stg) (w : Sl Int) : (evFun Try.prog (cfg F) env 89 [(sl eStg 4 l), (sl eInt 1 w)]) = (L89x0 env F l w F (0 : Int) (0 : Int)) := by kernel_rfl
theorem L89x0s (env : Env) (F : Nat) (l : Sl Stg) (w : Sl Int) (fu : Nat) (i0 : Int) (i1 : Int) : L89x0 env F l w (fu + 1) i0 i1 = (bif (decide (i1 < ((w.len : Nat) : Int))) then (bif (decide ((0 : Int) ≤ i1)) then (bif (decide (i1 < ((w.len : Nat) : Int))) then (bif (decide ((0 : Int) ≤ (Sl.el w i1.toNat))) then (bif (decide ((Sl.el w i1.toNat) < ((l.len : Nat) : Int))) then (L89x0 env F l w fu (IntKind.wrap .i64 (i0 + (Stg.water (Sl.el l (Int.toNat (Sl.el w i1.toNat)))))) (IntKind.wrap .i64 (i1 + (1 : Int)))) else none) else none) else none) else none) else some (.ret (i64 i0))) := by kernel_rfl
noncomputable def L42x0 (env : Env) (F : Nat) (c : Cav) (l : Sl Stg) (fu : Nat) (b0 : Bool) (k1 : Nat) (k2 : Nat) (g3 : Nat → List V) (q4 : IntKind) (i5 : Int) (q6 : IntKind) (i7 : Int) : Option Out := atLoop Try.prog (cfg F) env 42 [.r, .r, .r, .r, .l, .r, .d] [] fu { tm := tmL 59 0 [(4, (.optr 0 0 0)), (8, (.optr 1 0 0)), (33, (sl eSlc 7 c.slices)), (34, (i64 ((c.slices.len : Nat) : Int))), (35, (i64 (0 : Int)))], hp := [(.box 72 [(.row true 0 0 (fun u13 => [])), (.row true 0 0 (fun u13 => [])), (i64 (0 : Int)), (i64 (0 : Int))] true), (.box 72 [(.row b0 k1 k2 g3), (.row true 0 0 (fun u13 => [])), (.int q4 i5), (.int q6 i7)] true)] }
noncomputable def L42x1 (env : Env) (F : Nat) (c : Cav) (l : Sl Stg) (fu : Nat) (i0 : Int) (b1 : Bool) (k2 : Nat) (k3 : Nat) (g4 : Nat → List V) (k5 : Nat) (q6 : IntKind) (i7 : Int) (q8 : IntKind) (i9 : Int) (k10 : Nat) (g11 : Nat → List V) : Option Out := atLoop Try.prog (cfg F) env 42 [.r, .r, .r, .r, .l, .r, .d] [] fu { tm := tmL 59 0 [(4, (.optr 0 0 0)), (8, (.optr 1 0 0)), (33, (sl eSlc 7 c.slices)), (34, (i64 ((c.slices.len : Nat) : Int))), (35, (i64 i0))], hp := [(.box 72 [(.row true 0 0 (fun u17 => [])), (.row true 0 0 (fun u17 => [])), (i64 (0 : Int)), (i64 (0 : Int))] true), (.box 72 [(.row b1 k2 k3 g4), (.osl 2 0 k5), (.int q6 i7), (.int q8 i9)] true), (.arr 31 2 k10 g11 true)] }
theorem t42 (env : Env) (F : Nat) (c : Cav) (l : Sl Stg) : (evFun Try.prog (cfg F) env 42 [(.agg (eCav c)), (sl eStg 4 l)]) = (tkOut (env.pf 57 [(.agg (eCav c)), (sl eStg 4 l)]) none (fun v4 => (tkInt v4 none fun q5 n6 => (bif (decide (q5 = .i64)) then (bif (n6 != (0 : Int)) then some (.ret (.tup [(.agg [(.row true 0 0 (fun u7 => [])), (.row true 0 0 (fun u7 => [])), (i64 (0 : Int)), (i64 (0 : Int))]), (.int q5 n6)])) else (tkOut (env.pf 84 [(.agg (eCav c)), (sl eStg 4 l)]) none (fun v7 => (tkRow v7 none fun nl8 n9 wd10 g11 => (bif (decide ((0 : Int) ≤ ((c.slices.len : Nat) : Int))) then (bif (decide (((c.slices.len : Nat) : Int) ≤ ((c.slices.len : Nat) : Int))) then (bif (decide ((((8 : Nat) : Int) * ((c.slices.len : Nat) : Int)) ≤ (281474976710656 : Int))) then (bif (decide (((c.slices.len : Nat) : Int) ≤ (9223372036854775807 : Int))) then (tkOut (env.pf 62 [(.agg (eCav c)), (sl eStg 4 l), (.agg [(.row false (Int.toNat ((c.slices.len : Nat) : Int)) 1 (fun u12 => [(i64 (0 : Int))])), (i64 (1 : Int))])]) none (fun v12 => (tkAgg v12 none fun l13 => (tkCons l13 none fun v14 r15 => (tkInt v14 none fun q16 n17 => (tkCons r15 none fun v18 r19 => (tkInt v18 none fun q20 n21 => (tkNil r19 none ((L42x0 env F c l F nl8 n9 wd10 g11 q16 n17 q20 n21))))))))) nK) else none) else none) else none) else none))) nK)) else none))) pK) := by kernel_rfl
theorem L42x0s (env : Env) (F : Nat) (c : Cav) (l : Sl Stg) (fu : Nat) (b0 : Bool) (k1 : Nat) (k2 : Nat) (g3 : Nat → List V) (q4 : IntKind) (i5 : Int) (q6 : IntKind) (i7 : Int) : L42x0 env F c l (fu + 1) b0 k1 k2 g3 q4 i5 q6 i7 = (bif (decide ((0 : Int) < ((c.slices.len : Nat) : Int))) then (bif (decide ((0 : Int) < ((c.slices.len : Nat) : Int))) then (bif (k2 == 2) then (bif (decide ((0 : Int) < ((k1 : Nat) : Int))) then (bif ((List.length (List.take 2 (g3 0))) == 2) then (tkCons (List.take 2 (g3 0)) none fun v13 r14 => (tkInt v13 none fun q15 n16 => (tkCons r14 none fun v17 r18 => (tkInt v17 none fun q19 n20 => (tkNil r18 none ((tkOut (env.pf 86 [(.agg [(.int q15 n16), (.int q19 n20)]), (i64 (Slc.opn (c.slices.el 0)))]) none (fun v21 => (tkAgg v21 none fun l22 => (tkCons l22 none fun v23 r24 => (tkInt v23 none fun q25 n26 => (tkCons r24 none fun v27 r28 => (tkInt v27 none fun q29 n30 => (tkNil r28 none ((tkOut (env.pf 85 [(.row false 2 2 (fun u31 => (List.take 2 (List.drop ((Min.min u31 1) * 2) [(i64 (Span.lo (Slc.vol (c.slices.el 0)))), (i64 (Span.hi (Slc.vol (c.slices.el 0)))), (.int q25 n26), (.int q29 n30)]))))]) none (fun v31 => (tkAgg v31 none fun l32 => (tkCons l32 none fun v33 r34 => (tkInt v33 none fun q35 n36 => (tkCons r34 none fun v37 r38 => (tkInt v37 none fun q39 n40 => (tkNil r38 none ((L42x1 env F c l fu (IntKind.wrap .i64 ((0 : Int) + (1 : Int))) b0 k1 k2 g3 1 q4 i5 q6 i7 1 (fun u41 => [(.int q35 n36), (.int q39 n40)])))))))))) nK))))))))) pK))))))) else none) else none) else none) else none) else some (.ret (.tup [(.agg [(.row b0 k1 k2 g3), (.row true 0 0 (fun u13 => [])), (.int q4 i5), (.int q6 i7)]), (i64 (0 : Int))]))) := by kernel_rfl
theorem L42x1s (env : Env) (F : Nat) (c : Cav) (l : Sl Stg) (fu : Nat) (i0 : Int) (b1 : Bool) (k2 : Nat) (k3 : Nat) (g4 : Nat → List V) (k5 : Nat) (q6 : IntKind) (i7 : Int) (q8 : IntKind) (i9 : Int) (k10 : Nat) (g11 : Nat → List V) : L42x1 env F c l (fu + 1) i0 b1 k2 k3 g4 k5 q6 i7 q8 i9 k10 g11 = (bif (decide (i0 < ((c.slices.len : Nat) : Int))) then (bif (decide ((0 : Int) ≤ i0)) then (bif (decide (i0 < ((c.slices.len : Nat) : Int))) then (bif (k3 == 2) then (bif (decide ((0 : Int) ≤ i0)) then (bif (decide (i0 < ((k2 : Nat) : Int))) then (bif ((List.length (List.take 2 (g4 i0.toNat))) == 2) then (tkCons (List.take 2 (g4 i0.toNat)) none fun v17 r18 => (tkInt v17 none fun q19 n20 => (tkCons r18 none fun v21 r22 => (tkInt v21 none fun q23 n24 => (tkNil r22 none ((tkOut (env.pf 86 [(.agg [(.int q19 n20), (.int q23 n24)]), (i64 (Slc.opn (c.slices.el i0.toNat)))]) none (fun v25 => (tkAgg v25 none fun l26 => (tkCons l26 none fun v27 r28 => (tkInt v27 none fun q29 n30 => (tkCons r28 none fun v31 r32 => (tkInt v31 none fun q33 n34 => (tkNil r32 none ((tkOut (env.pf 85 [(.row false 2 2 (fun u35 => (List.take 2 (List.drop ((Min.min u35 1) * 2) [(i64 (Span.lo (Slc.vol (c.slices.el i0.toNat)))), (i64 (Span.hi (Slc.vol (c.slices.el i0.toNat)))), (.int q29 n30), (.int q33 n34)]))))]) none (fun v35 => (tkAgg v35 none fun l36 => (tkCons l36 none fun v37 r38 => (tkInt v37 none fun q39 n40 => (tkCons r38 none fun v41 r42 => (tkInt v41 none fun q43 n44 => (tkNil r42 none ((bif (decide (((k5 + 1) * 16) ≤ 140737488355328)) then (L42x1 env F c l fu (IntKind.wrap .i64 (i0 + (1 : Int))) b1 k2 k3 g4 (k5 + 1) q6 i7 q8 i9 (k5 + 1) (appGet k5 g11 (fun u45 => [(.int q39 n40), (.int q43 n44)]))) else none))))))))) nK))))))))) pK))))))) else none) else none) else none) else none) else none) else none) else some (.ret (.tup [(.agg [(.row b1 k2 k3 g4), (.row false k5 2 (fun u17 => (g11 u17))), (.int q6 i7), (.int q8 i9)]), (i64 (0 : Int))]))) := by kernel_rfl
noncomputable def L45x0 (env : Env) (F : Nat) (c : Cav) (v : Sl Int) (a : Int) (b : Int) (d : Int) (g : Int) (fu : Nat) (i0 : Int) : Option Out := atLoop Try.prog (cfg F) env 45 [.r, .l, .r, .d] [] fu { tm := tmL 44 0 [(2, (.optr 0 0 0)), (3, (.optr 1 0 0)), (5, (i64 i0))], hp := [(.box 24 (eCav c) true), (.box 84 [(sl eInt 1 v), (i64 a), (i64 b), (i64 d), (i64 g)] true)] }
theorem t45 (env : Env) (F : Nat) (c : Cav) (v : Sl Int) (a : Int) (b : Int) (d : Int) (g : Int) : (evFun Try.prog (cfg F) env 45 [(.agg (eCav c)), (.agg [(sl eInt 1 v), (i64 a), (i64 b), (i64 d), (i64 g)])]) = (L45x0 env F c v a b d g F (0 : Int)) := by kernel_rfl
theorem L45x0s (env : Env) (F : Nat) (c : Cav) (v : Sl Int) (a : Int) (b : Int) (d : Int) (g : Int) (fu : Nat) (i0 : Int) : L45x0 env F c v a b d g (fu + 1) i0 = (bif (decide (i0 < (((Sl.len v) : Nat) : Int))) then (bif (decide ((0 : Int) ≤ i0)) then (bif (decide (i0 < (((Sl.len v) : Nat) : Int))) then (bif (decide ((Sl.el v i0.toNat) < (0 : Int))) then some (.ret (.bool false)) else (bif (decide ((0 : Int) ≤ i0)) then (bif (decide (i0 < (((Sl.len v) : Nat) : Int))) then (bif (decide ((Sl.el v i0.toNat) > (100000000000000 : Int))) then some (.ret (.bool false)) else (L45x0 env F c v a b d g fu (IntKind.wrap .i64 (i0 + (1 : Int))))) else none) else none)) else none) else none) else (bif ((((Sl.len v) : Nat) : Int) == ((c.slices.len : Nat) : Int)) then (bif (decide (a ≥ (0 : Int))) then some (.ret (.bool (decide (a ≤ (100000000000000 : Int))))) else some (.ret (.bool false))) else some (.ret (.bool false)))) := by kernel_rfl
noncomputable def L84x0 (env : Env) (F : Nat) (c : Cav) (l : Sl Stg) (fu : Nat) (i0 : Int) (g1 : Nat → List V) : Option Out := atLoop Try.prog (cfg F) env 84 [.r, .r, .l, .r, .d] [] fu { tm := tmL 46 0 [(2, (.optr 0 0 0)), (5, (.osl 1 0 (Int.toNat ((c.slices.len : Nat) : Int)))), (15, (sl eStg 4 l)), (16, (i64 ((l.len : Nat) : Int))), (17, (i64 i0))], hp := [(.box 103 (eCav c) true), (.arr 31 2 (Int.toNat ((c.slices.len : Nat) : Int)) g1 true)] }
noncomputable def L84x1 (env : Env) (F : Nat) (c : Cav) (l : Sl Stg) (m0 : Nat) (fu : Nat) (i0 : Int) (b1 : Bool) (k2 : Nat) (k3 : Nat) (g4 : Nat → List V) (i5 : Int) (i6 : Int) (g7 : Nat → List V) (i8 : Int) (i9 : Int) (i10 : Int) (i11 : Int) : Option Out := atLoop Try.prog (cfg F) env 84 [.r, .r, .l, .r, .d, .d, .r, .r, .l, .d, .r, .r, .d] [m0] fu { tm := tmL 46 0 [(2, (.optr 0 0 0)), (5, (.osl 1 0 (Int.toNat ((c.slices.len : Nat) : Int)))), (7, (.optr 2 0 0)), (15, (sl eStg 4 l)), (16, (i64 ((l.len : Nat) : Int))), (17, (i64 i0)), (23, (.row b1 k2 k3 g4)), (24, (i64 i5)), (25, (i64 i6))], hp := [(.box 103 (eCav c) true), (.arr 31 2 (Int.toNat ((c.slices.len : Nat) : Int)) g7 true), (.box 40 [(i64 i8), (i64 i9), (i64 i10), (i64 i11)] true)] }
theorem t84 (env : Env) (F : Nat) (c : Cav) (l : Sl Stg) : (evFun Try.prog (cfg F) env 84 [(.agg (eCav c)), (sl eStg 4 l)]) = (bif (decide ((0 : Int) ≤ ((c.slices.len : Nat) : Int))) then (bif (decide (((c.slices.len : Nat) : Int) ≤ ((c.slices.len : Nat) : Int))) then (bif (decide ((((16 : Nat) : Int) * ((c.slices.len : Nat) : Int)) ≤ (281474976710656 : Int))) then (bif (decide (((c.slices.len : Nat) : Int) ≤ (9223372036854775807 : Int))) then (L84x0 env F c l F (0 : Int) (fun u4 => [(i64 (0 : Int)), (i64 (0 : Int))])) else none) else none) else none) else none) := by kernel_rfl
theorem L84x0s (env : Env) (F : Nat) (c : Cav) (l : Sl Stg) (fu : Nat) (i0 : Int) (g1 : Nat → List V) : L84x0 env F c l (fu + 1) i0 g1 = (bif (decide (i0 < ((l.len : Nat) : Int))) then (bif (decide ((0 : Int) ≤ i0)) then (bif (decide (i0 < ((l.len : Nat) : Int))) then (tkOut (env.pf 82 [(.agg (eCav c)), (.agg (eStg (Sl.el l i0.toNat)))]) none (fun v7 => (tkRow v7 none fun nl8 n9 wd10 g11 => (L84x1 env F c l fu F i0 nl8 n9 wd10 g11 ((n9 : Nat) : Int) (0 : Int) g1 (Stg.water (Sl.el l i0.toNat)) (Stg.into (Sl.el l i0.toNat)) (Stg.out (Sl.el l i0.toNat)) (Stg.blanket (Sl.el l i0.toNat))))) pK) else none) else none) else some (.ret (.row false (Int.toNat ((c.slices.len : Nat) : Int)) 2 (fun u7 => (g1 u7))))) := by kernel_rfl
theorem L84x1s (env : Env) (F : Nat) (c : Cav) (l : Sl Stg) (m0 : Nat) (fu : Nat) (i0 : Int) (b1 : Bool) (k2 : Nat) (k3 : Nat) (g4 : Nat → List V) (i5 : Int) (i6 : Int) (g7 : Nat → List V) (i8 : Int) (i9 : Int) (i10 : Int) (i11 : Int) : L84x1 env F c l m0 (fu + 1) i0 b1 k2 k3 g4 i5 i6 g7 i8 i9 i10 i11 = (bif (decide (i6 < i5)) then (bif (k3 == 2) then (bif (decide ((0 : Int) ≤ i6)) then (bif (decide (i6 < ((k2 : Nat) : Int))) then (bif ((List.length (List.take 2 (g4 i6.toNat))) == 2) then (tkCons (List.take 2 (g4 i6.toNat)) none fun v18 r19 => (tkInt v18 none fun q20 n21 => (tkCons r19 none fun v22 r23 => (tkInt v22 none fun q24 n25 => (tkNil r23 none ((bif (decide ((0 : Int) ≤ i6)) then (bif (decide (i6 < (((Int.toNat ((c.slices.len : Nat) : Int)) : Nat) : Int))) then (bif ((List.length (List.take 2 (g7 i6.toNat))) == 2) then (tkCons (List.take 2 (g7 i6.toNat)) none fun v26 r27 => (tkInt v26 none fun q28 n29 => (tkCons r27 none fun v30 r31 => (tkInt v30 none fun q32 n33 => (tkNil r31 none ((tkOut (env.pf 86 [(.agg [(.int q20 n21), (.int q24 n25)]), (i64 i8)]) none (fun v34 => (tkAgg v34 none fun l35 => (tkCons l35 none fun v36 r37 => (tkInt v36 none fun q38 n39 => (tkCons r37 none fun v40 r41 => (tkInt v40 none fun q42 n43 => (tkNil r41 none ((tkOut (env.pf 85 [(.row false 2 2 (fun u44 => (List.take 2 (List.drop ((Min.min u44 1) * 2) [(.int q28 n29), (.int q32 n33), (.int q38 n39), (.int q42 n43)]))))]) none (fun v44 => (tkAgg v44 none fun l45 => (tkCons l45 none fun v46 r47 => (tkInt v46 none fun q48 n49 => (tkCons r47 none fun v50 r51 => (tkInt v50 none fun q52 n53 => (tkNil r51 none ((bif (decide ((0 : Int) ≤ i6)) then (bif (decide (i6 < (((Int.toNat ((c.slices.len : Nat) : Int)) : Nat) : Int))) then (L84x1 env F c l m0 fu i0 b1 k2 k3 g4 i5 (IntKind.wrap .i64 (i6 + (1 : Int))) (updGet g7 i6.toNat 0 [(.int q48 n49), (.int q52 n53)]) i8 i9 i10 i11) else none) else none))))))))) nK))))))))) pK))))))) else none) else none) else none))))))) else none) else none) else none) else none) else (L84x0 env F c l m0 (IntKind.wrap .i64 (i0 + (1 : Int))) g7)) := by kernel_rfl
noncomputable def L87x0 (env : Env) (F : Nat) (c : Cav) (l : Sl Stg) (t : Truth) (fu : Nat) (i0 : Int) : Option Out := atLoop Try.prog (cfg F) env 87 [.r, .r, .l, .r, .d] [] fu { tm := tmL 91 0 [(3, (.optr 0 0 0)), (5, (.optr 1 0 0)), (32, (sl eInt 1 (Truth.vols t))), (33, (i64 (((Sl.len (Truth.vols t)) : Nat) : Int))), (34, (i64 i0))], hp := [(.box 103 (eCav c) true), (.box 82 (eTruth t) true)] }
noncomputable def L87x1 (env : Env) (F : Nat) (c : Cav) (l : Sl Stg) (t : Truth) (fu : Nat) (i0 : Int) : Option Out := atLoop Try.prog (cfg F) env 87 [.r, .r, .r, .l, .r, .d] [] fu { tm := tmL 91 0 [(3, (.optr 0 0 0)), (55, (sl eIL 1 (Truth.rates t))), (56, (i64 (((Sl.len (Truth.rates t)) : Nat) : Int))), (57, (i64 i0))], hp := [(.box 103 (eCav c) true)] }
noncomputable def L87x2 (env : Env) (F : Nat) (c : Cav) (l : Sl Stg) (t : Truth) (m0 : Nat) (fu : Nat) (i0 : Int) (b1 : Bool) (k2 : Nat) (g3 : Nat → List V) (i4 : Int) (i5 : Int) : Option Out := atLoop Try.prog (cfg F) env 87 [.r, .r, .r, .l, .r, .d, .d, .r, .r, .l, .d, .r, .r, .r, .d] [m0] fu { tm := tmL 91 0 [(3, (.optr 0 0 0)), (55, (sl eIL 1 (Truth.rates t))), (56, (i64 (((Sl.len (Truth.rates t)) : Nat) : Int))), (57, (i64 i0)), (68, (.row b1 k2 1 g3)), (69, (i64 i4)), (70, (i64 i5))], hp := [(.box 103 (eCav c) true)] }
theorem t87 (env : Env) (F : Nat) (c : Cav) (l : Sl Stg) (t : Truth) : (evFun Try.prog (cfg F) env 87 [(.agg (eCav c)), (sl eStg 4 l), (.agg (eTruth t))]) = (bif ((((Sl.len (Truth.vols t)) : Nat) : Int) != ((c.slices.len : Nat) : Int)) then some (.ret (.bool false)) else (bif ((((Sl.len (Truth.rates t)) : Nat) : Int) != ((l.len : Nat) : Int)) then some (.ret (.bool false)) else (L87x0 env F c l t F (0 : Int)))) := by kernel_rfl
theorem L87x0s (env : Env) (F : Nat) (c : Cav) (l : Sl Stg) (t : Truth) (fu : Nat) (i0 : Int) : L87x0 env F c l t (fu + 1) i0 = (bif (decide (i0 < (((Sl.len (Truth.vols t)) : Nat) : Int))) then (bif (decide ((0 : Int) ≤ i0)) then (bif (decide (i0 < (((Sl.len (Truth.vols t)) : Nat) : Int))) then (bif (decide ((0 : Int) ≤ i0)) then (bif (decide (i0 < ((c.slices.len : Nat) : Int))) then (tkOut (env.pf 59 [(i64 (Sl.el (Truth.vols t) i0.toNat)), (i64 (Span.lo (Slc.vol (c.slices.el i0.toNat)))), (i64 (Span.hi (Slc.vol (c.slices.el i0.toNat))))]) none (fun v7 => (tkBool v7 none fun b8 => (bif (!b8) then some (.ret (.bool false)) else (L87x0 env F c l t fu (IntKind.wrap .i64 (i0 + (1 : Int))))))) pK) else none) else none) else none) else none) else (L87x1 env F c l t F (0 : Int))) := by kernel_rfl
theorem L87x1s (env : Env) (F : Nat) (c : Cav) (l : Sl Stg) (t : Truth) (fu : Nat) (i0 : Int) : L87x1 env F c l t (fu + 1) i0 = (bif (decide (i0 < (((Sl.len (Truth.rates t)) : Nat) : Int))) then (bif (decide ((0 : Int) ≤ i0)) then (bif (decide (i0 < (((Sl.len (Truth.rates t)) : Nat) : Int))) then (bif ((((Sl.len (Sl.el (Truth.rates t) i0.toNat)) : Nat) : Int) != ((c.slices.len : Nat) : Int)) then some (.ret (.bool false)) else (L87x2 env F c l t fu F i0 (Sl.nl (Sl.el (Truth.rates t) i0.toNat)) (Sl.len (Sl.el (Truth.rates t) i0.toNat)) (fun u7 => [(i64 (Sl.el (Sl.el (Truth.rates t) i0.toNat) u7))]) (((Sl.len (Sl.el (Truth.rates t) i0.toNat)) : Nat) : Int) (0 : Int))) else none) else none) else some (.ret (.bool true))) := by kernel_rfl
theorem L87x2s (env : Env) (F : Nat) (c : Cav) (l : Sl Stg) (t : Truth) (m0 : Nat) (fu : Nat) (i0 : Int) (b1 : Bool) (k2 : Nat) (g3 : Nat → List V) (i4 : Int) (i5 : Int) : L87x2 env F c l t m0 (fu + 1) i0 b1 k2 g3 i4 i5 = (bif (decide (i5 < i4)) then (bif (decide ((0 : Int) ≤ i5)) then (bif (decide (i5 < ((k2 : Nat) : Int))) then (tkCons (g3 i5.toNat) none fun v13 r14 => (tkInt v13 none fun q15 n16 => (bif (decide ((0 : Int) ≤ i5)) then (bif (decide (i5 < ((c.slices.len : Nat) : Int))) then (tkOut (env.pf 59 [(.int q15 n16), (i64 (Span.lo (Slc.rate (c.slices.el i5.toNat)))), (i64 (Span.hi (Slc.rate (c.slices.el i5.toNat))))]) none (fun v17 => (tkBool v17 none fun b18 => (bif (!b18) then some (.ret (.bool false)) else (L87x2 env F c l t m0 fu i0 b1 k2 g3 i4 (IntKind.wrap .i64 (i5 + (1 : Int))))))) pK) else none) else none))) else none) else none) else (L87x1 env F c l t m0 (IntKind.wrap .i64 (i0 + (1 : Int))))) := by kernel_rfl
noncomputable def L44x0 (env : Env) (F : Nat) (c : Cav) (l : Sl Stg) (t : Truth) (fu : Nat) (k0 : Nat) (g1 : Nat → List V) : Option Out := atLoop Try.prog (cfg F) env 44 [.r, .r, .r, .r, .r, .l, .r, .d] [] fu { tm := tmL 145 0 [(3, (.optr 0 0 0)), (5, (.optr 1 0 0)), (6, (.optr 2 0 0)), (10, (.optr 3 0 0)), (39, (sl eStg 4 l)), (40, (i64 ((l.len : Nat) : Int))), (41, (i64 (0 : Int)))], hp := [(.box 24 (eCav c) true), (.box 82 (eTruth t) true), (.box 84 [(.row true 0 0 (fun u8 => [])), (i64 (0 : Int)), (i64 (0 : Int)), (i64 (0 : Int)), (i64 (0 : Int))] true), (.box 84 [(.row true 0 k0 g1), (i64 (0 : Int)), (i64 (0 : Int)), (i64 (0 : Int)), (i64 (0 : Int))] true)] }
noncomputable def L44x1 (env : Env) (F : Nat) (c : Cav) (l : Sl Stg) (t : Truth) (fu : Nat) (i0 : Int) (k1 : Nat) (i2 : Int) (i3 : Int) (i4 : Int) (i5 : Int) (k6 : Nat) (g7 : Nat → List V) : Option Out := atLoop Try.prog (cfg F) env 44 [.r, .r, .r, .r, .r, .l, .r, .d] [] fu { tm := tmL 145 0 [(3, (.optr 0 0 0)), (5, (.optr 1 0 0)), (6, (.optr 2 0 0)), (10, (.optr 3 0 0)), (39, (sl eStg 4 l)), (40, (i64 ((l.len : Nat) : Int))), (41, (i64 i0))], hp := [(.box 24 (eCav c) true), (.box 82 (eTruth t) true), (.box 84 [(.row true 0 0 (fun u14 => [])), (i64 (0 : Int)), (i64 (0 : Int)), (i64 (0 : Int)), (i64 (0 : Int))] true), (.box 84 [(.osl 4 0 k1), (i64 i2), (i64 i3), (i64 i4), (i64 i5)] true), (.arr 3 1 k6 g7 true)] }
noncomputable def L44x2 (env : Env) (F : Nat) (c : Cav) (l : Sl Stg) (t : Truth) (m0 : Nat) (fu : Nat) (g0 : Nat → List V) (i1 : Int) (q2 : IntKind) (i3 : Int) (k4 : Nat) (g5 : Nat → List V) (g6 : Nat → List V) : Option Out := atLoop Try.prog (cfg F) env 44 [.r, .r, .r, .r, .r, .l, .r, .d, .d, .r, .r, .l, .d, .r, .r, .l, .r, .d, .g 99, .r, .r, .r, .d] [m0] fu { tm := tmL 24 0 [(0, (.yld 0)), (1, (.rptr 1 4 g0 0 0)), (3, (i64 i1)), (4, (.int q2 i3))], hp := [.lp, (.box 24 (eCav c) true), (.box 82 (eTruth t) true), (.box 84 [(.row true 0 0 (fun u14 => [])), (i64 (0 : Int)), (i64 (0 : Int)), (i64 (0 : Int)), (i64 (0 : Int))] true), (.box 84 [(.row true 0 k4 g5), (i64 (0 : Int)), (i64 (0 : Int)), (i64 (0 : Int)), (i64 (0 : Int))] true), (.box 3 [(i64 (0 : Int))] true), (.box 40 (eStg (Sl.el l 0)) true), (.box 3 [(i64 c.hold)] true), (.box 3 [(i64 (0 : Int))] true), (.box 3 [(i64 (0 : Int))] true), (.box 3 [(i64 (0 : Int))] true)], ext := [(.yld 0), .top, .top, .top, (.optr 1 0 0), .top, (.optr 2 0 0), (.optr 3 0 0), .top, .top, .top, (.optr 4 0 0), (.optr 5 0 0), (.optr 6 0 0), (.optr 7 0 0), (.optr 8 0 0), (.optr 9 0 0), (.optr 10 0 0), .top, .top, .top, .top, .top, .top, .top, .top, .top, .top, .top, .top, .top, .top, .top, .top, .top, .top, .top, .top, .top, .top, (sl eStg 4 l), (i64 ((l.len : Nat) : Int)), (i64 (0 : Int)), (.bool (decide ((0 : Int) < ((l.len : Nat) : Int)))), (i64 (0 : Int)), (.rptr l.len 4 (fun u14 => (eStg (Sl.el l u14))) 0 0), (.agg (eStg (Sl.el l 0))), (.optr 1 0 1), (i64 c.hold), (.agg (eStg (Sl.el l 0))), (.fn (.func 99) [] [(.rptr 1 4 g6 0 0)]), .top, .top, .top, .top, .top, .top, .top, .top, .top, .top, .top, .top, .top, .top, .top, .top, .top, .top, .top, .top, .top, .top, .top, .top, .top, .top, .top, .top, .top, .top, .top, .top, .top, .top, .top, .top, .top, .top, .top, .top, .top, .top, .top, .top, .top, .top, .top, .top, .top, .top, .top, .top, .top, .top, .top, .top, .top, .top, .top, .top, .top, .top, .top, .top, .top, .top, .top, .top, .top, .top, .top, .top, .top, .top, .top, .top, .top, .top, .top, .top, .top, .top, .top, .top, .top, .top, .top, .top, .top, .top, .top, .top, .top, .top, .top] }
noncomputable def L44x3 (env : Env) (F : Nat) (c : Cav) (l : Sl Stg) (t : Truth) (m0 : Nat) (fu : Nat) (g0 : Nat → List V) (i1 : Int) (q2 : IntKind) (i3 : Int) (k4 : Nat) (i5 : Int) (i6 : Int) (i7 : Int) (i8 : Int) (i9 : Int) (i10 : Int) (i11 : Int) (i12 : Int) (i13 : Int) (i14 : Int) (q15 : IntKind) (i16 : Int) (q17 : IntKind) (i18 : Int) (q19 : IntKind) (i20 : Int) (k21 : Nat) (g22 : Nat → List V) (i23 : Int) (b24 : Bool) (i25 : Int) (k26 : Nat) (i27 : Int) (i28 : Int) (i29 : Int) (i30 : Int) (i31 : Int) (i32 : Int) (i33 : Int) (i34 : Int) (g35 : Nat → List V) : Option Out := atLoop Try.prog (cfg F) env 44 [.r, .r, .r, .r, .r, .l, .r, .d, .d, .r, .r, .l, .d, .r, .r, .l, .r, .d, .g 99, .r, .r, .r, .d] [m0] fu { tm := tmL 24 0 [(0, (.yld 0)), (1, (.rptr 1 4 g0 0 0)), (3, (i64 i1)), (4, (.int q2 i3))], hp := [.lp, (.box 24 (eCav c) true), (.box 82 (eTruth t) true), (.box 84 [(.row true 0 0 (fun u43 => [])), (i64 (0 : Int)), (i64 (0 : Int)), (i64 (0 : Int)), (i64 (0 : Int))] true), (.box 84 [(.osl 11 0 k4), (i64 i5), (i64 i6), (i64 i7), (i64 i8)] true), (.box 3 [(i64 i9)] true), (.box 40 [(i64 i10), (i64 i11), (i64 i12), (i64 i13)] true), (.box 3 [(i64 i14)] true), (.box 3 [(.int q15 i16)] true), (.box 3 [(.int q17 i18)] true), (.box 3 [(.int q19 i20)] true), (.arr 3 1 k21 g22 true)], ext := [(.yld 0), .top, .top, .top, (.optr 1 0 0), .top, (.optr 2 0 0), (.optr 3 0 0), .top, .top, .top, (.optr 4 0 0), (.optr 5 0 0), (.optr 6 0 0), (.optr 7 0 0), (.optr 8 0 0), (.optr 9 0 0), (.optr 10 0 0), .top, .top, .top, .top, .top, .top, .top, .top, .top, .top, .top, .top, .top, .top, .top, .top, .top, .top, .top, .top, .top, .top, (sl eStg 4 l), (i64 ((l.len : Nat) : Int)), (i64 i23), (.bool b24), (i64 i25), (.rptr l.len 4 (fun u43 => (eStg (Sl.el l u43))) k26 0), (.agg [(i64 i27), (i64 i28), (i64 i29), (i64 i30)]), (.optr 1 0 1), (i64 c.hold), (.agg [(i64 i31), (i64 i32), (i64 i33), (i64 i34)]), (.fn (.func 99) [] [(.rptr 1 4 g35 0 0)]), .top, .top, .top, .top, .top, .top, .top, .top, .top, .top, .top, .top, .top, .top, .top, .top, .top, .top, .top, .top, .top, .top, .top, .top, .top, .top, .top, .top, .top, .top, .top, .top, .top, .top, .top, .top, .top, .top, .top, .top, .top, .top, .top, .top, .top, .top, .top, .top, .top, .top, .top, .top, .top, .top, .top, .top, .top, .top, .top, .top, .top, .top, .top, .top, .top, .top, .top, .top, .top, .top, .top, .top, .top, .top, .top, .top, .top, .top, .top, .top, .top, .top, .top, .top, .top, .top, .top, .top, .top, .top, .top, .top, .top, .top, .top] }
theorem t44 (env : Env) (F : Nat) (c : Cav) (l : Sl Stg) (t : Truth) : (evFun Try.prog (cfg F) env 44 [(.agg (eCav c)), (sl eStg 4 l), (.agg (eTruth t))]) = (tkOut (env.pf 57 [(.agg (eCav c)), (sl eStg 4 l)]) none (fun v5 => (tkInt v5 none fun q6 n7 => (bif (decide (q6 = .i64)) then (bif (n7 != (0 : Int)) then some (.ret (.tup [(.agg [(.row true 0 0 (fun u8 => [])), (i64 (0 : Int)), (i64 (0 : Int)), (i64 (0 : Int)), (i64 (0 : Int))]), (.int q6 n7)])) else (tkOut (env.pf 87 [(.agg (eCav c)), (sl eStg 4 l), (.agg (eTruth t))]) none (fun v8 => (tkBool v8 none fun b9 => (bif (!b9) then some (.ret (.tup [(.agg [(.row true 0 0 (fun u10 => [])), (i64 (0 : Int)), (i64 (0 : Int)), (i64 (0 : Int)), (i64 (0 : Int))]), (i64 (2 : Int))])) else (tkHv (env.hv 79 [(sl eInt 1 (Truth.vols t))] []) none fun v10 h11 => (tkSl v10 none (fun nl12 n13 wd14 g15 => (bif (nl12 && (Nat.beq n13 0)) then (tkSNil h11 none ((L44x0 env F c l t F wd14 g15))) else none)) (fun b12 lo13 n14 => (bif ((Nat.beq b12 0) && (Nat.beq lo13 0)) then (tkSCons h11 none fun s15 r16 => (tkSNil r16 none ((tkArr s15 none fun e17 wd18 n19 g20 wr21 => (bif (((Nat.beq e17 3) && (Nat.beq wd18 1)) && (wr21 == true)) then (L44x1 env F c l t F (0 : Int) n14 (0 : Int) (0 : Int) (0 : Int) (0 : Int) n19 g20) else none))))) else none))))))) pK)) else none))) pK) := by kernel_rfl
theorem L44x0s (env : Env) (F : Nat) (c : Cav) (l : Sl Stg) (t : Truth) (fu : Nat) (k0 : Nat) (g1 : Nat → List V) : L44x0 env F c l t (fu + 1) k0 g1 = (bif (decide ((0 : Int) < ((l.len : Nat) : Int))) then (bif (decide ((0 : Int) < ((l.len : Nat) : Int))) then (tkOut (env.pf 68 [(.agg (eStg (Sl.el l 0)))]) none (fun v8 => (tkFn v8 none fun f9 a10 c11 => (bif (Nat.beq f9 99) then (tkNil a10 none ((tkCons c11 none fun v12 r13 => (tkPtr v12 none fun n14 wd15 g16 i17 off18 => (bif (((Nat.beq n14 1) && (Nat.beq wd15 4)) && ((Nat.beq i17 0) && (Nat.beq off18 0))) then (tkCons (g16 0) none fun v19 r20 => (tkInt v19 none fun q21 n22 => (tkCons r20 none fun v23 r24 => (tkInt v23 none fun q25 n26 => (tkCons r24 none fun v27 r28 => (tkInt v27 none fun q29 n30 => (tkCons r28 none fun v31 r32 => (tkInt v31 none fun q33 n34 => (tkNil r32 none ((tkNil r13 none ((bif (decide (q29 = q25)) then (bif (decide (n30 < n26)) then (L44x2 env F c l t fu F (fun u35 => [(.int q21 n22), (.int q25 n26), (.int q29 n30), (.int q33 n34)]) (-(1 : Int)) q25 n26 k0 g1 (fun u35 => [(.int q21 n22), (.int q25 n26), (.int q29 n30), (.int q33 n34)])) else (L44x2 env F c l t fu F (fun u35 => [(.int q21 n22), (.int q25 n26), (.int q29 n30), (.int q33 n34)]) (1 : Int) q25 n26 k0 g1 (fun u35 => [(.int q21 n22), (.int q25 n26), (.int q29 n30), (.int q33 n34)]))) else none))))))))))))) else none))))) else none))) pK) else none) else some (.ret (.tup [(.agg [(.row true 0 k0 g1), (i64 (0 : Int)), (i64 (0 : Int)), (i64 (0 : Int)), (i64 (0 : Int))]), (i64 (0 : Int))]))) := by kernel_rfl
theorem L44x1s (env : Env) (F : Nat) (c : Cav) (l : Sl Stg) (t : Truth) (fu : Nat) (i0 : Int) (k1 : Nat) (i2 : Int) (i3 : Int) (i4 : Int) (i5 : Int) (k6 : Nat) (g7 : Nat → List V) : L44x1 env F c l t (fu + 1) i0 k1 i2 i3 i4 i5 k6 g7 = (bif (decide (i0 < ((l.len : Nat) : Int))) then (bif (decide ((0 : Int) ≤ i0)) then (bif (decide (i0 < ((l.len : Nat) : Int))) then (tkOut (env.pf 68 [(.agg (eStg (Sl.el l i0.toNat)))]) none (fun v14 => (tkFn v14 none fun f15 a16 c17 => (bif (Nat.beq f15 99) then (tkNil a16 none ((tkCons c17 none fun v18 r19 => (tkPtr v18 none fun n20 wd21 g22 i23 off24 => (bif (((Nat.beq n20 1) && (Nat.beq wd21 4)) && ((Nat.beq i23 0) && (Nat.beq off24 0))) then (tkCons (g22 0) none fun v25 r26 => (tkInt v25 none fun q27 n28 => (tkCons r26 none fun v29 r30 => (tkInt v29 none fun q31 n32 => (tkCons r30 none fun v33 r34 => (tkInt v33 none fun q35 n36 => (tkCons r34 none fun v37 r38 => (tkInt v37 none fun q39 n40 => (tkNil r38 none ((tkNil r19 none ((bif (decide (q35 = q31)) then (bif (decide (n36 < n32)) then (L44x3 env F c l t fu F (fun u41 => [(.int q27 n28), (.int q31 n32), (.int q35 n36), (.int q39 n40)]) (-(1 : Int)) q31 n32 k1 i2 i3 i4 i5 i0 (Stg.water (Sl.el l i0.toNat)) (Stg.into (Sl.el l i0.toNat)) (Stg.out (Sl.el l i0.toNat)) (Stg.blanket (Sl.el l i0.toNat)) c.hold .i64 (0 : Int) .i64 (0 : Int) .i64 (0 : Int) k6 g7 i0 (decide (i0 < ((l.len : Nat) : Int))) i0 i0.toNat (Stg.water (Sl.el l i0.toNat)) (Stg.into (Sl.el l i0.toNat)) (Stg.out (Sl.el l i0.toNat)) (Stg.blanket (Sl.el l i0.toNat)) (Stg.water (Sl.el l i0.toNat)) (Stg.into (Sl.el l i0.toNat)) (Stg.out (Sl.el l i0.toNat)) (Stg.blanket (Sl.el l i0.toNat)) (fun u41 => [(.int q27 n28), (.int q31 n32), (.int q35 n36), (.int q39 n40)])) else (L44x3 env F c l t fu F (fun u41 => [(.int q27 n28), (.int q31 n32), (.int q35 n36), (.int q39 n40)]) (1 : Int) q31 n32 k1 i2 i3 i4 i5 i0 (Stg.water (Sl.el l i0.toNat)) (Stg.into (Sl.el l i0.toNat)) (Stg.out (Sl.el l i0.toNat)) (Stg.blanket (Sl.el l i0.toNat)) c.hold .i64 (0 : Int) .i64 (0 : Int) .i64 (0 : Int) k6 g7 i0 (decide (i0 < ((l.len : Nat) : Int))) i0 i0.toNat (Stg.water (Sl.el l i0.toNat)) (Stg.into (Sl.el l i0.toNat)) (Stg.out (Sl.el l i0.toNat)) (Stg.blanket (Sl.el l i0.toNat)) (Stg.water (Sl.el l i0.toNat)) (Stg.into (Sl.el l i0.toNat)) (Stg.out (Sl.el l i0.toNat)) (Stg.blanket (Sl.el l i0.toNat)) (fun u41 => [(.int q27 n28), (.int q31 n32), (.int q35 n36), (.int q39 n40)]))) else none))))))))))))) else none))))) else none))) pK) else none) else none) else some (.ret (.tup [(.agg [(.row false k1 1 (fun u14 => (g7 u14))), (i64 i2), (i64 i3), (i64 i4), (i64 i5)]), (i64 (0 : Int))]))) := by kernel_rfl
theorem L44x2s (env : Env) (F : Nat) (c : Cav) (l : Sl Stg) (t : Truth) (m0 : Nat) (fu : Nat) (g0 : Nat → List V) (i1 : Int) (q2 : IntKind) (i3 : Int) (k4 : Nat) (g5 : Nat → List V) (g6 : Nat → List V) : L44x2 env F c l t m0 (fu + 1) g0 i1 q2 i3 k4 g5 g6 = (bif (decide ((0 : Int) < (((Sl.len (Truth.rates t)) : Nat) : Int))) then (bif (decide ((0 : Int) ≤ i3)) then (bif (decide (i3 < (((Sl.len (Sl.el (Truth.rates t) 0)) : Nat) : Int))) then (tkOut (env.pf 88 [(.row false 2 1 (fun u14 => (List.take 1 (List.drop ((Min.min u14 1) * 1) [(i64 (0 : Int)), (i64 (IntKind.wrap .i64 ((if c.hold < (Sl.el (Sl.el (Truth.rates t) 0) i3.toNat) then c.hold else (Sl.el (Sl.el (Truth.rates t) 0) i3.toNat)) * (Stg.water (Sl.el l 0)))))]))))]) none (fun v14 => (tkInt v14 none fun q15 n16 => (bif (k4 == 1) then (bif (decide ((0 : Int) ≤ i3)) then (bif (decide (i3 < ((0 : Nat) : Int))) then (tkCons (g5 i3.toNat) none fun v17 r18 => (tkInt v17 none fun q19 n20 => (bif (decide ((0 : Int) ≤ i3)) then (bif (decide (i3 < ((c.slices.len : Nat) : Int))) then (bif (decide (q19 = .i64)) then (bif (k4 == 1) then (bif (decide ((0 : Int) ≤ i3)) then (bif (decide (i3 < ((0 : Nat) : Int))) then none else none) else none) else none) else none) else none) else none))) else none) else none) else none))) nK) else none) else none) else none) := by kernel_rfl
theorem L44x3s (env : Env) (F : Nat) (c : Cav) (l : Sl Stg) (t : Truth) (m0 : Nat) (fu : Nat) (g0 : Nat → List V) (i1 : Int) (q2 : IntKind) (i3 : Int) (k4 : Nat) (i5 : Int) (i6 : Int) (i7 : Int) (i8 : Int) (i9 : Int) (i10 : Int) (i11 : Int) (i12 : Int) (i13 : Int) (i14 : Int) (q15 : IntKind) (i16 : Int) (q17 : IntKind) (i18 : Int) (q19 : IntKind) (i20 : Int) (k21 : Nat) (g22 : Nat → List V) (i23 : Int) (b24 : Bool) (i25 : Int) (k26 : Nat) (i27 : Int) (i28 : Int) (i29 : Int) (i30 : Int) (i31 : Int) (i32 : Int) (i33 : Int) (i34 : Int) (g35 : Nat → List V) : L44x3 env F c l t m0 (fu + 1) g0 i1 q2 i3 k4 i5 i6 i7 i8 i9 i10 i11 i12 i13 i14 q15 i16 q17 i18 q19 i20 k21 g22 i23 b24 i25 k26 i27 i28 i29 i30 i31 i32 i33 i34 g35 = (bif (decide ((0 : Int) ≤ i9)) then (bif (decide (i9 < (((Sl.len (Truth.rates t)) : Nat) : Int))) then (bif (decide ((0 : Int) ≤ i3)) then (bif (decide (i3 < (((Sl.len (Sl.el (Truth.rates t) i9.toNat)) : Nat) : Int))) then (tkOut (env.pf 88 [(.row false 2 1 (fun u43 => (List.take 1 (List.drop ((Min.min u43 1) * 1) [(.int q19 i20), (i64 (IntKind.wrap .i64 ((if i14 < (Sl.el (Sl.el (Truth.rates t) i9.toNat) i3.toNat) then i14 else (Sl.el (Sl.el (Truth.rates t) i9.toNat) i3.toNat)) * i10)))]))))]) none (fun v43 => (tkInt v43 none fun q44 n45 => (bif (decide ((0 : Int) ≤ i3)) then (bif (decide (i3 < ((k4 : Nat) : Int))) then (tkCons (g22 i3.toNat) none fun v46 r47 => (tkInt v46 none fun q48 n49 => (bif (decide ((0 : Int) ≤ i3)) then (bif (decide (i3 < ((c.slices.len : Nat) : Int))) then (bif (decide (q48 = .i64)) then (bif (decide ((0 : Int) ≤ i3)) then (bif (decide (i3 < ((k4 : Nat) : Int))) then (bif (decide ((0 : Int) ≤ i3)) then (bif (decide (i3 < ((c.slices.len : Nat) : Int))) then (tkOut (env.pf 88 [(.row false 2 1 (fun u50 => (List.take 1 (List.drop ((Min.min u50 1) * 1) [(.int q15 i16), (i64 (IntKind.wrap .i64 ((IntKind.wrap .i64 ((if i14 < (Sl.el (Sl.el (Truth.rates t) i9.toNat) i3.toNat) then i14 else (Sl.el (Sl.el (Truth.rates t) i9.toNat) i3.toNat)) * i10)) * (Slc.opn (c.slices.el i3.toNat)))))]))))]) none (fun v50 => (tkInt v50 none fun q51 n52 => (bif (decide ((0 : Int) ≤ i3)) then (bif (decide (i3 < ((c.slices.len : Nat) : Int))) then (tkOut (env.pf 88 [(.row false 2 1 (fun u53 => (List.take 1 (List.drop ((Min.min u53 1) * 1) [(.int q17 i18), (i64 (IntKind.wrap .i64 ((IntKind.wrap .i64 ((if i14 < (Sl.el (Sl.el (Truth.rates t) i9.toNat) i3.toNat) then i14 else (Sl.el (Sl.el (Truth.rates t) i9.toNat) i3.toNat)) * i10)) * (Slc.fall (c.slices.el i3.toNat)))))]))))]) none (fun v53 => (tkInt v53 none fun q54 n55 => (tkCons (List.drop 2 (g0 0)) none fun v56 r57 => (tkInt v56 none fun q58 n59 => (bif (decide (q2 = q58)) then (bif (i3 != n59) then (bif (decide (q2 = .i64)) then (L44x3 env F c l t m0 fu g0 i1 q2 (IntKind.wrap q2 (i3 + i1)) k4 i5 i6 i7 i8 i9 i10 i11 i12 i13 (IntKind.wrap .i64 (i14 - (if i14 < (Sl.el (Sl.el (Truth.rates t) i9.toNat) i3.toNat) then i14 else (Sl.el (Sl.el (Truth.rates t) i9.toNat) i3.toNat)))) q51 n52 q54 n55 q44 n45 k21 (updGet g22 i3.toNat 0 [(.int q48 (IntKind.wrap q48 (n49 + (IntKind.wrap .i64 ((IntKind.wrap .i64 ((if i14 < (Sl.el (Sl.el (Truth.rates t) i9.toNat) i3.toNat) then i14 else (Sl.el (Sl.el (Truth.rates t) i9.toNat) i3.toNat)) * i10)) * (Slc.opn (c.slices.el i3.toNat)))))))]) i23 b24 i25 k26 i27 i28 i29 i30 i31 i32 i33 i34 g35) else none) else (bif (decide (.i64 = q54)) then (bif (decide (.i64 = q44)) then (bif (decide (.i64 = q51)) then (bif (decide (.i64 = q54)) then (bif (decide (.i64 = q44)) then (bif (decide (q51 = q54)) then (bif (decide (.i64 = q51)) then (L44x1 env F c l t m0 (IntKind.wrap .i64 (i23 + (1 : Int))) k4 (IntKind.wrap .i64 (i5 + n55)) (IntKind.wrap .i64 (i6 + n45)) (IntKind.wrap .i64 (i7 + (IntKind.wrap .i64 ((IntKind.wrap .i64 ((IntKind.wrap .i64 ((1000000 : Int) * i10)) - n52)) + n55)))) (IntKind.wrap .i64 (i8 + (IntKind.wrap .i64 ((IntKind.wrap .i64 ((1000000 : Int) * n45)) - (IntKind.wrap .i64 (c.hold * (IntKind.wrap q51 (n52 - n55)))))))) k21 (updGet g22 i3.toNat 0 [(.int q48 (IntKind.wrap q48 (n49 + (IntKind.wrap .i64 ((IntKind.wrap .i64 ((if i14 < (Sl.el (Sl.el (Truth.rates t) i9.toNat) i3.toNat) then i14 else (Sl.el (Sl.el (Truth.rates t) i9.toNat) i3.toNat)) * i10)) * (Slc.opn (c.slices.el i3.toNat)))))))])) else none) else none) else none) else none) else none) else none) else none)) else none))))) nK) else none) else none))) nK) else none) else none) else none) else none) else none) else none) else none))) else none) else none))) nK) else none) else none) else none) else none) := by kernel_rfl
theorem t300 (env : Env) (F : Nat) (c : Cav) : (evFun Try.prog (cfg F) env 30 [(.agg (eCav c)), (.row true 0 0 (fun u3 => []))]) = (tkOut (env.pf 57 [(.agg (eCav c)), (.row true 0 0 (fun u3 => []))]) none (fun v3 => (tkInt v3 none fun q4 n5 => (bif (decide (q4 = .i64)) then (bif (n5 != (0 : Int)) then some (.ret (.tup [(i64 (0 : Int)), (i64 (0 : Int)), (i64 (0 : Int)), (.int q4 n5)])) else (tkHv (env.hv 73 [(.optr 0 0 0), (i64 (0 : Int))] [(.box 124 [(sl eSlc 7 c.slices), (i64 c.hold), (i64 (Cav.oil c)), (.row true 0 0 (fun u6 => [])), (i64 (0 : Int)), (.mapr 1)] true), (.mp true [(KS.int .i64), (KS.int .i64), (KS.int .i64), (KS.int .i64), (KS.int .i64), (KS.int .i64)] [] true)]) none fun v6 h7 => (tkTup v6 none fun l8 => (tkCons l8 none fun v9 r10 => (tkInt v9 none fun q11 n12 => (tkCons r10 none fun v13 r14 => (tkInt v13 none fun q15 n16 => (tkCons r14 none fun v17 r18 => (tkInt v17 none fun q19 n20 => (tkNil r18 none ((tkSCons h7 none fun s21 r22 => (tkBox s21 none fun e23 c24 wr25 => (bif ((Nat.beq e23 124) && (wr25 == true)) then (tkCons c24 none fun v26 r27 => (tkRow v26 none fun nl28 n29 wd30 g31 => (tkCons r27 none fun v32 r33 => (tkInt v32 none fun q34 n35 => (tkCons r33 none fun v36 r37 => (tkInt v36 none fun q38 n39 => (tkCons r37 none fun v40 r41 => (tkRow v40 none fun nl42 n43 wd44 g45 => (tkCons r41 none fun v46 r47 => (tkInt v46 none fun q48 n49 => (tkCons r47 none fun v50 r51 => (bif (sameV 8 (.mapr 1) v50) then (tkNil r51 none ((tkSCons r22 none fun s52 r53 => (tkMp s52 none fun ag54 ks55 es56 wr57 => (bif (((ag54 == true) && (ksEq ks55 [(KS.int .i64), (KS.int .i64), (KS.int .i64), (KS.int .i64), (KS.int .i64), (KS.int .i64)])) && (wr57 == true)) then (tkSNil r53 none (some (.ret (.tup [(.int q11 n12), (.int q15 n16), (.int q19 n20), (i64 (0 : Int))])))) else none))))) else none)))))))))))) else none)))))))))))))) else none))) pK) := by kernel_rfl
noncomputable def L420x0 (env : Env) (F : Nat) (c : Cav) (fu : Nat) (b0 : Bool) (k1 : Nat) (k2 : Nat) (g3 : Nat → List V) (q4 : IntKind) (i5 : Int) (q6 : IntKind) (i7 : Int) : Option Out := atLoop Try.prog (cfg F) env 42 [.r, .r, .r, .r, .l, .r, .d] [] fu { tm := tmL 59 0 [(4, (.optr 0 0 0)), (8, (.optr 1 0 0)), (33, (sl eSlc 7 c.slices)), (34, (i64 ((c.slices.len : Nat) : Int))), (35, (i64 (0 : Int)))], hp := [(.box 72 [(.row true 0 0 (fun u12 => [])), (.row true 0 0 (fun u12 => [])), (i64 (0 : Int)), (i64 (0 : Int))] true), (.box 72 [(.row b0 k1 k2 g3), (.row true 0 0 (fun u12 => [])), (.int q4 i5), (.int q6 i7)] true)] }
noncomputable def L420x1 (env : Env) (F : Nat) (c : Cav) (fu : Nat) (i0 : Int) (b1 : Bool) (k2 : Nat) (k3 : Nat) (g4 : Nat → List V) (k5 : Nat) (q6 : IntKind) (i7 : Int) (q8 : IntKind) (i9 : Int) (k10 : Nat) (g11 : Nat → List V) : Option Out := atLoop Try.prog (cfg F) env 42 [.r, .r, .r, .r, .l, .r, .d] [] fu { tm := tmL 59 0 [(4, (.optr 0 0 0)), (8, (.optr 1 0 0)), (33, (sl eSlc 7 c.slices)), (34, (i64 ((c.slices.len : Nat) : Int))), (35, (i64 i0))], hp := [(.box 72 [(.row true 0 0 (fun u16 => [])), (.row true 0 0 (fun u16 => [])), (i64 (0 : Int)), (i64 (0 : Int))] true), (.box 72 [(.row b1 k2 k3 g4), (.osl 2 0 k5), (.int q6 i7), (.int q8 i9)] true), (.arr 31 2 k10 g11 true)] }
theorem t420 (env : Env) (F : Nat) (c : Cav) : (evFun Try.prog (cfg F) env 42 [(.agg (eCav c)), (.row true 0 0 (fun u3 => []))]) = (tkOut (env.pf 57 [(.agg (eCav c)), (.row true 0 0 (fun u3 => []))]) none (fun v3 => (tkInt v3 none fun q4 n5 => (bif (decide (q4 = .i64)) then (bif (n5 != (0 : Int)) then some (.ret (.tup [(.agg [(.row true 0 0 (fun u6 => [])), (.row true 0 0 (fun u6 => [])), (i64 (0 : Int)), (i64 (0 : Int))]), (.int q4 n5)])) else (tkOut (env.pf 84 [(.agg (eCav c)), (.row true 0 0 (fun u6 => []))]) none (fun v6 => (tkRow v6 none fun nl7 n8 wd9 g10 => (bif (decide ((0 : Int) ≤ ((c.slices.len : Nat) : Int))) then (bif (decide (((c.slices.len : Nat) : Int) ≤ ((c.slices.len : Nat) : Int))) then (bif (decide ((((8 : Nat) : Int) * ((c.slices.len : Nat) : Int)) ≤ (281474976710656 : Int))) then (bif (decide (((c.slices.len : Nat) : Int) ≤ (9223372036854775807 : Int))) then (tkOut (env.pf 62 [(.agg (eCav c)), (.row true 0 0 (fun u11 => [])), (.agg [(.row false (Int.toNat ((c.slices.len : Nat) : Int)) 1 (fun u11 => [(i64 (0 : Int))])), (i64 (1 : Int))])]) none (fun v11 => (tkAgg v11 none fun l12 => (tkCons l12 none fun v13 r14 => (tkInt v13 none fun q15 n16 => (tkCons r14 none fun v17 r18 => (tkInt v17 none fun q19 n20 => (tkNil r18 none ((L420x0 env F c F nl7 n8 wd9 g10 q15 n16 q19 n20))))))))) nK) else none) else none) else none) else none))) nK)) else none))) pK) := by kernel_rfl
theorem L420x0s (env : Env) (F : Nat) (c : Cav) (fu : Nat) (b0 : Bool) (k1 : Nat) (k2 : Nat) (g3 : Nat → List V) (q4 : IntKind) (i5 : Int) (q6 : IntKind) (i7 : Int) : L420x0 env F c (fu + 1) b0 k1 k2 g3 q4 i5 q6 i7 = (bif (decide ((0 : Int) < ((c.slices.len : Nat) : Int))) then (bif (decide ((0 : Int) < ((c.slices.len : Nat) : Int))) then (bif (k2 == 2) then (bif (decide ((0 : Int) < ((k1 : Nat) : Int))) then (bif ((List.length (List.take 2 (g3 0))) == 2) then (tkCons (List.take 2 (g3 0)) none fun v12 r13 => (tkInt v12 none fun q14 n15 => (tkCons r13 none fun v16 r17 => (tkInt v16 none fun q18 n19 => (tkNil r17 none ((tkOut (env.pf 86 [(.agg [(.int q14 n15), (.int q18 n19)]), (i64 (Slc.opn (c.slices.el 0)))]) none (fun v20 => (tkAgg v20 none fun l21 => (tkCons l21 none fun v22 r23 => (tkInt v22 none fun q24 n25 => (tkCons r23 none fun v26 r27 => (tkInt v26 none fun q28 n29 => (tkNil r27 none ((tkOut (env.pf 85 [(.row false 2 2 (fun u30 => (List.take 2 (List.drop ((Min.min u30 1) * 2) [(i64 (Span.lo (Slc.vol (c.slices.el 0)))), (i64 (Span.hi (Slc.vol (c.slices.el 0)))), (.int q24 n25), (.int q28 n29)]))))]) none (fun v30 => (tkAgg v30 none fun l31 => (tkCons l31 none fun v32 r33 => (tkInt v32 none fun q34 n35 => (tkCons r33 none fun v36 r37 => (tkInt v36 none fun q38 n39 => (tkNil r37 none ((L420x1 env F c fu (IntKind.wrap .i64 ((0 : Int) + (1 : Int))) b0 k1 k2 g3 1 q4 i5 q6 i7 1 (fun u40 => [(.int q34 n35), (.int q38 n39)])))))))))) nK))))))))) pK))))))) else none) else none) else none) else none) else some (.ret (.tup [(.agg [(.row b0 k1 k2 g3), (.row true 0 0 (fun u12 => [])), (.int q4 i5), (.int q6 i7)]), (i64 (0 : Int))]))) := by kernel_rfl
theorem L420x1s (env : Env) (F : Nat) (c : Cav) (fu : Nat) (i0 : Int) (b1 : Bool) (k2 : Nat) (k3 : Nat) (g4 : Nat → List V) (k5 : Nat) (q6 : IntKind) (i7 : Int) (q8 : IntKind) (i9 : Int) (k10 : Nat) (g11 : Nat → List V) : L420x1 env F c (fu + 1) i0 b1 k2 k3 g4 k5 q6 i7 q8 i9 k10 g11 = (bif (decide (i0 < ((c.slices.len : Nat) : Int))) then (bif (decide ((0 : Int) ≤ i0)) then (bif (decide (i0 < ((c.slices.len : Nat) : Int))) then (bif (k3 == 2) then (bif (decide ((0 : Int) ≤ i0)) then (bif (decide (i0 < ((k2 : Nat) : Int))) then (bif ((List.length (List.take 2 (g4 i0.toNat))) == 2) then (tkCons (List.take 2 (g4 i0.toNat)) none fun v16 r17 => (tkInt v16 none fun q18 n19 => (tkCons r17 none fun v20 r21 => (tkInt v20 none fun q22 n23 => (tkNil r21 none ((tkOut (env.pf 86 [(.agg [(.int q18 n19), (.int q22 n23)]), (i64 (Slc.opn (c.slices.el i0.toNat)))]) none (fun v24 => (tkAgg v24 none fun l25 => (tkCons l25 none fun v26 r27 => (tkInt v26 none fun q28 n29 => (tkCons r27 none fun v30 r31 => (tkInt v30 none fun q32 n33 => (tkNil r31 none ((tkOut (env.pf 85 [(.row false 2 2 (fun u34 => (List.take 2 (List.drop ((Min.min u34 1) * 2) [(i64 (Span.lo (Slc.vol (c.slices.el i0.toNat)))), (i64 (Span.hi (Slc.vol (c.slices.el i0.toNat)))), (.int q28 n29), (.int q32 n33)]))))]) none (fun v34 => (tkAgg v34 none fun l35 => (tkCons l35 none fun v36 r37 => (tkInt v36 none fun q38 n39 => (tkCons r37 none fun v40 r41 => (tkInt v40 none fun q42 n43 => (tkNil r41 none ((bif (decide (((k5 + 1) * 16) ≤ 140737488355328)) then (L420x1 env F c fu (IntKind.wrap .i64 (i0 + (1 : Int))) b1 k2 k3 g4 (k5 + 1) q6 i7 q8 i9 (k5 + 1) (appGet k5 g11 (fun u44 => [(.int q38 n39), (.int q42 n43)]))) else none))))))))) nK))))))))) pK))))))) else none) else none) else none) else none) else none) else none) else some (.ret (.tup [(.agg [(.row b1 k2 k3 g4), (.row false k5 2 (fun u16 => (g11 u16))), (.int q6 i7), (.int q8 i9)]), (i64 (0 : Int))]))) := by kernel_rfl
noncomputable def L440x0 (env : Env) (F : Nat) (c : Cav) (v : Sl Int) (fu : Nat) (k0 : Nat) (g1 : Nat → List V) : Option Out := atLoop Try.prog (cfg F) env 44 [.r, .r, .r, .r, .r, .l, .r, .d] [] fu { tm := tmL 145 0 [(3, (.optr 0 0 0)), (5, (.optr 1 0 0)), (6, (.optr 2 0 0)), (10, (.optr 3 0 0)), (39, (.row true 0 0 (fun u7 => []))), (40, (i64 ((0 : Nat) : Int))), (41, (i64 (0 : Int)))], hp := [(.box 24 (eCav c) true), (.box 82 [(sl eInt 1 v), (.row true 0 0 (fun u7 => []))] true), (.box 84 [(.row true 0 0 (fun u7 => [])), (i64 (0 : Int)), (i64 (0 : Int)), (i64 (0 : Int)), (i64 (0 : Int))] true), (.box 84 [(.row true 0 k0 g1), (i64 (0 : Int)), (i64 (0 : Int)), (i64 (0 : Int)), (i64 (0 : Int))] true)] }
noncomputable def L440x1 (env : Env) (F : Nat) (c : Cav) (v : Sl Int) (fu : Nat) (k0 : Nat) (k1 : Nat) (g2 : Nat → List V) : Option Out := atLoop Try.prog (cfg F) env 44 [.r, .r, .r, .r, .r, .l, .r, .d] [] fu { tm := tmL 145 0 [(3, (.optr 0 0 0)), (5, (.optr 1 0 0)), (6, (.optr 2 0 0)), (10, (.optr 3 0 0)), (39, (.row true 0 0 (fun u8 => []))), (40, (i64 ((0 : Nat) : Int))), (41, (i64 (0 : Int)))], hp := [(.box 24 (eCav c) true), (.box 82 [(sl eInt 1 v), (.row true 0 0 (fun u8 => []))] true), (.box 84 [(.row true 0 0 (fun u8 => [])), (i64 (0 : Int)), (i64 (0 : Int)), (i64 (0 : Int)), (i64 (0 : Int))] true), (.box 84 [(.osl 4 0 k0), (i64 (0 : Int)), (i64 (0 : Int)), (i64 (0 : Int)), (i64 (0 : Int))] true), (.arr 3 1 k1 g2 true)] }
theorem t440 (env : Env) (F : Nat) (c : Cav) (v : Sl Int) : (evFun Try.prog (cfg F) env 44 [(.agg (eCav c)), (.row true 0 0 (fun u4 => [])), (.agg [(sl eInt 1 v), (.row true 0 0 (fun u4 => []))])]) = (tkOut (env.pf 57 [(.agg (eCav c)), (.row true 0 0 (fun u4 => []))]) none (fun v4 => (tkInt v4 none fun q5 n6 => (bif (decide (q5 = .i64)) then (bif (n6 != (0 : Int)) then some (.ret (.tup [(.agg [(.row true 0 0 (fun u7 => [])), (i64 (0 : Int)), (i64 (0 : Int)), (i64 (0 : Int)), (i64 (0 : Int))]), (.int q5 n6)])) else (tkOut (env.pf 87 [(.agg (eCav c)), (.row true 0 0 (fun u7 => [])), (.agg [(sl eInt 1 v), (.row true 0 0 (fun u7 => []))])]) none (fun v7 => (tkBool v7 none fun b8 => (bif (!b8) then some (.ret (.tup [(.agg [(.row true 0 0 (fun u9 => [])), (i64 (0 : Int)), (i64 (0 : Int)), (i64 (0 : Int)), (i64 (0 : Int))]), (i64 (2 : Int))])) else (tkHv (env.hv 79 [(sl eInt 1 v)] []) none fun v9 h10 => (tkSl v9 none (fun nl11 n12 wd13 g14 => (bif (nl11 && (Nat.beq n12 0)) then (tkSNil h10 none ((L440x0 env F c v F wd13 g14))) else none)) (fun b11 lo12 n13 => (bif ((Nat.beq b11 0) && (Nat.beq lo12 0)) then (tkSCons h10 none fun s14 r15 => (tkSNil r15 none ((tkArr s14 none fun e16 wd17 n18 g19 wr20 => (bif (((Nat.beq e16 3) && (Nat.beq wd17 1)) && (wr20 == true)) then (L440x1 env F c v F n13 n18 g19) else none))))) else none))))))) pK)) else none))) pK) := by kernel_rfl
theorem L440x0s (env : Env) (F : Nat) (c : Cav) (v : Sl Int) (fu : Nat) (k0 : Nat) (g1 : Nat → List V) : L440x0 env F c v (fu + 1) k0 g1 = some (.ret (.tup [(.agg [(.row true 0 k0 g1), (i64 (0 : Int)), (i64 (0 : Int)), (i64 (0 : Int)), (i64 (0 : Int))]), (i64 (0 : Int))])) := by kernel_rfl
theorem L440x1s (env : Env) (F : Nat) (c : Cav) (v : Sl Int) (fu : Nat) (k0 : Nat) (k1 : Nat) (g2 : Nat → List V) : L440x1 env F c v (fu + 1) k0 k1 g2 = some (.ret (.tup [(.agg [(.row false k0 1 (fun u8 => (g2 u8))), (i64 (0 : Int)), (i64 (0 : Int)), (i64 (0 : Int)), (i64 (0 : Int))]), (i64 (0 : Int))])) := by kernel_rfl
theorem t570 (env : Env) (F : Nat) (c : Cav) : (evFun Try.prog (cfg F) env 57 [(.agg (eCav c)), (.row true 0 0 (fun u3 => []))]) = (tkOut (env.pf 66 [(.agg (eCav c))]) none (fun v3 => (tkBool v3 none fun b4 => (bif (!b4) then some (.ret (i64 (2 : Int))) else (tkOut (env.pf 90 [(.agg (eCav c)), (.row true 0 0 (fun u5 => []))]) none (fun v5 => (tkBool v5 none fun b6 => (bif (!b6) then some (.ret (i64 (2 : Int))) else some (.ret (i64 (0 : Int)))))) pK)))) pK) := by kernel_rfl
noncomputable def L870x0 (env : Env) (F : Nat) (c : Cav) (v : Sl Int) (fu : Nat) (i0 : Int) : Option Out := atLoop Try.prog (cfg F) env 87 [.r, .r, .l, .r, .d] [] fu { tm := tmL 91 0 [(3, (.optr 0 0 0)), (5, (.optr 1 0 0)), (32, (sl eInt 1 v)), (33, (i64 (((Sl.len v) : Nat) : Int))), (34, (i64 i0))], hp := [(.box 103 (eCav c) true), (.box 82 [(sl eInt 1 v), (.row true 0 0 (fun u6 => []))] true)] }
noncomputable def L870x1 (env : Env) (F : Nat) (c : Cav) (v : Sl Int) (fu : Nat) : Option Out := atLoop Try.prog (cfg F) env 87 [.r, .r, .r, .l, .r, .d] [] fu { tm := tmL 91 0 [(3, (.optr 0 0 0)), (55, (.row true 0 0 (fun u5 => []))), (56, (i64 ((0 : Nat) : Int))), (57, (i64 (0 : Int)))], hp := [(.box 103 (eCav c) true)] }
theorem t870 (env : Env) (F : Nat) (c : Cav) (v : Sl Int) : (evFun Try.prog (cfg F) env 87 [(.agg (eCav c)), (.row true 0 0 (fun u4 => [])), (.agg [(sl eInt 1 v), (.row true 0 0 (fun u4 => []))])]) = (bif ((((Sl.len v) : Nat) : Int) != ((c.slices.len : Nat) : Int)) then some (.ret (.bool false)) else (L870x0 env F c v F (0 : Int))) := by kernel_rfl
theorem L870x0s (env : Env) (F : Nat) (c : Cav) (v : Sl Int) (fu : Nat) (i0 : Int) : L870x0 env F c v (fu + 1) i0 = (bif (decide (i0 < (((Sl.len v) : Nat) : Int))) then (bif (decide ((0 : Int) ≤ i0)) then (bif (decide (i0 < (((Sl.len v) : Nat) : Int))) then (bif (decide ((0 : Int) ≤ i0)) then (bif (decide (i0 < ((c.slices.len : Nat) : Int))) then (tkOut (env.pf 59 [(i64 (Sl.el v i0.toNat)), (i64 (Span.lo (Slc.vol (c.slices.el i0.toNat)))), (i64 (Span.hi (Slc.vol (c.slices.el i0.toNat))))]) none (fun v6 => (tkBool v6 none fun b7 => (bif (!b7) then some (.ret (.bool false)) else (L870x0 env F c v fu (IntKind.wrap .i64 (i0 + (1 : Int))))))) pK) else none) else none) else none) else none) else (L870x1 env F c v F)) := by kernel_rfl
theorem L870x1s (env : Env) (F : Nat) (c : Cav) (v : Sl Int) (fu : Nat) : L870x1 env F c v (fu + 1) = some (.ret (.bool true)) := by kernel_rfl
noncomputable def L840x0 (env : Env) (F : Nat) (c : Cav) (fu : Nat) : Option Out := atLoop Try.prog (cfg F) env 84 [.r, .r, .l, .r, .d] [] fu { tm := tmL 46 0 [(2, (.optr 0 0 0)), (5, (.osl 1 0 (Int.toNat ((c.slices.len : Nat) : Int)))), (15, (.row true 0 0 (fun u4 => []))), (16, (i64 ((0 : Nat) : Int))), (17, (i64 (0 : Int)))], hp := [(.box 103 (eCav c) true), (.arr 31 2 (Int.toNat ((c.slices.len : Nat) : Int)) (fun u4 => [(i64 (0 : Int)), (i64 (0 : Int))]) true)] }
theorem t840 (env : Env) (F : Nat) (c : Cav) : (evFun Try.prog (cfg F) env 84 [(.agg (eCav c)), (.row true 0 0 (fun u3 => []))]) = (bif (decide ((0 : Int) ≤ ((c.slices.len : Nat) : Int))) then (bif (decide (((c.slices.len : Nat) : Int) ≤ ((c.slices.len : Nat) : Int))) then (bif (decide ((((16 : Nat) : Int) * ((c.slices.len : Nat) : Int)) ≤ (281474976710656 : Int))) then (bif (decide (((c.slices.len : Nat) : Int) ≤ (9223372036854775807 : Int))) then (L840x0 env F c F) else none) else none) else none) else none) := by kernel_rfl
theorem L840x0s (env : Env) (F : Nat) (c : Cav) (fu : Nat) : L840x0 env F c (fu + 1) = some (.ret (.row false (Int.toNat ((c.slices.len : Nat) : Int)) 2 (fun u4 => [(i64 (0 : Int)), (i64 (0 : Int))]))) := by kernel_rfl
noncomputable def L620x0 (env : Env) (F : Nat) (c : Cav) (m : Mea) (fu : Nat) (q0 : IntKind) (i1 : Int) (q2 : IntKind) (i3 : Int) : Option Out := atLoop Try.prog (cfg F) env 62 [.r, .r, .l, .r, .d] [] fu { tm := tmL 28 0 [(3, (.optr 0 0 0)), (5, (.optr 1 0 0)), (6, (.optr 2 0 0)), (7, (.optr 3 0 0)), (13, (.row true 0 0 (fun u9 => []))), (14, (i64 ((0 : Nat) : Int))), (15, (i64 (0 : Int)))], hp := [(.box 103 (eCav c) true), (.box 110 (eMea m) true), (.box 31 [(i64 (0 : Int)), (i64 (0 : Int))] true), (.box 31 [(.int q0 i1), (.int q2 i3)] true)] }
theorem t620 (env : Env) (F : Nat) (c : Cav) (m : Mea) : (evFun Try.prog (cfg F) env 62 [(.agg (eCav c)), (.row true 0 0 (fun u4 => [])), (.agg (eMea m))]) = (tkOut (env.pf 92 [(.agg (eCav c)), (.agg (eMea m))]) none (fun v4 => (tkAgg v4 none fun l5 => (tkCons l5 none fun v6 r7 => (tkInt v6 none fun q8 n9 => (tkCons r7 none fun v10 r11 => (tkInt v10 none fun q12 n13 => (tkNil r11 none ((L620x0 env F c m F q8 n9 q12 n13))))))))) pK) := by kernel_rfl
theorem L620x0s (env : Env) (F : Nat) (c : Cav) (m : Mea) (fu : Nat) (q0 : IntKind) (i1 : Int) (q2 : IntKind) (i3 : Int) : L620x0 env F c m (fu + 1) q0 i1 q2 i3 = some (.ret (.agg [(.int q0 i1), (.int q2 i3)])) := by kernel_rfl
theorem t900 (env : Env) (F : Nat) (c : Cav) : (evFun Try.prog (cfg F) env 90 [(.agg (eCav c)), (.row true 0 0 (fun u3 => []))]) = (tkOut (env.pf 107 [(.row true 0 0 (fun u3 => [])), (.fn (.func 108) [] [(.rptr 1 3 (fun u3 => (eCav c)) 0 0)])]) none (fun v3 => (tkBool v3 none fun b4 => some (.ret (.bool (!b4))))) pK) := by kernel_rfl
theorem t1070 (env : Env) (F : Nat) (c : Cav) : (evFun Try.prog (cfg F) env 107 [(.row true 0 0 (fun u3 => [])), (.fn (.func 108) [] [(.rptr 1 3 (fun u3 => (eCav c)) 0 0)])]) = (tkOut (env.pf 114 [(.row true 0 0 (fun u3 => [])), (.fn (.func 108) [] [(.rptr 1 3 (fun u3 => (eCav c)) 0 0)])]) none (fun v3 => (tkInt v3 none fun q4 n5 => (bif (decide (q4 = .i64)) then some (.ret (.bool (decide (n5 ≥ (0 : Int))))) else none))) pK) := by kernel_rfl
noncomputable def L1140x0 (env : Env) (F : Nat) (c : Cav) (fu : Nat) : Option Out := atLoop Try.prog (cfg F) env 114 [.r, .l, .r, .d] [] fu { tm := tmL 19 0 [(0, (.row true 0 0 (fun u4 => []))), (1, (.fn (.func 108) [] [(.rptr 1 3 (fun u4 => (eCav c)) 0 0)])), (7, (i64 ((0 : Nat) : Int))), (8, (i64 (0 : Int)))], hp := [] }
theorem t1140 (env : Env) (F : Nat) (c : Cav) : (evFun Try.prog (cfg F) env 114 [(.row true 0 0 (fun u3 => [])), (.fn (.func 108) [] [(.rptr 1 3 (fun u3 => (eCav c)) 0 0)])]) = (L1140x0 env F c F) := by kernel_rfl
theorem L1140x0s (env : Env) (F : Nat) (c : Cav) (fu : Nat) : L1140x0 env F c (fu + 1) = some (.ret (i64 (-(1 : Int)))) := by kernel_rfl
noncomputable def L530x0 (env : Env) (F : Nat) (l : Sl Stg) (a : Sl Int) (fu : Nat) : Option Out := atLoop Try.prog (cfg F) env 53 [.r, .r, .r, .l, .r, .d] [] fu { tm := tmL 56 0 [(1, (sl eInt 1 a)), (2, (.row true 0 0 (fun u5 => []))), (9, (i64 (0 : Int)))], hp := [] }
theorem t530 (env : Env) (F : Nat) (l : Sl Stg) (a : Sl Int) : (evFun Try.prog (cfg F) env 53 [(sl eStg 4 l), (sl eInt 1 a), (.row true 0 0 (fun u4 => []))]) = (bif ((((Sl.len a) : Nat) : Int) != ((0 : Nat) : Int)) then some (.ret (.bool (decide ((((Sl.len a) : Nat) : Int) < ((0 : Nat) : Int))))) else (tkOut (env.pf 89 [(sl eStg 4 l), (sl eInt 1 a)]) none (fun v4 => (tkInt v4 none fun q5 n6 => (tkOut (env.pf 89 [(sl eStg 4 l), (.row true 0 0 (fun u7 => []))]) none (fun v7 => (tkInt v7 none fun q8 n9 => (bif (decide (q5 = q8)) then (bif (n6 != n9) then (bif (decide (q5 = q8)) then some (.ret (.bool (decide (n6 < n9)))) else none) else (L530x0 env F l a F)) else none))) pK))) pK)) := by kernel_rfl
theorem L530x0s (env : Env) (F : Nat) (l : Sl Stg) (a : Sl Int) (fu : Nat) : L530x0 env F l a (fu + 1) = (bif (decide ((0 : Int) < (((Sl.len a) : Nat) : Int))) then (bif (decide ((0 : Int) < (((Sl.len a) : Nat) : Int))) then none else none) else some (.ret (.bool false))) := by kernel_rfl
noncomputable def L890x0 (env : Env) (F : Nat) (l : Sl Stg) (fu : Nat) : Option Out := atLoop Try.prog (cfg F) env 89 [.r, .r, .l, .r, .d] [] fu { tm := tmL 24 0 [(0, (sl eStg 4 l)), (1, (.row true 0 0 (fun u4 => []))), (5, (i64 (0 : Int))), (6, (i64 (0 : Int)))], hp := [] }
theorem t890 (env : Env) (F : Nat) (l : Sl Stg) : (evFun Try.prog (cfg F) env 89 [(sl eStg 4 l), (.row true 0 0 (fun u3 => []))]) = (L890x0 env F l F) := by kernel_rfl
theorem L890x0s (env : Env) (F : Nat) (l : Sl Stg) (fu : Nat) : L890x0 env F l (fu + 1) = some (.ret (i64 (0 : Int))) := by kernel_rfl
noncomputable def L510x0 (env : Env) (F : Nat) (l : Sl Stg) (fu : Nat) : Option Out := atLoop Try.prog (cfg F) env 51 [.r, .l, .r, .d] [] fu { tm := tmL 24 0 [(0, (sl eStg 4 l)), (1, (.row true 0 0 (fun u4 => []))), (5, (i64 (0 : Int)))], hp := [] }
theorem t510 (env : Env) (F : Nat) (l : Sl Stg) : (evFun Try.prog (cfg F) env 51 [(sl eStg 4 l), (.row true 0 0 (fun u3 => []))]) = (L510x0 env F l F) := by kernel_rfl
theorem L510x0s (env : Env) (F : Nat) (l : Sl Stg) (fu : Nat) : L510x0 env F l (fu + 1) = some (.ret (.bool true)) := by kernel_rfl
noncomputable def L733x0 (env : Env) (F : Nat) (c : Cav) (p : Int) (es : List (V × V)) (fu : Nat) : Option (Out × List Slot) := atLoopH Try.prog (cfg F) env 73 [.r, .l, .r, .d] [] fu { tm := tmL 59 0 [(0, (.optr 0 0 0))], hp := [(.box 124 [(sl eSlc 7 c.slices), (i64 c.hold), (i64 (Cav.oil c)), (.row true 0 0 (fun u6 => [])), (i64 (0 : Int)), (.mapr 1)] true), (.mp true [(KS.int .i64), (KS.int .i64), (KS.int .i64), (KS.int .i64), (KS.int .i64), (KS.int .i64)] es true)], ext := [(.blk 0), (.blk 1)] }
theorem t733 (env : Env) (F : Nat) (c : Cav) (p : Int) (es : List (V × V)) : (evFunH Try.prog (cfg F) env 73 [(.optr 0 0 0), (i64 (0 : Int))] [(.box 124 [(sl eSlc 7 c.slices), (i64 c.hold), (i64 (Cav.oil c)), (.row true 0 0 (fun u5 => [])), (i64 p), (.mapr 1)] true), (.mp true [(KS.int .i64), (KS.int .i64), (KS.int .i64), (KS.int .i64), (KS.int .i64), (KS.int .i64)] es true)]) = (L733x0 env F c p es F) := by kernel_rfl
theorem L733x0s (env : Env) (F : Nat) (c : Cav) (p : Int) (es : List (V × V)) (fu : Nat) : L733x0 env F c p es (fu + 1) = some ((.ret (.tup [(i64 (-(1 : Int))), (i64 (1 : Int)), (i64 (0 : Int))])), [(.box 124 [(sl eSlc 7 c.slices), (i64 c.hold), (i64 (Cav.oil c)), (.row true 0 0 (fun u6 => [])), (i64 (0 : Int)), (.mapr 1)] true), (.mp true [(KS.int .i64), (KS.int .i64), (KS.int .i64), (KS.int .i64), (KS.int .i64), (KS.int .i64)] es true)]) := by kernel_rfl
noncomputable def L18x0 (env : Env) (F : Nat) (c : Cav) (l : Sl Stg) (w : Sl Int) (n : Int) (o : Sl Int) (fu : Nat) (b0 : Bool) (i1 : Int) (b2 : Bool) (k3 : Nat) (k4 : Nat) (g5 : Nat → List V) (b6 : Bool) (k7 : Nat) (k8 : Nat) (g9 : Nat → List V) (q10 : IntKind) (i11 : Int) (q12 : IntKind) (i13 : Int) : Option Out := atLoop Try.prog (cfg F) env 18 [.r, .r, .r, .l, .r, .l, .r, .r, .r, .r, .r, .d] [] fu { tm := tmL 304 0 [(1, (sl eStg 4 l)), (2, (sl eInt 1 w)), (3, (i64 n)), (4, (sl eInt 1 o)), (5, (.optr 0 0 0)), (11, (.bool b0)), (16, (.optr 1 0 0)), (18, (i64 i1))], hp := [(.box 24 (eCav c) true), (.box 72 [(.row b2 k3 k4 g5), (.row b6 k7 k8 g9), (.int q10 i11), (.int q12 i13)] true)] }
noncomputable def L18x1 (env : Env) (F : Nat) (c : Cav) (l : Sl Stg) (w : Sl Int) (n : Int) (o : Sl Int) (fu : Nat) (b0 : Bool) (k1 : Nat) (k2 : Nat) (g3 : Nat → List V) : Option Out := atLoop Try.prog (cfg F) env 18 [.r, .r, .r, .r, .r, .r, .r, .r, .r, .r, .r, .r, .l, .r, .d] [] fu { tm := tmL 304 0 [(2, (sl eInt 1 w)), (3, (i64 n)), (5, (.optr 0 0 0)), (23, (.row b0 k1 k2 g3)), (28, (.optr 1 0 0)), (29, (.row true 0 0 (fun u12 => []))), (30, (i64 (0 : Int)))], hp := [(.box 24 (eCav c) true), (.box 82 [(.row true 0 0 (fun u12 => [])), (.row true 0 0 (fun u12 => []))] true)] }
noncomputable def L18x2 (env : Env) (F : Nat) (c : Cav) (l : Sl Stg) (w : Sl Int) (n : Int) (o : Sl Int) (fu : Nat) (b0 : Bool) (k1 : Nat) (k2 : Nat) (g3 : Nat → List V) (k4 : Nat) (i5 : Int) (k6 : Nat) (k7 : Nat) (g8 : Nat → List V) (k9 : Nat) (g10 : Nat → List V) : Option Out := atLoop Try.prog (cfg F) env 18 [.r, .r, .r, .r, .r, .r, .r, .r, .r, .r, .r, .r, .l, .r, .d] [] fu { tm := tmL 304 0 [(2, (sl eInt 1 w)), (3, (i64 n)), (5, (.optr 0 0 0)), (23, (.row b0 k1 k2 g3)), (28, (.optr 1 0 0)), (29, (.osl 2 0 k4)), (30, (i64 i5))], hp := [(.box 24 (eCav c) true), (.box 82 [(.osl 3 0 k6), (.row true 0 0 (fun u19 => []))] true), (.arr 3 1 k7 g8 true), (.arr 3 1 k9 g10 true)] }
noncomputable def L18x3 (env : Env) (F : Nat) (c : Cav) (l : Sl Stg) (w : Sl Int) (n : Int) (o : Sl Int) (fu : Nat) (b0 : Bool) (k1 : Nat) (k2 : Nat) (g3 : Nat → List V) : Option Out := atLoop Try.prog (cfg F) env 18 [.r, .r, .r, .r, .r, .r, .r, .r, .r, .r, .r, .r, .r, .l, .r, .d] [] fu { tm := tmL 304 0 [(2, (sl eInt 1 w)), (5, (.optr 0 0 0)), (23, (.row b0 k1 k2 g3)), (28, (.optr 1 0 0)), (29, (.row true 0 0 (fun u12 => []))), (33, (i64 (0 : Int)))], hp := [(.box 24 (eCav c) true), (.box 82 [(.row true 0 0 (fun u12 => [])), (.row true 0 0 (fun u12 => []))] true)] }
noncomputable def L18x4 (env : Env) (F : Nat) (c : Cav) (l : Sl Stg) (w : Sl Int) (n : Int) (o : Sl Int) (fu : Nat) (b0 : Bool) (k1 : Nat) (k2 : Nat) (g3 : Nat → List V) (k4 : Nat) (k5 : Nat) (k6 : Nat) (g7 : Nat → List V) (k8 : Nat) (g9 : Nat → List V) : Option Out := atLoop Try.prog (cfg F) env 18 [.r, .r, .r, .r, .r, .r, .r, .r, .r, .r, .r, .r, .r, .l, .r, .d] [] fu { tm := tmL 304 0 [(2, (sl eInt 1 w)), (5, (.optr 0 0 0)), (23, (.row b0 k1 k2 g3)), (28, (.optr 1 0 0)), (29, (.osl 2 0 k4)), (33, (i64 (0 : Int)))], hp := [(.box 24 (eCav c) true), (.box 82 [(.osl 3 0 k5), (.row true 0 0 (fun u18 => []))] true), (.arr 3 1 k6 g7 true), (.arr 3 1 k8 g9 true)] }
noncomputable def L18x5 (env : Env) (F : Nat) (c : Cav) (l : Sl Stg) (w : Sl Int) (n : Int) (o : Sl Int) (fu : Nat) (b0 : Bool) (k1 : Nat) (k2 : Nat) (g3 : Nat → List V) (i4 : Int) (k5 : Nat) (k6 : Nat) (g7 : Nat → List V) : Option Out := atLoop Try.prog (cfg F) env 18 [.r, .r, .r, .r, .r, .r, .r, .r, .r, .r, .r, .r, .r, .l, .r, .d] [] fu { tm := tmL 304 0 [(2, (sl eInt 1 w)), (5, (.optr 0 0 0)), (23, (.row b0 k1 k2 g3)), (28, (.optr 1 0 0)), (29, (.row true 0 0 (fun u16 => []))), (33, (i64 i4))], hp := [(.box 24 (eCav c) true), (.box 82 [(.row true 0 0 (fun u16 => [])), (.osl 2 0 k5)] true), (.arr 26 1 k6 g7 true)] }
noncomputable def L18x6 (env : Env) (F : Nat) (c : Cav) (l : Sl Stg) (w : Sl Int) (n : Int) (o : Sl Int) (fu : Nat) (i0 : Int) (b1 : Bool) (k2 : Nat) (k3 : Nat) (g4 : Nat → List V) (q5 : IntKind) (i6 : Int) (q7 : IntKind) (i8 : Int) (q9 : IntKind) (i10 : Int) (q11 : IntKind) (i12 : Int) : Option Out := atLoop Try.prog (cfg F) env 18 [.r, .r, .r, .r, .r, .r, .r, .r, .r, .r, .r, .r, .r, .r, .r, .r, .l, .r, .d] [] fu { tm := tmL 304 0 [(2, (sl eInt 1 w)), (34, (.optr 0 0 0)), (36, (i64 i0))], hp := [(.box 84 [(.row b1 k2 k3 g4), (.int q5 i6), (.int q7 i8), (.int q9 i10), (.int q11 i12)] true)] }
noncomputable def L18x7 (env : Env) (F : Nat) (c : Cav) (l : Sl Stg) (w : Sl Int) (n : Int) (o : Sl Int) (fu : Nat) (b0 : Bool) (k1 : Nat) (k2 : Nat) (g3 : Nat → List V) (k4 : Nat) (i5 : Int) (k6 : Nat) (k7 : Nat) (k8 : Nat) (g9 : Nat → List V) (k10 : Nat) (g11 : Nat → List V) (k12 : Nat) (g13 : Nat → List V) : Option Out := atLoop Try.prog (cfg F) env 18 [.r, .r, .r, .r, .r, .r, .r, .r, .r, .r, .r, .r, .r, .l, .r, .d] [] fu { tm := tmL 304 0 [(2, (sl eInt 1 w)), (5, (.optr 0 0 0)), (23, (.row b0 k1 k2 g3)), (28, (.optr 1 0 0)), (29, (.osl 2 0 k4)), (33, (i64 i5))], hp := [(.box 24 (eCav c) true), (.box 82 [(.osl 3 0 k6), (.osl 4 0 k7)] true), (.arr 3 1 k8 g9 false), (.arr 3 1 k10 g11 true), (.arr 26 1 k12 g13 true)] }
theorem t18 (env : Env) (F : Nat) (c : Cav) (l : Sl Stg) (w : Sl Int) (n : Int) (o : Sl Int) : (evFun Try.prog (cfg F) env 18 [(.agg (eCav c)), (sl eStg 4 l), (sl eInt 1 w), (i64 n), (sl eInt 1 o)]) = (tkOut (env.pf 19 [(.agg (eCav c))]) none (fun v7 => (tkBool v7 none fun b8 => (bif (!b8) then (tkOut (env.pf 21 []) none (fun v9 => (tkBool v9 none fun b10 => some (.ret (.bool b10)))) pK) else (bif (decide (((l.len : Nat) : Int) > (3 : Int))) then (tkOut (env.pf 21 []) none (fun v9 => (tkBool v9 none fun b10 => some (.ret (.bool b10)))) pK) else (bif (decide (((w.len : Nat) : Int) > (20 : Int))) then (tkOut (env.pf 21 []) none (fun v9 => (tkBool v9 none fun b10 => some (.ret (.bool b10)))) pK) else (bif (decide ((((Sl.len o) : Nat) : Int) > (20 : Int))) then (tkOut (env.pf 21 []) none (fun v9 => (tkBool v9 none fun b10 => some (.ret (.bool b10)))) pK) else (tkOut (env.pf 32 [(.agg (eCav c)), (sl eStg 4 l), (sl eInt 1 w)]) none (fun v9 => (tkInt v9 none fun q10 n11 => (bif (decide (q10 = .i64)) then (bif (n11 != (0 : Int)) then (tkOut (env.pf 21 []) none (fun v12 => (tkBool v12 none fun b13 => some (.ret (.bool b13)))) pK) else (bif (decide (((c.slices.len : Nat) : Int) > (4 : Int))) then (tkOut (env.pf 21 []) none (fun v12 => (tkBool v12 none fun b13 => some (.ret (.bool b13)))) pK) else (bif (decide (c.hold > (40 : Int))) then (tkOut (env.pf 21 []) none (fun v12 => (tkBool v12 none fun b13 => some (.ret (.bool b13)))) pK) else (bif (decide (n < (0 : Int))) then (tkOut (env.pf 21 []) none (fun v12 => (tkBool v12 none fun b13 => some (.ret (.bool b13)))) pK) else (bif (decide (n > (100 : Int))) then (tkOut (env.pf 21 []) none (fun v12 => (tkBool v12 none fun b13 => some (.ret (.bool b13)))) pK) else (tkOut (env.pf 51 [(sl eStg 4 l), (sl eInt 1 o)]) none (fun v12 => (tkBool v12 none fun b13 => (bif b13 then (tkOut (env.pf 52 [(sl eStg 4 l), (sl eInt 1 o)]) none (fun v14 => (tkRow v14 none fun nl15 n16 wd17 g18 => (tkOut (env.pf 30 [(.agg (eCav c)), (.row nl15 n16 wd17 g18)]) none (fun v19 => (tkTup v19 none fun l20 => (tkCons l20 none fun v21 r22 => (tkInt v21 none fun q23 n24 => (tkCons r22 none fun v25 r26 => (tkInt v25 none fun q27 n28 => (tkCons r26 none fun v29 r30 => (tkInt v29 none fun q31 n32 => (tkCons r30 none fun v33 r34 => (tkInt v33 none fun q35 n36 => (tkNil r34 none ((tkOut (env.pf 52 [(sl eStg 4 l), (sl eInt 1 o)]) none (fun v37 => (tkRow v37 none fun nl38 n39 wd40 g41 => (tkOut (env.pf 42 [(.agg (eCav c)), (.row nl38 n39 wd40 g41)]) none (fun v42 => (tkTup v42 none fun l43 => (tkCons l43 none fun v44 r45 => (tkAgg v44 none fun l46 => (tkCons l46 none fun v47 r48 => (tkRow v47 none fun nl49 n50 wd51 g52 => (tkCons r48 none fun v53 r54 => (tkRow v53 none fun nl55 n56 wd57 g58 => (tkCons r54 none fun v59 r60 => (tkInt v59 none fun q61 n62 => (tkCons r60 none fun v63 r64 => (tkInt v63 none fun q65 n66 => (tkNil r64 none ((tkCons r45 none fun v67 r68 => (tkInt v67 none fun q69 n70 => (tkNil r68 none ((bif (decide (q35 = .i64)) then (bif (n36 != (0 : Int)) then some (.ret (.bool false)) else (bif (decide (q69 = .i64)) then (bif (n70 != (0 : Int)) then some (.ret (.bool false)) else (bif (((n56 : Nat) : Int) != ((w.len : Nat) : Int)) then some (.ret (.bool false)) else (bif (decide (q27 = .i64)) then (L18x0 env F c l w n o F (n28 == (1 : Int)) (0 : Int) nl49 n50 wd51 g52 nl55 n56 wd57 g58 q61 n62 q65 n66) else none))) else none)) else none))))))))))))))))))) pK))) pK))))))))))))) pK))) pK) else (tkOut (env.pf 33 [(.agg (eCav c)), (sl eStg 4 l), (sl eInt 1 w)]) none (fun v14 => (tkTup v14 none fun l15 => (tkCons l15 none fun v16 r17 => (tkRow v16 none fun nl18 n19 wd20 g21 => (tkCons r17 none fun v22 r23 => (tkInt v22 none fun q24 n25 => (tkNil r23 none ((tkOut (env.pf 36 [(.agg (eCav c)), (sl eStg 4 l), (sl eInt 1 w)]) none (fun v26 => (tkTup v26 none fun l27 => (tkCons l27 none fun v28 r29 => (tkInt v28 none fun q30 n31 => (tkCons r29 none fun v32 r33 => (tkInt v32 none fun q34 n35 => (tkNil r33 none ((bif (decide (q24 = .i64)) then (bif (n25 != (0 : Int)) then (bif (decide (q24 = .i64)) then (bif (n25 == (5 : Int)) then (bif (!b13) then (tkOut (env.pf 21 []) none (fun v36 => (tkBool v36 none fun b37 => some (.ret (.bool b37)))) pK) else some (.ret (.bool false))) else some (.ret (.bool false))) else none) else (tkOut (env.pf 51 [(sl eStg 4 l), (.row nl18 n19 wd20 g21)]) none (fun v36 => (tkBool v36 none fun b37 => (bif (!b37) then some (.ret (.bool false)) else (bif (decide (q34 = .i64)) then (bif (n35 != (0 : Int)) then some (.ret (.bool false)) else (bif (decide (.i64 = q30)) then (bif (decide (((n19 : Nat) : Int) < n31)) then some (.ret (.bool false)) else (bif b13 then (bif (decide (.i64 = q30)) then (bif (decide ((((Sl.len o) : Nat) : Int) < n31)) then some (.ret (.bool false)) else (tkOut (env.pf 53 [(sl eStg 4 l), (sl eInt 1 o), (.row nl18 n19 wd20 g21)]) none (fun v38 => (tkBool v38 none fun b39 => (bif b39 then some (.ret (.bool false)) else (tkOut (env.pf 52 [(sl eStg 4 l), (.row nl18 n19 wd20 g21)]) none (fun v40 => (tkRow v40 none fun nl41 n42 wd43 g44 => (tkOut (env.pf 30 [(.agg (eCav c)), (.row nl41 n42 wd43 g44)]) none (fun v45 => (tkTup v45 none fun l46 => (tkCons l46 none fun v47 r48 => (tkInt v47 none fun q49 n50 => (tkCons r48 none fun v51 r52 => (tkInt v51 none fun q53 n54 => (tkCons r52 none fun v55 r56 => (tkInt v55 none fun q57 n58 => (tkCons r56 none fun v59 r60 => (tkInt v59 none fun q61 n62 => (tkNil r60 none ((bif (decide (q61 = .i64)) then (bif (n62 != (0 : Int)) then some (.ret (.bool false)) else (bif (decide (q53 = .i64)) then (bif (n54 != (1 : Int)) then some (.ret (.bool false)) else (L18x1 env F c l w n o F nl41 n42 wd43 g44)) else none)) else none))))))))))))) pK))) pK)))) pK)) else none) else (tkOut (env.pf 52 [(sl eStg 4 l), (.row nl18 n19 wd20 g21)]) none (fun v38 => (tkRow v38 none fun nl39 n40 wd41 g42 => (tkOut (env.pf 30 [(.agg (eCav c)), (.row nl39 n40 wd41 g42)]) none (fun v43 => (tkTup v43 none fun l44 => (tkCons l44 none fun v45 r46 => (tkInt v45 none fun q47 n48 => (tkCons r46 none fun v49 r50 => (tkInt v49 none fun q51 n52 => (tkCons r50 none fun v53 r54 => (tkInt v53 none fun q55 n56 => (tkCons r54 none fun v57 r58 => (tkInt v57 none fun q59 n60 => (tkNil r58 none ((bif (decide (q59 = .i64)) then (bif (n60 != (0 : Int)) then some (.ret (.bool false)) else (bif (decide (q51 = .i64)) then (bif (n52 != (1 : Int)) then some (.ret (.bool false)) else (L18x1 env F c l w n o F nl39 n40 wd41 g42)) else none)) else none))))))))))))) pK))) pK))) else none)) else none)))) pK)) else none))))))))) pK))))))))) pK)))) pK)))))) else none))) pK))))))) pK) := by kernel_rfl
theorem L18x0s (env : Env) (F : Nat) (c : Cav) (l : Sl Stg) (w : Sl Int) (n : Int) (o : Sl Int) (fu : Nat) (b0 : Bool) (i1 : Int) (b2 : Bool) (k3 : Nat) (k4 : Nat) (g5 : Nat → List V) (b6 : Bool) (k7 : Nat) (k8 : Nat) (g9 : Nat → List V) (q10 : IntKind) (i11 : Int) (q12 : IntKind) (i13 : Int) : L18x0 env F c l w n o (fu + 1) b0 i1 b2 k3 k4 g5 b6 k7 k8 g9 q10 i11 q12 i13 = (bif (decide (i1 < ((w.len : Nat) : Int))) then (bif b0 then (bif (k8 == 2) then (bif (decide ((0 : Int) ≤ i1)) then (bif (decide (i1 < ((k7 : Nat) : Int))) then (tkCons (g9 i1.toNat) none fun v22 r23 => (tkInt v22 none fun q24 n25 => (bif (decide ((0 : Int) ≤ i1)) then (bif (decide (i1 < ((w.len : Nat) : Int))) then (bif (decide (q24 = .i64)) then (L18x0 env F c l w n o fu (decide (n25 ≥ (Sl.el w i1.toNat))) (IntKind.wrap .i64 (i1 + (1 : Int))) b2 k3 k4 g5 b6 k7 k8 g9 q10 i11 q12 i13) else none) else none) else none))) else none) else none) else none) else (L18x0 env F c l w n o fu false (IntKind.wrap .i64 (i1 + (1 : Int))) b2 k3 k4 g5 b6 k7 k8 g9 q10 i11 q12 i13)) else (tkOut (env.pf 33 [(.agg (eCav c)), (sl eStg 4 l), (sl eInt 1 w)]) none (fun v22 => (tkTup v22 none fun l23 => (tkCons l23 none fun v24 r25 => (tkRow v24 none fun nl26 n27 wd28 g29 => (tkCons r25 none fun v30 r31 => (tkInt v30 none fun q32 n33 => (tkNil r31 none ((tkOut (env.pf 36 [(.agg (eCav c)), (sl eStg 4 l), (sl eInt 1 w)]) none (fun v34 => (tkTup v34 none fun l35 => (tkCons l35 none fun v36 r37 => (tkInt v36 none fun q38 n39 => (tkCons r37 none fun v40 r41 => (tkInt v40 none fun q42 n43 => (tkNil r41 none ((bif (decide (q32 = .i64)) then (bif (n33 != (0 : Int)) then (bif (decide (q32 = .i64)) then (bif (n33 == (5 : Int)) then (bif (!b0) then (tkOut (env.pf 21 []) none (fun v44 => (tkBool v44 none fun b45 => some (.ret (.bool b45)))) pK) else some (.ret (.bool false))) else some (.ret (.bool false))) else none) else (tkOut (env.pf 51 [(sl eStg 4 l), (.row nl26 n27 wd28 g29)]) none (fun v44 => (tkBool v44 none fun b45 => (bif (!b45) then some (.ret (.bool false)) else (bif (decide (q42 = .i64)) then (bif (n43 != (0 : Int)) then some (.ret (.bool false)) else (bif (decide (.i64 = q38)) then (bif (decide (((n27 : Nat) : Int) < n39)) then some (.ret (.bool false)) else (bif b0 then (bif (decide (.i64 = q38)) then (bif (decide ((((Sl.len o) : Nat) : Int) < n39)) then some (.ret (.bool false)) else (tkOut (env.pf 53 [(sl eStg 4 l), (sl eInt 1 o), (.row nl26 n27 wd28 g29)]) none (fun v46 => (tkBool v46 none fun b47 => (bif b47 then some (.ret (.bool false)) else (tkOut (env.pf 52 [(sl eStg 4 l), (.row nl26 n27 wd28 g29)]) none (fun v48 => (tkRow v48 none fun nl49 n50 wd51 g52 => (tkOut (env.pf 30 [(.agg (eCav c)), (.row nl49 n50 wd51 g52)]) none (fun v53 => (tkTup v53 none fun l54 => (tkCons l54 none fun v55 r56 => (tkInt v55 none fun q57 n58 => (tkCons r56 none fun v59 r60 => (tkInt v59 none fun q61 n62 => (tkCons r60 none fun v63 r64 => (tkInt v63 none fun q65 n66 => (tkCons r64 none fun v67 r68 => (tkInt v67 none fun q69 n70 => (tkNil r68 none ((bif (decide (q69 = .i64)) then (bif (n70 != (0 : Int)) then some (.ret (.bool false)) else (bif (decide (q61 = .i64)) then (bif (n62 != (1 : Int)) then some (.ret (.bool false)) else (L18x1 env F c l w n o F nl49 n50 wd51 g52)) else none)) else none))))))))))))) pK))) pK)))) pK)) else none) else (tkOut (env.pf 52 [(sl eStg 4 l), (.row nl26 n27 wd28 g29)]) none (fun v46 => (tkRow v46 none fun nl47 n48 wd49 g50 => (tkOut (env.pf 30 [(.agg (eCav c)), (.row nl47 n48 wd49 g50)]) none (fun v51 => (tkTup v51 none fun l52 => (tkCons l52 none fun v53 r54 => (tkInt v53 none fun q55 n56 => (tkCons r54 none fun v57 r58 => (tkInt v57 none fun q59 n60 => (tkCons r58 none fun v61 r62 => (tkInt v61 none fun q63 n64 => (tkCons r62 none fun v65 r66 => (tkInt v65 none fun q67 n68 => (tkNil r66 none ((bif (decide (q67 = .i64)) then (bif (n68 != (0 : Int)) then some (.ret (.bool false)) else (bif (decide (q59 = .i64)) then (bif (n60 != (1 : Int)) then some (.ret (.bool false)) else (L18x1 env F c l w n o F nl47 n48 wd49 g50)) else none)) else none))))))))))))) pK))) pK))) else none)) else none)))) pK)) else none))))))))) pK))))))))) pK)) := by kernel_rfl
theorem L18x1s (env : Env) (F : Nat) (c : Cav) (l : Sl Stg) (w : Sl Int) (n : Int) (o : Sl Int) (fu : Nat) (b0 : Bool) (k1 : Nat) (k2 : Nat) (g3 : Nat → List V) : L18x1 env F c l w n o (fu + 1) b0 k1 k2 g3 = (bif (decide ((0 : Int) < ((c.slices.len : Nat) : Int))) then (bif (decide ((0 : Int) < ((c.slices.len : Nat) : Int))) then (bif (decide ((0 : Int) < ((c.slices.len : Nat) : Int))) then (L18x2 env F c l w n o fu b0 k1 k2 g3 1 (IntKind.wrap .i64 ((0 : Int) + (1 : Int))) 1 1 (fun u12 => [(i64 (IntKind.wrap .i64 ((Span.lo (Slc.rate (c.slices.el 0))) + (IntKind.wrap .i64 (Int.tdiv (IntKind.wrap .i64 ((IntKind.wrap .i64 ((Span.hi (Slc.rate (c.slices.el 0))) - (Span.lo (Slc.rate (c.slices.el 0))))) * n)) (100 : Int))))))]) 1 (fun u12 => [(i64 (IntKind.wrap .i64 ((Span.lo (Slc.vol (c.slices.el 0))) + (IntKind.wrap .i64 ((IntKind.wrap .i64 (Int.tdiv (IntKind.wrap .i64 ((Span.hi (Slc.vol (c.slices.el 0))) - (Span.lo (Slc.vol (c.slices.el 0))))) (100 : Int))) * n)))))])) else none) else none) else (L18x3 env F c l w n o F b0 k1 k2 g3)) := by kernel_rfl
theorem L18x2s (env : Env) (F : Nat) (c : Cav) (l : Sl Stg) (w : Sl Int) (n : Int) (o : Sl Int) (fu : Nat) (b0 : Bool) (k1 : Nat) (k2 : Nat) (g3 : Nat → List V) (k4 : Nat) (i5 : Int) (k6 : Nat) (k7 : Nat) (g8 : Nat → List V) (k9 : Nat) (g10 : Nat → List V) : L18x2 env F c l w n o (fu + 1) b0 k1 k2 g3 k4 i5 k6 k7 g8 k9 g10 = (bif (decide (i5 < ((c.slices.len : Nat) : Int))) then (bif (decide ((0 : Int) ≤ i5)) then (bif (decide (i5 < ((c.slices.len : Nat) : Int))) then (bif (decide ((0 : Int) ≤ i5)) then (bif (decide (i5 < ((c.slices.len : Nat) : Int))) then (bif (decide (((k6 + 1) * 8) ≤ 140737488355328)) then (bif (decide (((k4 + 1) * 8) ≤ 140737488355328)) then (L18x2 env F c l w n o fu b0 k1 k2 g3 (k4 + 1) (IntKind.wrap .i64 (i5 + (1 : Int))) (k6 + 1) (k4 + 1) (appGet k4 g8 (fun u19 => [(i64 (IntKind.wrap .i64 ((Span.lo (Slc.rate (c.slices.el i5.toNat))) + (IntKind.wrap .i64 (Int.tdiv (IntKind.wrap .i64 ((IntKind.wrap .i64 ((Span.hi (Slc.rate (c.slices.el i5.toNat))) - (Span.lo (Slc.rate (c.slices.el i5.toNat))))) * n)) (100 : Int))))))])) (k6 + 1) (appGet k6 g10 (fun u19 => [(i64 (IntKind.wrap .i64 ((Span.lo (Slc.vol (c.slices.el i5.toNat))) + (IntKind.wrap .i64 ((IntKind.wrap .i64 (Int.tdiv (IntKind.wrap .i64 ((Span.hi (Slc.vol (c.slices.el i5.toNat))) - (Span.lo (Slc.vol (c.slices.el i5.toNat))))) (100 : Int))) * n)))))]))) else none) else none) else none) else none) else none) else none) else (L18x4 env F c l w n o F b0 k1 k2 g3 k4 k6 k7 g8 k9 g10)) := by kernel_rfl
theorem L18x3s (env : Env) (F : Nat) (c : Cav) (l : Sl Stg) (w : Sl Int) (n : Int) (o : Sl Int) (fu : Nat) (b0 : Bool) (k1 : Nat) (k2 : Nat) (g3 : Nat → List V) : L18x3 env F c l w n o (fu + 1) b0 k1 k2 g3 = (bif (decide ((0 : Int) < ((k1 : Nat) : Int))) then (L18x5 env F c l w n o fu b0 k1 k2 g3 (IntKind.wrap .i64 ((0 : Int) + (1 : Int))) 1 1 (fun u12 => [(.row true 0 0 (fun u13 => []))])) else (tkOut (env.pf 44 [(.agg (eCav c)), (.row b0 k1 k2 g3), (.agg [(.row true 0 0 (fun u12 => [])), (.row true 0 0 (fun u12 => []))])]) none (fun v12 => (tkTup v12 none fun l13 => (tkCons l13 none fun v14 r15 => (tkAgg v14 none fun l16 => (tkCons l16 none fun v17 r18 => (tkRow v17 none fun nl19 n20 wd21 g22 => (tkCons r18 none fun v23 r24 => (tkInt v23 none fun q25 n26 => (tkCons r24 none fun v27 r28 => (tkInt v27 none fun q29 n30 => (tkCons r28 none fun v31 r32 => (tkInt v31 none fun q33 n34 => (tkCons r32 none fun v35 r36 => (tkInt v35 none fun q37 n38 => (tkNil r36 none ((tkCons r15 none fun v39 r40 => (tkInt v39 none fun q41 n42 => (tkNil r40 none ((bif (decide (q41 = .i64)) then (bif (n42 != (0 : Int)) then some (.ret (.bool false)) else (tkOut (env.pf 45 [(.agg (eCav c)), (.agg [(.row nl19 n20 wd21 g22), (.int q25 n26), (.int q29 n30), (.int q33 n34), (.int q37 n38)])]) none (fun v43 => (tkBool v43 none fun b44 => (bif (!b44) then some (.ret (.bool false)) else (L18x6 env F c l w n o F (0 : Int) nl19 n20 wd21 g22 q25 n26 q29 n30 q33 n34 q37 n38)))) pK)) else none))))))))))))))))))))) pK)) := by kernel_rfl
theorem L18x4s (env : Env) (F : Nat) (c : Cav) (l : Sl Stg) (w : Sl Int) (n : Int) (o : Sl Int) (fu : Nat) (b0 : Bool) (k1 : Nat) (k2 : Nat) (g3 : Nat → List V) (k4 : Nat) (k5 : Nat) (k6 : Nat) (g7 : Nat → List V) (k8 : Nat) (g9 : Nat → List V) : L18x4 env F c l w n o (fu + 1) b0 k1 k2 g3 k4 k5 k6 g7 k8 g9 = (bif (decide ((0 : Int) < ((k1 : Nat) : Int))) then (L18x7 env F c l w n o fu b0 k1 k2 g3 k4 (IntKind.wrap .i64 ((0 : Int) + (1 : Int))) k5 1 k6 g7 k8 g9 1 (fun u18 => [(.row false k4 1 (fun u19 => (g7 u19)))])) else (tkOut (env.pf 44 [(.agg (eCav c)), (.row b0 k1 k2 g3), (.agg [(.row false k5 1 (fun u18 => (g9 u18))), (.row true 0 0 (fun u18 => []))])]) none (fun v18 => (tkTup v18 none fun l19 => (tkCons l19 none fun v20 r21 => (tkAgg v20 none fun l22 => (tkCons l22 none fun v23 r24 => (tkRow v23 none fun nl25 n26 wd27 g28 => (tkCons r24 none fun v29 r30 => (tkInt v29 none fun q31 n32 => (tkCons r30 none fun v33 r34 => (tkInt v33 none fun q35 n36 => (tkCons r34 none fun v37 r38 => (tkInt v37 none fun q39 n40 => (tkCons r38 none fun v41 r42 => (tkInt v41 none fun q43 n44 => (tkNil r42 none ((tkCons r21 none fun v45 r46 => (tkInt v45 none fun q47 n48 => (tkNil r46 none ((bif (decide (q47 = .i64)) then (bif (n48 != (0 : Int)) then some (.ret (.bool false)) else (tkOut (env.pf 45 [(.agg (eCav c)), (.agg [(.row nl25 n26 wd27 g28), (.int q31 n32), (.int q35 n36), (.int q39 n40), (.int q43 n44)])]) none (fun v49 => (tkBool v49 none fun b50 => (bif (!b50) then some (.ret (.bool false)) else (L18x6 env F c l w n o F (0 : Int) nl25 n26 wd27 g28 q31 n32 q35 n36 q39 n40 q43 n44)))) pK)) else none))))))))))))))))))))) pK)) := by kernel_rfl
theorem L18x5s (env : Env) (F : Nat) (c : Cav) (l : Sl Stg) (w : Sl Int) (n : Int) (o : Sl Int) (fu : Nat) (b0 : Bool) (k1 : Nat) (k2 : Nat) (g3 : Nat → List V) (i4 : Int) (k5 : Nat) (k6 : Nat) (g7 : Nat → List V) : L18x5 env F c l w n o (fu + 1) b0 k1 k2 g3 i4 k5 k6 g7 = (bif (decide (i4 < ((k1 : Nat) : Int))) then (bif (decide (((k5 + 1) * 24) ≤ 140737488355328)) then (L18x5 env F c l w n o fu b0 k1 k2 g3 (IntKind.wrap .i64 (i4 + (1 : Int))) (k5 + 1) (k5 + 1) (appGet k5 g7 (fun u16 => [(.row true 0 0 (fun u17 => []))]))) else none) else (tkOut (env.pf 44 [(.agg (eCav c)), (.row b0 k1 k2 g3), (.agg [(.row true 0 0 (fun u16 => [])), (.row false k5 1 (fun u16 => (g7 u16)))])]) none (fun v16 => (tkTup v16 none fun l17 => (tkCons l17 none fun v18 r19 => (tkAgg v18 none fun l20 => (tkCons l20 none fun v21 r22 => (tkRow v21 none fun nl23 n24 wd25 g26 => (tkCons r22 none fun v27 r28 => (tkInt v27 none fun q29 n30 => (tkCons r28 none fun v31 r32 => (tkInt v31 none fun q33 n34 => (tkCons r32 none fun v35 r36 => (tkInt v35 none fun q37 n38 => (tkCons r36 none fun v39 r40 => (tkInt v39 none fun q41 n42 => (tkNil r40 none ((tkCons r19 none fun v43 r44 => (tkInt v43 none fun q45 n46 => (tkNil r44 none ((bif (decide (q45 = .i64)) then (bif (n46 != (0 : Int)) then some (.ret (.bool false)) else (tkOut (env.pf 45 [(.agg (eCav c)), (.agg [(.row nl23 n24 wd25 g26), (.int q29 n30), (.int q33 n34), (.int q37 n38), (.int q41 n42)])]) none (fun v47 => (tkBool v47 none fun b48 => (bif (!b48) then some (.ret (.bool false)) else (L18x6 env F c l w n o F (0 : Int) nl23 n24 wd25 g26 q29 n30 q33 n34 q37 n38 q41 n42)))) pK)) else none))))))))))))))))))))) pK)) := by kernel_rfl
theorem L18x6s (env : Env) (F : Nat) (c : Cav) (l : Sl Stg) (w : Sl Int) (n : Int) (o : Sl Int) (fu : Nat) (i0 : Int) (b1 : Bool) (k2 : Nat) (k3 : Nat) (g4 : Nat → List V) (q5 : IntKind) (i6 : Int) (q7 : IntKind) (i8 : Int) (q9 : IntKind) (i10 : Int) (q11 : IntKind) (i12 : Int) : L18x6 env F c l w n o (fu + 1) i0 b1 k2 k3 g4 q5 i6 q7 i8 q9 i10 q11 i12 = (bif (decide (i0 < ((w.len : Nat) : Int))) then (bif (k3 == 1) then (bif (decide ((0 : Int) ≤ i0)) then (bif (decide (i0 < ((k2 : Nat) : Int))) then (tkCons (g4 i0.toNat) none fun v21 r22 => (tkInt v21 none fun q23 n24 => (bif (decide ((0 : Int) ≤ i0)) then (bif (decide (i0 < ((w.len : Nat) : Int))) then (bif (decide (q23 = .i64)) then (bif (decide (n24 < (Sl.el w i0.toNat))) then some (.ret (.bool false)) else (L18x6 env F c l w n o fu (IntKind.wrap .i64 (i0 + (1 : Int))) b1 k2 k3 g4 q5 i6 q7 i8 q9 i10 q11 i12)) else none) else none) else none))) else none) else none) else none) else (tkOut (env.pf 21 []) none (fun v21 => (tkBool v21 none fun b22 => some (.ret (.bool b22)))) pK)) := by kernel_rfl
theorem L18x7s (env : Env) (F : Nat) (c : Cav) (l : Sl Stg) (w : Sl Int) (n : Int) (o : Sl Int) (fu : Nat) (b0 : Bool) (k1 : Nat) (k2 : Nat) (g3 : Nat → List V) (k4 : Nat) (i5 : Int) (k6 : Nat) (k7 : Nat) (k8 : Nat) (g9 : Nat → List V) (k10 : Nat) (g11 : Nat → List V) (k12 : Nat) (g13 : Nat → List V) : L18x7 env F c l w n o (fu + 1) b0 k1 k2 g3 k4 i5 k6 k7 k8 g9 k10 g11 k12 g13 = (bif (decide (i5 < ((k1 : Nat) : Int))) then (bif (decide (((k7 + 1) * 24) ≤ 140737488355328)) then (L18x7 env F c l w n o fu b0 k1 k2 g3 k4 (IntKind.wrap .i64 (i5 + (1 : Int))) k6 (k7 + 1) k8 g9 k10 g11 (k7 + 1) (appGet k7 g13 (fun u22 => [(.row false k4 1 (fun u23 => (g9 u23)))]))) else none) else (tkOut (env.pf 44 [(.agg (eCav c)), (.row b0 k1 k2 g3), (.agg [(.row false k6 1 (fun u22 => (g11 u22))), (.row false k7 1 (fun u22 => (g13 u22)))])]) none (fun v22 => (tkTup v22 none fun l23 => (tkCons l23 none fun v24 r25 => (tkAgg v24 none fun l26 => (tkCons l26 none fun v27 r28 => (tkRow v27 none fun nl29 n30 wd31 g32 => (tkCons r28 none fun v33 r34 => (tkInt v33 none fun q35 n36 => (tkCons r34 none fun v37 r38 => (tkInt v37 none fun q39 n40 => (tkCons r38 none fun v41 r42 => (tkInt v41 none fun q43 n44 => (tkCons r42 none fun v45 r46 => (tkInt v45 none fun q47 n48 => (tkNil r46 none ((tkCons r25 none fun v49 r50 => (tkInt v49 none fun q51 n52 => (tkNil r50 none ((bif (decide (q51 = .i64)) then (bif (n52 != (0 : Int)) then some (.ret (.bool false)) else (tkOut (env.pf 45 [(.agg (eCav c)), (.agg [(.row nl29 n30 wd31 g32), (.int q35 n36), (.int q39 n40), (.int q43 n44), (.int q47 n48)])]) none (fun v53 => (tkBool v53 none fun b54 => (bif (!b54) then some (.ret (.bool false)) else (L18x6 env F c l w n o F (0 : Int) nl29 n30 wd31 g32 q35 n36 q39 n40 q43 n44 q47 n48)))) pK)) else none))))))))))))))))))))) pK)) := by kernel_rfl
end Go.Sim.Le


namespace Go.Sim.Le
open Go.Proofs
theorem fitInt {k : IntKind} {c : V} (h : Fit (.int k) c) : ∃ n, c = .int k n ∧ k.min ≤ n ∧ n ≤ k.max := by
 cases h with
 | int h => exact ⟨_, rfl, h⟩
theorem fitL_nil {cs : List V} (h : FitL [] cs) : cs = [] := by
 have := h.1
 exact List.eq_nil_of_length_eq_zero this
theorem fitL_cons {s : Sh} {l : List Sh} {cs : List V} (h : FitL (s :: l) cs) : ∃ c cs', cs = c :: cs' ∧ Fit s c ∧ FitL l cs' := by
 obtain ⟨h1, h2⟩ := h
 cases cs with
 | nil => simp at h1
 | cons c cs' => exact ⟨c, cs', rfl, h2 0 s c rfl rfl, by simpa using h1, fun j s' c' g1 g2 => h2 (j + 1) s' c' (by simpa using g1) (by simpa using g2)⟩
theorem fitL_int {k : IntKind} {l : List Sh} {cs : List V} (h : FitL (.int k :: l) cs) : ∃ n cs', cs = .int k n :: cs' ∧ FitL l cs' := by
 obtain ⟨c, cs', rfl, h1, h2⟩ := fitL_cons h
 obtain ⟨n, rfl, _⟩ := fitInt h1
 exact ⟨n, cs', rfl, h2⟩
abbrev SlOk {α : Type} (s : Sl α) : Prop := s.len ≤ 140737488355328 ∧ (s.nl = true → s.len = 0)
theorem fitRow {α : Type} {e : α → List V} {P : α → Prop} {l : List Sh} (dec : ∀ cs, FitL l cs → ∃ a : α, cs = e a ∧ P a) {c : V} (h : Fit (.row l) c) : ∃ s : Sl α, c = sl e l.length s ∧ SlOk s ∧ ∀ i, P (s.el i) := by
 cases h with
 | row h hn hl hf =>
  rename_i nl len get
  have hx : ∀ i, ∃ a : α, get i = e a ∧ P a := fun i => dec _ ⟨hl i, hf i⟩
  refine ⟨⟨nl, len, fun i => (hx i).choose⟩, ?_, ⟨h, hn⟩, fun i => (hx i).choose_spec.2⟩
  show V.row nl len l.length get = V.row nl len l.length fun i => e (hx i).choose
  congr 1
  funext i
  exact (hx i).choose_spec.1
theorem fitL_row {α : Type} {e : α → List V} {P : α → Prop} {l r : List Sh} (dec : ∀ cs, FitL l cs → ∃ a : α, cs = e a ∧ P a) {cs : List V} (h : FitL (.row l :: r) cs) : ∃ (s : Sl α) (cs' : List V), cs = sl e l.length s :: cs' ∧ SlOk s ∧ (∀ i, P (s.el i)) ∧ FitL r cs' := by
 obtain ⟨c, cs', rfl, h1, h2⟩ := fitL_cons h
 obtain ⟨s, rfl, h3, h4⟩ := fitRow dec h1
 exact ⟨s, cs', rfl, h3, h4, h2⟩
abbrev i8 : Sh := .int .i64
abbrev shSlc : List Sh := [i8, i8, i8, i8, i8, i8, i8]
abbrev shCav : List Sh := [.row shSlc, i8, i8]
abbrev shStg : List Sh := [i8, i8, i8, i8]
abbrev shTruth : List Sh := [.row [i8], .row [.row [i8]]]
theorem decInt (cs : List V) (h : FitL [i8] cs) : ∃ n : Int, cs = eInt n ∧ I64 n := by
 obtain ⟨c, cs', rfl, h1, h2⟩ := fitL_cons h
 obtain ⟨n, rfl, m1, m2⟩ := fitInt h1
 obtain rfl := fitL_nil h2
 refine ⟨n, rfl, ?_⟩
 exact ⟨m1, m2⟩
theorem decSlc (cs : List V) (h : FitL shSlc cs) : ∃ c : Slc, cs = eSlc c ∧ True := by
 obtain ⟨a0, _, rfl, h1⟩ := fitL_int h
 obtain ⟨a1, _, rfl, h2⟩ := fitL_int h1
 obtain ⟨a2, _, rfl, h3⟩ := fitL_int h2
 obtain ⟨a3, _, rfl, h4⟩ := fitL_int h3
 obtain ⟨a4, _, rfl, h5⟩ := fitL_int h4
 obtain ⟨a5, _, rfl, h6⟩ := fitL_int h5
 obtain ⟨a6, _, rfl, h7⟩ := fitL_int h6
 obtain rfl := fitL_nil h7
 exact ⟨⟨⟨a0, a1⟩, a2, a3, ⟨a4, a5⟩, a6⟩, rfl, trivial⟩
theorem decStg (cs : List V) (h : FitL shStg cs) : ∃ c : Stg, cs = eStg c ∧ True := by
 obtain ⟨a0, _, rfl, h1⟩ := fitL_int h
 obtain ⟨a1, _, rfl, h2⟩ := fitL_int h1
 obtain ⟨a2, _, rfl, h3⟩ := fitL_int h2
 obtain ⟨a3, _, rfl, h4⟩ := fitL_int h3
 obtain rfl := fitL_nil h4
 exact ⟨⟨a0, a1, a2, a3⟩, rfl, trivial⟩
theorem decCav (cs : List V) (h : FitL shCav cs) : ∃ c : Cav, cs = eCav c ∧ SlOk c.slices := by
 obtain ⟨a, _, rfl, h0, _, h1⟩ := fitL_row decSlc h
 obtain ⟨b, _, rfl, h2⟩ := fitL_int h1
 obtain ⟨d, _, rfl, h3⟩ := fitL_int h2
 obtain rfl := fitL_nil h3
 exact ⟨⟨a, b, d⟩, rfl, h0⟩
theorem own : ownKnob Try.prog.godebug = none := by kernel_rfl
end Go.Sim.Le


namespace Go.Sim.Le
open Go.Proofs
variable (F d : Nat)
theorem s19 (c : Cav) : (E F (d + 1)).pf 19 [.agg (eCav c)] = some (.ret (.bool (decide (c.slices.len ≤ 20)))) := by
 rw [E_pf, t19]
 refine b3 (b2 ?_)
 simp only [decide_eq_true_iff]
 omega
theorem z0' {α : Type} (a b : α) : (bif ((0 : Int) != 0) then a else b) = b := rfl
theorem lenB {n : Nat} (h : n ≤ 140737488355328) : n < Big := by show n < 4611686018427387904; omega
end Go.Sim.Le


namespace Go.Sim.Le
open Go.Proofs
variable (F d : Nat)
end Go.Sim.Le


namespace Go.Sim.Le
open Go.Proofs
variable (F d : Nat)
theorem wv2 (y : Int) (u : Nat) : wv 2 y u = if (u : Int) = y then 1 else 0 := by
 unfold wv
 rw [if_neg (by omega)]
 by_cases h : (u : Int) = y
 ·rw [if_pos (.inr ⟨rfl, h⟩), if_pos h]
 ·rw [if_neg (by omega), if_neg h]
def oneW (n u : Nat) : Int := if u = n then 1 else 0
def negW (q u : Nat) : Int := if u < q then -1 else 0
section
variable {c : Cav} (hc : CavOk c) (l : Sl Stg) (hL : l.len ≤ 300) (hs : ∀ i, i < l.len → StgOk c.slices.len (l.el i)) (hF : 400 < F)
include hc hL hs hF
def upW (b q u : Nat) : Int := if b ≤ u ∧ u < q then 1 else 0
end
end Go.Sim.Le


namespace Go.Sim.Le
open Go.Proofs
abbrev TruthOk (c : Cav) (n : Nat) (t : Truth) : Prop := t.vols.len = c.slices.len ∧ t.rates.len = n ∧ (∀ i, i < t.vols.len → (c.slices.el i).vol.lo ≤ t.vols.el i ∧ t.vols.el i ≤ (c.slices.el i).vol.hi) ∧
 ∀ k, k < t.rates.len → (t.rates.el k).len = c.slices.len ∧ ∀ i, i < c.slices.len → (c.slices.el i).rate.lo ≤ (t.rates.el k).el i ∧ (t.rates.el k).el i ≤ (c.slices.el i).rate.hi
variable (F d : Nat)
section
variable (c : Cav) (l : Sl Stg) (t : Truth) (hcl : c.slices.len < Big) (htl : t.rates.len < Big) (hCF : c.slices.len < F) (hTF : t.rates.len < F)
def rateB (k i : Nat) : Bool := decide ((c.slices.el i).rate.lo ≤ (t.rates.el k).el i ∧ (t.rates.el k).el i ≤ (c.slices.el i).rate.hi)
def rowB (k : Nat) : Bool := decide ((t.rates.el k).len = c.slices.len) && allF (rateB c t k) c.slices.len 0
theorem rowB_iff (k : Nat) : rowB c t k = true ↔ ((t.rates.el k).len = c.slices.len ∧ ∀ i, i < c.slices.len → (c.slices.el i).rate.lo ≤ (t.rates.el k).el i ∧ (t.rates.el k).el i ≤ (c.slices.el i).rate.hi) := by
 unfold rowB
 rw [allF_dec]
 simp only [Bool.and_eq_true, decide_eq_true_eq, rateB]
include hcl htl hCF hTF
theorem l87x2 (m0 k : Nat) (hk : (t.rates.el k).len = c.slices.len) (R : Option Out) : ∀ j i fu, i + j = c.slices.len → j < fu →
  (bif allF (rateB c t k) j i then L87x1 (E F (d + 1)) F c l t m0 (IntKind.i64.wrap ((k : Int) + 1)) else some (.ret (.bool false))) = R →
  L87x2 (E F (d + 1)) F c l t m0 fu k (t.rates.el k).nl (t.rates.el k).len (fun u => [.int .i64 ((t.rates.el k).el u)]) (t.rates.el k).len i = R := by
 have hB : c.slices.len < 4611686018427387904 := hcl
 intro j
 induction j with
 | zero =>
  intro i fu h hf K
  obtain ⟨fu, rfl⟩ : ∃ k, fu = k + 1 := ⟨fu - 1, by omega⟩
  rw [L87x2s, decide_eq_false (by omega), pF]
  simp only [allF, cond_true] at K
  exact K
 | succ j ih =>
  intro i fu h hf K
  obtain ⟨fu, rfl⟩ : ∃ k, fu = k + 1 := ⟨fu - 1, by omega⟩
  rw [L87x2s]
  simp (disch := omega) only [decide_eq_true, decide_true, pT, Int.toNat_natCast, tkCons_c, tkInt_i, s59, tkOut_ret, tkBool_b]
  simp only [allF] at K
  by_cases hr : (c.slices.el i).rate.lo ≤ (t.rates.el k).el i ∧ (t.rates.el k).el i ≤ (c.slices.el i).rate.hi
  ·rw [show rateB c t k i = true from decide_eq_true hr, Bool.true_and] at K
   rw [decide_eq_true hr, Bool.not_true, pF, wrS (by omega)]
   exact ih (i + 1) fu (by omega) (by omega) K
  ·rw [show rateB c t k i = false from decide_eq_false hr, Bool.false_and, cond_false] at K
   rw [decide_eq_false hr, Bool.not_false, pT]
   exact K
theorem l87x1 : ∀ j k fu, k + j = t.rates.len → j < fu → L87x1 (E F (d + 1)) F c l t fu k = some (.ret (.bool (allF (rowB c t) j k))) := by
 have hB : c.slices.len < 4611686018427387904 := hcl
 have hT : t.rates.len < 4611686018427387904 := htl
 intro j
 induction j with
 | zero =>
  intro k fu h hf
  obtain ⟨fu, rfl⟩ : ∃ k, fu = k + 1 := ⟨fu - 1, by omega⟩
  rw [L87x1s, decide_eq_false (by omega), pF]
  rfl
 | succ j ih =>
  intro k fu h hf
  obtain ⟨fu, rfl⟩ : ∃ k, fu = k + 1 := ⟨fu - 1, by omega⟩
  rw [L87x1s]
  simp (disch := omega) only [decide_eq_true, decide_true, pT, Int.toNat_natCast]
  by_cases hk : (t.rates.el k).len = c.slices.len
  ·rw [show (((t.rates.el k).len : Int) != (c.slices.len : Int)) = false by rw [hk]; simp, pF]
   refine l87x2 F d c l t hcl htl hCF hTF fu k hk _ c.slices.len 0 F (by omega) (by omega) ?_
   simp only [allF, rowB, decide_eq_true hk, Bool.true_and]
   rw [wrS (by omega)]
   cases allF (rateB c t k) c.slices.len 0 with
   | true => rw [cond_true, Bool.true_and]; exact ih (k + 1) fu (by omega) (by omega)
   | false => rw [cond_false, Bool.false_and]
  ·rw [show (((t.rates.el k).len : Int) != (c.slices.len : Int)) = true by simp; omega, pT]
   simp only [allF, rowB, decide_eq_false hk, Bool.false_and]
theorem l87x0 (hv : t.vols.len = c.slices.len) : ∀ j i fu, i + j = t.vols.len → j < fu → L87x0 (E F (d + 1)) F c l t fu i = some (.ret (.bool (allF (fun i => decide ((c.slices.el i).vol.lo ≤ t.vols.el i ∧ t.vols.el i ≤ (c.slices.el i).vol.hi)) j i && allF (rowB c t) t.rates.len 0))) := by
 have hB : c.slices.len < 4611686018427387904 := hcl
 intro j
 induction j with
 | zero =>
  intro i fu h hf
  obtain ⟨fu, rfl⟩ : ∃ k, fu = k + 1 := ⟨fu - 1, by omega⟩
  rw [L87x0s, decide_eq_false (by omega), pF]
  exact l87x1 F d c l t hcl htl hCF hTF t.rates.len 0 F (by omega) (by omega)
 | succ j ih =>
  intro i fu h hf
  obtain ⟨fu, rfl⟩ : ∃ k, fu = k + 1 := ⟨fu - 1, by omega⟩
  rw [L87x0s]
  simp (disch := omega) only [decide_eq_true (show (i : Int) < (t.vols.len : Int) by omega), decide_eq_true (show (i : Int) < (c.slices.len : Int) by omega), decide_eq_true (show (0 : Int) ≤ (i : Int) by omega), pT, Int.toNat_natCast, s59, tkOut_ret, tkBool_b]
  simp only [allF]
  cases decide ((c.slices.el i).vol.lo ≤ t.vols.el i ∧ t.vols.el i ≤ (c.slices.el i).vol.hi) with
  | true => rw [Bool.not_true, pF, wrS (by omega), Bool.true_and]; exact ih (i + 1) fu (by omega) (by omega)
  | false => rw [Bool.not_false, pT]; rfl
theorem s87 : (E F (d + 2)).pf 87 [.agg (eCav c), sl eStg 4 l, .agg (eTruth t)] = some (.ret (.bool (decide (TruthOk c l.len t)))) := by
 rw [E_pf, t87]
 by_cases hv : t.vols.len = c.slices.len
 ·rw [show ((t.vols.len : Int) != (c.slices.len : Int)) = false by rw [hv]; simp, pF]
  by_cases hr : t.rates.len = l.len
  ·rw [show ((t.rates.len : Int) != (l.len : Int)) = false by rw [hr]; simp, pF]
   refine (l87x0 F d c l t hcl htl hCF hTF hv t.vols.len 0 F (by omega) (by omega)).trans (b3 (b2 ?_))
   rw [allF_dec, allF_dec]
   simp only [Bool.and_eq_true, decide_eq_true_eq, rowB_iff]
   exact ⟨fun h => ⟨hv, hr, h.1, h.2⟩, fun h => ⟨h.2.2.1, h.2.2.2⟩⟩
  ·rw [show ((t.rates.len : Int) != (l.len : Int)) = true by simp; omega, pT]
   exact b3 (Eq.symm (decide_eq_false fun h => hr h.2.1))
 ·rw [show ((t.vols.len : Int) != (c.slices.len : Int)) = true by simp; omega, pT]
  exact b3 (Eq.symm (decide_eq_false fun h => hv h.1))
end
end Go.Sim.Le


namespace Go.Sim.Le
open Go.Proofs
abbrev wK (t : Truth) (j : Nat) : Nat → Int := (t.rates.el j).el
abbrev opnF (c : Cav) (i : Nat) : Int := (c.slices.el i).opn
abbrev fallF (c : Cav) (i : Nat) : Int := (c.slices.el i).fall
def volS (c : Cav) (l : Nat → Stg) (t : Truth) : Nat → Nat → Int
 | 0 => t.vols.el
 | j + 1 => fun i => volS c l t j i + opnF c i * (takeRow c (l j) (wK t j) (pathN (l j)) i * (l j).water)
def tkE (c : Cav) (l : Nat → Stg) (t : Truth) (j : Nat) : Int × Int := tkT c (l j) (wK t j) (pathN (l j))
def saltP (c : Cav) (l : Nat → Stg) (t : Truth) : Nat → Int
 | 0 => 0
 | j + 1 => saltP c l t j + (l j).water * (tkE c l t j).1
def sumpS (c : Cav) (l : Nat → Stg) (t : Truth) : Nat → Int
 | 0 => 0
 | j + 1 => sumpS c l t j + (l j).water * pathSum c (l j) (wK t j) (fallF c) (pathN (l j))
def brineS (c : Cav) (l : Nat → Stg) (t : Truth) : Nat → Int
 | 0 => 0
 | j + 1 => brineS c l t j + (1000000 * (l j).water - (l j).water * (tkE c l t j).2)
def outS (c : Cav) (l : Nat → Stg) (t : Truth) : Nat → Int
 | 0 => 0
 | j + 1 => outS c l t j + (1000000 * ((l j).water * (tkE c l t j).1) - c.hold * ((l j).water * (tkE c l t j).2))
def endV (c : Cav) (l : Nat → Stg) (t : Truth) (n : Nat) : List V := [sl eInt 1 ⟨false, c.slices.len, volS c l t n⟩, .int .i64 (sumpS c l t n), .int .i64 (saltP c l t n), .int .i64 (brineS c l t n), .int .i64 (outS c l t n)]
section
variable {c : Cav} (hc : CavOk c) {s : Stg} (hs : StgOk c.slices.len s) (w : Nat → Int) (hw : RatesOk c w)
include hc hs hw
theorem pathSum_in (g : Nat → Int) (hg : ∀ i, i < c.slices.len → 0 ≤ g i ∧ g i ≤ 3000) : ∀ k, k ≤ pathN s → 0 ≤ pathSum c s w g k ∧ pathSum c s w g k ≤ 3000 * (tkT c s w k).1 := by
 intro k
 induction k with
 | zero => intro _; simp [pathSum, tkT]
 | succ k ih =>
  intro h
  have i := ih (by omega)
  have hin := pathAt_in hs (k := k) (by omega)
  have hn := takeN_in hc hs w hw (k := k) (by omega)
  have hgi := hg (pathAt s k).toNat (by omega)
  have m1 : 0 ≤ g (pathAt s k).toNat * takeN c s w k := Int.mul_nonneg hgi.1 hn.1
  have m2 : g (pathAt s k).toNat * takeN c s w k ≤ 3000 * takeN c s w k := Int.mul_le_mul_of_nonneg_right hgi.2 hn.1
  simp only [pathSum, tkT]
  unfold takeN at *
  omega
omit hc hs hw in
theorem pathSum_sub : ∀ k, pathSum c s w (opnF c) k - pathSum c s w (fallF c) k = (tkT c s w k).2 := by
 intro k
 induction k with
 | zero => rfl
 | succ k ih =>
  simp only [pathSum, tkT]
  rw [← ih]
  have : (opnF c (pathAt s k).toNat) * takeN c s w k - (fallF c (pathAt s k).toNat) * takeN c s w k = min (w (pathAt s k).toNat) (c.hold - (tkT c s w k).1) * oAt c s k := by
   rw [← Int.sub_mul, Int.mul_comm]; rfl
  omega
end
theorem opn_in {c : Cav} (hc : CavOk c) : ∀ i, i < c.slices.len → 0 ≤ opnF c i ∧ opnF c i ≤ 3000 := fun i hi => by
 have : 1000 ≤ (c.slices.el i).opn ∧ (c.slices.el i).opn ≤ 3000 := (hc.2.2.2 i hi).2.1
 exact ⟨by show 0 ≤ (c.slices.el i).opn; omega, this.2⟩
theorem fall_in {c : Cav} (hc : CavOk c) : ∀ i, i < c.slices.len → 0 ≤ fallF c i ∧ fallF c i ≤ 3000 := fun i hi => by
 have h1 : 1000 ≤ (c.slices.el i).opn ∧ (c.slices.el i).opn ≤ 3000 := (hc.2.2.2 i hi).2.1
 have h2 : 0 ≤ (c.slices.el i).fall ∧ (c.slices.el i).fall ≤ (c.slices.el i).opn - 1 := (hc.2.2.2 i hi).2.2.1
 exact ⟨h2.1, by show (c.slices.el i).fall ≤ 3000; omega⟩
theorem truth_rates {c : Cav} {n : Nat} {t : Truth} (ht : TruthOk c n t) {j : Nat} (hj : j < n) : RatesOk c (wK t j) := fun i hi => (ht.2.2.2 j (by rw [ht.2.1]; exact hj)).2 i hi
theorem mulnn {a b x y : Int} (h1 : 0 ≤ a) (h2 : a ≤ x) (h3 : 0 ≤ b) (h4 : b ≤ y) : 0 ≤ a * b ∧ a * b ≤ x * y := ⟨Int.mul_nonneg h1 h3, Int.mul_le_mul h2 h4 h3 (by omega)⟩
section
variable {c : Cav} (hc : CavOk c) {n : Nat} {l : Nat → Stg} (hl : ∀ i, i < n → StgOk c.slices.len (l i)) {t : Truth} (ht : TruthOk c n t)
include hc hl ht
theorem vol_bd {i : Nat} (hi : i < c.slices.len) : ∀ j, j ≤ n → 0 ≤ volS c l t j i ∧ volS c l t j i ≤ 10000000000000 + 900000000000 * j := by
 intro j
 induction j with
 | zero =>
  intro _
  have h1 := ht.2.2.1 i (by rw [ht.1]; exact hi)
  have h2 : SpanIn (c.slices.el i).vol 0 10000000000000 := (hc.2.2.2 i hi).1
  unfold SpanIn at h2
  simp only [volS]
  omega
 | succ j ih =>
  intro h
  have i1 := ih (by omega)
  have hs := hl j (by omega)
  have h1 := takeRow_in hc hs (wK t j) (truth_rates ht (by omega)) (pathN (l j)) (Nat.le_refl _) i
  have hwa := hs.1
  have ho := opn_in hc i hi
  have m1 := mulnn (a := takeRow c (l j) (wK t j) (pathN (l j)) i) (b := (l j).water) (x := 300) (y := 1000000) h1.1 h1.2 (by omega) (by omega)
  have m2 := mulnn (a := opnF c i) (b := takeRow c (l j) (wK t j) (pathN (l j)) i * (l j).water) (x := 3000) (y := 300000000) ho.1 ho.2 m1.1 (by omega)
  simp only [volS]
  omega
theorem tkE_in {j : Nat} (hj : j < n) : (0 ≤ (tkE c l t j).1 ∧ (tkE c l t j).1 ≤ 300) ∧ (0 ≤ (tkE c l t j).2 ∧ (tkE c l t j).2 ≤ 900000) ∧ (0 ≤ (l j).water * (tkE c l t j).1 ∧ (l j).water * (tkE c l t j).1 ≤ 300000000) ∧ 0 ≤ (l j).water * (tkE c l t j).2 ∧ (l j).water * (tkE c l t j).2 ≤ 900000000000 := by
 have hs := hl j hj
 have hr := reach_in hc hs (take_reach hc hs (wK t j) (truth_rates ht hj) (pathN (l j)) (Nat.le_refl _)) (Nat.le_refl _)
 have hH := hc.2.1
 have hwa := hs.1
 unfold tkE
 have m1 := mulnn (a := (l j).water) (b := (tkT c (l j) (wK t j) (pathN (l j))).1) (x := 1000000) (y := 300) (by omega) (by omega) (by omega) (by omega)
 have m2 := mulnn (a := (l j).water) (b := (tkT c (l j) (wK t j) (pathN (l j))).2) (x := 1000000) (y := 900000) (by omega) (by omega) (by omega) (by omega)
 exact ⟨by omega, by omega, by omega, by omega⟩
theorem sums_in : ∀ j, j ≤ n → (0 ≤ saltP c l t j ∧ saltP c l t j ≤ 300000000 * j) ∧ (0 ≤ sumpS c l t j ∧ sumpS c l t j ≤ 900000000000 * j) ∧ (0 ≤ brineS c l t j ∧ brineS c l t j ≤ 1000000000000 * j) ∧ (-(270000000000000 * j) ≤ outS c l t j ∧ outS c l t j ≤ 300000000000000 * j) := by
 intro j
 induction j with
 | zero => intro _; simp [saltP, sumpS, brineS, outS]
 | succ j ih =>
  intro h
  have i := ih (by omega)
  have hs := hl j (by omega)
  have hwa := hs.1
  have hH := hc.2.1
  have ht1 := tkE_in hc hl ht (j := j) (by omega)
  have hps := pathSum_in hc hs (wK t j) (truth_rates ht (by omega)) (fallF c) (fall_in hc) (pathN (l j)) (Nat.le_refl _)
  have he : (tkT c (l j) (wK t j) (pathN (l j))).1 = (tkE c l t j).1 := rfl
  rw [he] at hps
  have m1 := mulnn (a := (l j).water) (b := pathSum c (l j) (wK t j) (fallF c) (pathN (l j))) (x := 1000000) (y := 900000) (by omega) (by omega) (by omega) (by omega)
  have m2 := mulnn (a := c.hold) (b := (l j).water * (tkE c l t j).2) (x := 300) (y := 900000000000) (by omega) (by omega) (by omega) (by omega)
  have m3 : (l j).water * (tkE c l t j).2 ≤ (l j).water * 900000 := Int.mul_le_mul_of_nonneg_left (by omega) (by omega)
  simp only [saltP, sumpS, brineS, outS]
  omega
end
variable (F d : Nat)
theorem s88g (a b : Int) (hF : 20 < F) (h1 : I64 a) (h3 : I64 (a + b)) :
  (E F (d + 3)).pf 88 [.row false 2 1 (fun u => List.take 1 (List.drop (Min.min u 1 * 1) [V.int .i64 a, V.int .i64 b]))] = some (.ret (.int .i64 (a + b))) := s88 F (d + 2) a b hF h1 h3
section
variable {c : Cav} (hc : CavOk c) {l : Sl Stg} (hL : l.len ≤ 300) (hl : ∀ i, i < l.len → StgOk c.slices.len (l.el i)) {t : Truth} (ht : TruthOk c l.len t) (hF : 400 < F)
include hc hL hl ht hF
theorem l44x3 (m0 jj : Nat) (hj : jj < l.len) (b0 : Bool) (y1 : Int) (y2 : Nat) (y3 y4 y5 y6 y7 y8 y9 y10 : Int) : ∀ j k fu, k + 1 + j = pathN (l.el jj) → j < fu →
  L44x3 (E F (d + 3)) F c l t m0 fu (fun _ => eStg (l.el jj)) (stepOf (l.el jj)) .i64 (pathAt (l.el jj) k) c.slices.len (sumpS c l.el t jj) (saltP c l.el t jj) (brineS c l.el t jj) (outS c l.el t jj) jj (l.el jj).water (l.el jj).into (l.el jj).out (l.el jj).blanket
   (c.hold - (tkT c (l.el jj) (wK t jj) k).1) .i64 ((l.el jj).water * pathSum c (l.el jj) (wK t jj) (opnF c) k) .i64 ((l.el jj).water * pathSum c (l.el jj) (wK t jj) (fallF c) k) .i64 ((l.el jj).water * (tkT c (l.el jj) (wK t jj) k).1) c.slices.len
   (fun i => eInt (volS c l.el t jj i + opnF c i * (takeRow c (l.el jj) (wK t jj) k i * (l.el jj).water))) jj b0 y1 y2 y3 y4 y5 y6 y7 y8 y9 y10 (fun _ => eStg (l.el jj))
  = L44x1 (E F (d + 3)) F c l t m0 ((jj + 1 : Nat) : Int) c.slices.len (sumpS c l.el t (jj + 1)) (saltP c l.el t (jj + 1)) (brineS c l.el t (jj + 1)) (outS c l.el t (jj + 1)) c.slices.len (fun i => eInt (volS c l.el t (jj + 1) i)) := by
 have hs := hl jj hj
 have hw := truth_rates ht hj
 have hp := pathN_le hs
 have hcl := hc.1
 have hH := hc.2.1
 have hwa := hs.1
 have htr := ht.2.2.2 jj (by rw [ht.2.1]; exact hj)
 have htl := ht.2.1
 have hsum := sums_in hc hl ht jj (by omega)
 have hsum' := sums_in hc hl ht (jj + 1) (by omega)
 have htr1 := htr.1
 intro j
 induction j with
 | zero =>
  intro k fu h hf
  obtain ⟨fu, rfl⟩ : ∃ k, fu = k + 1 := ⟨fu - 1, by omega⟩
  have hin := pathAt_in hs (k := k) (by omega)
  have hr := reach_in hc hs (take_reach hc hs (wK t jj) hw k (by omega)) (by omega)
  have hr' := reach_in hc hs (take_reach hc hs (wK t jj) hw (k + 1) (by omega)) (by omega)
  have hn := takeN_in hc hs (wK t jj) hw (k := k) (by omega)
  have hno : min ((t.rates.el jj).el (pathAt (l.el jj) k).toNat) (c.hold - (tkT c (l.el jj) (wK t jj) k).1) = takeN c (l.el jj) (wK t jj) k := rfl
  have hv := vol_bd hc hl ht (i := (pathAt (l.el jj) k).toNat) (by omega) jj (by omega)
  have ho : 0 ≤ (c.slices.el (pathAt (l.el jj) k).toNat).opn ∧ (c.slices.el (pathAt (l.el jj) k).toNat).opn ≤ 3000 := opn_in hc (pathAt (l.el jj) k).toNat (by omega)
  have hfa : 0 ≤ (c.slices.el (pathAt (l.el jj) k).toNat).fall ∧ (c.slices.el (pathAt (l.el jj) k).toNat).fall ≤ 3000 := fall_in hc (pathAt (l.el jj) k).toNat (by omega)
  have p1 := pathSum_in hc hs (wK t jj) hw (opnF c) (opn_in hc) k (by omega)
  have p2 := pathSum_in hc hs (wK t jj) hw (fallF c) (fall_in hc) k (by omega)
  have p1' := pathSum_in hc hs (wK t jj) hw (opnF c) (opn_in hc) (k + 1) (by omega)
  have p2' := pathSum_in hc hs (wK t jj) hw (fallF c) (fall_in hc) (k + 1) (by omega)
  have ht0 : takeRow c (l.el jj) (wK t jj) k (pathAt (l.el jj) k).toNat = 0 := takeRow_0 hs (wK t jj) k k (Nat.le_refl _) (by omega)
  have q1 := mulnn (a := takeN c (l.el jj) (wK t jj) k) (b := (l.el jj).water) (x := 300) (y := 1000000) hn.1 hn.2.1 (by omega) (by omega)
  have q2 := mulnn (a := takeN c (l.el jj) (wK t jj) k * (l.el jj).water) (b := (c.slices.el (pathAt (l.el jj) k).toNat).opn) (x := 300000000) (y := 3000) q1.1 (by omega) ho.1 ho.2
  have q3 := mulnn (a := takeN c (l.el jj) (wK t jj) k * (l.el jj).water) (b := (c.slices.el (pathAt (l.el jj) k).toNat).fall) (x := 300000000) (y := 3000) q1.1 (by omega) hfa.1 hfa.2
  have r1 := mulnn (a := (l.el jj).water) (b := (tkT c (l.el jj) (wK t jj) k).1) (x := 1000000) (y := 300) (by omega) (by omega) (by omega) (by omega)
  have r2 := mulnn (a := (l.el jj).water) (b := pathSum c (l.el jj) (wK t jj) (opnF c) k) (x := 1000000) (y := 900000) (by omega) (by omega) (by omega) (by omega)
  have r3 := mulnn (a := (l.el jj).water) (b := pathSum c (l.el jj) (wK t jj) (fallF c) k) (x := 1000000) (y := 900000) (by omega) (by omega) (by omega) (by omega)
  have es1 : (l.el jj).water * (tkT c (l.el jj) (wK t jj) k).1 + takeN c (l.el jj) (wK t jj) k * (l.el jj).water = (l.el jj).water * (tkT c (l.el jj) (wK t jj) (k + 1)).1 := by
   show _ = (l.el jj).water * ((tkT c (l.el jj) (wK t jj) k).1 + takeN c (l.el jj) (wK t jj) k)
   rw [Int.mul_add, Int.mul_comm (takeN c (l.el jj) (wK t jj) k)]
  have es2 : (l.el jj).water * pathSum c (l.el jj) (wK t jj) (opnF c) k + takeN c (l.el jj) (wK t jj) k * (l.el jj).water * (c.slices.el (pathAt (l.el jj) k).toNat).opn = (l.el jj).water * pathSum c (l.el jj) (wK t jj) (opnF c) (k + 1) := by
   show _ = (l.el jj).water * (pathSum c (l.el jj) (wK t jj) (opnF c) k + (c.slices.el (pathAt (l.el jj) k).toNat).opn * takeN c (l.el jj) (wK t jj) k)
   rw [Int.mul_add, Int.mul_comm (takeN c (l.el jj) (wK t jj) k), Int.mul_assoc, Int.mul_comm (takeN c (l.el jj) (wK t jj) k)]
  have es3 : (l.el jj).water * pathSum c (l.el jj) (wK t jj) (fallF c) k + takeN c (l.el jj) (wK t jj) k * (l.el jj).water * (c.slices.el (pathAt (l.el jj) k).toNat).fall = (l.el jj).water * pathSum c (l.el jj) (wK t jj) (fallF c) (k + 1) := by
   show _ = (l.el jj).water * (pathSum c (l.el jj) (wK t jj) (fallF c) k + (c.slices.el (pathAt (l.el jj) k).toNat).fall * takeN c (l.el jj) (wK t jj) k)
   rw [Int.mul_add, Int.mul_comm (takeN c (l.el jj) (wK t jj) k), Int.mul_assoc, Int.mul_comm (takeN c (l.el jj) (wK t jj) k)]
  have eu : updGet (fun i => eInt (volS c l.el t jj i + opnF c i * (takeRow c (l.el jj) (wK t jj) k i * (l.el jj).water))) (pathAt (l.el jj) k).toNat 0 [V.int .i64 (volS c l.el t jj (pathAt (l.el jj) k).toNat + takeN c (l.el jj) (wK t jj) k * (l.el jj).water * (c.slices.el (pathAt (l.el jj) k).toNat).opn)] =
    fun i => eInt (volS c l.el t jj i + opnF c i * (takeRow c (l.el jj) (wK t jj) (k + 1) i * (l.el jj).water)) := by
   refine (upd_int _ _ _).trans ?_
   funext i
   refine congrArg eInt ?_
   by_cases hi : i = (pathAt (l.el jj) k).toNat
   ·rw [if_pos hi, hi]
    simp only [takeRow, if_pos]
    rw [Int.mul_comm (takeN c (l.el jj) (wK t jj) k * (l.el jj).water)]
   ·rw [if_neg hi]
    simp only [takeRow, if_neg hi]
  have hk' : k = pathN (l.el jj) - 1 := by omega
  have e1 : pathAt (l.el jj) k = (l.el jj).out := by rw [hk', pathAt_last]
  have e2 : k + 1 = pathN (l.el jj) := by omega
  have ebif : (pathAt (l.el jj) k != (l.el jj).out) = false := by simp [e1]
  rw [L44x3s]
  have hA : decide ((0 : Int) ≤ (jj : Int)) = true := decide_eq_true (Int.natCast_nonneg _)
  have hB : decide ((jj : Int) < (t.rates.len : Int)) = true := decide_eq_true (by rw [htl]; exact Int.ofNat_lt.2 hj)
  have hC : decide ((0 : Int) ≤ pathAt (l.el jj) k) = true := decide_eq_true hin.1
  have hD : decide (pathAt (l.el jj) k < ((t.rates.el jj).len : Int)) = true := decide_eq_true (by rw [htr1]; exact hin.2)
  have hE : decide (pathAt (l.el jj) k < (c.slices.len : Int)) = true := decide_eq_true hin.2
  have w1 : IntKind.i64.wrap (takeN c (l.el jj) (wK t jj) k * (l.el jj).water) = takeN c (l.el jj) (wK t jj) k * (l.el jj).water := wr (by omega)
  have w2 : IntKind.i64.wrap (takeN c (l.el jj) (wK t jj) k * (l.el jj).water * (c.slices.el (pathAt (l.el jj) k).toNat).opn) = takeN c (l.el jj) (wK t jj) k * (l.el jj).water * (c.slices.el (pathAt (l.el jj) k).toNat).opn := wr (by omega)
  have w3 : IntKind.i64.wrap (takeN c (l.el jj) (wK t jj) k * (l.el jj).water * (c.slices.el (pathAt (l.el jj) k).toNat).fall) = takeN c (l.el jj) (wK t jj) k * (l.el jj).water * (c.slices.el (pathAt (l.el jj) k).toNat).fall := wr (by omega)
  have w4 : IntKind.i64.wrap (volS c l.el t jj (pathAt (l.el jj) k).toNat + takeN c (l.el jj) (wK t jj) k * (l.el jj).water * (c.slices.el (pathAt (l.el jj) k).toNat).opn) = volS c l.el t jj (pathAt (l.el jj) k).toNat + takeN c (l.el jj) (wK t jj) k * (l.el jj).water * (c.slices.el (pathAt (l.el jj) k).toNat).opn := wr (by omega)
  have e88a := s88g F d ((l.el jj).water * (tkT c (l.el jj) (wK t jj) k).1) (takeN c (l.el jj) (wK t jj) k * (l.el jj).water) (by omega) (by omega) (by omega)
  have e88b := s88g F d ((l.el jj).water * pathSum c (l.el jj) (wK t jj) (opnF c) k) (takeN c (l.el jj) (wK t jj) k * (l.el jj).water * (c.slices.el (pathAt (l.el jj) k).toNat).opn) (by omega) (by omega) (by omega)
  have e88c := s88g F d ((l.el jj).water * pathSum c (l.el jj) (wK t jj) (fallF c) k) (takeN c (l.el jj) (wK t jj) k * (l.el jj).water * (c.slices.el (pathAt (l.el jj) k).toNat).fall) (by omega) (by omega) (by omega)
  simp only [hA, hB, hC, hD, hE, decide_true, pT, Int.toNat_natCast, mnE, hno, w1, w2, w3, e88a, e88b, e88c, tkOut_ret, tkInt_i, tkCons_c, List.drop, ht0, Int.zero_mul, Int.mul_zero, Int.add_zero, w4]
  rw [es1, es2, es3, eu]
  rw [ebif, pF, e2]
  rw [e2] at p1' p2' hr'
  have hT := tkE_in hc hl ht hj
  have eT1 : (tkT c (l.el jj) (wK t jj) (pathN (l.el jj))).1 = (tkE c l.el t jj).1 := rfl
  have eT2 : (tkT c (l.el jj) (wK t jj) (pathN (l.el jj))).2 = (tkE c l.el t jj).2 := rfl
  have eq3 : (l.el jj).water * pathSum c (l.el jj) (wK t jj) (opnF c) (pathN (l.el jj)) - (l.el jj).water * pathSum c (l.el jj) (wK t jj) (fallF c) (pathN (l.el jj)) = (l.el jj).water * (tkE c l.el t jj).2 := by
   rw [← Int.mul_sub, pathSum_sub]; rfl
  rw [eT1] at p1' p2' hr' ⊢
  have f2 := mulnn (a := (l.el jj).water) (b := pathSum c (l.el jj) (wK t jj) (opnF c) (pathN (l.el jj))) (x := 1000000) (y := 900000) (by omega) (by omega) (by omega) (by omega)
  have f3 := mulnn (a := (l.el jj).water) (b := pathSum c (l.el jj) (wK t jj) (fallF c) (pathN (l.el jj))) (x := 1000000) (y := 900000) (by omega) (by omega) (by omega) (by omega)
  have f4 := mulnn (a := c.hold) (b := (l.el jj).water * (tkE c l.el t jj).2) (x := 300) (y := 900000000000) (by omega) (by omega) (by omega) (by omega)
  clear q1 q2 q3 r1 r2 r3 es1 es2 es3 eu w1 w2 w3 w4 e88a e88b e88c hA hB hC hD hE hno ht0 p1 p2 hv ho hfa hn hr
  simp only [sumpS, saltP, brineS, outS] at hsum'
  generalize (l.el jj).water * pathSum c (l.el jj) (wK t jj) (opnF c) (pathN (l.el jj)) = Rm at *
  generalize hFl : (l.el jj).water * pathSum c (l.el jj) (wK t jj) (fallF c) (pathN (l.el jj)) = Fl at *
  rw [wr (n := Rm - Fl) (by omega), eq3]
  have eb : 1000000 * (l.el jj).water - Rm + Fl = 1000000 * (l.el jj).water - (l.el jj).water * (tkE c l.el t jj).2 := by omega
  rw [wr (n := 1000000 * (l.el jj).water) (by omega), wr (n := 1000000 * (l.el jj).water - Rm) (by omega), eb, wr (n := 1000000 * (l.el jj).water - (l.el jj).water * (tkE c l.el t jj).2) (by omega)]
  rw [wr (n := 1000000 * ((l.el jj).water * (tkE c l.el t jj).1)) (by omega), wr (n := c.hold * ((l.el jj).water * (tkE c l.el t jj).2)) (by omega), wr (n := 1000000 * ((l.el jj).water * (tkE c l.el t jj).1) - c.hold * ((l.el jj).water * (tkE c l.el t jj).2)) (by omega)]
  rw [wr (n := sumpS c l.el t jj + Fl) (by omega), wr (n := saltP c l.el t jj + (l.el jj).water * (tkE c l.el t jj).1) (by omega), wr (n := brineS c l.el t jj + (1000000 * (l.el jj).water - (l.el jj).water * (tkE c l.el t jj).2)) (by omega), wr (n := outS c l.el t jj + (1000000 * ((l.el jj).water * (tkE c l.el t jj).1) - c.hold * ((l.el jj).water * (tkE c l.el t jj).2))) (by omega), wrS (by omega)]
  rw [← hFl]
  rfl
 | succ j ih =>
  intro k fu h hf
  obtain ⟨fu, rfl⟩ : ∃ k, fu = k + 1 := ⟨fu - 1, by omega⟩
  have hin := pathAt_in hs (k := k) (by omega)
  have hr := reach_in hc hs (take_reach hc hs (wK t jj) hw k (by omega)) (by omega)
  have hr' := reach_in hc hs (take_reach hc hs (wK t jj) hw (k + 1) (by omega)) (by omega)
  have hn := takeN_in hc hs (wK t jj) hw (k := k) (by omega)
  have hno : min ((t.rates.el jj).el (pathAt (l.el jj) k).toNat) (c.hold - (tkT c (l.el jj) (wK t jj) k).1) = takeN c (l.el jj) (wK t jj) k := rfl
  have hv := vol_bd hc hl ht (i := (pathAt (l.el jj) k).toNat) (by omega) jj (by omega)
  have ho : 0 ≤ (c.slices.el (pathAt (l.el jj) k).toNat).opn ∧ (c.slices.el (pathAt (l.el jj) k).toNat).opn ≤ 3000 := opn_in hc (pathAt (l.el jj) k).toNat (by omega)
  have hfa : 0 ≤ (c.slices.el (pathAt (l.el jj) k).toNat).fall ∧ (c.slices.el (pathAt (l.el jj) k).toNat).fall ≤ 3000 := fall_in hc (pathAt (l.el jj) k).toNat (by omega)
  have p1 := pathSum_in hc hs (wK t jj) hw (opnF c) (opn_in hc) k (by omega)
  have p2 := pathSum_in hc hs (wK t jj) hw (fallF c) (fall_in hc) k (by omega)
  have p1' := pathSum_in hc hs (wK t jj) hw (opnF c) (opn_in hc) (k + 1) (by omega)
  have p2' := pathSum_in hc hs (wK t jj) hw (fallF c) (fall_in hc) (k + 1) (by omega)
  have ht0 : takeRow c (l.el jj) (wK t jj) k (pathAt (l.el jj) k).toNat = 0 := takeRow_0 hs (wK t jj) k k (Nat.le_refl _) (by omega)
  have q1 := mulnn (a := takeN c (l.el jj) (wK t jj) k) (b := (l.el jj).water) (x := 300) (y := 1000000) hn.1 hn.2.1 (by omega) (by omega)
  have q2 := mulnn (a := takeN c (l.el jj) (wK t jj) k * (l.el jj).water) (b := (c.slices.el (pathAt (l.el jj) k).toNat).opn) (x := 300000000) (y := 3000) q1.1 (by omega) ho.1 ho.2
  have q3 := mulnn (a := takeN c (l.el jj) (wK t jj) k * (l.el jj).water) (b := (c.slices.el (pathAt (l.el jj) k).toNat).fall) (x := 300000000) (y := 3000) q1.1 (by omega) hfa.1 hfa.2
  have r1 := mulnn (a := (l.el jj).water) (b := (tkT c (l.el jj) (wK t jj) k).1) (x := 1000000) (y := 300) (by omega) (by omega) (by omega) (by omega)
  have r2 := mulnn (a := (l.el jj).water) (b := pathSum c (l.el jj) (wK t jj) (opnF c) k) (x := 1000000) (y := 900000) (by omega) (by omega) (by omega) (by omega)
  have r3 := mulnn (a := (l.el jj).water) (b := pathSum c (l.el jj) (wK t jj) (fallF c) k) (x := 1000000) (y := 900000) (by omega) (by omega) (by omega) (by omega)
  have es1 : (l.el jj).water * (tkT c (l.el jj) (wK t jj) k).1 + takeN c (l.el jj) (wK t jj) k * (l.el jj).water = (l.el jj).water * (tkT c (l.el jj) (wK t jj) (k + 1)).1 := by
   show _ = (l.el jj).water * ((tkT c (l.el jj) (wK t jj) k).1 + takeN c (l.el jj) (wK t jj) k)
   rw [Int.mul_add, Int.mul_comm (takeN c (l.el jj) (wK t jj) k)]
  have es2 : (l.el jj).water * pathSum c (l.el jj) (wK t jj) (opnF c) k + takeN c (l.el jj) (wK t jj) k * (l.el jj).water * (c.slices.el (pathAt (l.el jj) k).toNat).opn = (l.el jj).water * pathSum c (l.el jj) (wK t jj) (opnF c) (k + 1) := by
   show _ = (l.el jj).water * (pathSum c (l.el jj) (wK t jj) (opnF c) k + (c.slices.el (pathAt (l.el jj) k).toNat).opn * takeN c (l.el jj) (wK t jj) k)
   rw [Int.mul_add, Int.mul_comm (takeN c (l.el jj) (wK t jj) k), Int.mul_assoc, Int.mul_comm (takeN c (l.el jj) (wK t jj) k)]
  have es3 : (l.el jj).water * pathSum c (l.el jj) (wK t jj) (fallF c) k + takeN c (l.el jj) (wK t jj) k * (l.el jj).water * (c.slices.el (pathAt (l.el jj) k).toNat).fall = (l.el jj).water * pathSum c (l.el jj) (wK t jj) (fallF c) (k + 1) := by
   show _ = (l.el jj).water * (pathSum c (l.el jj) (wK t jj) (fallF c) k + (c.slices.el (pathAt (l.el jj) k).toNat).fall * takeN c (l.el jj) (wK t jj) k)
   rw [Int.mul_add, Int.mul_comm (takeN c (l.el jj) (wK t jj) k), Int.mul_assoc, Int.mul_comm (takeN c (l.el jj) (wK t jj) k)]
  have eu : updGet (fun i => eInt (volS c l.el t jj i + opnF c i * (takeRow c (l.el jj) (wK t jj) k i * (l.el jj).water))) (pathAt (l.el jj) k).toNat 0 [V.int .i64 (volS c l.el t jj (pathAt (l.el jj) k).toNat + takeN c (l.el jj) (wK t jj) k * (l.el jj).water * (c.slices.el (pathAt (l.el jj) k).toNat).opn)] =
    fun i => eInt (volS c l.el t jj i + opnF c i * (takeRow c (l.el jj) (wK t jj) (k + 1) i * (l.el jj).water)) := by
   refine (upd_int _ _ _).trans ?_
   funext i
   refine congrArg eInt ?_
   by_cases hi : i = (pathAt (l.el jj) k).toNat
   ·rw [if_pos hi, hi]
    simp only [takeRow, if_pos]
    rw [Int.mul_comm (takeN c (l.el jj) (wK t jj) k * (l.el jj).water)]
   ·rw [if_neg hi]
    simp only [takeRow, if_neg hi]
  have hne : (pathAt (l.el jj) k != (l.el jj).out) = true := by
   have := pathAt_ne (l.el jj) (k := k) (by omega)
   simpa using this
  have hS : pathAt (l.el jj) k + stepOf (l.el jj) = pathAt (l.el jj) (k + 1) := by rw [← pathAt_S]
  have hin2 := pathAt_in hs (k := k + 1) (by omega)
  rw [L44x3s]
  have hA : decide ((0 : Int) ≤ (jj : Int)) = true := decide_eq_true (Int.natCast_nonneg _)
  have hB : decide ((jj : Int) < (t.rates.len : Int)) = true := decide_eq_true (by rw [htl]; exact Int.ofNat_lt.2 hj)
  have hC : decide ((0 : Int) ≤ pathAt (l.el jj) k) = true := decide_eq_true hin.1
  have hD : decide (pathAt (l.el jj) k < ((t.rates.el jj).len : Int)) = true := decide_eq_true (by rw [htr1]; exact hin.2)
  have hE : decide (pathAt (l.el jj) k < (c.slices.len : Int)) = true := decide_eq_true hin.2
  have w1 : IntKind.i64.wrap (takeN c (l.el jj) (wK t jj) k * (l.el jj).water) = takeN c (l.el jj) (wK t jj) k * (l.el jj).water := wr (by omega)
  have w2 : IntKind.i64.wrap (takeN c (l.el jj) (wK t jj) k * (l.el jj).water * (c.slices.el (pathAt (l.el jj) k).toNat).opn) = takeN c (l.el jj) (wK t jj) k * (l.el jj).water * (c.slices.el (pathAt (l.el jj) k).toNat).opn := wr (by omega)
  have w3 : IntKind.i64.wrap (takeN c (l.el jj) (wK t jj) k * (l.el jj).water * (c.slices.el (pathAt (l.el jj) k).toNat).fall) = takeN c (l.el jj) (wK t jj) k * (l.el jj).water * (c.slices.el (pathAt (l.el jj) k).toNat).fall := wr (by omega)
  have w4 : IntKind.i64.wrap (volS c l.el t jj (pathAt (l.el jj) k).toNat + takeN c (l.el jj) (wK t jj) k * (l.el jj).water * (c.slices.el (pathAt (l.el jj) k).toNat).opn) = volS c l.el t jj (pathAt (l.el jj) k).toNat + takeN c (l.el jj) (wK t jj) k * (l.el jj).water * (c.slices.el (pathAt (l.el jj) k).toNat).opn := wr (by omega)
  have e88a := s88g F d ((l.el jj).water * (tkT c (l.el jj) (wK t jj) k).1) (takeN c (l.el jj) (wK t jj) k * (l.el jj).water) (by omega) (by omega) (by omega)
  have e88b := s88g F d ((l.el jj).water * pathSum c (l.el jj) (wK t jj) (opnF c) k) (takeN c (l.el jj) (wK t jj) k * (l.el jj).water * (c.slices.el (pathAt (l.el jj) k).toNat).opn) (by omega) (by omega) (by omega)
  have e88c := s88g F d ((l.el jj).water * pathSum c (l.el jj) (wK t jj) (fallF c) k) (takeN c (l.el jj) (wK t jj) k * (l.el jj).water * (c.slices.el (pathAt (l.el jj) k).toNat).fall) (by omega) (by omega) (by omega)
  simp only [hA, hB, hC, hD, hE, decide_true, pT, Int.toNat_natCast, mnE, hno, w1, w2, w3, e88a, e88b, e88c, tkOut_ret, tkInt_i, tkCons_c, List.drop, ht0, Int.zero_mul, Int.mul_zero, Int.add_zero, w4]
  rw [es1, es2, es3, eu]
  rw [hne, pT, hS, wr (n := pathAt (l.el jj) (k + 1)) (by omega), wr (n := c.hold - (tkT c (l.el jj) (wK t jj) k).1 - takeN c (l.el jj) (wK t jj) k) (by omega)]
  rw [show c.hold - (tkT c (l.el jj) (wK t jj) k).1 - takeN c (l.el jj) (wK t jj) k = c.hold - (tkT c (l.el jj) (wK t jj) (k + 1)).1 by
   show _ = c.hold - ((tkT c (l.el jj) (wK t jj) k).1 + takeN c (l.el jj) (wK t jj) k); omega]
  exact ih (k + 1) fu (by omega) (by omega)
theorem l44x1 : ∀ j k fu, k + j = l.len → j < fu →
  L44x1 (E F (d + 3)) F c l t fu k c.slices.len (sumpS c l.el t k) (saltP c l.el t k) (brineS c l.el t k) (outS c l.el t k) c.slices.len (fun i => eInt (volS c l.el t k i)) = some (.ret (.tup [.agg (endV c l.el t l.len), .int .i64 0])) := by
 intro j
 induction j with
 | zero =>
  intro k fu h hf
  obtain ⟨fu, rfl⟩ : ∃ k, fu = k + 1 := ⟨fu - 1, by omega⟩
  have hk : k = l.len := by omega
  subst hk
  rw [L44x1s, decide_eq_false (by omega), pF]
  rfl
 | succ j ih =>
  intro k fu h hf
  obtain ⟨fu, rfl⟩ : ∃ k, fu = k + 1 := ⟨fu - 1, by omega⟩
  have hs := hl k (by omega)
  have hp := pathN_le hs
  have hp1 := pathN_pos (l.el k)
  have hcl := hc.1
  have hH := hc.2.1
  have e := fun b0 y1 y2 y3 y4 y5 y6 y7 y8 y9 y10 => l44x3 F d hc hL hl ht hF fu k (by omega) b0 y1 y2 y3 y4 y5 y6 y7 y8 y9 y10 (pathN (l.el k) - 1) 0 F (by omega) (by omega)
  have e2 := ih (k + 1) fu (by omega) (by omega)
  have ev : (fun i => eInt (volS c l.el t k i + opnF c i * (takeRow c (l.el k) (wK t k) 0 i * (l.el k).water))) = fun i => eInt (volS c l.el t k i) := by
   funext i
   simp only [takeRow, Int.zero_mul, Int.mul_zero, Int.add_zero]
  simp only [ev, tkT, pathSum, Int.mul_zero, Int.sub_zero, pathAt_0] at e
  have q68 : (E F (d + 3)).pf 68 [.agg (eStg (l.el k))] = _ := s68 F (d + 2) (l.el k)
  rw [L44x1s]
  simp (disch := omega) only [decide_eq_true (show (k : Int) < (l.len : Int) by omega), decide_eq_true (show (0 : Int) ≤ (k : Int) by omega), pT, Int.toNat_natCast, q68, tkOut_ret, tkFn_f, tkNil_n, tkCons_c, tkPtr_p, tkInt_i, Nat.beq_refl, Bool.and_self, decide_true]
  unfold stepOf at e
  by_cases hd : (l.el k).out < (l.el k).into
  ·simp only [if_pos hd] at e
   rw [decide_eq_true hd, pT]
   exact (e _ _ _ _ _ _ _ _ _ _ _).trans e2
  ·simp only [if_neg hd] at e
   rw [decide_eq_false hd, pF]
   exact (e _ _ _ _ _ _ _ _ _ _ _).trans e2
end
theorem s79w (w : Sl Int) (hnl : w.nl = false) (h0 : 0 < w.len) (h1 : w.len ≤ 300) : (E F (d + 1)).hv 79 [sl eInt 1 w] [] = some (.ret (.osl 0 0 w.len), [.arr 3 1 w.len (fun i => eInt (w.el i)) true]) := by
 rw [E_hv, t79, hnl]
 simp only [pF, Nat.zero_add]
 rw [show (w.len == 0) = false by rw [beq_eq_false_iff_ne]; omega, pF, decide_eq_true (by omega), pT]
 rfl
theorem s44 (c : Cav) (l : Sl Stg) (t : Truth) (hC : c.slices.len < Big) (hCF : c.slices.len < F) (hB : l.len < Big) (hLF : l.len < F) (hT : t.rates.len < Big) (hTF : t.rates.len < F) (hnl : t.vols.nl = true → t.vols.len = 0) (hF : 400 < F) :
  (E F (d + 8)).pf 44 [.agg (eCav c), sl eStg 4 l, .agg (eTruth t)] = some (.ret (.tup (if errP c l true = 0 ∧ TruthOk c l.len t then [.agg (endV c l.el t l.len), .int .i64 0] else [.agg [.row true 0 0 (fun _ => []), .int .i64 0, .int .i64 0, .int .i64 0, .int .i64 0], .int .i64 (if errP c l true = 0 then 2 else errP c l true)]))) := by
 have q87 : (E F (d + 7)).pf 87 [.agg (eCav c), sl eStg 4 l, .agg (eTruth t)] = _ := s87 F (d + 5) c l t hC hT hCF hTF
 rw [E_pf, t44]
 simp only [s57e F d c l hC hCF hB hLF, tkOut_ret, tkInt_i, decide_true, pT]
 by_cases h0 : errP c l true = 0
 ·obtain ⟨h8, hc, hl, _⟩ := errP_0.1 h0
  rw [h0, show ((0 : Int) != 0) = false from rfl, pF, q87]
  simp only [tkOut_ret, tkBool_b]
  by_cases ht : TruthOk c l.len t
  ·rw [decide_eq_true ht, Bool.not_true, pF, if_pos ⟨trivial, ht⟩]
   have hcl := hc.1
   have hvl := ht.1
   have hn : t.vols.nl = false := by
    cases h : t.vols.nl with
    | false => rfl
    | true => have := hnl h; omega
   have q79 : (E F (d + 7)).hv 79 [sl eInt 1 t.vols] [] = _ := s79w F (d + 6) t.vols hn (by omega) (by omega)
   simp only [q79, tkHv_h, tkSl_o, Nat.beq_refl, Bool.and_self, beq_self_eq_true, pT, tkSCons_c, tkSNil_n, tkArr_a]
   rw [hvl]
   exact l44x1 F (d + 4) hc (by omega) hl ht hF l.len 0 F (by omega) (by omega)
  ·rw [decide_eq_false ht, Bool.not_false, pT, if_neg (fun h => ht h.2), if_pos trivial]
 ·rw [show (errP c l true != 0) = true by simpa using h0, pT, if_neg (fun h => h0 h.1), if_neg h0]
end Go.Sim.Le


namespace Go.Sim.Le
open Go.Proofs
variable (F d : Nat)
section
variable {c : Cav} (hc : CavOk c) {l : Sl Stg} (hL : l.len ≤ 300) (hl : ∀ i, i < l.len → StgOk c.slices.len (l.el i)) {t : Truth} (ht : TruthOk c l.len t) (hF : 400 < F)
include hc hL hl ht hF
end
end Go.Sim.Le


namespace Go.Sim.Le
open Go.Proofs
variable (F d : Nat)
end Go.Sim.Le


namespace Go.Sim.Le
open Go.Proofs
theorem sumF_add (f g : Nat → Int) : ∀ n, sumF (fun i => f i + g i) n = sumF f n + sumF g n
 | 0 => rfl
 | n + 1 => by simp only [sumF]; rw [sumF_add f g n]; omega
def watT (l : Nat → Stg) : Nat → Int
 | 0 => 0
 | j + 1 => watT l j + (l j).water
def roomS (c : Cav) (l : Nat → Stg) (t : Truth) : Nat → Int
 | 0 => 0
 | j + 1 => roomS c l t j + (l j).water * (tkE c l t j).2
section
variable {c : Cav} (hc : CavOk c) {n : Nat} {l : Nat → Stg} (hl : ∀ i, i < n → StgOk c.slices.len (l i)) {t : Truth} (ht : TruthOk c n t)
include hc hl ht
end
variable (F d : Nat)
section
variable {c : Cav} (hc : CavOk c) {l : Sl Stg} (hL : l.len ≤ 8) (hl : ∀ i, i < l.len → StgOk c.slices.len (l.el i)) {t : Truth} (ht : TruthOk c l.len t) (hF : 1000000000 < F)
include hc hL hl ht hF
theorem l45 (a b x y : Int) (ha : 0 ≤ a ∧ a ≤ 100000000000000) : ∀ j i fu, i + j = c.slices.len → j < fu →
  L45x0 (E F d) F c ⟨false, c.slices.len, volS c l.el t l.len⟩ a b x y fu i = some (.ret (.bool true)) := by
 have hcl := hc.1
 intro j
 induction j with
 | zero =>
  intro i fu h hf
  obtain ⟨fu, rfl⟩ : ∃ k, fu = k + 1 := ⟨fu - 1, by omega⟩
  rw [L45x0s, decide_eq_false (by show ¬ (i : Int) < (c.slices.len : Int); omega), pF]
  rw [show (((c.slices.len : Nat) : Int) == ((c.slices.len : Nat) : Int)) = true from beq_self_eq_true _, pT, decide_eq_true (show a ≥ 0 by omega), pT, decide_eq_true ha.2]
 | succ j ih =>
  intro i fu h hf
  obtain ⟨fu, rfl⟩ : ∃ k, fu = k + 1 := ⟨fu - 1, by omega⟩
  have hv := vol_bd hc hl ht (i := i) (by omega) l.len (Nat.le_refl _)
  rw [L45x0s]
  simp only [Int.toNat_natCast]
  rw [decide_eq_true (show (i : Int) < (c.slices.len : Int) by omega), decide_eq_true (show (0 : Int) ≤ (i : Int) by omega)]
  simp only [pT]
  rw [decide_eq_false (show ¬ volS c l.el t l.len i < 0 by omega), pF, decide_eq_false (show ¬ volS c l.el t l.len i > 100000000000000 by omega), pF, wrS (by omega)]
  exact ih (i + 1) fu (by omega) (by omega)
theorem s45 : (E F (d + 1)).pf 45 [.agg (eCav c), .agg (endV c l.el t l.len)] = some (.ret (.bool true)) := by
 have hcl := hc.1
 have hs := sums_in hc hl ht l.len (Nat.le_refl _)
 rw [E_pf]
 refine (t45 _ _ c ⟨false, c.slices.len, volS c l.el t l.len⟩ _ _ _ _).trans ?_
 exact l45 F d hc hL hl ht hF _ _ _ _ (by omega) c.slices.len 0 F (by omega) (by omega)
end
end Go.Sim.Le


namespace Go.Sim.Le
open Go.Proofs
variable (F d : Nat)
end Go.Sim.Le


namespace Go.Sim.Le
open Go.Proofs
def saltS (c : Cav) (l : Nat → Stg) : Nat → Nat → Span
 | 0, _ => ⟨0, 0⟩
 | j + 1, k => addS (saltS c l j k) (timesS (rtRow c (l j) (pathN (l j)) k) (l j).water)
def volK (c : Cav) (l : Nat → Stg) (n k : Nat) : Span := addS (c.slices.el k).vol (timesS (saltS c l n k) (c.slices.el k).opn)
section
variable {c : Cav} (hc : CavOk c) {l : Nat → Stg} {n : Nat} (hl : ∀ i, i < n → StgOk c.slices.len (l i))
include hc hl
theorem salt_step {j : Nat} (hj : j < n) (k : Nat) : (0 ≤ (l j).water * (rtRow c (l j) (pathN (l j)) k).lo ∧ (l j).water * (rtRow c (l j) (pathN (l j)) k).lo ≤ (l j).water * (rtRow c (l j) (pathN (l j)) k).hi ∧ (l j).water * (rtRow c (l j) (pathN (l j)) k).hi ≤ 300000000) ∧ timesS (rtRow c (l j) (pathN (l j)) k) (l j).water = ⟨(l j).water * (rtRow c (l j) (pathN (l j)) k).lo, (l j).water * (rtRow c (l j) (pathN (l j)) k).hi⟩ := by
 have hs := hl j hj
 have hr := rtRow_in hc hs (pathN (l j)) (Nat.le_refl _) k
 have hwa := hs.1
 have m1 := mulnn (a := (l j).water) (b := (rtRow c (l j) (pathN (l j)) k).hi) (x := 1000000) (y := 300) (by omega) (by omega) (by omega) (by omega)
 have m2 := Int.mul_le_mul_of_nonneg_left hr.2.1 (show 0 ≤ (l j).water by omega)
 have m3 : 0 ≤ (l j).water * (rtRow c (l j) (pathN (l j)) k).lo := Int.mul_nonneg (by omega) (by omega)
 refine ⟨by omega, ?_⟩
 unfold timesS
 rw [if_neg (by omega)]
theorem salt_in (k : Nat) : ∀ j, j ≤ n → 0 ≤ (saltS c l j k).lo ∧ (saltS c l j k).lo ≤ (saltS c l j k).hi ∧ (saltS c l j k).hi ≤ 300000000 * j
 | 0, _ => by simp [saltS]
 | j + 1, h => by
  have i := salt_in k j (by omega)
  have hs := salt_step hc hl (j := j) (by omega) k
  simp only [saltS]
  rw [hs.2]
  simp only [addS]
  omega
theorem volK_in (h8 : n ≤ 8) {k : Nat} (hk : k < c.slices.len) : timesS (saltS c l n k) (c.slices.el k).opn = ⟨(c.slices.el k).opn * (saltS c l n k).lo, (c.slices.el k).opn * (saltS c l n k).hi⟩ ∧ 0 ≤ (c.slices.el k).opn * (saltS c l n k).lo ∧ (c.slices.el k).opn * (saltS c l n k).lo ≤ (c.slices.el k).opn * (saltS c l n k).hi ∧ (c.slices.el k).opn * (saltS c l n k).hi ≤ 7200000000000 := by
 have i := salt_in hc hl k n (Nat.le_refl _)
 have ho : 1000 ≤ (c.slices.el k).opn ∧ (c.slices.el k).opn ≤ 3000 := (hc.2.2.2 k hk).2.1
 have m1 := mulnn (a := (c.slices.el k).opn) (b := (saltS c l n k).hi) (x := 3000) (y := 2400000000) (by omega) (by omega) (by omega) (by omega)
 have m2 := Int.mul_le_mul_of_nonneg_left i.2.1 (show 0 ≤ (c.slices.el k).opn by omega)
 have m3 : 0 ≤ (c.slices.el k).opn * (saltS c l n k).lo := Int.mul_nonneg (by omega) (by omega)
 refine ⟨?_, by omega⟩
 unfold timesS
 rw [if_neg (by omega)]
end
def saltSl (c : Cav) (l : Nat → Stg) (n : Nat) : Sl Span := ⟨false, c.slices.len, saltS c l n⟩
variable (F d : Nat)
section
variable {c : Cav} (hc : CavOk c) {l : Sl Stg} (h8 : l.len ≤ 8) (hl : ∀ i, i < l.len → StgOk c.slices.len (l.el i)) (hF : 400 < F)
include hc h8 hl hF
theorem l84x1 (j m0 : Nat) (hj : j < l.len) : ∀ r k fu, k + r = c.slices.len → r < fu →
  L84x1 (E F (d + 2)) F c l m0 fu j false c.slices.len 2 (fun i => eSpan (rtRow c (l.el j) (pathN (l.el j)) i)) c.slices.len k (fun i => eSpan (if i < k then saltS c l.el (j + 1) i else saltS c l.el j i)) (l.el j).water (l.el j).into (l.el j).out (l.el j).blanket
   = L84x0 (E F (d + 2)) F c l m0 ((j + 1 : Nat) : Int) (fun i => eSpan (if i < c.slices.len then saltS c l.el (j + 1) i else saltS c l.el j i)) := by
 have hcl := hc.1
 intro r
 induction r with
 | zero =>
  intro k fu h hf
  obtain ⟨fu, rfl⟩ : ∃ k, fu = k + 1 := ⟨fu - 1, by omega⟩
  rw [L84x1s, decide_eq_false (by omega), pF, wrS (by omega), show k = c.slices.len by omega]
 | succ r ih =>
  intro k fu h hf
  obtain ⟨fu, rfl⟩ : ∃ k, fu = k + 1 := ⟨fu - 1, by omega⟩
  have hst := salt_step hc hl hj k
  have hs := salt_in hc hl k j (by omega)
  have e3 := upd_span (fun i => if i < k then saltS c l.el (j + 1) i else saltS c l.el j i) k (addS (saltS c l.el j k) (timesS (rtRow c (l.el j) (pathN (l.el j)) k) (l.el j).water))
  have e4 : (fun i => eSpan (if i = k then addS (saltS c l.el j k) (timesS (rtRow c (l.el j) (pathN (l.el j)) k) (l.el j).water) else if i < k then saltS c l.el (j + 1) i else saltS c l.el j i)) = fun i => eSpan (if i < k + 1 then saltS c l.el (j + 1) i else saltS c l.el j i) := by
   funext i
   refine congrArg eSpan ?_
   by_cases h1 : i = k
   ·subst h1; rw [if_pos rfl, if_pos (by omega)]; rfl
   ·rw [if_neg h1]
    by_cases h2 : i < k
    ·rw [if_pos h2, if_pos (by omega)]
    ·rw [if_neg h2, if_neg (by omega)]
  rw [e4] at e3
  have q86 : (E F (d + 2)).pf 86 [.agg [.int .i64 (rtRow c (l.el j) (pathN (l.el j)) k).lo, .int .i64 (rtRow c (l.el j) (pathN (l.el j)) k).hi], .int .i64 (l.el j).water] = _ := s86 F (d + 1) (rtRow c (l.el j) (pathN (l.el j)) k) (l.el j).water (by constructor <;> omega) (by constructor <;> omega)
  have q85 := s85 F (d + 1) (saltS c l.el j k) (timesS (rtRow c (l.el j) (pathN (l.el j)) k) (l.el j).water) (by omega) (by constructor <;> omega) (by constructor <;> omega) (by rw [hst.2]; constructor <;> simp only <;> omega) (by rw [hst.2]; constructor <;> simp only <;> omega)
  rw [show d + 1 + 1 = d + 2 from rfl] at q85
  rw [L84x1s]
  simp (disch := omega) only [decide_eq_true, Int.toNat_natCast, pT, show ((2 : Nat) == 2) = true from rfl, List.take, List.length, show ((0 + 1 + 1 : Nat) == 2) = true from rfl, tkCons_c, tkInt_i, tkNil_n, if_neg (Nat.lt_irrefl k), q86, tkOut_ret, tkAgg_a]
  rw [q85]
  simp only [tkOut_ret, tkAgg_a, tkCons_c, tkInt_i, tkNil_n]
  rw [wrS (by omega)]
  simp only [eSpan] at e3
  rw [e3]
  exact ih (k + 1) fu (by omega) (by omega)
theorem l84x0 : ∀ r j fu (g : Nat → Span), j + r = l.len → r < fu → (∀ i, i < c.slices.len → g i = saltS c l.el j i) → (∀ i, ¬ i < c.slices.len → g i = saltS c l.el j i) →
  L84x0 (E F (d + 2)) F c l fu j (fun i => eSpan (g i)) = some (.ret (sl eSpan 2 (saltSl c l.el l.len))) := by
 have hcl := hc.1
 intro r
 induction r with
 | zero =>
  intro j fu g h hf hg hg2
  obtain ⟨fu, rfl⟩ : ∃ k, fu = k + 1 := ⟨fu - 1, by omega⟩
  have e : g = saltS c l.el l.len := by
   funext i
   rw [show l.len = j by omega]
   by_cases h : i < c.slices.len
   ·exact hg i h
   ·exact hg2 i h
  rw [L84x0s, decide_eq_false (by omega), pF, e]
  simp only [Int.toNat_natCast]
  rfl
 | succ r ih =>
  intro j fu g h hf hg hg2
  obtain ⟨fu, rfl⟩ : ∃ k, fu = k + 1 := ⟨fu - 1, by omega⟩
  have e : g = fun i => if i < 0 then saltS c l.el (j + 1) i else saltS c l.el j i := by
   funext i
   rw [if_neg (by omega)]
   by_cases h : i < c.slices.len
   ·exact hg i h
   ·exact hg2 i h
  have q82 : (E F (d + 2)).pf 82 [.agg (eCav c), .agg (eStg (l.el j))] = _ := s82 F d c hc (l.el j) (hl j (by omega)) (by omega)
  have e2 := l84x1 F d hc h8 hl hF j fu (by omega) c.slices.len 0 F (by omega) (by omega)
  rw [L84x0s]
  simp (disch := omega) only [decide_eq_true, Int.toNat_natCast, pT, q82, tkOut_ret, sl, rateSl, tkRow_r]
  rw [e]
  refine Eq.trans e2 ?_
  refine ih (j + 1) fu (fun i => if i < c.slices.len then saltS c l.el (j + 1) i else saltS c l.el j i) (by omega) (by omega) (fun i hi => if_pos hi) fun i hi => ?_
  rw [if_neg hi]
  have hz : ∀ j, j ≤ l.len → saltS c l.el j i = ⟨0, 0⟩ := by
   intro j
   induction j with
   | zero => intro _; rfl
   | succ j ih =>
    intro h
    have hr : ∀ k, k ≤ pathN (l.el j) → rtRow c (l.el j) k i = ⟨0, 0⟩ := by
     intro k
     induction k with
     | zero => intro _; rfl
     | succ k ih =>
      intro h2
      have hin := pathAt_in (hl j (by omega)) (k := k) (by omega)
      simp only [rtRow]
      rw [if_neg (by omega)]
      exact ih (by omega)
    simp only [saltS]
    rw [ih (by omega), hr _ (Nat.le_refl _)]
    simp [timesS, addS]
  rw [hz _ (by omega), hz _ (by omega)]
theorem s84 : (E F (d + 3)).pf 84 [.agg (eCav c), sl eStg 4 l] = some (.ret (sl eSpan 2 (saltSl c l.el l.len))) := by
 have hcl := hc.1
 rw [E_pf, t84]
 simp (disch := omega) only [decide_eq_true, decide_true, pT]
 exact l84x0 F d hc h8 hl hF l.len 0 F (fun _ => ⟨0, 0⟩) (by omega) (by omega) (fun _ _ => rfl) fun _ _ => rfl
theorem l42 (p : Span) : ∀ r k fu, k + 1 + r = c.slices.len → r < fu →
  L42x1 (E F (d + 14)) F c l fu ((k + 1 : Nat) : Int) false c.slices.len 2 (fun i => eSpan (saltS c l.el l.len i)) (k + 1) .i64 p.lo .i64 p.hi (k + 1) (gl eSpan ⟨0, 0⟩ (tabL (volK c l.el l.len) (k + 1)))
   = some (.ret (.tup [.agg [sl eSpan 2 (saltSl c l.el l.len), sl eSpan 2 (tabP (volK c l.el l.len) c.slices.len), .int .i64 p.lo, .int .i64 p.hi], .int .i64 0])) := by
 have hcl := hc.1
 intro r
 induction r with
 | zero =>
  intro k fu h hf
  obtain ⟨fu, rfl⟩ : ∃ k, fu = k + 1 := ⟨fu - 1, by omega⟩
  rw [L42x1s, decide_eq_false (by omega), pF, show k + 1 = c.slices.len by omega]
  rfl
 | succ r ih =>
  intro k fu h hf
  obtain ⟨fu, rfl⟩ : ∃ k, fu = k + 1 := ⟨fu - 1, by omega⟩
  have hv := volK_in hc hl h8 (k := k + 1) (by omega)
  have hvo : SpanIn (c.slices.el (k + 1)).vol 0 10000000000000 := (hc.2.2.2 (k + 1) (by omega)).1
  unfold SpanIn at hvo
  have q86 : (E F (d + 14)).pf 86 [.agg [.int .i64 (saltS c l.el l.len (k + 1)).lo, .int .i64 (saltS c l.el l.len (k + 1)).hi], .int .i64 (c.slices.el (k + 1)).opn] = _ := s86 F (d + 13) (saltS c l.el l.len (k + 1)) (c.slices.el (k + 1)).opn (by constructor <;> omega) (by constructor <;> omega)
  have q85 := s85 F (d + 13) (c.slices.el (k + 1)).vol (timesS (saltS c l.el l.len (k + 1)) (c.slices.el (k + 1)).opn) (by omega) (by constructor <;> omega) (by constructor <;> omega) (by rw [hv.1]; constructor <;> simp only <;> omega) (by rw [hv.1]; constructor <;> simp only <;> omega)
  rw [show d + 13 + 1 = d + 14 from rfl] at q85
  have e3 : appGet (k + 1) (gl eSpan ⟨0, 0⟩ (tabL (volK c l.el l.len) (k + 1))) (fun _ => eSpan (volK c l.el l.len (k + 1))) = gl eSpan ⟨0, 0⟩ (tabL (volK c l.el l.len) (k + 1 + 1)) := by
   refine (gl_snoc (m := volK c l.el l.len (k + 1)) (e := eSpan) (tabL_len _ (k + 1)) rfl).trans ?_
   rw [← tabL_S]
  rw [L42x1s]
  simp (disch := omega) only [decide_eq_true, Int.toNat_natCast, pT, show ((2 : Nat) == 2) = true from rfl, List.take, List.length, show ((0 + 1 + 1 : Nat) == 2) = true from rfl, tkCons_c, tkInt_i, tkNil_n, q86, tkOut_ret, tkAgg_a]
  rw [q85]
  simp only [tkOut_ret, tkAgg_a, tkCons_c, tkInt_i, tkNil_n]
  rw [wrS (by omega)]
  unfold volK at e3
  simp only [eSpan] at e3
  unfold volK
  rw [e3]
  exact ih (k + 1) fu (by omega) (by omega)
end
end Go.Sim.Le


namespace Go.Sim.Le
open Go.Proofs
def sumpM (c : Cav) : Mea := ⟨⟨false, c.slices.len, fun _ => 0⟩, 1⟩
theorem sumpM_ok (c : Cav) : MeaOk c (sumpM c) := ⟨rfl, fun i _ => by show -1000 ≤ (0 : Int) ∧ (0 : Int) ≤ 1000; omega, by show -1000 ≤ (1 : Int); omega, by show (1 : Int) ≤ 1000; omega⟩
def afterV (c : Cav) (l : Nat → Stg) (n : Nat) : List V := [sl eSpan 2 (saltSl c l n), sl eSpan 2 (tabP (volK c l n) c.slices.len), .int .i64 (boundS c l (sumpM c) n).lo, .int .i64 (boundS c l (sumpM c) n).hi]
def after0 : List V := [.row true 0 0 fun _ => [], .row true 0 0 fun _ => [], .int .i64 0, .int .i64 0]
variable (F d : Nat)
theorem s42 (c : Cav) (l : Sl Stg) (hC : c.slices.len < Big) (hCF : c.slices.len < F) (hB : l.len < Big) (hLF : l.len < F) (hF : 1000000000 < F) : (E F (d + 15)).pf 42 [.agg (eCav c), sl eStg 4 l] =
  some (.ret (.tup (if errP c l true = 0 then [.agg (afterV c l.el l.len), .int .i64 0] else [.agg after0, .int .i64 (errP c l true)]))) := by
 have q57 := s57 F (d + 7) c l hC hCF hB hLF
 rw [show d + 7 + 7 = d + 14 from rfl] at q57
 have e57 : (if 8 < l.len then (3 : Int) else if CavOk c ∧ ∀ i, i < l.len → StgOk c.slices.len (l.el i) then 0 else 2) = errP c l true := by
  unfold errP
  simp only [and_true]
 rw [e57] at q57
 rw [E_pf, t42]
 simp only [q57, tkOut_ret, tkInt_i, decide_true, pT]
 by_cases h0 : errP c l true = 0
 ·obtain ⟨h8, hc, hl, _⟩ := errP_0.1 h0
  have hcl := hc.1
  have hv := volK_in hc hl h8 (k := 0) (by omega)
  have hvo : SpanIn (c.slices.el 0).vol 0 10000000000000 := (hc.2.2.2 0 (by omega)).1
  unfold SpanIn at hvo
  have q84 : (E F (d + 14)).pf 84 [.agg (eCav c), sl eStg 4 l] = _ := s84 F (d + 11) hc h8 hl (by omega)
  have q62 : (E F (d + 14)).pf 62 [.agg (eCav c), sl eStg 4 l, .agg (eMea (sumpM c))] = _ := s62 F d hc (sumpM_ok c) l (by omega) hl (by omega)
  have q86 : (E F (d + 14)).pf 86 [.agg [.int .i64 (saltS c l.el l.len 0).lo, .int .i64 (saltS c l.el l.len 0).hi], .int .i64 (c.slices.el 0).opn] = _ := s86 F (d + 13) (saltS c l.el l.len 0) (c.slices.el 0).opn (by constructor <;> omega) (by constructor <;> omega)
  have q85 := s85 F (d + 13) (c.slices.el 0).vol (timesS (saltS c l.el l.len 0) (c.slices.el 0).opn) (by omega) (by constructor <;> omega) (by constructor <;> omega) (by rw [hv.1]; constructor <;> simp only <;> omega) (by rw [hv.1]; constructor <;> simp only <;> omega)
  rw [show d + 13 + 1 = d + 14 from rfl] at q85
  obtain ⟨F, rfl⟩ : ∃ k, F = k + 1 := ⟨F - 1, by omega⟩
  have e := l42 (F + 1) d hc h8 hl (by omega) (boundS c l.el (sumpM c) l.len) (c.slices.len - 1) 0 F (by omega) (by omega)
  rw [h0, if_pos rfl]
  simp only [eMea, sumpM, sl, eInt] at q62
  simp only [sl] at q84 q62 ⊢
  simp only [sl, q84, tkRow_r, show ((0 : Int) != 0) = false from rfl, pF, saltSl]
  simp (disch := omega) only [decide_eq_true, decide_true, pT, Int.toNat_natCast, q62, tkOut_ret, tkAgg_a, tkCons_c, tkInt_i, tkNil_n, eSpan, tkRow_r]
  rw [L42x0s]
  simp (disch := omega) only [decide_eq_true, Int.toNat_natCast, pT, show ((2 : Nat) == 2) = true from rfl, List.take, List.length, show ((0 + 1 + 1 : Nat) == 2) = true from rfl, tkCons_c, tkInt_i, tkNil_n, q86, tkOut_ret, tkAgg_a]
  rw [q85]
  simp only [tkOut_ret, tkAgg_a, tkCons_c, tkInt_i, tkNil_n]
  rw [show tabL (volK c l.el l.len) (0 + 1) = [volK c l.el l.len 0] from rfl, ← gl_one rfl] at e
  exact e
 ·rw [if_neg h0]
  have e1 : (errP c l true != 0) = true := by simpa using h0
  simp only [e1, pT]
  rfl
end Go.Sim.Le


namespace Go.Sim.Le
open Go.Proofs
theorem bestHi_le {f : Int → Int} {a H : Int} : ∀ j : Nat, (∀ n, a ≤ n → n ≤ a + j → f n ≤ H) → bestHi f a j ≤ H
 | 0, h => h a (by omega) (by omega)
 | j + 1, h => by
  have h1 := bestHi_le j fun n h1 h2 => h n h1 (by omega)
  have h2 := h (a + ((j + 1 : Nat) : Int)) (by omega) (by omega)
  simp only [bestHi]
  omega
theorem le_bestLo {f : Int → Int} {a H : Int} : ∀ j : Nat, (∀ n, a ≤ n → n ≤ a + j → H ≤ f n) → H ≤ bestLo f a j
 | 0, h => h a (by omega) (by omega)
 | j + 1, h => by
  have h1 := le_bestLo j fun n h1 h2 => h n h1 (by omega)
  have h2 := h (a + ((j + 1 : Nat) : Int)) (by omega) (by omega)
  simp only [bestLo]
  omega
theorem le_bestHi {f : Int → Int} {a : Int} {n : Int} (h1 : a ≤ n) : ∀ j : Nat, n ≤ a + j → f n ≤ bestHi f a j
 | 0, h => by rw [show n = a by omega]; exact Int.le_refl _
 | j + 1, h => by
  simp only [bestHi]
  by_cases h2 : n ≤ a + j
  ·have := le_bestHi h1 (f := f) j h2; omega
  ·rw [show n = a + ((j + 1 : Nat) : Int) by omega]; omega
theorem bestLo_le {f : Int → Int} {a : Int} {n : Int} (h1 : a ≤ n) : ∀ j : Nat, n ≤ a + j → bestLo f a j ≤ f n
 | 0, h => by rw [show n = a by omega]; exact Int.le_refl _
 | j + 1, h => by
  simp only [bestLo]
  by_cases h2 : n ≤ a + j
  ·have := bestLo_le h1 (f := f) j h2; omega
  ·rw [show n = a + ((j + 1 : Nat) : Int) by omega]; omega
theorem bestHi_at {f : Int → Int} {a : Int} {j : Nat} {n : Int} (h1 : a ≤ n) (h2 : n ≤ a + j) (h : ∀ k, a ≤ k → k ≤ a + j → f k ≤ f n) : bestHi f a j = f n := Int.le_antisymm (bestHi_le j h) (le_bestHi h1 j h2)
theorem bestLo_at {f : Int → Int} {a : Int} {j : Nat} {n : Int} (h1 : a ≤ n) (h2 : n ≤ a + j) (h : ∀ k, a ≤ k → k ≤ a + j → f n ≤ f k) : bestLo f a j = f n := Int.le_antisymm (bestLo_le h1 j h2) (le_bestLo j h)
def oneM (c : Cav) (u : Nat) : Mea := ⟨⟨false, c.slices.len, oneW u⟩, 0⟩
theorem oneM_gain (c : Cav) (u i : Nat) : gainI c (oneM c u) i = if i = u then (c.slices.el i).opn else 0 := by
 unfold gainI
 show (c.slices.el i).opn * oneW u i + (c.slices.el i).fall * 0 = _
 unfold oneW
 split <;> omega
theorem best0 {f : Int → Int} {a : Int} {j : Nat} (h : ∀ n, a ≤ n → n ≤ a + j → f n = 0) : bestHi f a j = 0 ∧ bestLo f a j = 0 := by
 have h0 := h a (by omega) (by omega)
 exact ⟨(bestHi_at (n := a) (by omega) (by omega) fun k h1 h2 => by rw [h k h1 h2, h0]; omega).trans h0, (bestLo_at (n := a) (by omega) (by omega) fun k h1 h2 => by rw [h k h1 h2, h0]; omega).trans h0⟩
section
variable {c : Cav} (hc : CavOk c) {s : Stg} (hs : StgOk c.slices.len s)
include hc hs
theorem rest_zero {m : Mea} : ∀ r, r ≤ pathN s → (∀ k, pathN s - r ≤ k → k < pathN s → gainI c m (pathAt s k).toNat = 0) → ∀ b, 0 ≤ b → restS c m s r b = ⟨0, 0⟩ := by
 intro r
 induction r with
 | zero => intro _ _ b _; rfl
 | succ r ih =>
  intro h hg b hb
  have ho : SpanIn (slAt c s (pathN s - (r + 1))).rate 0 300 := (slcOk_at hc hs (k := pathN s - (r + 1)) (by omega)).2.2.2.1
  unfold SpanIn at ho
  simp only [restS]
  rw [hg (pathN s - (r + 1)) (by omega) (by omega)]
  have hI := ih (by omega) fun k h1 h2 => hg k (by omega) h2
  have e1 := (best0 (f := fun n => (restS c m s r (b - n)).hi + n * 0) (a := min (slAt c s (pathN s - (r + 1))).rate.lo b) (j := (min (slAt c s (pathN s - (r + 1))).rate.hi b - min (slAt c s (pathN s - (r + 1))).rate.lo b).toNat) fun n h1 h2 => by
   show (restS c m s r (b - n)).hi + n * 0 = 0
   rw [hI (b - n) (by omega)]; simp).1
  have e2 := (best0 (f := fun n => (restS c m s r (b - n)).lo + n * 0) (a := min (slAt c s (pathN s - (r + 1))).rate.lo b) (j := (min (slAt c s (pathN s - (r + 1))).rate.hi b - min (slAt c s (pathN s - (r + 1))).rate.lo b).toNat) fun n h1 h2 => by
   show (restS c m s r (b - n)).lo + n * 0 = 0
   rw [hI (b - n) (by omega)]; simp).2
  rw [e1, e2]
theorem sumLo_mono {j : Nat} : ∀ q, j ≤ q → q ≤ pathN s → sumLo c s j ≤ sumLo c s q ∧ sumHi c s j ≤ sumHi c s q := by
 intro q
 induction q with
 | zero => intro h _; rw [show j = 0 by omega]; omega
 | succ q ih =>
  intro h hq
  by_cases h1 : j = q + 1
  ·subst h1; omega
  ·have h2 := ih (by omega) (by omega)
   have ho : SpanIn (slAt c s q).rate 0 300 := (slcOk_at hc hs (k := q) (by omega)).2.2.2.1
   unfold SpanIn at ho
   simp only [sumLo, sumHi]
   omega
theorem rest_one {u q : Nat} (hq : q < pathN s) (hu : (pathAt s q).toNat = u) : ∀ r, r ≤ pathN s → pathN s - r ≤ q → ∀ b, 0 ≤ b → restS c (oneM c u) s r b = ⟨(c.slices.el u).opn * min (slAt c s q).rate.lo (max 0 (b - (sumHi c s q - sumHi c s (pathN s - r)))), (c.slices.el u).opn * min (slAt c s q).rate.hi (max 0 (b - (sumLo c s q - sumLo c s (pathN s - r))))⟩ := by
 have hinu := pathAt_in hs hq
 have hop : 1000 ≤ (c.slices.el u).opn := (hc.2.2.2 u (by omega)).2.1.1
 intro r
 induction r with
 | zero => intro _ h; omega
 | succ r ih =>
  intro h hk b hb
  have ho : SpanIn (slAt c s (pathN s - (r + 1))).rate 0 300 := (slcOk_at hc hs (k := pathN s - (r + 1)) (by omega)).2.2.2.1
  unfold SpanIn at ho
  have hin := pathAt_in hs (k := pathN s - (r + 1)) (by omega)
  simp only [restS]
  rw [oneM_gain]
  by_cases hkq : pathN s - (r + 1) = q
  ·have hz := rest_zero hc hs (m := oneM c u) r (by omega) fun k h1 h2 => by
    rw [oneM_gain, if_neg]
    intro he
    have hin2 := pathAt_in hs (k := k) (by omega)
    have := pathAt_inj (s := s) (j := k) (k := q) (by omega)
    omega
   rw [hkq] at ho ⊢
   rw [if_pos hu, hu]
   rw [show b - (sumHi c s q - sumHi c s q) = b by omega, show b - (sumLo c s q - sumLo c s q) = b by omega, show max 0 b = b by omega]
   generalize hg : (c.slices.el u).opn = g at hop ⊢
   have e1 := bestHi_at (f := fun n => (restS c (oneM c u) s r (b - n)).hi + n * g) (a := min (slAt c s q).rate.lo b) (j := (min (slAt c s q).rate.hi b - min (slAt c s q).rate.lo b).toNat) (n := min (slAt c s q).rate.hi b) (by omega) (by omega) fun k h1 h2 => by
    show (restS c (oneM c u) s r (b - k)).hi + k * g ≤ (restS c (oneM c u) s r (b - min (slAt c s q).rate.hi b)).hi + min (slAt c s q).rate.hi b * g
    rw [hz (b - k) (by omega), hz _ (by omega)]
    have := Int.mul_le_mul_of_nonneg_right (c := g) (show k ≤ min (slAt c s q).rate.hi b by omega) (by omega)
    simp only
    omega
   have e2 := bestLo_at (f := fun n => (restS c (oneM c u) s r (b - n)).lo + n * g) (a := min (slAt c s q).rate.lo b) (j := (min (slAt c s q).rate.hi b - min (slAt c s q).rate.lo b).toNat) (n := min (slAt c s q).rate.lo b) (by omega) (by omega) fun k h1 h2 => by
    show (restS c (oneM c u) s r (b - min (slAt c s q).rate.lo b)).lo + min (slAt c s q).rate.lo b * g ≤ (restS c (oneM c u) s r (b - k)).lo + k * g
    rw [hz (b - k) (by omega), hz _ (by omega)]
    have := Int.mul_le_mul_of_nonneg_right (c := g) (show min (slAt c s q).rate.lo b ≤ k by omega) (by omega)
    simp only
    omega
   rw [e1, e2]
   rw [hz _ (by omega), hz _ (by omega), Int.mul_comm g, Int.mul_comm g]
   simp
  ·have hne : (pathAt s (pathN s - (r + 1))).toNat ≠ u := by
    intro he
    have := pathAt_inj (s := s) (j := pathN s - (r + 1)) (k := q) (by omega)
    omega
   have hI := ih (by omega) (by omega)
   have hS : pathN s - r = pathN s - (r + 1) + 1 := by omega
   rw [if_neg hne]
   rw [hS] at hI
   simp only [sumHi, sumLo] at hI
   generalize hkk : pathN s - (r + 1) = k at hI ho ⊢
   generalize hg : (c.slices.el u).opn = g at hop hI ⊢
   have e1 := bestHi_at (f := fun n => (restS c (oneM c u) s r (b - n)).hi + n * 0) (a := min (slAt c s k).rate.lo b) (j := (min (slAt c s k).rate.hi b - min (slAt c s k).rate.lo b).toNat) (n := min (slAt c s k).rate.lo b) (by omega) (by omega) fun n h1 h2 => by
    show (restS c (oneM c u) s r (b - n)).hi + n * 0 ≤ (restS c (oneM c u) s r (b - min (slAt c s k).rate.lo b)).hi + min (slAt c s k).rate.lo b * 0
    rw [hI (b - n) (by omega), hI _ (by omega)]
    simp only [Int.mul_zero, Int.add_zero]
    exact Int.mul_le_mul_of_nonneg_left (by omega) (by omega)
   have e2 := bestLo_at (f := fun n => (restS c (oneM c u) s r (b - n)).lo + n * 0) (a := min (slAt c s k).rate.lo b) (j := (min (slAt c s k).rate.hi b - min (slAt c s k).rate.lo b).toNat) (n := min (slAt c s k).rate.hi b) (by omega) (by omega) fun n h1 h2 => by
    show (restS c (oneM c u) s r (b - min (slAt c s k).rate.hi b)).lo + min (slAt c s k).rate.hi b * 0 ≤ (restS c (oneM c u) s r (b - n)).lo + n * 0
    rw [hI (b - n) (by omega), hI _ (by omega)]
    simp only [Int.mul_zero, Int.add_zero]
    exact Int.mul_le_mul_of_nonneg_left (by omega) (by omega)
   have hsm := sumLo_mono hc hs (j := k + 1) q (by omega) (by omega)
   simp only [sumLo, sumHi] at hsm
   rw [e1, e2]
   simp only [Int.mul_zero, Int.add_zero]
   rw [hI _ (by omega), hI _ (by omega)]
   simp only
   have a1 : min (slAt c s q).rate.lo (max 0 (b - min (slAt c s k).rate.hi b - (sumHi c s q - (sumHi c s k + (slAt c s k).rate.hi)))) = min (slAt c s q).rate.lo (max 0 (b - (sumHi c s q - sumHi c s k))) := by omega
   have a2 : min (slAt c s q).rate.hi (max 0 (b - min (slAt c s k).rate.lo b - (sumLo c s q - (sumLo c s k + (slAt c s k).rate.lo)))) = min (slAt c s q).rate.hi (max 0 (b - (sumLo c s q - sumLo c s k))) := by omega
   rw [a1, a2]
end
end Go.Sim.Le


namespace Go.Sim.Le
open Go.Proofs
section
variable {c : Cav} (hc : CavOk c)
include hc
theorem rtRow_at {s : Stg} (hs : StgOk c.slices.len s) {q : Nat} : ∀ k, q < k → k ≤ pathN s → rtRow c s k (pathAt s q).toNat = rtK c s q := by
 intro k
 induction k with
 | zero => intro h _; omega
 | succ k ih =>
  intro h hk
  simp only [rtRow]
  by_cases h1 : q = k
  ·subst h1; rw [if_pos rfl]
  ·have i1 := pathAt_in hs (k := k) (by omega)
   have i2 := pathAt_in hs (k := q) (by omega)
   rw [if_neg (fun e => by have := pathAt_inj (s := s) (j := q) (k := k) (by omega); omega)]
   exact ih (by omega) (by omega)
theorem rtRow_off {s : Stg} {u : Nat} : ∀ k, (∀ q, q < k → (pathAt s q).toNat ≠ u) → rtRow c s k u = ⟨0, 0⟩ := by
 intro k
 induction k with
 | zero => intro _; rfl
 | succ k ih =>
  intro h
  simp only [rtRow]
  rw [if_neg (fun e => h k (by omega) e.symm)]
  exact ih fun q hq => h q (by omega)
theorem grown_one {s : Stg} (hs : StgOk c.slices.len s) (u : Nat) : restS c (oneM c u) s (pathN s) c.hold = ⟨(c.slices.el u).opn * (rtRow c s (pathN s) u).lo, (c.slices.el u).opn * (rtRow c s (pathN s) u).hi⟩ := by
 have hH := hc.2.1
 by_cases h : ∃ q, q < pathN s ∧ (pathAt s q).toNat = u
 ·obtain ⟨q, hq, hu⟩ := h
  rw [rest_one hc hs hq hu (pathN s) (Nat.le_refl _) (by omega) c.hold (by omega), ← hu, rtRow_at hc hs (pathN s) hq (Nat.le_refl _)]
  rw [Nat.sub_self]
  simp only [sumHi, sumLo, Int.sub_zero, rtK]
 ·rw [rtRow_off hc (pathN s) fun q hq hu => h ⟨q, hq, hu⟩]
  rw [rest_zero hc hs (pathN s) (Nat.le_refl _) (fun k _ hk => by rw [oneM_gain, if_neg (fun e => h ⟨k, hk, e⟩)]) c.hold (by omega)]
  simp
theorem first_one {u : Nat} : ∀ k, firstS c (oneM c u) k = if u < k then (c.slices.el u).vol else ⟨0, 0⟩ := by
 intro k
 induction k with
 | zero => rfl
 | succ k ih =>
  simp only [firstS]
  rw [ih]
  show addS _ (timesS (c.slices.el k).vol (oneW u k)) = _
  unfold oneW
  by_cases h1 : k = u
  ·subst h1
   rw [if_neg (by omega), if_pos rfl, if_pos (by omega)]
   simp [timesS, addS]
  ·rw [if_neg h1]
   by_cases h2 : u < k
   ·rw [if_pos h2, if_pos (by omega)]; simp [timesS, addS]
   ·rw [if_neg h2, if_neg (by omega)]; simp [timesS, addS]
theorem bound_one {u : Nat} (hu : u < c.slices.len) {n : Nat} {l : Nat → Stg} (hl : ∀ i, i < n → StgOk c.slices.len (l i)) : ∀ k, k ≤ n → boundS c l (oneM c u) k = volK c l k u := by
 have hop : 1000 ≤ (c.slices.el u).opn := (hc.2.2.2 u hu).2.1.1
 have hno : ¬ (c.slices.el u).opn < 0 := by omega
 intro k
 induction k with
 | zero =>
  intro _
  simp only [boundS, volK, saltS]
  rw [first_one hc, if_pos hu]
  simp [timesS, addS]
 | succ k ih =>
  intro h
  have hs := hl k (by omega)
  have hwa := hs.1
  have hnw : ¬ (l k).water < 0 := by omega
  simp only [boundS, volK, saltS, grownS]
  rw [ih (by omega), grown_one hc hs u]
  simp only [volK, timesS, if_neg hno, if_neg hnw, addS, Int.mul_add, Int.mul_left_comm (l k).water, Int.add_assoc]
end
variable (F d : Nat)
section
variable {c : Cav} (hc : CavOk c) {l : Sl Stg} (h8 : l.len ≤ 8) (hl : ∀ i, i < l.len → StgOk c.slices.len (l.el i)) (hF : 1000000000 < F)
include hc h8 hl hF
def afterR (c : Cav) (l : Nat → Stg) (n : Nat) : List V := [sl eSpan 2 (tabP (saltS c l n) c.slices.len), sl eSpan 2 (tabP (volK c l n) c.slices.len), .int .i64 (boundS c l (sumpM c) n).lo, .int .i64 (boundS c l (sumpM c) n).hi]
end
end Go.Sim.Le


namespace Go.Sim.Le
open Go.Proofs
variable (F d : Nat)
end Go.Sim.Le


namespace Go.Sim.Le
open Go.Proofs
def rotF {α : Type} (l : Nat → α) (n q u : Nat) : α := if u < n - q then l (u + q) else l (u - (n - q))
def narrow (d : Int) (x : Slc) : Slc := { x with vol := ⟨x.vol.lo, x.vol.hi - min d (x.vol.hi - x.vol.lo)⟩, rate := ⟨x.rate.lo + min d (x.rate.hi - x.rate.lo), x.rate.hi⟩ }
def narrowC (d : Int) (c : Cav) : Cav := { c with slices := ⟨false, c.slices.len, fun u => if u < c.slices.len then narrow d (c.slices.el u) else c.slices.el u⟩ }
section
variable {d : Int} (hd : 0 ≤ d) {c : Cav} (hc : CavOk c) {s : Stg} (hs : StgOk c.slices.len s)
include hd hc hs
end
section
variable {d : Int} (hd : 0 ≤ d) {c : Cav} (hc : CavOk c) {l : Nat → Stg} {n : Nat} (hl : ∀ i, i < n → StgOk c.slices.len (l i))
include hd hc hl
end
def moreL (d : Int) (q : Nat) (l : Nat → Stg) (u : Nat) : Stg := if u = q then { l u with water := min 1000000 ((l u).water + d) } else l u
section
variable {d : Int} (hd : 0 ≤ d) {c : Cav} (hc : CavOk c) {l : Nat → Stg} {n : Nat} (hl : ∀ i, i < n → StgOk c.slices.len (l i)) (q : Nat)
include hd hl
include hc
end
end Go.Sim.Le


namespace Go.Sim.Le
open Go.Proofs
section
variable {d : Int} (hd : 0 ≤ d) {c : Cav} (hc : CavOk c) {s : Stg} (hs : StgOk c.slices.len s)
include hd hc hs
end
variable (F d : Nat)
section
variable {c : Cav} (hc : CavOk c) {l : Sl Stg} (h8 : l.len ≤ 8) (hl : ∀ i, i < l.len → StgOk c.slices.len (l.el i)) (hF : 1000000000 < F)
include hc h8 hl hF
end
end Go.Sim.Le


namespace Go.Sim.Le
open Go.Proofs
variable (F d : Nat)
end Go.Sim.Le


namespace Go.Sim.Le
open Go.Proofs
def trueM (c : Cav) (l : Nat → Stg) (t : Truth) (m : Mea) (j : Nat) : Int := sumF (fun i => m.weights.el i * volS c l t j i) c.slices.len + m.sump * sumpS c l t j
theorem timesS_mem {p : Span} {n x : Int} (h1 : p.lo ≤ x) (h2 : x ≤ p.hi) : (timesS p n).lo ≤ n * x ∧ n * x ≤ (timesS p n).hi := by
 unfold timesS
 by_cases h : n < 0
 ·rw [if_pos h]
  exact ⟨Int.mul_le_mul_of_nonpos_left (by omega) h2, Int.mul_le_mul_of_nonpos_left (by omega) h1⟩
 ·rw [if_neg h]
  exact ⟨Int.mul_le_mul_of_nonneg_left h1 (by omega), Int.mul_le_mul_of_nonneg_left h2 (by omega)⟩
section
variable {c : Cav} (hc : CavOk c) {s : Stg} (hs : StgOk c.slices.len s) (w : Nat → Int) (hw : RatesOk c w)
include hc hs hw
theorem play_rest (m : Mea) : ∀ r, r ≤ pathN s → (restS c m s r (c.hold - (tkT c s w (pathN s - r)).1)).lo ≤ pathSum c s w (gainI c m) (pathN s) - pathSum c s w (gainI c m) (pathN s - r) ∧ pathSum c s w (gainI c m) (pathN s) - pathSum c s w (gainI c m) (pathN s - r) ≤ (restS c m s r (c.hold - (tkT c s w (pathN s - r)).1)).hi := by
 intro r
 induction r with
 | zero => intro _; simp [restS]
 | succ r ih =>
  intro h
  have i := ih (by omega)
  have ho : SpanIn (slAt c s (pathN s - (r + 1))).rate 0 300 := (slcOk_at hc hs (k := pathN s - (r + 1)) (by omega)).2.2.2.1
  unfold SpanIn at ho
  have hin := pathAt_in hs (k := pathN s - (r + 1)) (by omega)
  have hwr : (slAt c s (pathN s - (r + 1))).rate.lo ≤ w (pathAt s (pathN s - (r + 1))).toNat ∧ w (pathAt s (pathN s - (r + 1))).toNat ≤ (slAt c s (pathN s - (r + 1))).rate.hi := hw _ (by omega)
  have hS : pathN s - r = pathN s - (r + 1) + 1 := by omega
  rw [hS] at i
  simp only [pathSum, tkT] at i
  simp only [restS]
  generalize hk : pathN s - (r + 1) = k at *
  have hn : min (w (pathAt s k).toNat) (c.hold - (tkT c s w k).1) = takeN c s w k := rfl
  rw [hn] at i
  have hn1 : min (slAt c s k).rate.lo (c.hold - (tkT c s w k).1) ≤ takeN c s w k := by unfold takeN; omega
  have hn2 : takeN c s w k ≤ min (slAt c s k).rate.hi (c.hold - (tkT c s w k).1) := by unfold takeN; omega
  generalize hg : gainI c m (pathAt s k).toNat = g at *
  rw [show c.hold - ((tkT c s w k).1 + takeN c s w k) = c.hold - (tkT c s w k).1 - takeN c s w k by omega] at i
  generalize hb : c.hold - (tkT c s w k).1 = b at *
  have e1 := le_bestHi (f := fun n => (restS c m s r (b - n)).hi + n * g) hn1 (min (slAt c s k).rate.hi b - min (slAt c s k).rate.lo b).toNat (by omega)
  have e2 := bestLo_le (f := fun n => (restS c m s r (b - n)).lo + n * g) hn1 (min (slAt c s k).rate.hi b - min (slAt c s k).rate.lo b).toNat (by omega)
  rw [Int.mul_comm g] at i
  omega
theorem play_grown (m : Mea) : (grownS c m s).lo ≤ s.water * pathSum c s w (gainI c m) (pathN s) ∧ s.water * pathSum c s w (gainI c m) (pathN s) ≤ (grownS c m s).hi := by
 have h := play_rest hc hs w hw m (pathN s) (Nat.le_refl _)
 rw [Nat.sub_self] at h
 simp only [tkT, pathSum, Int.sub_zero] at h
 unfold grownS
 exact timesS_mem h.1 h.2
end
theorem pathSum_lin {c : Cav} {s : Stg} {w : Nat → Int} (f g : Nat → Int) (x : Int) : ∀ k, pathSum c s w (fun i => f i + g i * x) k = pathSum c s w f k + x * pathSum c s w g k
 | 0 => by simp [pathSum]
 | k + 1 => by
  simp only [pathSum]
  rw [pathSum_lin f g x k, Int.add_mul, Int.mul_add]
  have : g (pathAt s k).toNat * x * takeN c s w k = x * (g (pathAt s k).toNat * takeN c s w k) := by rw [Int.mul_comm (g (pathAt s k).toNat), Int.mul_assoc]
  omega
section
variable {c : Cav} (hc : CavOk c) {n : Nat} {l : Nat → Stg} (hl : ∀ i, i < n → StgOk c.slices.len (l i)) {t : Truth} (ht : TruthOk c n t)
include hl in
theorem true_step (m : Mea) {j : Nat} (hj : j < n) : trueM c l t m (j + 1) = trueM c l t m j + (l j).water * pathSum c (l j) (wK t j) (gainI c m) (pathN (l j)) := by
 have hs := hl j hj
 have e1 : sumF (fun i => m.weights.el i * volS c l t (j + 1) i) c.slices.len = sumF (fun i => m.weights.el i * volS c l t j i) c.slices.len + (l j).water * pathSum c (l j) (wK t j) (fun i => (c.slices.el i).opn * m.weights.el i) (pathN (l j)) := by
  rw [← take_sum hs (wK t j) (fun i => (c.slices.el i).opn * m.weights.el i) (pathN (l j)) (Nat.le_refl _), ← sumF_mul, ← sumF_add]
  refine sumF_cong _ fun i _ => ?_
  simp only [volS, opnF]
  rw [Int.mul_add]
  congr 1
  rw [← Int.mul_assoc, Int.mul_comm (m.weights.el i), Int.mul_assoc]
  simp only [Int.mul_assoc]
 have e2 : pathSum c (l j) (wK t j) (gainI c m) (pathN (l j)) = pathSum c (l j) (wK t j) (fun i => (c.slices.el i).opn * m.weights.el i) (pathN (l j)) + m.sump * pathSum c (l j) (wK t j) (fallF c) (pathN (l j)) := pathSum_lin (fun i => (c.slices.el i).opn * m.weights.el i) (fallF c) m.sump _
 unfold trueM
 rw [e1, e2]
 simp only [sumpS]
 rw [Int.mul_add, Int.mul_add, Int.mul_left_comm m.sump]
 omega
include hc ht in
theorem true_first (m : Mea) : ∀ k, k ≤ c.slices.len → (firstS c m k).lo ≤ sumF (fun i => m.weights.el i * volS c l t 0 i) k ∧ sumF (fun i => m.weights.el i * volS c l t 0 i) k ≤ (firstS c m k).hi
 | 0, _ => by simp [firstS, sumF]
 | k + 1, h => by
  have i := true_first m k (by omega)
  have h1 := ht.2.2.1 k (by rw [ht.1]; omega)
  have h2 := timesS_mem (p := (c.slices.el k).vol) (n := m.weights.el k) h1.1 h1.2
  simp only [firstS, sumF, addS, volS]
  simp only [volS] at i
  omega
include hc hl ht
theorem true_in (m : Mea) : ∀ j, j ≤ n → (boundS c l m j).lo ≤ trueM c l t m j ∧ trueM c l t m j ≤ (boundS c l m j).hi
 | 0, _ => by
  have i := true_first hc ht (l := l) m c.slices.len (Nat.le_refl _)
  simp only [boundS, trueM, sumpS, Int.mul_zero, Int.add_zero]
  exact i
 | j + 1, h => by
  have i := true_in m j (by omega)
  have hg := play_grown hc (hl j (by omega)) (wK t j) (truth_rates ht (by omega)) m
  rw [true_step hl m (by omega)]
  simp only [boundS, addS]
  omega
end
theorem sumF_one (f : Nat → Int) (u : Nat) : ∀ n, sumF (fun i => oneW u i * f i) n = if u < n then f u else 0
 | 0 => rfl
 | n + 1 => by
  simp only [sumF]
  rw [sumF_one f u n]
  unfold oneW
  by_cases h1 : n = u
  ·subst h1; rw [if_neg (by omega), if_pos rfl, if_pos (by omega)]; omega
  ·rw [if_neg h1]
   by_cases h2 : u < n
   ·rw [if_pos h2, if_pos (by omega)]; omega
   ·rw [if_neg h2, if_neg (by omega)]; omega
section
variable {c : Cav} (hc : CavOk c) {n : Nat} {l : Nat → Stg} (hl : ∀ i, i < n → StgOk c.slices.len (l i)) {t : Truth} (ht : TruthOk c n t)
include hc hl ht
theorem volT_in {u : Nat} (hu : u < c.slices.len) {j : Nat} (hj : j ≤ n) : (volK c l j u).lo ≤ volS c l t j u ∧ volS c l t j u ≤ (volK c l j u).hi := by
 have h := true_in hc hl ht (oneM c u) j hj
 rw [bound_one hc hu hl j hj] at h
 unfold trueM at h
 have e : sumF (fun i => (oneM c u).weights.el i * volS c l t j i) c.slices.len = volS c l t j u := (sumF_one _ u _).trans (if_pos hu)
 rw [e] at h
 have z : (oneM c u).sump = 0 := rfl
 rw [z, Int.zero_mul, Int.add_zero] at h
 exact h
def takenS (l : Nat → Stg) (t : Truth) (c : Cav) (u : Nat) : Nat → Int
 | 0 => 0
 | j + 1 => takenS l t c u j + (l j).water * takeRow c (l j) (wK t j) (pathN (l j)) u
end
end Go.Sim.Le


namespace Go.Sim.Le
open Go.Proofs
variable (F d : Nat)
section
variable {c : Cav} (hc : CavOk c) {l : Sl Stg} (h8 : l.len ≤ 8) (hl : ∀ i, i < l.len → StgOk c.slices.len (l.el i)) {t : Truth} (ht : TruthOk c l.len t)
include hc h8 hl ht
end
end Go.Sim.Le


namespace Go.Sim.Le
open Go.Proofs
theorem fault_rule {c : Cav} {l : Nat → Stg} : ∀ j k, ((faultR c l j k).1 = -1 ∧ (faultR c l j k).2.1 = 1) ∨ ((k : Int) ≤ (faultR c l j k).1 ∧ (faultR c l j k).1 < ((k + j : Nat) : Int) ∧ (faultR c l j k).2.1 ≠ 1)
 | 0, k => .inl ⟨rfl, rfl⟩
 | j + 1, k => by
  have i := fault_rule (c := c) (l := l) j (k + 1)
  simp only [faultR]
  cases decide (topOf (l k) ≥ (l k).blanket) with
  | true => right; simp only [cond_true]; omega
  | false =>
   simp only [cond_false]
   cases buriedB c l k with
   | true => right; simp only [cond_true]; omega
   | false =>
    simp only [cond_false]
    cases oiledB c l k with
    | true => right; simp only [cond_true]; omega
    | false =>
     simp only [cond_false]
     cases (wideR c l k c.slices.len 0).2 with
     | true => right; simp only [cond_true]; omega
     | false => simp only [cond_false]; omega
def tP (t : Truth) (k : Nat) : Truth := ⟨t.vols, ⟨t.rates.nl, k, t.rates.el⟩⟩
def deepF (x y : Int) (v : Nat → Int) (u : Nat) : Int := if (u : Int) ≤ x ∧ (u : Int) ≤ y then v u else 0
def highF' (b : Int) (v : Nat → Int) (u : Nat) : Int := if (u : Int) ≥ b then v u else 0
variable (F d : Nat)
end Go.Sim.Le


namespace Go.Sim.Le
open Go.Proofs
variable (F d : Nat)
section
variable {c : Cav} (hc : CavOk c) {l : Sl Stg} (h8 : l.len ≤ 8) (hl : ∀ i, i < l.len → StgOk c.slices.len (l.el i)) {t : Truth} (ht : TruthOk c l.len t) (hF : 1000000000 < F) (hnl : t.vols.nl = true → t.vols.len = 0)
include hc h8 hl ht hF hnl
end
end Go.Sim.Le


namespace Go.Sim.Le
open Go.Proofs
section
variable {c : Cav} (hc : CavOk c) {s : Stg} (hs : StgOk c.slices.len s)
include hc hs
end
end Go.Sim.Le


namespace Go.Sim.Le
open Go.Proofs
abbrev slK (k : Nat) (r : List Int) : Sl Int := ⟨false, k, fun j => r.getD j (r.getLastD 0)⟩
abbrev slI (r : List Int) : Sl Int := slK r.length r
theorem slI_el {r : List Int} {j : Nat} (h : j < r.length) : (slI r).el j = r.getD j 0 := by
 simp only [List.getD_eq_getElem?_getD, List.getElem?_eq_getElem h, Option.getD_some]
theorem slI_map {f : Nat → Int} {n k j : Nat} (h : j < k) : (slK n ((List.range k).map f)).el j = f j := by
 simp only [List.getD_eq_getElem?_getD, List.getElem?_map, List.getElem?_range h, Option.map_some, Option.getD_some]
def radW (c : Cav) (i : Nat) : Int := (c.slices.el i).rate.hi - (c.slices.el i).rate.lo + 1
def xd (c : Cav) (x : Int) : Nat → Int
 | 0 => x
 | i + 1 => xd c x i / radW c i
def dg (c : Cav) (x : Int) (i : Nat) : Int := (c.slices.el i).rate.lo + xd c x i % radW c i
def manyW (c : Cav) : Nat → Int
 | 0 => 1
 | i + 1 => manyW c i * radW c i
def numW (c : Cav) (w : Nat → Int) : Nat → Nat → Int
 | 0, _ => 0
 | j + 1, i => (w i - (c.slices.el i).rate.lo) + radW c i * numW c w j (i + 1)
section
variable {c : Cav} (hc : CavOk c)
include hc
end
def truthX (k : Nat) (vs rs : List Int) : Truth := ⟨slK k vs, ⟨false, 1, fun _ => slK k rs⟩⟩
def rts (c : Cav) (x : Int) (k : Nat) : List Int := (List.range k).map (dg c x)
def lowV (c : Cav) (w : Nat → Int) (i : Nat) : Int := if w i < 0 then (c.slices.el i).vol.hi else (c.slices.el i).vol.lo
def highV (c : Cav) (w : Nat → Int) (i : Nat) : Int := if w i < 0 then (c.slices.el i).vol.lo else (c.slices.el i).vol.hi
def vls (f : Nat → Int) (k : Nat) : List Int := (List.range k).map f
section
variable {c : Cav} (hc : CavOk c)
include hc
end
theorem vls_snoc (f : Nat → Int) (k : Nat) : vls f (k + 1) = vls f k ++ [f k] := by simp [vls, List.range_succ]
theorem vls_len (f : Nat → Int) (k : Nat) : (vls f k).length = k := by simp [vls]
def mnR (f : Nat → Int) : Nat → Int
 | 0 => 0
 | k + 1 => if k = 0 then f 0 else if f k < mnR f k then f k else mnR f k
def mxR (f : Nat → Int) : Nat → Int
 | 0 => 0
 | k + 1 => if k = 0 then f 0 else if f k > mxR f k then f k else mxR f k
end Go.Sim.Le


namespace Go.Sim.Le
open Go.Proofs
variable (F d : Nat)
def pickS (l : Nat → Stg) (w : Sl Int) (k : Nat) : List Stg := (List.range k).map fun j => l (w.el j).toNat
theorem pickS_succ (l : Nat → Stg) (w : Sl Int) (k : Nat) : pickS l w (k + 1) = pickS l w k ++ [l (w.el k).toNat] := by simp [pickS, List.range_succ]
theorem pickS_len (l : Nat → Stg) (w : Sl Int) (k : Nat) : (pickS l w k).length = k := by simp [pickS]
theorem pickS_I (l : Nat → Stg) (r : List Int) : pickS l (slI r) r.length = msOf l r := by
 refine List.ext_getElem (by simp [pickS, msOf]) fun i h1 h2 => ?_
 have h : i < r.length := by simpa [pickS] using h1
 simp only [pickS, msOf, List.getElem_map, List.getElem_range]
 rw [show r.getD i (r.getLastD 0) = r[i] by rw [List.getD_eq_getElem?_getD, List.getElem?_eq_getElem h]; rfl]
abbrev PlOk (l : Sl Stg) (w : Sl Int) : Prop := ∀ i, i < w.len → 0 ≤ w.el i ∧ w.el i < l.len
theorem l52x1 (l : Sl Stg) (w : Sl Int) (hw : PlOk l w) (hn : w.len ≤ 1000) : ∀ j i fu, i + j = w.len → 1 ≤ i → j < fu →
  L52x1 (E F d) F l w fu i i i (gl eStg z0 (pickS l.el w i)) = some (.ret (.row false w.len 4 (gl eStg z0 (pickS l.el w w.len)))) := by
 intro j
 induction j with
 | zero =>
  intro i fu h h1 hf
  obtain ⟨fu, rfl⟩ : ∃ k, fu = k + 1 := ⟨fu - 1, by omega⟩
  have hi : i = w.len := by omega
  subst hi
  rw [L52x1s, decide_eq_false (by omega), pF]
 | succ j ih =>
  intro i fu h h1 hf
  obtain ⟨fu, rfl⟩ : ∃ k, fu = k + 1 := ⟨fu - 1, by omega⟩
  have h2 := hw i (by omega)
  have e := ih (i + 1) fu (by omega) (by omega) (by omega)
  have hS2 : IntKind.i64.wrap ((i : Int) + 1) = ((i + 1 : Nat) : Int) := wrS (by omega)
  rw [pickS_succ, ← gl_snoc (e := eStg) (z := z0) (m := l.el (w.el i).toNat) (ms := pickS l.el w i) (k := i) (pickS_len ..) rfl] at e
  rw [L52x1s]
  simp (disch := omega) only [decide_eq_true, decide_true, pT, Int.toNat_natCast, hS2]
  exact e
theorem s52 (l : Sl Stg) (w : Sl Int) (hw : PlOk l w) (h0 : 0 < w.len) (hn : w.len ≤ 1000) (hF : 1000 < F) :
  (E F (d + 1)).pf 52 [sl eStg 4 l, sl eInt 1 w] = some (.ret (sl eStg 4 ⟨false, w.len, stgF (pickS l.el w w.len)⟩)) := by
 obtain ⟨F, rfl⟩ : ∃ k, F = k + 1 := ⟨F - 1, by omega⟩
 have h2 := hw 0 h0
 have e := l52x1 (F + 1) d l w hw hn (w.len - 1) 1 F (by omega) (by omega) (by omega)
 rw [show pickS l.el w 1 = [l.el (w.el 0).toNat] from rfl, ← gl_one rfl] at e
 rw [E_pf, t52, L52x0s]
 simp (disch := omega) only [decide_eq_true, decide_true, pT, wr (n := 0 + 1), Int.zero_add]
 exact e
theorem s52e (l : Sl Stg) (w : Sl Int) (h0 : w.len = 0) (hF : 1000 < F) : (E F (d + 1)).pf 52 [sl eStg 4 l, sl eInt 1 w] = some (.ret (.row true 0 0 fun _ => [])) := by
 obtain ⟨F, rfl⟩ : ∃ k, F = k + 1 := ⟨F - 1, by omega⟩
 rw [E_pf, t52, L52x0s, decide_eq_false (by omega), pF]
theorem s52n (l : Sl Stg) (hF : 1000 < F) : (E F (d + 1)).pf 52 [sl eStg 4 l, .row true 0 0 fun _ => []] = some (.ret (.row true 0 0 fun _ => [])) := by
 obtain ⟨F, rfl⟩ : ∃ k, F = k + 1 := ⟨F - 1, by omega⟩
 rw [E_pf]
 kernel_rfl
def watW (l : Nat → Stg) (w : Sl Int) : Nat → Int
 | 0 => 0
 | k + 1 => watW l w k + (l (w.el k).toNat).water
theorem watW_in {n : Nat} {l : Sl Stg} (hl : ∀ i, i < l.len → StgOk n (l.el i)) {w : Sl Int} (hw : PlOk l w) : ∀ k, k ≤ w.len → 0 ≤ watW l.el w k ∧ watW l.el w k ≤ 1000000 * k := by
 intro k
 induction k with
 | zero => intro _; simp [watW]
 | succ k ih =>
  intro h
  have h1 := ih (by omega)
  have h2 := hw k (by omega)
  have h3 := (hl (w.el k).toNat (by omega)).1
  simp only [watW]
  omega
theorem watS_eq (l : Nat → Stg) (r : List Int) : watS l r = watW l (slI r) r.length := by
 have h : ∀ k, k ≤ r.length → watS l (r.take k) = watW l (slI r) k := by
  intro k
  induction k with
  | zero => intro _; rfl
  | succ k ih =>
   intro hk
   have hk' : k < r.length := by omega
   have htk : r.take (k + 1) = r.take k ++ [r.getD k 0] := by
    rw [List.take_add_one, List.getElem?_eq_getElem hk', List.getD_eq_getElem?_getD, List.getElem?_eq_getElem hk']; rfl
   rw [htk, watS_snoc, ih (by omega)]
   simp only [watW]
   have : r.getD k (r.getLastD 0) = r.getD k 0 := slI_el hk'
   rw [this]
 have := h r.length (Nat.le_refl _)
 rwa [List.take_length] at this
theorem l89 {n : Nat} (l : Sl Stg) (hl : ∀ i, i < l.len → StgOk n (l.el i)) (w : Sl Int) (hw : PlOk l w) (hn : w.len ≤ 1000) : ∀ j i fu, i + j = w.len → j < fu →
  L89x0 (E F d) F l w fu (watW l.el w i) i = some (.ret (.int .i64 (watW l.el w w.len))) := by
 intro j
 induction j with
 | zero =>
  intro i fu h hf
  obtain ⟨fu, rfl⟩ : ∃ k, fu = k + 1 := ⟨fu - 1, by omega⟩
  have hi : i = w.len := by omega
  subst hi
  rw [L89x0s, decide_eq_false (by omega), pF]
 | succ j ih =>
  intro i fu h hf
  obtain ⟨fu, rfl⟩ : ∃ k, fu = k + 1 := ⟨fu - 1, by omega⟩
  have h2 := hw i (by omega)
  have h3 := (hl (w.el i).toNat (by omega)).1
  have h4 := watW_in hl hw i (by omega)
  have hS2 : IntKind.i64.wrap ((i : Int) + 1) = ((i + 1 : Nat) : Int) := wrS (by omega)
  rw [L89x0s]
  simp (disch := omega) only [decide_eq_true, decide_true, pT, Int.toNat_natCast, hS2, wr (n := watW l.el w i + (l.el (w.el i).toNat).water)]
  exact ih (i + 1) fu (by omega) (by omega)
theorem s89 {n : Nat} (l : Sl Stg) (hl : ∀ i, i < l.len → StgOk n (l.el i)) (w : Sl Int) (hw : PlOk l w) (hn : w.len ≤ 1000) (hF : 1000 < F) :
  (E F (d + 1)).pf 89 [sl eStg 4 l, sl eInt 1 w] = some (.ret (.int .i64 (watW l.el w w.len))) := by
 rw [E_pf, t89]
 exact l89 F d l hl w hw hn w.len 0 F (by omega) (by omega)
def lexR (a b : Nat → Int) : Nat → Nat → Bool
 | 0, _ => false
 | j + 1, i => if a i = b i then lexR a b j (i + 1) else decide (a i < b i)
def lessB (l : Nat → Stg) (a b : Sl Int) : Bool := if a.len ≠ b.len then decide (a.len < b.len) else if watW l a a.len ≠ watW l b b.len then decide (watW l a a.len < watW l b b.len) else lexR a.el b.el a.len 0
theorem l53 (l : Sl Stg) (a b : Sl Int) (hab : a.len = b.len) (hn : a.len ≤ 1000) : ∀ j i fu, i + j = a.len → j < fu → L53x0 (E F d) F l a b fu i = some (.ret (.bool (lexR a.el b.el j i))) := by
 intro j
 induction j with
 | zero =>
  intro i fu h hf
  obtain ⟨fu, rfl⟩ : ∃ k, fu = k + 1 := ⟨fu - 1, by omega⟩
  rw [L53x0s, decide_eq_false (by omega), pF]; rfl
 | succ j ih =>
  intro i fu h hf
  obtain ⟨fu, rfl⟩ : ∃ k, fu = k + 1 := ⟨fu - 1, by omega⟩
  have hS2 : IntKind.i64.wrap ((i : Int) + 1) = ((i + 1 : Nat) : Int) := wrS (by omega)
  rw [L53x0s]
  simp (disch := omega) only [decide_eq_true, decide_true, pT, Int.toNat_natCast, hS2]
  by_cases he : a.el i = b.el i
  ·rw [show (a.el i != b.el i) = false by simp [he], pF, ih (i + 1) fu (by omega) (by omega)]
   simp only [lexR, if_pos he]
  ·rw [show (a.el i != b.el i) = true by simp [he], pT]
   simp only [lexR, if_neg he]
theorem s53 {n : Nat} (l : Sl Stg) (hl : ∀ i, i < l.len → StgOk n (l.el i)) (a b : Sl Int) (ha : PlOk l a) (hb : PlOk l b) (han : a.len ≤ 1000) (hbn : b.len ≤ 1000) (hF : 1000 < F) :
  (E F (d + 2)).pf 53 [sl eStg 4 l, sl eInt 1 a, sl eInt 1 b] = some (.ret (.bool (lessB l.el a b))) := by
 have e1 := s89 F d l hl a ha han hF
 have e2 := s89 F d l hl b hb hbn hF
 rw [E_pf, t53]
 unfold lessB
 by_cases h0 : a.len = b.len
 ·rw [show (((a.len : Nat) : Int) != ((b.len : Nat) : Int)) = false by simp [h0], pF, if_neg (fun h => h h0)]
  simp only [e1, e2, tkOut_ret, tkInt_i, decide_true, pT]
  by_cases h1 : watW l.el a a.len = watW l.el b b.len
  ·rw [show (watW l.el a a.len != watW l.el b b.len) = false by simp [h1], pF, if_neg (fun h => h h1)]
   exact l53 F (d + 1) l a b h0 han a.len 0 F (by omega) (by omega)
  ·rw [show (watW l.el a a.len != watW l.el b b.len) = true by simp [h1], pT, if_pos h1]
 ·rw [show (((a.len : Nat) : Int) != ((b.len : Nat) : Int)) = true by simp; omega, pT, if_pos h0]
  refine b3 (b2 ?_)
  simp only [decide_eq_true_iff]
  omega
theorem l51 (l : Sl Stg) (w : Sl Int) (hw : w.len ≤ 1000) (hL : l.len < Big) : ∀ j i fu, i + j = w.len → j < fu →
  L51x0 (E F (d + 1)) F l w fu i = some (.ret (.bool (allF (fun i => decide (0 ≤ w.el i ∧ w.el i < l.len)) j i && decide (w.len ≤ 5)))) := by
 intro j
 induction j with
 | zero =>
  intro i fu h hf
  obtain ⟨fu, rfl⟩ : ∃ k, fu = k + 1 := ⟨fu - 1, by omega⟩
  rw [L51x0s, decide_eq_false (by omega), pF]
  refine b3 (b2 ?_)
  simp only [allF, Bool.true_and, decide_eq_true_iff]
  omega
 | succ j ih =>
  intro i fu h hf
  obtain ⟨fu, rfl⟩ : ∃ k, fu = k + 1 := ⟨fu - 1, by omega⟩
  have hB : (Big : Int) = 4611686018427387904 := rfl
  have hS2 : IntKind.i64.wrap ((i : Int) + 1) = ((i + 1 : Nat) : Int) := wrS (by omega)
  have e := s64 F d (w.el i) 0 ((l.len : Int) - 1)
  rw [L51x0s]
  simp (disch := omega) only [decide_eq_true, decide_true, pT, Int.toNat_natCast, hS2, wr (n := (l.len : Int) - 1), e, tkOut_ret, tkBool_b]
  by_cases h0 : 0 ≤ w.el i ∧ w.el i < l.len
  ·rw [decide_eq_true (show 0 ≤ w.el i ∧ w.el i ≤ (l.len : Int) - 1 by omega), Bool.not_true, pF, ih (i + 1) fu (by omega) (by omega)]
   simp only [allF, decide_eq_true h0, Bool.true_and]
  ·rw [decide_eq_false (show ¬ (0 ≤ w.el i ∧ w.el i ≤ (l.len : Int) - 1) by omega), Bool.not_false, pT]
   simp only [allF, decide_eq_false h0, Bool.false_and]
theorem s51 (l : Sl Stg) (w : Sl Int) (hw : w.len ≤ 1000) (hL : l.len < Big) (hF : 1000 < F) :
  (E F (d + 2)).pf 51 [sl eStg 4 l, sl eInt 1 w] = some (.ret (.bool (decide (PlOk l w ∧ w.len ≤ 5)))) := by
 rw [E_pf, t51]
 refine Eq.trans (l51 F d l w hw hL w.len 0 F (by omega) (by omega)) ?_
 refine b3 (b2 ?_)
 rw [Bool.and_eq_true, allF_iff]
 simp only [decide_eq_true_iff]
 constructor
 ·rintro ⟨h1, h2⟩
  exact ⟨fun i hi => h1 i (by omega) (by omega), h2⟩
 ·rintro ⟨h1, h2⟩
  exact ⟨fun i _ hi => h1 i (by omega), h2⟩
def extS (r : List Int) : Nat → Nat → List (List Int)
 | 0, _ => []
 | j + 1, i => (r ++ [(i : Int)]) :: extS r j (i + 1)
def plansS (m : Nat) : Nat → List (List Int)
 | 0 => [[]]
 | n + 1 => (plansS m n).flatMap fun r => extS r m 0
theorem extS_ok {l : Sl Stg} {n : Nat} {r : List Int} (hr : RowOk l n r) : ∀ j i, i + j = l.len → ∀ q ∈ extS r j i, RowOk l (n + 1) q := by
 intro j
 induction j with
 | zero => intro i _ q hq; simp [extS] at hq
 | succ j ih =>
  intro i h q hq
  rcases List.mem_cons.1 hq with rfl | hq
  ·refine ⟨by simp [hr.1], fun x hx => ?_⟩
   rcases List.mem_append.1 hx with hx | hx
   ·exact hr.2 x hx
   ·rw [List.mem_singleton] at hx; omega
  ·exact ih (i + 1) (by omega) q hq
theorem plansS_ok {l : Sl Stg} : ∀ n, ∀ r ∈ plansS l.len n, RowOk l n r := by
 intro n
 induction n with
 | zero => intro r hr; rw [plansS, List.mem_singleton] at hr; subst hr; exact ⟨rfl, by simp⟩
 | succ n ih =>
  intro q hq
  obtain ⟨r, h1, h2⟩ := List.mem_flatMap.1 hq
  exact extS_ok (ih r h1) _ _ (by omega) q h2
section
variable (l : Sl Stg) (hL0 : 1 ≤ l.len) (hL : l.len ≤ 6) (n : Nat)
include hL0 hL
end
end Go.Sim.Le


namespace Go.Sim.Le
open Go.Proofs
variable (F d : Nat)
theorem bound_one2 {c : Cav} (hc : CavOk c) {n : Nat} {l : Nat → Stg} (hl : ∀ i, i < n → StgOk c.slices.len (l i)) (i : Nat) : boundS c l (oneM c i) n = boundS c l (meaS c 2 i) n :=
 bound_cong hc (m := meaS c 2 i) (m' := oneM c i) hl (fun u hu => by
  show oneW i u = meaW 2 i c.slices.len u
  unfold meaW oneW
  rw [if_pos hu, wv2]
  split <;> split <;> omega) rfl n (Nat.le_refl _)
def fineA (c : Cav) (l : Nat → Stg) (r : List Int) : Bool := decide ((faultR c (stgF (msOf l r)) r.length 0).2.1 = 1)
section
variable {c : Cav} (hc : CavOk c) {l : Sl Stg} (hl : ∀ i, i < l.len → StgOk c.slices.len (l.el i)) (hF : 1000 < F) (w : Sl Int) (hw : w.len ≤ c.slices.len)
include hc hl hF hw
def stepA (c : Cav) (l : Nat → Stg) (w : Sl Int) (acc : Option (List Int)) (r : List Int) : Option (List Int) :=
 bif fineA c l r && makesB c l w r then (match acc with | none => some r | some b => bif lessB l (slI r) (slI b) then some r else some b) else acc
def aO (acc : Option (List Int)) : List Int := match acc with | none => [] | some b => b
end
def planA (c : Cav) (l : Sl Stg) (w : Sl Int) : Nat → Nat → Option (List Int)
 | 0, _ => none
 | t + 1, n => match (plansS l.len n).foldl (stepA c l.el w) none with | some b => some b | none => planA c l w t (n + 1)
def planAout : Option (List Int) → Out
 | none => .ret (.tup [.row true 0 0 (fun _ => []), .bool false])
 | some r => .ret (.tup [.row (rb r) r.length (rwd r) (rg r), .bool true])
section
variable {c : Cav} (hc : CavOk c) {l : Sl Stg} (hL0 : 1 ≤ l.len) (hL : l.len ≤ 6) (hl : ∀ i, i < l.len → StgOk c.slices.len (l.el i)) (hF : 100000 < F) (w : Sl Int) (hw : w.len ≤ c.slices.len)
include hc hl hF hw hL0 hL
end
end Go.Sim.Le


namespace Go.Sim.Le
open Go.Proofs
theorem bound_l {c : Cav} {l l' : Nat → Stg} (m : Mea) : ∀ k, (∀ i, i < k → l i = l' i) → boundS c l m k = boundS c l' m k
 | 0, _ => rfl
 | k + 1, h => by
  simp only [boundS]
  rw [bound_l m k fun i hi => h i (by omega), h k (by omega)]
theorem wide_l {c : Cav} {l l' : Nat → Stg} {k : Nat} (h : ∀ i, i < k + 1 → l i = l' i) : ∀ j i, wideR c l k j i = wideR c l' k j i
 | 0, _ => rfl
 | j + 1, i => by
  simp only [wideR]
  rw [bound_l _ (k + 1) h, wide_l h j (i + 1)]
theorem fault_cong {c : Cav} {l l' : Nat → Stg} : ∀ j k, (∀ i, i < k + j → l i = l' i) → faultR c l j k = faultR c l' j k
 | 0, _, _ => rfl
 | j + 1, k, h => by
  have e1 : buriedB c l k = buriedB c l' k := by
   unfold buriedB
   rw [h k (by omega), bound_l _ k fun i hi => h i (by omega), bound_l _ (k + 1) fun i hi => h i (by omega)]
  have e2 : oiledB c l k = oiledB c l' k := by
   unfold oiledB
   rw [h k (by omega), bound_l _ k fun i hi => h i (by omega)]
  simp only [faultR]
  rw [e1, e2, wide_l (fun i hi => h i (by omega)), fault_cong j (k + 1) fun i hi => h i (by omega), h k (by omega)]
theorem fault_add {c : Cav} {l : Nat → Stg} : ∀ j k, (faultR c l (j + 1) k).2.1 = 1 ↔ (faultR c l j k).2.1 = 1 ∧ (faultR c l 1 (k + j)).2.1 = 1
 | 0, k => by simp [faultR]
 | j + 1, k => by
  have i := fault_add (c := c) (l := l) j (k + 1)
  rw [show k + 1 + j = k + (j + 1) by omega] at i
  rw [show faultR c l (j + 1 + 1) k = (bif decide (topOf (l k) ≥ (l k).blanket) then ((k : Int), 2, topOf (l k)) else bif buriedB c l k then ((k : Int), 3, lowOf (l k)) else
   bif oiledB c l k then ((k : Int), 4, (l k).blanket) else bif (wideR c l k c.slices.len 0).2 then ((k : Int), 5, (wideR c l k c.slices.len 0).1) else faultR c l (j + 1) (k + 1)) from rfl,
   show faultR c l (j + 1) k = (bif decide (topOf (l k) ≥ (l k).blanket) then ((k : Int), 2, topOf (l k)) else bif buriedB c l k then ((k : Int), 3, lowOf (l k)) else
   bif oiledB c l k then ((k : Int), 4, (l k).blanket) else bif (wideR c l k c.slices.len 0).2 then ((k : Int), 5, (wideR c l k c.slices.len 0).1) else faultR c l j (k + 1)) from rfl]
  cases decide (topOf (l k) ≥ (l k).blanket) with
  | true => simp
  | false =>
   cases buriedB c l k with
   | true => simp
   | false =>
    cases oiledB c l k with
    | true => simp
    | false =>
     cases (wideR c l k c.slices.len 0).2 with
     | true => simp
     | false => exact i
theorem stgF_app (l : Nat → Stg) (r : List Int) (x : Int) {j : Nat} (h : j < r.length) : stgF (msOf l (r ++ [x])) j = stgF (msOf l r) j := by
 unfold stgF
 rw [msOf_snoc, List.getD_eq_getElem?_getD, List.getD_eq_getElem?_getD, List.getElem?_append_left (by rw [msOf_len]; exact h), List.getElem?_eq_getElem (by rw [msOf_len]; exact h)]
 rfl
theorem fine_ext (c : Cav) (l : Nat → Stg) (r : List Int) (x : Int) : fineA c l (r ++ [x]) = (fineA c l r && fineB c l r.length (r ++ [x])) := by
 unfold fineA fineB
 refine b2 ?_
 rw [List.length_append, List.length_singleton, show r.length + 1 - r.length = 1 by omega]
 simp only [Bool.and_eq_true, decide_eq_true_iff]
 rw [fault_add, Nat.zero_add, fault_cong (l := stgF (msOf l (r ++ [x]))) (l' := stgF (msOf l r)) r.length 0 fun i hi => stgF_app l r x (by omega)]
 have h := fault_rule (c := c) (l := stgF (msOf l (r ++ [x]))) 1 r.length
 constructor
 ·rintro ⟨h1, h2⟩
  exact ⟨h1, by omega⟩
 ·rintro ⟨h1, h2⟩
  exact ⟨h1, by omega⟩
theorem ext_fine {c : Cav} {l : Nat → Stg} {r : List Int} (h : fineA c l r = true) : ∀ j i, (extS r j i).filter (fineA c l) = nxtE c l r.length r j i
 | 0, _ => rfl
 | j + 1, i => by
  simp only [extS, nxtE]
  rw [List.filter_cons, fine_ext, h, Bool.true_and, ext_fine h j (i + 1)]
  cases fineB c l r.length (r ++ [(i : Int)]) <;> simp
theorem ext_bad {c : Cav} {l : Nat → Stg} {r : List Int} (h : fineA c l r = false) : ∀ j i, (extS r j i).filter (fineA c l) = []
 | 0, _ => rfl
 | j + 1, i => by
  simp only [extS]
  rw [List.filter_cons, fine_ext, h, Bool.false_and, ext_bad h j (i + 1)]
  simp
theorem next_fine {c : Cav} {l : Sl Stg} {n : Nat} : ∀ PL : List (List Int), (∀ r ∈ PL, RowOk l n r) → nextP c l n (PL.filter (fineA c l.el)) = (PL.flatMap fun r => extS r l.len 0).filter (fineA c l.el)
 | [], _ => rfl
 | r :: PL, h => by
  have i := next_fine (c := c) PL fun q hq => h q (List.mem_cons_of_mem _ hq)
  have hr := (h r (List.mem_cons_self ..)).1
  rw [List.flatMap_cons, List.filter_append, List.filter_cons, ← i]
  cases hf : fineA c l.el r with
  | true =>
   rw [ext_fine hf, hr]
   simp [nextP]
  | false =>
   rw [ext_bad hf]
   simp
theorem lex_cong {a b a' b' : Nat → Int} : ∀ j i, (∀ k, i ≤ k → k < i + j → a k = a' k ∧ b k = b' k) → lexR a b j i = lexR a' b' j i
 | 0, _, _ => rfl
 | j + 1, i, h => by
  have h1 := h i (by omega) (by omega)
  simp only [lexR]
  rw [h1.1, h1.2, lex_cong j (i + 1) fun k h2 h3 => h k (by omega) (by omega)]
theorem lex_more {a b : Nat → Int} : ∀ j i, lexR a b j i = true → lexR a b (j + 1) i = true
 | 0, _, h => by simp [lexR] at h
 | j + 1, i, h => by
  have e : lexR a b (j + 1) i = if a i = b i then lexR a b j (i + 1) else decide (a i < b i) := rfl
  rw [e] at h
  show (if a i = b i then lexR a b (j + 1) (i + 1) else decide (a i < b i)) = true
  by_cases h1 : a i = b i
  ·rw [if_pos h1] at h ⊢
   exact lex_more j (i + 1) h
  ·rw [if_neg h1] at h ⊢
   exact h
theorem lex_last {a b : Nat → Int} : ∀ j i, (∀ k, i ≤ k → k < i + j → a k = b k) → a (i + j) < b (i + j) → lexR a b (j + 1) i = true
 | 0, i, _, h => by
  show (if a i = b i then false else decide (a i < b i)) = true
  rw [Nat.add_zero] at h
  rw [if_neg (by omega), decide_eq_true h]
 | j + 1, i, h, h1 => by
  show (if a i = b i then lexR a b (j + 1) (i + 1) else decide (a i < b i)) = true
  rw [if_pos (h i (by omega) (by omega))]
  exact lex_last j (i + 1) (fun k h2 h3 => h k (by omega) (by omega)) (by rw [show i + 1 + j = i + (j + 1) by omega]; exact h1)
theorem lex_asym {a b : Nat → Int} : ∀ j i, lexR a b j i = true → lexR b a j i = false
 | 0, _, _ => rfl
 | j + 1, i, h => by
  simp only [lexR] at h ⊢
  by_cases h1 : a i = b i
  ·rw [if_pos h1] at h
   rw [if_pos h1.symm]
   exact lex_asym j (i + 1) h
  ·rw [if_neg h1] at h
   rw [if_neg (fun e => h1 e.symm)]
   have := of_decide_eq_true h
   exact decide_eq_false (by omega)
abbrev LtL (n : Nat) (a b : List Int) : Prop := lexR (slI a).el (slI b).el n 0 = true
theorem slI_app {r : List Int} {x : Int} {j : Nat} (h : j < r.length) : (slI (r ++ [x])).el j = (slI r).el j := by
 rw [slI_el h, slI_el (by simp; omega), List.getD_eq_getElem?_getD, List.getD_eq_getElem?_getD, List.getElem?_append_left h]
theorem slI_end (r : List Int) (x : Int) : (slI (r ++ [x])).el r.length = x := by
 rw [slI_el (by simp), List.getD_eq_getElem?_getD]
 simp
theorem lt_same {n : Nat} {r : List Int} (hr : r.length = n) {x y : Int} (h : x < y) : LtL (n + 1) (r ++ [x]) (r ++ [y]) := by
 refine lex_last n 0 (fun k _ hk => ?_) ?_
 ·rw [slI_app (by omega), slI_app (by omega)]
 ·have e1 := slI_end r x
  have e2 := slI_end r y
  rw [Nat.zero_add, ← hr, e1, e2]
  exact h
theorem lt_ext {n : Nat} {r q : List Int} (hr : r.length = n) (hq : q.length = n) (x y : Int) (h : LtL n r q) : LtL (n + 1) (r ++ [x]) (q ++ [y]) := by
 refine lex_more n 0 ?_
 rw [lex_cong (a' := (slI r).el) (b' := (slI q).el) n 0 fun k _ hk => ⟨slI_app (by omega), slI_app (by omega)⟩]
 exact h
theorem ext_mem {r : List Int} : ∀ j i q, q ∈ extS r j i → ∃ x : Int, (i : Int) ≤ x ∧ q = r ++ [x]
 | 0, _, _, h => by simp [extS] at h
 | j + 1, i, q, h => by
  rcases List.mem_cons.1 h with rfl | h
  ·exact ⟨i, Int.le_refl _, rfl⟩
  ·obtain ⟨x, h1, h2⟩ := ext_mem j (i + 1) q h
   exact ⟨x, by omega, h2⟩
theorem ext_lt {n : Nat} {r : List Int} (hr : r.length = n) : ∀ j i, (extS r j i).Pairwise (LtL (n + 1))
 | 0, _ => List.Pairwise.nil
 | j + 1, i => by
  refine List.Pairwise.cons (fun q hq => ?_) (ext_lt hr j (i + 1))
  obtain ⟨x, h1, rfl⟩ := ext_mem j (i + 1) q hq
  exact lt_same hr (by omega)
theorem plans_lt (l : Sl Stg) : ∀ n, (plansS l.len n).Pairwise (LtL n)
 | 0 => List.pairwise_singleton _ _
 | n + 1 => by
  have hok := plansS_ok (l := l) n
  have i := plans_lt l n
  rw [plansS, List.pairwise_flatMap]
  refine ⟨fun r hr => ext_lt (hok r hr).1 _ _, ?_⟩
  refine List.Pairwise.imp_of_mem ?_ i
  intro r q hr hq hlt x hx y hy
  obtain ⟨u, _, rfl⟩ := ext_mem _ _ _ hx
  obtain ⟨v, _, rfl⟩ := ext_mem _ _ _ hy
  exact lt_ext (hok r hr).1 (hok q hq).1 u v hlt
theorem less_later {l : Nat → Stg} {n : Nat} {r b : List Int} (hr : r.length = n) (hb : b.length = n) (h : LtL n b r) : lessB l (slI r) (slI b) = decide (watS l r < watS l b) := by
 unfold lessB
 rw [if_neg (fun hh => hh (by show r.length = b.length; omega)), watS_eq, watS_eq]
 by_cases h1 : watW l (slI r) r.length = watW l (slI b) b.length
 ·rw [if_neg (fun hh => hh h1), decide_eq_false (by omega)]
  show lexR _ _ r.length 0 = false
  rw [hr]
  exact lex_asym n 0 h
 ·rw [if_pos h1]
theorem fold_same {c : Cav} {l : Sl Stg} {w : Sl Int} {n : Nat} (PL : List (List Int)) (hPL : ∀ r ∈ PL, RowOk l n r) (hlt : PL.Pairwise (LtL n)) :
  ∀ (rest pre : List (List Int)) (acc : Option (List Int)), PL = pre ++ rest → (∀ b, acc = some b → b ∈ pre) →
  (rest.filter (fineA c l.el)).foldl (bestA c l.el w) (acc.map fun b => (b, watS l.el b)) = (rest.foldl (stepA c l.el w) acc).map fun b => (b, watS l.el b)
 | [], _, _, _, _ => rfl
 | r :: rest, pre, acc, h, hacc => by
  have i := fold_same (c := c) (w := w) PL hPL hlt rest (pre ++ [r])
  rw [List.filter_cons, List.foldl_cons]
  have hmem : ∀ acc', (acc' = acc ∨ acc' = some r) → ∀ b, acc' = some b → b ∈ pre ++ [r] := by
   rintro acc' (rfl | rfl) b hb
   ·exact List.mem_append_left _ (hacc b hb)
   ·injection hb with hb; subst hb; simp
  cases hf : fineA c l.el r with
  | false =>
   rw [if_neg (by simp)]
   have e : stepA c l.el w acc r = acc := by unfold stepA; rw [hf, Bool.false_and, cond_false]
   rw [e]
   exact i acc (by rw [h]; simp) (hmem acc (.inl rfl))
  | true =>
   rw [if_pos rfl, List.foldl_cons]
   have e : bestA c l.el w (acc.map fun b => (b, watS l.el b)) r = (stepA c l.el w acc r).map fun b => (b, watS l.el b) := by
    unfold bestA stepA
    rw [hf, Bool.true_and]
    cases makesB c l.el w r with
    | false => rfl
    | true =>
     simp only [cond_true]
     cases hac : acc with
     | none => rfl
     | some b =>
      have hb := hacc b hac
      have hbl : LtL n b r := by
       rw [h, List.pairwise_append] at hlt
       exact hlt.2.2 b hb r (List.mem_cons_self ..)
      have e2 := less_later (l := l.el) (hPL r (by rw [h]; simp)).1 (hPL b (by rw [h]; exact List.mem_append_left _ hb)).1 hbl
      simp only [Option.map_some, e2]
      cases decide (watS l.el r < watS l.el b) <;> rfl
   rw [e]
   refine i _ (by rw [h]; simp) (hmem _ ?_)
   unfold stepA
   rw [hf, Bool.true_and]
   cases makesB c l.el w r with
   | false => exact .inl rfl
   | true =>
    simp only [cond_true]
    cases acc with
    | none => exact .inr rfl
    | some b =>
     show (bif lessB l.el (slI r) (slI b) then some r else some b) = some b ∨ (bif lessB l.el (slI r) (slI b) then some r else some b) = some r
     cases lessB l.el (slI r) (slI b) with
     | true => exact .inr rfl
     | false => exact .inl rfl
theorem plan_same (c : Cav) (l : Sl Stg) (w : Sl Int) : ∀ t n, planF c l w t n ((plansS l.len n).filter (fineA c l.el)) = planA c l w (t + 1) n := by
 have hf : ∀ n, ((plansS l.len n).filter (fineA c l.el)).foldl (bestA c l.el w) none = ((plansS l.len n).foldl (stepA c l.el w) none).map fun b => (b, watS l.el b) := fun n =>
  fold_same (plansS l.len n) (plansS_ok n) (plans_lt l n) (plansS l.len n) [] none rfl (fun b hb => by cases hb)
 intro t
 induction t with
 | zero =>
  intro n
  unfold planF planA
  rw [hf n]
  cases (plansS l.len n).foldl (stepA c l.el w) none with
  | none => rfl
  | some b => rfl
 | succ t ih =>
  intro n
  rw [show planF c l w (t + 1) n ((plansS l.len n).filter (fineA c l.el)) = (match ((plansS l.len n).filter (fineA c l.el)).foldl (bestA c l.el w) none with | some (b, _) => some b | none => planF c l w t (n + 1) (nextP c l n ((plansS l.len n).filter (fineA c l.el)))) from rfl,
   show planA c l w (t + 1 + 1) n = (match (plansS l.len n).foldl (stepA c l.el w) none with | some b => some b | none => planA c l w (t + 1) (n + 1)) from rfl, hf n, next_fine _ (plansS_ok n)]
  rw [show (List.flatMap (fun r => extS r l.len 0) (plansS l.len n)) = plansS l.len (n + 1) from rfl, ih (n + 1)]
  cases (plansS l.len n).foldl (stepA c l.el w) none with
  | none => rfl
  | some b => rfl
theorem planX_A (c : Cav) (l : Sl Stg) (w : Sl Int) : planX c l w = planA c l w 6 0 := by
 rw [← plan_same c l w 5 0]
 rfl
variable (F d : Nat)
end Go.Sim.Le


namespace Go.Sim.Le
open Go.Proofs
variable (F d : Nat)
section
variable {c : Cav} (hc : CavOk c) (hF : 1000000000 < F)
include hc hF
omit hc in
theorem s1140 : (E F (d + 1)).pf 114 [.row true 0 0 (fun _ => []), .fn (.func 108) [] [.rptr 1 3 (fun _ => eCav c) 0 0]] = some (.ret (.int .i64 (-1))) := by
 obtain ⟨F, rfl⟩ : ∃ k, F = k + 1 := ⟨F - 1, by omega⟩
 rw [E_pf, t1140, L1140x0s]
omit hc in
theorem s1070 : (E F (d + 2)).pf 107 [.row true 0 0 (fun _ => []), .fn (.func 108) [] [.rptr 1 3 (fun _ => eCav c) 0 0]] = some (.ret (.bool false)) := by
 rw [E_pf, t1070]
 simp only [s1140 F d hF, tkOut_ret, tkInt_i, decide_true, pT]
 rfl
omit hc in
theorem s900 : (E F (d + 3)).pf 90 [.agg (eCav c), .row true 0 0 (fun _ => [])] = some (.ret (.bool true)) := by
 rw [E_pf, t900]
 simp only [s1070 F d hF, tkOut_ret, tkBool_b]
 rfl
theorem s570 : (E F (d + 6)).pf 57 [.agg (eCav c), .row true 0 0 (fun _ => [])] = some (.ret (.int .i64 0)) := by
 have hcl := hc.1
 have q66 := s66 F d c (lenB (by omega)) (by omega)
 have q90 : (E F (d + 5)).pf 90 [.agg (eCav c), .row true 0 0 (fun _ => [])] = _ := s900 F (d + 2) (c := c) hF
 rw [decide_eq_true hc] at q66
 rw [E_pf, t570]
 simp only [q66, q90, tkOut_ret, tkBool_b, Bool.not_true, pF]
omit hc in
theorem s733 (p : Int) (es : List (V × V)) : (E F (d + 1)).hv 73 [.optr 0 0 0, .int .i64 0] (PN c p es) = some (.ret (.tup [.int .i64 (-1), .int .i64 1, .int .i64 0]), PN c 0 es) := by
 obtain ⟨F, rfl⟩ : ∃ k, F = k + 1 := ⟨F - 1, by omega⟩
 rw [E_hv, t733, L733x0s]
theorem s300 : (E F (d + 7)).pf 30 [.agg (eCav c), .row true 0 0 (fun _ => [])] = some (.ret (.tup [.int .i64 (-1), .int .i64 1, .int .i64 0, .int .i64 0])) := by
 have q57 := s570 F d hc hF
 have q73 := s733 F (d + 5) (c := c) hF 0 []
 rw [show d + 5 + 1 = d + 6 from rfl] at q73
 simp only [PN] at q73
 rw [E_pf, t300]
 simp only [q57, tkOut_ret, tkInt_i, decide_true, pT, z0']
 simp only [q73, tkHv_h, tkTup_t, tkCons_c, tkInt_i, tkNil_n, tkSCons_c, tkBox_b, Nat.beq_refl, Bool.and_self, beq_self_eq_true, pT, samM1, ks6, tkRow_r, tkMp_m, tkSNil_n]
theorem s840 : (E F (d + 1)).pf 84 [.agg (eCav c), .row true 0 0 (fun _ => [])] = some (.ret (sl eSpan 2 (saltSl c (fun _ => z0) 0))) := by
 have hcl := hc.1
 obtain ⟨F, rfl⟩ : ∃ k, F = k + 1 := ⟨F - 1, by omega⟩
 rw [E_pf, t840]
 simp (disch := omega) only [decide_eq_true, pT]
 rw [L840x0s, Int.toNat_natCast]
 rfl
theorem s620 {m : Mea} (hm : MeaOk c m) : (E F (d + 14)).pf 62 [.agg (eCav c), .row true 0 0 (fun _ => []), .agg (eMea m)] = some (.ret (.agg (eSpan (firstS c m c.slices.len)))) := by
 obtain ⟨F, rfl⟩ : ∃ k, F = k + 1 := ⟨F - 1, by omega⟩
 rw [E_pf, t620]
 simp only [s92 (F + 1) (d + 11) c hc m hm (by omega), tkOut_ret, tkAgg_a, tkCons_c, tkInt_i, tkNil_n]
 rw [L620x0s]
theorem l420 (p : Span) : ∀ r k fu, k + 1 + r = c.slices.len → r < fu →
  L420x1 (E F (d + 14)) F c fu ((k + 1 : Nat) : Int) false c.slices.len 2 (fun i => eSpan (saltS c (fun _ => z0) 0 i)) (k + 1) .i64 p.lo .i64 p.hi (k + 1) (gl eSpan ⟨0, 0⟩ (tabL (volK c (fun _ => z0) 0) (k + 1)))
   = some (.ret (.tup [.agg [sl eSpan 2 (saltSl c (fun _ => z0) 0), sl eSpan 2 (tabP (volK c (fun _ => z0) 0) c.slices.len), .int .i64 p.lo, .int .i64 p.hi], .int .i64 0])) := by
 have hcl := hc.1
 have hl : ∀ i, i < 0 → StgOk c.slices.len ((fun _ => z0) i) := fun i hi => by omega
 intro r
 induction r with
 | zero =>
  intro k fu h hf
  obtain ⟨fu, rfl⟩ : ∃ k, fu = k + 1 := ⟨fu - 1, by omega⟩
  rw [L420x1s, decide_eq_false (by omega), pF, show k + 1 = c.slices.len by omega]
  rfl
 | succ r ih =>
  intro k fu h hf
  obtain ⟨fu, rfl⟩ : ∃ k, fu = k + 1 := ⟨fu - 1, by omega⟩
  have hv := volK_in hc hl (by omega) (k := k + 1) (by omega)
  have hvo : SpanIn (c.slices.el (k + 1)).vol 0 10000000000000 := (hc.2.2.2 (k + 1) (by omega)).1
  unfold SpanIn at hvo
  have q86 : (E F (d + 14)).pf 86 [.agg [.int .i64 (saltS c (fun _ => z0) 0 (k + 1)).lo, .int .i64 (saltS c (fun _ => z0) 0 (k + 1)).hi], .int .i64 (c.slices.el (k + 1)).opn] = _ := s86 F (d + 13) (saltS c (fun _ => z0) 0 (k + 1)) (c.slices.el (k + 1)).opn (by constructor <;> omega) (by constructor <;> omega)
  have q85 := s85 F (d + 13) (c.slices.el (k + 1)).vol (timesS (saltS c (fun _ => z0) 0 (k + 1)) (c.slices.el (k + 1)).opn) (by omega) (by constructor <;> omega) (by constructor <;> omega) (by rw [hv.1]; constructor <;> simp only <;> omega) (by rw [hv.1]; constructor <;> simp only <;> omega)
  rw [show d + 13 + 1 = d + 14 from rfl] at q85
  have e3 : appGet (k + 1) (gl eSpan ⟨0, 0⟩ (tabL (volK c (fun _ => z0) 0) (k + 1))) (fun _ => eSpan (volK c (fun _ => z0) 0 (k + 1))) = gl eSpan ⟨0, 0⟩ (tabL (volK c (fun _ => z0) 0) (k + 1 + 1)) := by
   refine (gl_snoc (m := volK c (fun _ => z0) 0 (k + 1)) (e := eSpan) (tabL_len _ (k + 1)) rfl).trans ?_
   rw [← tabL_S]
  rw [L420x1s]
  simp (disch := omega) only [decide_eq_true, Int.toNat_natCast, pT, show ((2 : Nat) == 2) = true from rfl, List.take, List.length, show ((0 + 1 + 1 : Nat) == 2) = true from rfl, tkCons_c, tkInt_i, tkNil_n, q86, tkOut_ret, tkAgg_a]
  rw [q85]
  simp only [tkOut_ret, tkAgg_a, tkCons_c, tkInt_i, tkNil_n]
  rw [wrS (by omega)]
  unfold volK at e3
  simp only [eSpan] at e3
  unfold volK
  rw [e3]
  exact ih (k + 1) fu (by omega) (by omega)
theorem s420 : (E F (d + 15)).pf 42 [.agg (eCav c), .row true 0 0 (fun _ => [])] = some (.ret (.tup [.agg (afterV c (fun _ => z0) 0), .int .i64 0])) := by
 have hcl := hc.1
 have hl : ∀ i, i < 0 → StgOk c.slices.len ((fun _ => z0) i) := fun i hi => by omega
 have hv := volK_in hc hl (by omega) (k := 0) (by omega)
 have hvo : SpanIn (c.slices.el 0).vol 0 10000000000000 := (hc.2.2.2 0 (by omega)).1
 unfold SpanIn at hvo
 have q57 : (E F (d + 14)).pf 57 [.agg (eCav c), .row true 0 0 (fun _ => [])] = _ := s570 F (d + 8) hc hF
 have q84 : (E F (d + 14)).pf 84 [.agg (eCav c), .row true 0 0 (fun _ => [])] = _ := s840 F (d + 13) hc hF
 have q62 : (E F (d + 14)).pf 62 [.agg (eCav c), .row true 0 0 (fun _ => []), .agg (eMea (sumpM c))] = _ := s620 F d hc hF (sumpM_ok c)
 have q86 : (E F (d + 14)).pf 86 [.agg [.int .i64 (saltS c (fun _ => z0) 0 0).lo, .int .i64 (saltS c (fun _ => z0) 0 0).hi], .int .i64 (c.slices.el 0).opn] = _ := s86 F (d + 13) (saltS c (fun _ => z0) 0 0) (c.slices.el 0).opn (by constructor <;> omega) (by constructor <;> omega)
 have q85 := s85 F (d + 13) (c.slices.el 0).vol (timesS (saltS c (fun _ => z0) 0 0) (c.slices.el 0).opn) (by omega) (by constructor <;> omega) (by constructor <;> omega) (by rw [hv.1]; constructor <;> simp only <;> omega) (by rw [hv.1]; constructor <;> simp only <;> omega)
 rw [show d + 13 + 1 = d + 14 from rfl] at q85
 obtain ⟨F, rfl⟩ : ∃ k, F = k + 1 := ⟨F - 1, by omega⟩
 have e := l420 (F + 1) d hc hF (firstS c (sumpM c) c.slices.len) (c.slices.len - 1) 0 F (by omega) (by omega)
 simp only [eMea, sumpM, sl, eInt] at q62
 simp only [sl] at q84 q62
 rw [E_pf, t420]
 simp only [q57, tkOut_ret, tkInt_i, decide_true, pT, z0', q84, tkRow_r, saltSl]
 simp (disch := omega) only [decide_eq_true, decide_true, pT, Int.toNat_natCast, q62, tkOut_ret, tkAgg_a, tkCons_c, tkInt_i, tkNil_n, eSpan, tkRow_r]
 rw [L420x0s]
 simp (disch := omega) only [decide_eq_true, Int.toNat_natCast, pT, show ((2 : Nat) == 2) = true from rfl, List.take, List.length, show ((0 + 1 + 1 : Nat) == 2) = true from rfl, tkCons_c, tkInt_i, tkNil_n, q86, tkOut_ret, tkAgg_a]
 rw [q85]
 simp only [tkOut_ret, tkAgg_a, tkCons_c, tkInt_i, tkNil_n]
 rw [show tabL (volK c (fun _ => z0) 0) (0 + 1) = [volK c (fun _ => z0) 0 0] from rfl, ← gl_one rfl] at e
 exact e
omit hc in
theorem s890 (l : Sl Stg) : (E F (d + 1)).pf 89 [sl eStg 4 l, .row true 0 0 (fun _ => [])] = some (.ret (.int .i64 0)) := by
 obtain ⟨F, rfl⟩ : ∃ k, F = k + 1 := ⟨F - 1, by omega⟩
 rw [E_pf, t890, L890x0s]
omit hc in
theorem s510 (l : Sl Stg) : (E F (d + 1)).pf 51 [sl eStg 4 l, .row true 0 0 (fun _ => [])] = some (.ret (.bool true)) := by
 obtain ⟨F, rfl⟩ : ∃ k, F = k + 1 := ⟨F - 1, by omega⟩
 rw [E_pf, t510, L510x0s]
omit hc in
theorem s530 {n : Nat} (l : Sl Stg) (hl : ∀ i, i < l.len → StgOk n (l.el i)) (a : Sl Int) (ha : PlOk l a) (han : a.len ≤ 1000) : (E F (d + 2)).pf 53 [sl eStg 4 l, sl eInt 1 a, .row true 0 0 (fun _ => [])] = some (.ret (.bool false)) := by
 obtain ⟨F, rfl⟩ : ∃ k, F = k + 1 := ⟨F - 1, by omega⟩
 rw [E_pf, t530]
 by_cases h0 : a.len = 0
 ·have q1 := s89 (F + 1) d l hl a ha han (by omega)
  have q2 := s890 (F + 1) d hF l
  rw [h0] at q1
  rw [h0]
  simp only [watW] at q1
  simp only [q1, q2, tkOut_ret, tkInt_i, decide_true, pT]
  rw [L530x0s, h0]
  rfl
 ·rw [show ((a.len : Int) != ((0 : Nat) : Int)) = true by simp [h0], pT]
  refine b3 (decide_eq_false (by omega))
theorem l870 (v : Sl Int) (hv : v.len = c.slices.len) (hin : ∀ i, i < v.len → (c.slices.el i).vol.lo ≤ v.el i ∧ v.el i ≤ (c.slices.el i).vol.hi) : ∀ j i fu, i + j = v.len → j < fu → L870x0 (E F (d + 1)) F c v fu i = some (.ret (.bool true)) := by
 have hcl := hc.1
 intro j
 induction j with
 | zero =>
  intro i fu h hf
  obtain ⟨fu, rfl⟩ : ∃ k, fu = k + 1 := ⟨fu - 1, by omega⟩
  obtain ⟨F, rfl⟩ : ∃ k, F = k + 1 := ⟨F - 1, by omega⟩
  rw [L870x0s, decide_eq_false (by omega), pF, L870x1s]
 | succ j ih =>
  intro i fu h hf
  obtain ⟨fu, rfl⟩ : ∃ k, fu = k + 1 := ⟨fu - 1, by omega⟩
  have h1 := hin i (by omega)
  have hS2 : IntKind.i64.wrap ((i : Int) + 1) = ((i + 1 : Nat) : Int) := wrS (by omega)
  rw [L870x0s]
  simp (disch := omega) only [decide_eq_true, pT, Int.toNat_natCast, hS2, s59, tkOut_ret, tkBool_b, Bool.not_true, pF]
  exact ih (i + 1) fu (by omega) (by omega)
theorem s870 (v : Sl Int) (hv : v.len = c.slices.len) (hin : ∀ i, i < v.len → (c.slices.el i).vol.lo ≤ v.el i ∧ v.el i ≤ (c.slices.el i).vol.hi) :
  (E F (d + 2)).pf 87 [.agg (eCav c), .row true 0 0 (fun _ => []), .agg [sl eInt 1 v, .row true 0 0 (fun _ => [])]] = some (.ret (.bool true)) := by
 have hcl := hc.1
 rw [E_pf, t870, show ((v.len : Int) != (c.slices.len : Int)) = false by rw [hv]; simp, pF]
 exact l870 F d hc hF v hv hin v.len 0 F (by omega) (by omega)
theorem s440 (v : Sl Int) (hnl : v.nl = false) (hv : v.len = c.slices.len) (hin : ∀ i, i < v.len → (c.slices.el i).vol.lo ≤ v.el i ∧ v.el i ≤ (c.slices.el i).vol.hi) :
  (E F (d + 7)).pf 44 [.agg (eCav c), .row true 0 0 (fun _ => []), .agg [sl eInt 1 v, .row true 0 0 (fun _ => [])]] = some (.ret (.tup [.agg [sl eInt 1 ⟨false, c.slices.len, v.el⟩, .int .i64 0, .int .i64 0, .int .i64 0, .int .i64 0], .int .i64 0])) := by
 have hcl := hc.1
 have q57 := s570 F d hc hF
 have q87 := s870 F (d + 4) hc hF v hv hin
 have q79 : (E F (d + 6)).hv 79 [sl eInt 1 v] [] = _ := s79w F (d + 5) v hnl (by omega) (by omega)
 obtain ⟨F, rfl⟩ : ∃ k, F = k + 1 := ⟨F - 1, by omega⟩
 rw [E_pf, t440]
 simp only [q57, tkOut_ret, tkInt_i, decide_true, pT, z0']
 rw [show (E (F + 1) (d + 6)).pf 87 [.agg (eCav c), .row true 0 0 (fun _ => []), .agg [sl eInt 1 v, .row true 0 0 (fun _ => [])]] = _ from q87]
 simp only [tkOut_ret, tkBool_b, Bool.not_true, pF]
 simp only [q79, tkHv_h, tkSl_o, Nat.beq_refl, Bool.and_self, beq_self_eq_true, pT, tkSCons_c, tkSNil_n, tkArr_a]
 rw [L440x1s, hv]
end
end Go.Sim.Le
