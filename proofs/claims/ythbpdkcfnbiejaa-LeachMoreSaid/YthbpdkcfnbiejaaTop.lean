/-
  LeachMore holds for every input: called with any cavern, stages, place and step, the law returns true, and its arguments read behind the call as before. No condition.
-/
import Derived.Test.YthbpdkcfnbiejaaAg
import Derived.KernelRfl
import Derived.Test.YthbpdkcfnbiejaaRows
set_option linter.unusedVariables false
set_option linter.unusedSimpArgs false
set_option linter.unusedSectionVars false
set_option maxRecDepth 100000
namespace Go.Sim.Le
open Go.Proofs
theorem t19 (env : Env) (F : Nat) (c : Cav) : (evFun Try.prog (cfg F) env 19 [(.agg (eCav c))]) = some (.ret (.bool (decide ((((Sl.len (Cav.slices c)) : Nat) : Int) ≤ (20 : Int))))) := by kernel_rfl
theorem t20 (env : Env) (F : Nat) (c : Cav) (l : Sl Stg) (x : Int) (y : Int) (z : Int) : (evFun Try.prog (cfg F) env 20 [(.agg (eCav c)), (sl eStg 4 l), (i64 x), (i64 y), (i64 z)]) = (tkOut (env.pf 23 [(.agg (eCav c)), (sl eStg 4 l), (.bool true)]) none (fun v7 => (tkInt v7 none fun q8 n9 => (bif (decide (q8 = .i64)) then (bif (n9 != (0 : Int)) then some (.ret (.bool true)) else (bif (decide ((((Sl.len (Cav.slices c)) : Nat) : Int) ≤ x)) then (bif (decide ((Cav.hold c) ≤ y)) then some (.ret (.bool (decide ((((Sl.len l) : Nat) : Int) ≤ z)))) else some (.ret (.bool false))) else some (.ret (.bool false)))) else none))) (fun p7 => (tkIfc p7 none fun t8 x9 => (bif (flatP (.iface t8 x9)) then some (.pan (.iface t8 x9)) else none)))) := by kernel_rfl
noncomputable def L42x0 (env : Env) (F : Nat) (c : Cav) (l : Sl Stg) (fu : Nat) (b0 : Bool) (k1 : Nat) (k2 : Nat) (g3 : Nat → List V) (q4 : IntKind) (i5 : Int) (q6 : IntKind) (i7 : Int) : Option Out := atLoop Try.prog (cfg F) env 42 [.r, .r, .r, .r, .l, .r, .d] [] fu { tm := tmL 59 0 [(4, (.optr 0 0 0)), (8, (.optr 1 0 0)), (33, (sl eSlc 7 (Cav.slices c))), (34, (i64 (((Sl.len (Cav.slices c)) : Nat) : Int))), (35, (i64 (0 : Int)))], hp := [(.box 72 [(.row true 0 0 (fun u13 => [])), (.row true 0 0 (fun u13 => [])), (i64 (0 : Int)), (i64 (0 : Int))] true), (.box 72 [(.row b0 k1 k2 g3), (.row true 0 0 (fun u13 => [])), (.int q4 i5), (.int q6 i7)] true)] }
noncomputable def L42x1 (env : Env) (F : Nat) (c : Cav) (l : Sl Stg) (fu : Nat) (i0 : Int) (b1 : Bool) (k2 : Nat) (k3 : Nat) (g4 : Nat → List V) (k5 : Nat) (q6 : IntKind) (i7 : Int) (q8 : IntKind) (i9 : Int) (k10 : Nat) (g11 : Nat → List V) : Option Out := atLoop Try.prog (cfg F) env 42 [.r, .r, .r, .r, .l, .r, .d] [] fu { tm := tmL 59 0 [(4, (.optr 0 0 0)), (8, (.optr 1 0 0)), (33, (sl eSlc 7 (Cav.slices c))), (34, (i64 (((Sl.len (Cav.slices c)) : Nat) : Int))), (35, (i64 i0))], hp := [(.box 72 [(.row true 0 0 (fun u17 => [])), (.row true 0 0 (fun u17 => [])), (i64 (0 : Int)), (i64 (0 : Int))] true), (.box 72 [(.row b1 k2 k3 g4), (.osl 2 0 k5), (.int q6 i7), (.int q8 i9)] true), (.arr 31 2 k10 g11 true)] }
theorem t42 (env : Env) (F : Nat) (c : Cav) (l : Sl Stg) : (evFun Try.prog (cfg F) env 42 [(.agg (eCav c)), (sl eStg 4 l)]) = (tkOut (env.pf 57 [(.agg (eCav c)), (sl eStg 4 l)]) none (fun v4 => (tkInt v4 none fun q5 n6 => (bif (decide (q5 = .i64)) then (bif (n6 != (0 : Int)) then some (.ret (.tup [(.agg [(.row true 0 0 (fun u7 => [])), (.row true 0 0 (fun u7 => [])), (i64 (0 : Int)), (i64 (0 : Int))]), (.int q5 n6)])) else (tkOut (env.pf 84 [(.agg (eCav c)), (sl eStg 4 l)]) none (fun v7 => (tkRow v7 none fun nl8 n9 wd10 g11 => (bif (decide ((0 : Int) ≤ (((Sl.len (Cav.slices c)) : Nat) : Int))) then (bif (decide ((((Sl.len (Cav.slices c)) : Nat) : Int) ≤ (((Sl.len (Cav.slices c)) : Nat) : Int))) then (bif (decide ((((8 : Nat) : Int) * (((Sl.len (Cav.slices c)) : Nat) : Int)) ≤ (281474976710656 : Int))) then (bif (decide ((((Sl.len (Cav.slices c)) : Nat) : Int) ≤ (9223372036854775807 : Int))) then (tkOut (env.pf 62 [(.agg (eCav c)), (sl eStg 4 l), (.agg [(.row false (Int.toNat (((Sl.len (Cav.slices c)) : Nat) : Int)) 1 (fun u12 => [(i64 (0 : Int))])), (i64 (1 : Int))])]) none (fun v12 => (tkAgg v12 none fun l13 => (tkCons l13 none fun v14 r15 => (tkInt v14 none fun q16 n17 => (tkCons r15 none fun v18 r19 => (tkInt v18 none fun q20 n21 => (tkNil r19 none ((L42x0 env F c l F nl8 n9 wd10 g11 q16 n17 q20 n21))))))))) (fun p12 => (tkIfc p12 none fun t13 x14 => (bif (flatP (.iface t13 x14)) then none else none)))) else none) else none) else none) else none))) (fun p7 => (tkIfc p7 none fun t8 x9 => (bif (flatP (.iface t8 x9)) then none else none))))) else none))) (fun p4 => (tkIfc p4 none fun t5 x6 => (bif (flatP (.iface t5 x6)) then some (.pan (.iface t5 x6)) else none)))) := by kernel_rfl
theorem L42x0s (env : Env) (F : Nat) (c : Cav) (l : Sl Stg) (fu : Nat) (b0 : Bool) (k1 : Nat) (k2 : Nat) (g3 : Nat → List V) (q4 : IntKind) (i5 : Int) (q6 : IntKind) (i7 : Int) : L42x0 env F c l (fu + 1) b0 k1 k2 g3 q4 i5 q6 i7 = (bif (decide ((0 : Int) < (((Sl.len (Cav.slices c)) : Nat) : Int))) then (bif (decide ((0 : Int) < (((Sl.len (Cav.slices c)) : Nat) : Int))) then (bif (k2 == 2) then (bif (decide ((0 : Int) < ((k1 : Nat) : Int))) then (bif ((List.length (List.take 2 (g3 0))) == 2) then (tkCons (List.take 2 (g3 0)) none fun v13 r14 => (tkInt v13 none fun q15 n16 => (tkCons r14 none fun v17 r18 => (tkInt v17 none fun q19 n20 => (tkNil r18 none ((tkOut (env.pf 86 [(.agg [(.int q15 n16), (.int q19 n20)]), (i64 (Slc.opn (Sl.el (Cav.slices c) 0)))]) none (fun v21 => (tkAgg v21 none fun l22 => (tkCons l22 none fun v23 r24 => (tkInt v23 none fun q25 n26 => (tkCons r24 none fun v27 r28 => (tkInt v27 none fun q29 n30 => (tkNil r28 none ((tkOut (env.pf 85 [(.row false 2 2 (fun u31 => (List.take 2 (List.drop ((Min.min u31 1) * 2) [(i64 (Span.lo (Slc.vol (Sl.el (Cav.slices c) 0)))), (i64 (Span.hi (Slc.vol (Sl.el (Cav.slices c) 0)))), (.int q25 n26), (.int q29 n30)]))))]) none (fun v31 => (tkAgg v31 none fun l32 => (tkCons l32 none fun v33 r34 => (tkInt v33 none fun q35 n36 => (tkCons r34 none fun v37 r38 => (tkInt v37 none fun q39 n40 => (tkNil r38 none ((L42x1 env F c l fu (IntKind.wrap .i64 ((0 : Int) + (1 : Int))) b0 k1 k2 g3 1 q4 i5 q6 i7 1 (fun u41 => [(.int q35 n36), (.int q39 n40)])))))))))) (fun p31 => (tkIfc p31 none fun t32 x33 => (bif (flatP (.iface t32 x33)) then none else none)))))))))))) (fun p21 => (tkIfc p21 none fun t22 x23 => (bif (flatP (.iface t22 x23)) then some (.pan (.iface t22 x23)) else none)))))))))) else none) else none) else none) else none) else some (.ret (.tup [(.agg [(.row b0 k1 k2 g3), (.row true 0 0 (fun u13 => [])), (.int q4 i5), (.int q6 i7)]), (i64 (0 : Int))]))) := by kernel_rfl
theorem L42x1s (env : Env) (F : Nat) (c : Cav) (l : Sl Stg) (fu : Nat) (i0 : Int) (b1 : Bool) (k2 : Nat) (k3 : Nat) (g4 : Nat → List V) (k5 : Nat) (q6 : IntKind) (i7 : Int) (q8 : IntKind) (i9 : Int) (k10 : Nat) (g11 : Nat → List V) : L42x1 env F c l (fu + 1) i0 b1 k2 k3 g4 k5 q6 i7 q8 i9 k10 g11 = (bif (decide (i0 < (((Sl.len (Cav.slices c)) : Nat) : Int))) then (bif (decide ((0 : Int) ≤ i0)) then (bif (decide (i0 < (((Sl.len (Cav.slices c)) : Nat) : Int))) then (bif (k3 == 2) then (bif (decide ((0 : Int) ≤ i0)) then (bif (decide (i0 < ((k2 : Nat) : Int))) then (bif ((List.length (List.take 2 (g4 (Int.toNat i0)))) == 2) then (tkCons (List.take 2 (g4 (Int.toNat i0))) none fun v17 r18 => (tkInt v17 none fun q19 n20 => (tkCons r18 none fun v21 r22 => (tkInt v21 none fun q23 n24 => (tkNil r22 none ((tkOut (env.pf 86 [(.agg [(.int q19 n20), (.int q23 n24)]), (i64 (Slc.opn (Sl.el (Cav.slices c) (Int.toNat i0))))]) none (fun v25 => (tkAgg v25 none fun l26 => (tkCons l26 none fun v27 r28 => (tkInt v27 none fun q29 n30 => (tkCons r28 none fun v31 r32 => (tkInt v31 none fun q33 n34 => (tkNil r32 none ((tkOut (env.pf 85 [(.row false 2 2 (fun u35 => (List.take 2 (List.drop ((Min.min u35 1) * 2) [(i64 (Span.lo (Slc.vol (Sl.el (Cav.slices c) (Int.toNat i0))))), (i64 (Span.hi (Slc.vol (Sl.el (Cav.slices c) (Int.toNat i0))))), (.int q29 n30), (.int q33 n34)]))))]) none (fun v35 => (tkAgg v35 none fun l36 => (tkCons l36 none fun v37 r38 => (tkInt v37 none fun q39 n40 => (tkCons r38 none fun v41 r42 => (tkInt v41 none fun q43 n44 => (tkNil r42 none ((bif (decide (((k5 + 1) * 16) ≤ 140737488355328)) then (L42x1 env F c l fu (IntKind.wrap .i64 (i0 + (1 : Int))) b1 k2 k3 g4 (k5 + 1) q6 i7 q8 i9 (k5 + 1) (appGet k5 g11 (fun u45 => [(.int q39 n40), (.int q43 n44)]))) else none))))))))) (fun p35 => (tkIfc p35 none fun t36 x37 => (bif (flatP (.iface t36 x37)) then none else none)))))))))))) (fun p25 => (tkIfc p25 none fun t26 x27 => (bif (flatP (.iface t26 x27)) then some (.pan (.iface t26 x27)) else none)))))))))) else none) else none) else none) else none) else none) else none) else some (.ret (.tup [(.agg [(.row b1 k2 k3 g4), (.row false k5 2 (fun u17 => (g11 u17))), (.int q6 i7), (.int q8 i9)]), (i64 (0 : Int))]))) := by kernel_rfl
noncomputable def L84x0 (env : Env) (F : Nat) (c : Cav) (l : Sl Stg) (fu : Nat) (i0 : Int) (g1 : Nat → List V) : Option Out := atLoop Try.prog (cfg F) env 84 [.r, .r, .l, .r, .d] [] fu { tm := tmL 46 0 [(2, (.optr 0 0 0)), (5, (.osl 1 0 (Int.toNat (((Sl.len (Cav.slices c)) : Nat) : Int)))), (15, (sl eStg 4 l)), (16, (i64 (((Sl.len l) : Nat) : Int))), (17, (i64 i0))], hp := [(.box 103 (eCav c) true), (.arr 31 2 (Int.toNat (((Sl.len (Cav.slices c)) : Nat) : Int)) g1 true)] }
noncomputable def L84x1 (env : Env) (F : Nat) (c : Cav) (l : Sl Stg) (m0 : Nat) (fu : Nat) (i0 : Int) (b1 : Bool) (k2 : Nat) (k3 : Nat) (g4 : Nat → List V) (i5 : Int) (i6 : Int) (g7 : Nat → List V) (i8 : Int) (i9 : Int) (i10 : Int) (i11 : Int) : Option Out := atLoop Try.prog (cfg F) env 84 [.r, .r, .l, .r, .d, .d, .r, .r, .l, .d, .r, .r, .d] [m0] fu { tm := tmL 46 0 [(2, (.optr 0 0 0)), (5, (.osl 1 0 (Int.toNat (((Sl.len (Cav.slices c)) : Nat) : Int)))), (7, (.optr 2 0 0)), (15, (sl eStg 4 l)), (16, (i64 (((Sl.len l) : Nat) : Int))), (17, (i64 i0)), (23, (.row b1 k2 k3 g4)), (24, (i64 i5)), (25, (i64 i6))], hp := [(.box 103 (eCav c) true), (.arr 31 2 (Int.toNat (((Sl.len (Cav.slices c)) : Nat) : Int)) g7 true), (.box 40 [(i64 i8), (i64 i9), (i64 i10), (i64 i11)] true)] }
theorem t84 (env : Env) (F : Nat) (c : Cav) (l : Sl Stg) : (evFun Try.prog (cfg F) env 84 [(.agg (eCav c)), (sl eStg 4 l)]) = (bif (decide ((0 : Int) ≤ (((Sl.len (Cav.slices c)) : Nat) : Int))) then (bif (decide ((((Sl.len (Cav.slices c)) : Nat) : Int) ≤ (((Sl.len (Cav.slices c)) : Nat) : Int))) then (bif (decide ((((16 : Nat) : Int) * (((Sl.len (Cav.slices c)) : Nat) : Int)) ≤ (281474976710656 : Int))) then (bif (decide ((((Sl.len (Cav.slices c)) : Nat) : Int) ≤ (9223372036854775807 : Int))) then (L84x0 env F c l F (0 : Int) (fun u4 => [(i64 (0 : Int)), (i64 (0 : Int))])) else none) else none) else none) else none) := by kernel_rfl
theorem L84x0s (env : Env) (F : Nat) (c : Cav) (l : Sl Stg) (fu : Nat) (i0 : Int) (g1 : Nat → List V) : L84x0 env F c l (fu + 1) i0 g1 = (bif (decide (i0 < (((Sl.len l) : Nat) : Int))) then (bif (decide ((0 : Int) ≤ i0)) then (bif (decide (i0 < (((Sl.len l) : Nat) : Int))) then (tkOut (env.pf 82 [(.agg (eCav c)), (.agg (eStg (Sl.el l (Int.toNat i0))))]) none (fun v7 => (tkRow v7 none fun nl8 n9 wd10 g11 => (L84x1 env F c l fu F i0 nl8 n9 wd10 g11 ((n9 : Nat) : Int) (0 : Int) g1 (Stg.water (Sl.el l (Int.toNat i0))) (Stg.into (Sl.el l (Int.toNat i0))) (Stg.out (Sl.el l (Int.toNat i0))) (Stg.blanket (Sl.el l (Int.toNat i0)))))) (fun p7 => (tkIfc p7 none fun t8 x9 => (bif (flatP (.iface t8 x9)) then some (.pan (.iface t8 x9)) else none)))) else none) else none) else some (.ret (.row false (Int.toNat (((Sl.len (Cav.slices c)) : Nat) : Int)) 2 (fun u7 => (g1 u7))))) := by kernel_rfl
theorem L84x1s (env : Env) (F : Nat) (c : Cav) (l : Sl Stg) (m0 : Nat) (fu : Nat) (i0 : Int) (b1 : Bool) (k2 : Nat) (k3 : Nat) (g4 : Nat → List V) (i5 : Int) (i6 : Int) (g7 : Nat → List V) (i8 : Int) (i9 : Int) (i10 : Int) (i11 : Int) : L84x1 env F c l m0 (fu + 1) i0 b1 k2 k3 g4 i5 i6 g7 i8 i9 i10 i11 = (bif (decide (i6 < i5)) then (bif (k3 == 2) then (bif (decide ((0 : Int) ≤ i6)) then (bif (decide (i6 < ((k2 : Nat) : Int))) then (bif ((List.length (List.take 2 (g4 (Int.toNat i6)))) == 2) then (tkCons (List.take 2 (g4 (Int.toNat i6))) none fun v18 r19 => (tkInt v18 none fun q20 n21 => (tkCons r19 none fun v22 r23 => (tkInt v22 none fun q24 n25 => (tkNil r23 none ((bif (decide ((0 : Int) ≤ i6)) then (bif (decide (i6 < (((Int.toNat (((Sl.len (Cav.slices c)) : Nat) : Int)) : Nat) : Int))) then (bif ((List.length (List.take 2 (g7 (Int.toNat i6)))) == 2) then (tkCons (List.take 2 (g7 (Int.toNat i6))) none fun v26 r27 => (tkInt v26 none fun q28 n29 => (tkCons r27 none fun v30 r31 => (tkInt v30 none fun q32 n33 => (tkNil r31 none ((tkOut (env.pf 86 [(.agg [(.int q20 n21), (.int q24 n25)]), (i64 i8)]) none (fun v34 => (tkAgg v34 none fun l35 => (tkCons l35 none fun v36 r37 => (tkInt v36 none fun q38 n39 => (tkCons r37 none fun v40 r41 => (tkInt v40 none fun q42 n43 => (tkNil r41 none ((tkOut (env.pf 85 [(.row false 2 2 (fun u44 => (List.take 2 (List.drop ((Min.min u44 1) * 2) [(.int q28 n29), (.int q32 n33), (.int q38 n39), (.int q42 n43)]))))]) none (fun v44 => (tkAgg v44 none fun l45 => (tkCons l45 none fun v46 r47 => (tkInt v46 none fun q48 n49 => (tkCons r47 none fun v50 r51 => (tkInt v50 none fun q52 n53 => (tkNil r51 none ((bif (decide ((0 : Int) ≤ i6)) then (bif (decide (i6 < (((Int.toNat (((Sl.len (Cav.slices c)) : Nat) : Int)) : Nat) : Int))) then (L84x1 env F c l m0 fu i0 b1 k2 k3 g4 i5 (IntKind.wrap .i64 (i6 + (1 : Int))) (updGet g7 (Int.toNat i6) 0 [(.int q48 n49), (.int q52 n53)]) i8 i9 i10 i11) else none) else none))))))))) (fun p44 => (tkIfc p44 none fun t45 x46 => (bif (flatP (.iface t45 x46)) then none else none)))))))))))) (fun p34 => (tkIfc p34 none fun t35 x36 => (bif (flatP (.iface t35 x36)) then some (.pan (.iface t35 x36)) else none)))))))))) else none) else none) else none))))))) else none) else none) else none) else none) else (L84x0 env F c l m0 (IntKind.wrap .i64 (i0 + (1 : Int))) g7)) := by kernel_rfl
theorem t3 (env : Env) (F : Nat) (c : Cav) (l : Sl Stg) (w : Sl Int) (n : Int) : (evFun Try.prog (cfg F) env 3 [(.agg (eCav c)), (sl eStg 4 l), (sl eInt 1 w), (i64 n)]) = (tkOut (env.pf 19 [(.agg (eCav c))]) none (fun v6 => (tkBool v6 none fun b7 => (bif (!b7) then (tkOut (env.pf 21 []) none (fun v8 => (tkBool v8 none fun b9 => some (.ret (.bool b9)))) (fun p8 => (tkIfc p8 none fun t9 x10 => (bif (flatP (.iface t9 x10)) then some (.pan (.iface t9 x10)) else none)))) else (bif (decide ((((Sl.len l) : Nat) : Int) > (20 : Int))) then (tkOut (env.pf 21 []) none (fun v8 => (tkBool v8 none fun b9 => some (.ret (.bool b9)))) (fun p8 => (tkIfc p8 none fun t9 x10 => (bif (flatP (.iface t9 x10)) then some (.pan (.iface t9 x10)) else none)))) else (bif (decide ((((Sl.len w) : Nat) : Int) > (20 : Int))) then (tkOut (env.pf 21 []) none (fun v8 => (tkBool v8 none fun b9 => some (.ret (.bool b9)))) (fun p8 => (tkIfc p8 none fun t9 x10 => (bif (flatP (.iface t9 x10)) then some (.pan (.iface t9 x10)) else none)))) else (tkOut (env.pf 20 [(.agg (eCav c)), (sl eStg 4 l), (i64 (5 : Int)), (i64 (60 : Int)), (i64 (4 : Int))]) none (fun v8 => (tkBool v8 none fun b9 => (bif (!b9) then (tkOut (env.pf 21 []) none (fun v10 => (tkBool v10 none fun b11 => some (.ret (.bool b11)))) (fun p10 => (tkIfc p10 none fun t11 x12 => (bif (flatP (.iface t11 x12)) then some (.pan (.iface t11 x12)) else none)))) else (tkOut (env.pf 22 [(.agg (eCav c)), (sl eStg 4 l), (sl eInt 1 w), (i64 n)]) none (fun v10 => (tkTup v10 none fun l11 => (tkCons l11 none fun v12 r13 => (tkAgg v12 none fun l14 => (tkCons l14 none fun v15 r16 => (tkInt v15 none fun q17 n18 => (tkCons r16 none fun v19 r20 => (tkInt v19 none fun q21 n22 => (tkNil r20 none ((tkCons r13 none fun v23 r24 => (tkInt v23 none fun q25 n26 => (tkNil r24 none ((tkOut (env.pf 24 [(.agg (eCav c)), (sl eInt 1 w), (i64 n)]) none (fun v27 => (tkBool v27 none fun b28 => (tkOut (env.pf 23 [(.agg (eCav c)), (sl eStg 4 l), (.bool b28)]) none (fun v29 => (tkInt v29 none fun q30 n31 => (bif (decide (q30 = .i64)) then (bif (n31 != (0 : Int)) then (bif (decide (q25 = q30)) then (bif (n26 == n31) then (bif (decide (q17 = .i64)) then (bif (decide (q21 = .i64)) then (bif ((n18 == (0 : Int)) && ((n22 == (0 : Int)) && true)) then (tkOut (env.pf 21 []) none (fun v32 => (tkBool v32 none fun b33 => some (.ret (.bool b33)))) (fun p32 => (tkIfc p32 none fun t33 x34 => (bif (flatP (.iface t33 x34)) then some (.pan (.iface t33 x34)) else none)))) else some (.ret (.bool false))) else none) else none) else some (.ret (.bool false))) else none) else (bif (decide (q25 = .i64)) then (bif (n26 == (0 : Int)) then (tkOut (env.pf 25 [(.agg (eCav c)), (sl eStg 4 l), (sl eInt 1 w), (i64 n)]) none (fun v32 => (tkAgg v32 none fun l33 => (tkCons l33 none fun v34 r35 => (tkInt v34 none fun q36 n37 => (tkCons r35 none fun v38 r39 => (tkInt v38 none fun q40 n41 => (tkNil r39 none ((bif (decide (q17 = q36)) then (bif (decide (q21 = q40)) then (bif ((n18 == n37) && ((n22 == n41) && true)) then (tkOut (env.pf 21 []) none (fun v42 => (tkBool v42 none fun b43 => some (.ret (.bool b43)))) (fun p42 => (tkIfc p42 none fun t43 x44 => (bif (flatP (.iface t43 x44)) then some (.pan (.iface t43 x44)) else none)))) else some (.ret (.bool false))) else none) else none))))))))) (fun p32 => (tkIfc p32 none fun t33 x34 => (bif (flatP (.iface t33 x34)) then some (.pan (.iface t33 x34)) else none)))) else some (.ret (.bool false))) else none)) else none))) (fun p29 => (tkIfc p29 none fun t30 x31 => (bif (flatP (.iface t30 x31)) then some (.pan (.iface t30 x31)) else none)))))) (fun p27 => (tkIfc p27 none fun t28 x29 => (bif (flatP (.iface t28 x29)) then some (.pan (.iface t28 x29)) else none)))))))))))))))))) (fun p10 => (tkIfc p10 none fun t11 x12 => (bif (flatP (.iface t11 x12)) then some (.pan (.iface t11 x12)) else none))))))) (fun p8 => (tkIfc p8 none fun t9 x10 => (bif (flatP (.iface t9 x10)) then some (.pan (.iface t9 x10)) else none))))))))) (fun p6 => (tkIfc p6 none fun t7 x8 => (bif (flatP (.iface t7 x8)) then some (.pan (.iface t7 x8)) else none)))) := by kernel_rfl
noncomputable def L10x0 (env : Env) (F : Nat) (c : Cav) (l : Sl Stg) (n : Int) (d : Int) (fu : Nat) (q0 : IntKind) (i1 : Int) (q2 : IntKind) (i3 : Int) (b4 : Bool) (k5 : Nat) (k6 : Nat) (g7 : Nat → List V) (b8 : Bool) (k9 : Nat) (k10 : Nat) (g11 : Nat → List V) (q12 : IntKind) (i13 : Int) (q14 : IntKind) (i15 : Int) (b16 : Bool) (k17 : Nat) (k18 : Nat) (g19 : Nat → List V) (b20 : Bool) (k21 : Nat) (k22 : Nat) (g23 : Nat → List V) (q24 : IntKind) (i25 : Int) (q26 : IntKind) (i27 : Int) : Option Out := atLoop Try.prog (cfg F) env 10 [.r, .r, .r, .r, .r, .r, .l, .r, .d] [] fu { tm := tmL 316 0 [(1, (sl eStg 4 l)), (2, (i64 n)), (3, (i64 d)), (4, (.optr 0 0 0)), (9, (.optr 1 0 0)), (10, (.int q0 i1)), (11, (.optr 2 0 0)), (12, (.int q2 i3)), (13, (.optr 3 0 0)), (14, (i64 (0 : Int)))], hp := [(.box 24 (eCav c) true), (.box 72 [(.row b4 k5 k6 g7), (.row b8 k9 k10 g11), (.int q12 i13), (.int q14 i15)] true), (.box 72 [(.row b16 k17 k18 g19), (.row b20 k21 k22 g23), (.int q24 i25), (.int q26 i27)] true), (.box 24 [(.row true 0 0 (fun u35 => [])), (i64 (Cav.hold c)), (i64 (Cav.oil c))] true)] }
noncomputable def L10x1 (env : Env) (F : Nat) (c : Cav) (l : Sl Stg) (n : Int) (d : Int) (fu : Nat) (q0 : IntKind) (i1 : Int) (q2 : IntKind) (i3 : Int) (i4 : Int) (b5 : Bool) (k6 : Nat) (k7 : Nat) (g8 : Nat → List V) (b9 : Bool) (k10 : Nat) (k11 : Nat) (g12 : Nat → List V) (q13 : IntKind) (i14 : Int) (q15 : IntKind) (i16 : Int) (b17 : Bool) (k18 : Nat) (k19 : Nat) (g20 : Nat → List V) (b21 : Bool) (k22 : Nat) (k23 : Nat) (g24 : Nat → List V) (q25 : IntKind) (i26 : Int) (q27 : IntKind) (i28 : Int) (g29 : Nat → List V) : Option Out := atLoop Try.prog (cfg F) env 10 [.r, .r, .r, .r, .r, .r, .l, .r, .d] [] fu { tm := tmL 316 0 [(1, (sl eStg 4 l)), (2, (i64 n)), (3, (i64 d)), (4, (.optr 0 0 0)), (9, (.optr 1 0 0)), (10, (.int q0 i1)), (11, (.optr 2 0 0)), (12, (.int q2 i3)), (13, (.optr 3 0 0)), (14, (i64 i4))], hp := [(.box 24 (eCav c) true), (.box 72 [(.row b5 k6 k7 g8), (.row b9 k10 k11 g12), (.int q13 i14), (.int q15 i16)] true), (.box 72 [(.row b17 k18 k19 g20), (.row b21 k22 k23 g24), (.int q25 i26), (.int q27 i28)] true), (.box 24 [(.osl 4 0 (Sl.len (Cav.slices c))), (i64 (Cav.hold c)), (i64 (Cav.oil c))] true), (.arr 78 7 (Sl.len (Cav.slices c)) g29 true)] }
noncomputable def L10x2 (env : Env) (F : Nat) (c : Cav) (l : Sl Stg) (n : Int) (d : Int) (fu : Nat) (i0 : Int) (b1 : Bool) (k2 : Nat) (k3 : Nat) (g4 : Nat → List V) (b5 : Bool) (k6 : Nat) (k7 : Nat) (g8 : Nat → List V) (q9 : IntKind) (i10 : Int) (q11 : IntKind) (i12 : Int) (b13 : Bool) (k14 : Nat) (k15 : Nat) (g16 : Nat → List V) (b17 : Bool) (k18 : Nat) (k19 : Nat) (g20 : Nat → List V) (q21 : IntKind) (i22 : Int) (q23 : IntKind) (i24 : Int) (b25 : Bool) (k26 : Nat) (k27 : Nat) (g28 : Nat → List V) (b29 : Bool) (k30 : Nat) (k31 : Nat) (g32 : Nat → List V) (q33 : IntKind) (i34 : Int) (q35 : IntKind) (i36 : Int) : Option Out := atLoop Try.prog (cfg F) env 10 [.r, .r, .r, .r, .r, .r, .r, .r, .r, .r, .r, .r, .l, .r, .d] [] fu { tm := tmL 316 0 [(9, (.optr 0 0 0)), (16, (.optr 1 0 0)), (19, (.optr 2 0 0)), (21, (i64 i0))], hp := [(.box 72 [(.row b1 k2 k3 g4), (.row b5 k6 k7 g8), (.int q9 i10), (.int q11 i12)] true), (.box 72 [(.row b13 k14 k15 g16), (.row b17 k18 k19 g20), (.int q21 i22), (.int q23 i24)] true), (.box 72 [(.row b25 k26 k27 g28), (.row b29 k30 k31 g32), (.int q33 i34), (.int q35 i36)] true)] }
theorem t10 (env : Env) (F : Nat) (c : Cav) (l : Sl Stg) (n : Int) (d : Int) : (evFun Try.prog (cfg F) env 10 [(.agg (eCav c)), (sl eStg 4 l), (i64 n), (i64 d)]) = (tkOut (env.pf 19 [(.agg (eCav c))]) none (fun v6 => (tkBool v6 none fun b7 => (bif (!b7) then (tkOut (env.pf 21 []) none (fun v8 => (tkBool v8 none fun b9 => some (.ret (.bool b9)))) (fun p8 => (tkIfc p8 none fun t9 x10 => (bif (flatP (.iface t9 x10)) then some (.pan (.iface t9 x10)) else none)))) else (bif (decide ((((Sl.len l) : Nat) : Int) > (20 : Int))) then (tkOut (env.pf 21 []) none (fun v8 => (tkBool v8 none fun b9 => some (.ret (.bool b9)))) (fun p8 => (tkIfc p8 none fun t9 x10 => (bif (flatP (.iface t9 x10)) then some (.pan (.iface t9 x10)) else none)))) else (tkOut (env.pf 23 [(.agg (eCav c)), (sl eStg 4 l), (.bool true)]) none (fun v8 => (tkInt v8 none fun q9 n10 => (bif (decide (q9 = .i64)) then (bif (n10 != (0 : Int)) then (tkOut (env.pf 21 []) none (fun v11 => (tkBool v11 none fun b12 => some (.ret (.bool b12)))) (fun p11 => (tkIfc p11 none fun t12 x13 => (bif (flatP (.iface t12 x13)) then some (.pan (.iface t12 x13)) else none)))) else (tkOut (env.pf 20 [(.agg (eCav c)), (sl eStg 4 l), (i64 (5 : Int)), (i64 (100 : Int)), (i64 (8 : Int))]) none (fun v11 => (tkBool v11 none fun b12 => (bif (!b12) then (tkOut (env.pf 21 []) none (fun v13 => (tkBool v13 none fun b14 => some (.ret (.bool b14)))) (fun p13 => (tkIfc p13 none fun t14 x15 => (bif (flatP (.iface t14 x15)) then some (.pan (.iface t14 x15)) else none)))) else (bif (decide (n < (0 : Int))) then (tkOut (env.pf 21 []) none (fun v13 => (tkBool v13 none fun b14 => some (.ret (.bool b14)))) (fun p13 => (tkIfc p13 none fun t14 x15 => (bif (flatP (.iface t14 x15)) then some (.pan (.iface t14 x15)) else none)))) else (bif (decide (n ≥ (((Sl.len l) : Nat) : Int))) then (tkOut (env.pf 21 []) none (fun v13 => (tkBool v13 none fun b14 => some (.ret (.bool b14)))) (fun p13 => (tkIfc p13 none fun t14 x15 => (bif (flatP (.iface t14 x15)) then some (.pan (.iface t14 x15)) else none)))) else (bif (decide (d < (0 : Int))) then (tkOut (env.pf 21 []) none (fun v13 => (tkBool v13 none fun b14 => some (.ret (.bool b14)))) (fun p13 => (tkIfc p13 none fun t14 x15 => (bif (flatP (.iface t14 x15)) then some (.pan (.iface t14 x15)) else none)))) else (bif (decide (d > (100 : Int))) then (tkOut (env.pf 21 []) none (fun v13 => (tkBool v13 none fun b14 => some (.ret (.bool b14)))) (fun p13 => (tkIfc p13 none fun t14 x15 => (bif (flatP (.iface t14 x15)) then some (.pan (.iface t14 x15)) else none)))) else (tkOut (env.pf 42 [(.agg (eCav c)), (sl eStg 4 l)]) none (fun v13 => (tkTup v13 none fun l14 => (tkCons l14 none fun v15 r16 => (tkAgg v15 none fun l17 => (tkCons l17 none fun v18 r19 => (tkRow v18 none fun nl20 n21 wd22 g23 => (tkCons r19 none fun v24 r25 => (tkRow v24 none fun nl26 n27 wd28 g29 => (tkCons r25 none fun v30 r31 => (tkInt v30 none fun q32 n33 => (tkCons r31 none fun v34 r35 => (tkInt v34 none fun q36 n37 => (tkNil r35 none ((tkCons r16 none fun v38 r39 => (tkInt v38 none fun q40 n41 => (tkNil r39 none ((bif (true || (Sl.nl l)) then (bif (decide ((0 : Int) ≤ n)) then (bif (decide ((Int.toNat n) ≤ (Sl.len l))) then (bif (decide ((Sl.len l) ≤ (Sl.len l))) then (bif (Sl.nl l) then (bif (true || (Sl.nl l)) then (bif (decide ((0 : Int) ≤ n)) then (bif (decide (0 ≤ (Int.toNat n))) then (bif (decide ((Int.toNat n) ≤ (Sl.len l))) then (bif (Sl.nl l) then (tkOut (env.pf 42 [(.agg (eCav c)), (.row true 0 0 (fun u42 => []))]) none (fun v42 => (tkTup v42 none fun l43 => (tkCons l43 none fun v44 r45 => (tkAgg v44 none fun l46 => (tkCons l46 none fun v47 r48 => (tkRow v47 none fun nl49 n50 wd51 g52 => (tkCons r48 none fun v53 r54 => (tkRow v53 none fun nl55 n56 wd57 g58 => (tkCons r54 none fun v59 r60 => (tkInt v59 none fun q61 n62 => (tkCons r60 none fun v63 r64 => (tkInt v63 none fun q65 n66 => (tkNil r64 none ((tkCons r45 none fun v67 r68 => (tkInt v67 none fun q69 n70 => (tkNil r68 none ((bif (Sl.nl (Cav.slices c)) then (L10x0 env F c l n d F q40 n41 q69 n70 nl20 n21 wd22 g23 nl26 n27 wd28 g29 q32 n33 q36 n37 nl49 n50 wd51 g52 nl55 n56 wd57 g58 q61 n62 q65 n66) else (bif ((Sl.len (Cav.slices c)) == 0) then (L10x0 env F c l n d F q40 n41 q69 n70 nl20 n21 wd22 g23 nl26 n27 wd28 g29 q32 n33 q36 n37 nl49 n50 wd51 g52 nl55 n56 wd57 g58 q61 n62 q65 n66) else (bif (decide (((Sl.len (Cav.slices c)) * 56) ≤ 140737488355328)) then (L10x1 env F c l n d F q40 n41 q69 n70 (0 : Int) nl20 n21 wd22 g23 nl26 n27 wd28 g29 q32 n33 q36 n37 nl49 n50 wd51 g52 nl55 n56 wd57 g58 q61 n62 q65 n66 (fun u71 => (eSlc (Sl.el (Cav.slices c) u71)))) else none))))))))))))))))))))) (fun p42 => (tkIfc p42 none fun t43 x44 => (bif (flatP (.iface t43 x44)) then some (.pan (.iface t43 x44)) else none)))) else (bif (((Int.toNat n) - 0) == 0) then (tkOut (env.pf 42 [(.agg (eCav c)), (.row true 0 0 (fun u42 => []))]) none (fun v42 => (tkTup v42 none fun l43 => (tkCons l43 none fun v44 r45 => (tkAgg v44 none fun l46 => (tkCons l46 none fun v47 r48 => (tkRow v47 none fun nl49 n50 wd51 g52 => (tkCons r48 none fun v53 r54 => (tkRow v53 none fun nl55 n56 wd57 g58 => (tkCons r54 none fun v59 r60 => (tkInt v59 none fun q61 n62 => (tkCons r60 none fun v63 r64 => (tkInt v63 none fun q65 n66 => (tkNil r64 none ((tkCons r45 none fun v67 r68 => (tkInt v67 none fun q69 n70 => (tkNil r68 none ((bif (Sl.nl (Cav.slices c)) then (L10x0 env F c l n d F q40 n41 q69 n70 nl20 n21 wd22 g23 nl26 n27 wd28 g29 q32 n33 q36 n37 nl49 n50 wd51 g52 nl55 n56 wd57 g58 q61 n62 q65 n66) else (bif ((Sl.len (Cav.slices c)) == 0) then (L10x0 env F c l n d F q40 n41 q69 n70 nl20 n21 wd22 g23 nl26 n27 wd28 g29 q32 n33 q36 n37 nl49 n50 wd51 g52 nl55 n56 wd57 g58 q61 n62 q65 n66) else (bif (decide (((Sl.len (Cav.slices c)) * 56) ≤ 140737488355328)) then (L10x1 env F c l n d F q40 n41 q69 n70 (0 : Int) nl20 n21 wd22 g23 nl26 n27 wd28 g29 q32 n33 q36 n37 nl49 n50 wd51 g52 nl55 n56 wd57 g58 q61 n62 q65 n66 (fun u71 => (eSlc (Sl.el (Cav.slices c) u71)))) else none))))))))))))))))))))) (fun p42 => (tkIfc p42 none fun t43 x44 => (bif (flatP (.iface t43 x44)) then some (.pan (.iface t43 x44)) else none)))) else (bif (decide ((((Int.toNat n) - 0) * 32) ≤ 140737488355328)) then (tkOut (env.pf 42 [(.agg (eCav c)), (.row false ((Int.toNat n) - 0) 4 (fun u42 => (eStg (Sl.el l u42))))]) none (fun v42 => (tkTup v42 none fun l43 => (tkCons l43 none fun v44 r45 => (tkAgg v44 none fun l46 => (tkCons l46 none fun v47 r48 => (tkRow v47 none fun nl49 n50 wd51 g52 => (tkCons r48 none fun v53 r54 => (tkRow v53 none fun nl55 n56 wd57 g58 => (tkCons r54 none fun v59 r60 => (tkInt v59 none fun q61 n62 => (tkCons r60 none fun v63 r64 => (tkInt v63 none fun q65 n66 => (tkNil r64 none ((tkCons r45 none fun v67 r68 => (tkInt v67 none fun q69 n70 => (tkNil r68 none ((bif (Sl.nl (Cav.slices c)) then (L10x0 env F c l n d F q40 n41 q69 n70 nl20 n21 wd22 g23 nl26 n27 wd28 g29 q32 n33 q36 n37 nl49 n50 wd51 g52 nl55 n56 wd57 g58 q61 n62 q65 n66) else (bif ((Sl.len (Cav.slices c)) == 0) then (L10x0 env F c l n d F q40 n41 q69 n70 nl20 n21 wd22 g23 nl26 n27 wd28 g29 q32 n33 q36 n37 nl49 n50 wd51 g52 nl55 n56 wd57 g58 q61 n62 q65 n66) else (bif (decide (((Sl.len (Cav.slices c)) * 56) ≤ 140737488355328)) then (L10x1 env F c l n d F q40 n41 q69 n70 (0 : Int) nl20 n21 wd22 g23 nl26 n27 wd28 g29 q32 n33 q36 n37 nl49 n50 wd51 g52 nl55 n56 wd57 g58 q61 n62 q65 n66 (fun u71 => (eSlc (Sl.el (Cav.slices c) u71)))) else none))))))))))))))))))))) (fun p42 => (tkIfc p42 none fun t43 x44 => (bif (flatP (.iface t43 x44)) then none else none)))) else none))) else none) else none) else none) else none) else (bif (((Sl.len l) - (Int.toNat n)) == 0) then (bif (true || (Sl.nl l)) then (bif (decide ((0 : Int) ≤ n)) then (bif (decide (0 ≤ (Int.toNat n))) then (bif (decide ((Int.toNat n) ≤ (Sl.len l))) then (bif (Sl.nl l) then (tkOut (env.pf 42 [(.agg (eCav c)), (.row true 0 0 (fun u42 => []))]) none (fun v42 => (tkTup v42 none fun l43 => (tkCons l43 none fun v44 r45 => (tkAgg v44 none fun l46 => (tkCons l46 none fun v47 r48 => (tkRow v47 none fun nl49 n50 wd51 g52 => (tkCons r48 none fun v53 r54 => (tkRow v53 none fun nl55 n56 wd57 g58 => (tkCons r54 none fun v59 r60 => (tkInt v59 none fun q61 n62 => (tkCons r60 none fun v63 r64 => (tkInt v63 none fun q65 n66 => (tkNil r64 none ((tkCons r45 none fun v67 r68 => (tkInt v67 none fun q69 n70 => (tkNil r68 none ((bif (Sl.nl (Cav.slices c)) then (L10x0 env F c l n d F q40 n41 q69 n70 nl20 n21 wd22 g23 nl26 n27 wd28 g29 q32 n33 q36 n37 nl49 n50 wd51 g52 nl55 n56 wd57 g58 q61 n62 q65 n66) else (bif ((Sl.len (Cav.slices c)) == 0) then (L10x0 env F c l n d F q40 n41 q69 n70 nl20 n21 wd22 g23 nl26 n27 wd28 g29 q32 n33 q36 n37 nl49 n50 wd51 g52 nl55 n56 wd57 g58 q61 n62 q65 n66) else (bif (decide (((Sl.len (Cav.slices c)) * 56) ≤ 140737488355328)) then (L10x1 env F c l n d F q40 n41 q69 n70 (0 : Int) nl20 n21 wd22 g23 nl26 n27 wd28 g29 q32 n33 q36 n37 nl49 n50 wd51 g52 nl55 n56 wd57 g58 q61 n62 q65 n66 (fun u71 => (eSlc (Sl.el (Cav.slices c) u71)))) else none))))))))))))))))))))) (fun p42 => (tkIfc p42 none fun t43 x44 => (bif (flatP (.iface t43 x44)) then some (.pan (.iface t43 x44)) else none)))) else (bif (((Int.toNat n) - 0) == 0) then (tkOut (env.pf 42 [(.agg (eCav c)), (.row true 0 0 (fun u42 => []))]) none (fun v42 => (tkTup v42 none fun l43 => (tkCons l43 none fun v44 r45 => (tkAgg v44 none fun l46 => (tkCons l46 none fun v47 r48 => (tkRow v47 none fun nl49 n50 wd51 g52 => (tkCons r48 none fun v53 r54 => (tkRow v53 none fun nl55 n56 wd57 g58 => (tkCons r54 none fun v59 r60 => (tkInt v59 none fun q61 n62 => (tkCons r60 none fun v63 r64 => (tkInt v63 none fun q65 n66 => (tkNil r64 none ((tkCons r45 none fun v67 r68 => (tkInt v67 none fun q69 n70 => (tkNil r68 none ((bif (Sl.nl (Cav.slices c)) then (L10x0 env F c l n d F q40 n41 q69 n70 nl20 n21 wd22 g23 nl26 n27 wd28 g29 q32 n33 q36 n37 nl49 n50 wd51 g52 nl55 n56 wd57 g58 q61 n62 q65 n66) else (bif ((Sl.len (Cav.slices c)) == 0) then (L10x0 env F c l n d F q40 n41 q69 n70 nl20 n21 wd22 g23 nl26 n27 wd28 g29 q32 n33 q36 n37 nl49 n50 wd51 g52 nl55 n56 wd57 g58 q61 n62 q65 n66) else (bif (decide (((Sl.len (Cav.slices c)) * 56) ≤ 140737488355328)) then (L10x1 env F c l n d F q40 n41 q69 n70 (0 : Int) nl20 n21 wd22 g23 nl26 n27 wd28 g29 q32 n33 q36 n37 nl49 n50 wd51 g52 nl55 n56 wd57 g58 q61 n62 q65 n66 (fun u71 => (eSlc (Sl.el (Cav.slices c) u71)))) else none))))))))))))))))))))) (fun p42 => (tkIfc p42 none fun t43 x44 => (bif (flatP (.iface t43 x44)) then some (.pan (.iface t43 x44)) else none)))) else (bif (decide ((((Int.toNat n) - 0) * 32) ≤ 140737488355328)) then (tkOut (env.pf 42 [(.agg (eCav c)), (.row false ((Int.toNat n) - 0) 4 (fun u42 => (eStg (Sl.el l u42))))]) none (fun v42 => (tkTup v42 none fun l43 => (tkCons l43 none fun v44 r45 => (tkAgg v44 none fun l46 => (tkCons l46 none fun v47 r48 => (tkRow v47 none fun nl49 n50 wd51 g52 => (tkCons r48 none fun v53 r54 => (tkRow v53 none fun nl55 n56 wd57 g58 => (tkCons r54 none fun v59 r60 => (tkInt v59 none fun q61 n62 => (tkCons r60 none fun v63 r64 => (tkInt v63 none fun q65 n66 => (tkNil r64 none ((tkCons r45 none fun v67 r68 => (tkInt v67 none fun q69 n70 => (tkNil r68 none ((bif (Sl.nl (Cav.slices c)) then (L10x0 env F c l n d F q40 n41 q69 n70 nl20 n21 wd22 g23 nl26 n27 wd28 g29 q32 n33 q36 n37 nl49 n50 wd51 g52 nl55 n56 wd57 g58 q61 n62 q65 n66) else (bif ((Sl.len (Cav.slices c)) == 0) then (L10x0 env F c l n d F q40 n41 q69 n70 nl20 n21 wd22 g23 nl26 n27 wd28 g29 q32 n33 q36 n37 nl49 n50 wd51 g52 nl55 n56 wd57 g58 q61 n62 q65 n66) else (bif (decide (((Sl.len (Cav.slices c)) * 56) ≤ 140737488355328)) then (L10x1 env F c l n d F q40 n41 q69 n70 (0 : Int) nl20 n21 wd22 g23 nl26 n27 wd28 g29 q32 n33 q36 n37 nl49 n50 wd51 g52 nl55 n56 wd57 g58 q61 n62 q65 n66 (fun u71 => (eSlc (Sl.el (Cav.slices c) u71)))) else none))))))))))))))))))))) (fun p42 => (tkIfc p42 none fun t43 x44 => (bif (flatP (.iface t43 x44)) then none else none)))) else none))) else none) else none) else none) else none) else (bif (decide ((((Sl.len l) - (Int.toNat n)) * 32) ≤ 140737488355328)) then (bif (true || (Sl.nl l)) then (bif (decide ((0 : Int) ≤ n)) then (bif (decide (0 ≤ (Int.toNat n))) then (bif (decide ((Int.toNat n) ≤ (Sl.len l))) then (bif (Sl.nl l) then (tkOut (env.pf 42 [(.agg (eCav c)), (.row false ((Sl.len l) - (Int.toNat n)) 4 (fun u42 => (eStg (Sl.el l (u42 + (Int.toNat n))))))]) none (fun v42 => (tkTup v42 none fun l43 => (tkCons l43 none fun v44 r45 => (tkAgg v44 none fun l46 => (tkCons l46 none fun v47 r48 => (tkRow v47 none fun nl49 n50 wd51 g52 => (tkCons r48 none fun v53 r54 => (tkRow v53 none fun nl55 n56 wd57 g58 => (tkCons r54 none fun v59 r60 => (tkInt v59 none fun q61 n62 => (tkCons r60 none fun v63 r64 => (tkInt v63 none fun q65 n66 => (tkNil r64 none ((tkCons r45 none fun v67 r68 => (tkInt v67 none fun q69 n70 => (tkNil r68 none ((bif (Sl.nl (Cav.slices c)) then (L10x0 env F c l n d F q40 n41 q69 n70 nl20 n21 wd22 g23 nl26 n27 wd28 g29 q32 n33 q36 n37 nl49 n50 wd51 g52 nl55 n56 wd57 g58 q61 n62 q65 n66) else (bif ((Sl.len (Cav.slices c)) == 0) then (L10x0 env F c l n d F q40 n41 q69 n70 nl20 n21 wd22 g23 nl26 n27 wd28 g29 q32 n33 q36 n37 nl49 n50 wd51 g52 nl55 n56 wd57 g58 q61 n62 q65 n66) else (bif (decide (((Sl.len (Cav.slices c)) * 56) ≤ 140737488355328)) then (L10x1 env F c l n d F q40 n41 q69 n70 (0 : Int) nl20 n21 wd22 g23 nl26 n27 wd28 g29 q32 n33 q36 n37 nl49 n50 wd51 g52 nl55 n56 wd57 g58 q61 n62 q65 n66 (fun u71 => (eSlc (Sl.el (Cav.slices c) u71)))) else none))))))))))))))))))))) (fun p42 => (tkIfc p42 none fun t43 x44 => (bif (flatP (.iface t43 x44)) then none else none)))) else (bif (((Int.toNat n) - 0) == 0) then (tkOut (env.pf 42 [(.agg (eCav c)), (.row false ((Sl.len l) - (Int.toNat n)) 4 (fun u42 => (eStg (Sl.el l (u42 + (Int.toNat n))))))]) none (fun v42 => (tkTup v42 none fun l43 => (tkCons l43 none fun v44 r45 => (tkAgg v44 none fun l46 => (tkCons l46 none fun v47 r48 => (tkRow v47 none fun nl49 n50 wd51 g52 => (tkCons r48 none fun v53 r54 => (tkRow v53 none fun nl55 n56 wd57 g58 => (tkCons r54 none fun v59 r60 => (tkInt v59 none fun q61 n62 => (tkCons r60 none fun v63 r64 => (tkInt v63 none fun q65 n66 => (tkNil r64 none ((tkCons r45 none fun v67 r68 => (tkInt v67 none fun q69 n70 => (tkNil r68 none ((bif (Sl.nl (Cav.slices c)) then (L10x0 env F c l n d F q40 n41 q69 n70 nl20 n21 wd22 g23 nl26 n27 wd28 g29 q32 n33 q36 n37 nl49 n50 wd51 g52 nl55 n56 wd57 g58 q61 n62 q65 n66) else (bif ((Sl.len (Cav.slices c)) == 0) then (L10x0 env F c l n d F q40 n41 q69 n70 nl20 n21 wd22 g23 nl26 n27 wd28 g29 q32 n33 q36 n37 nl49 n50 wd51 g52 nl55 n56 wd57 g58 q61 n62 q65 n66) else (bif (decide (((Sl.len (Cav.slices c)) * 56) ≤ 140737488355328)) then (L10x1 env F c l n d F q40 n41 q69 n70 (0 : Int) nl20 n21 wd22 g23 nl26 n27 wd28 g29 q32 n33 q36 n37 nl49 n50 wd51 g52 nl55 n56 wd57 g58 q61 n62 q65 n66 (fun u71 => (eSlc (Sl.el (Cav.slices c) u71)))) else none))))))))))))))))))))) (fun p42 => (tkIfc p42 none fun t43 x44 => (bif (flatP (.iface t43 x44)) then none else none)))) else (bif (decide (((((Sl.len l) - (Int.toNat n)) + ((Int.toNat n) - 0)) * 32) ≤ 140737488355328)) then (tkOut (env.pf 42 [(.agg (eCav c)), (.row false (((Sl.len l) - (Int.toNat n)) + ((Int.toNat n) - 0)) 4 (fun u42 => (appGet ((Sl.len l) - (Int.toNat n)) (fun u43 => (eStg (Sl.el l (u43 + (Int.toNat n))))) (fun u43 => (eStg (Sl.el l u43))) u42)))]) none (fun v42 => (tkTup v42 none fun l43 => (tkCons l43 none fun v44 r45 => (tkAgg v44 none fun l46 => (tkCons l46 none fun v47 r48 => (tkRow v47 none fun nl49 n50 wd51 g52 => (tkCons r48 none fun v53 r54 => (tkRow v53 none fun nl55 n56 wd57 g58 => (tkCons r54 none fun v59 r60 => (tkInt v59 none fun q61 n62 => (tkCons r60 none fun v63 r64 => (tkInt v63 none fun q65 n66 => (tkNil r64 none ((tkCons r45 none fun v67 r68 => (tkInt v67 none fun q69 n70 => (tkNil r68 none ((bif (Sl.nl (Cav.slices c)) then (L10x0 env F c l n d F q40 n41 q69 n70 nl20 n21 wd22 g23 nl26 n27 wd28 g29 q32 n33 q36 n37 nl49 n50 wd51 g52 nl55 n56 wd57 g58 q61 n62 q65 n66) else (bif ((Sl.len (Cav.slices c)) == 0) then (L10x0 env F c l n d F q40 n41 q69 n70 nl20 n21 wd22 g23 nl26 n27 wd28 g29 q32 n33 q36 n37 nl49 n50 wd51 g52 nl55 n56 wd57 g58 q61 n62 q65 n66) else (bif (decide (((Sl.len (Cav.slices c)) * 56) ≤ 140737488355328)) then (L10x1 env F c l n d F q40 n41 q69 n70 (0 : Int) nl20 n21 wd22 g23 nl26 n27 wd28 g29 q32 n33 q36 n37 nl49 n50 wd51 g52 nl55 n56 wd57 g58 q61 n62 q65 n66 (fun u71 => (eSlc (Sl.el (Cav.slices c) u71)))) else none))))))))))))))))))))) (fun p42 => (tkIfc p42 none fun t43 x44 => (bif (flatP (.iface t43 x44)) then none else none)))) else none))) else none) else none) else none) else none) else none))) else none) else none) else none) else none))))))))))))))))))) (fun p13 => (tkIfc p13 none fun t14 x15 => (bif (flatP (.iface t14 x15)) then some (.pan (.iface t14 x15)) else none))))))))))) (fun p11 => (tkIfc p11 none fun t12 x13 => (bif (flatP (.iface t12 x13)) then some (.pan (.iface t12 x13)) else none))))) else none))) (fun p8 => (tkIfc p8 none fun t9 x10 => (bif (flatP (.iface t9 x10)) then some (.pan (.iface t9 x10)) else none)))))))) (fun p6 => (tkIfc p6 none fun t7 x8 => (bif (flatP (.iface t7 x8)) then some (.pan (.iface t7 x8)) else none)))) := by kernel_rfl
theorem L10x0s (env : Env) (F : Nat) (c : Cav) (l : Sl Stg) (n : Int) (d : Int) (fu : Nat) (q0 : IntKind) (i1 : Int) (q2 : IntKind) (i3 : Int) (b4 : Bool) (k5 : Nat) (k6 : Nat) (g7 : Nat → List V) (b8 : Bool) (k9 : Nat) (k10 : Nat) (g11 : Nat → List V) (q12 : IntKind) (i13 : Int) (q14 : IntKind) (i15 : Int) (b16 : Bool) (k17 : Nat) (k18 : Nat) (g19 : Nat → List V) (b20 : Bool) (k21 : Nat) (k22 : Nat) (g23 : Nat → List V) (q24 : IntKind) (i25 : Int) (q26 : IntKind) (i27 : Int) : L10x0 env F c l n d (fu + 1) q0 i1 q2 i3 b4 k5 k6 g7 b8 k9 k10 g11 q12 i13 q14 i15 b16 k17 k18 g19 b20 k21 k22 g23 q24 i25 q26 i27 = (bif (decide ((0 : Int) < (((Sl.len (Cav.slices c)) : Nat) : Int))) then none else (tkOut (env.pf 42 [(.agg [(.row true 0 0 (fun u35 => [])), (i64 (Cav.hold c)), (i64 (Cav.oil c))]), (sl eStg 4 l)]) none (fun v35 => (tkTup v35 none fun l36 => (tkCons l36 none fun v37 r38 => (tkAgg v37 none fun l39 => (tkCons l39 none fun v40 r41 => (tkRow v40 none fun nl42 n43 wd44 g45 => (tkCons r41 none fun v46 r47 => (tkRow v46 none fun nl48 n49 wd50 g51 => (tkCons r47 none fun v52 r53 => (tkInt v52 none fun q54 n55 => (tkCons r53 none fun v56 r57 => (tkInt v56 none fun q58 n59 => (tkNil r57 none ((tkCons r38 none fun v60 r61 => (tkInt v60 none fun q62 n63 => (tkNil r61 none ((bif (Sl.nl l) then none else (bif ((Sl.len l) == 0) then none else (bif (decide (((Sl.len l) * 32) ≤ 140737488355328)) then (bif (decide ((0 : Int) ≤ n)) then (bif (decide (n < (((Sl.len l) : Nat) : Int))) then (bif (decide ((0 : Int) ≤ n)) then (bif (decide (n < (((Sl.len l) : Nat) : Int))) then (tkOut (env.pf 42 [(.agg (eCav c)), (.row false (Sl.len l) 4 (fun u64 => (updGet (fun u65 => (eStg (Sl.el l u65))) (Int.toNat n) 0 [(i64 (if (IntKind.wrap .i64 ((Stg.water (Sl.el l (Int.toNat n))) + d)) < (1000000 : Int) then (IntKind.wrap .i64 ((Stg.water (Sl.el l (Int.toNat n))) + d)) else (1000000 : Int)))] u64)))]) none (fun v64 => (tkTup v64 none fun l65 => (tkCons l65 none fun v66 r67 => (tkAgg v66 none fun l68 => (tkCons l68 none fun v69 r70 => (tkRow v69 none fun nl71 n72 wd73 g74 => (tkCons r70 none fun v75 r76 => (tkRow v75 none fun nl77 n78 wd79 g80 => (tkCons r76 none fun v81 r82 => (tkInt v81 none fun q83 n84 => (tkCons r82 none fun v85 r86 => (tkInt v85 none fun q87 n88 => (tkNil r86 none ((tkCons r67 none fun v89 r90 => (tkInt v89 none fun q91 n92 => (tkNil r90 none ((bif (decide (q0 = .i64)) then (bif (i1 != (0 : Int)) then some (.ret (.bool false)) else (bif (decide (q2 = .i64)) then (bif (i3 != (0 : Int)) then some (.ret (.bool false)) else (bif (decide (q62 = .i64)) then (bif (n63 != (0 : Int)) then some (.ret (.bool false)) else (bif (decide (q91 = .i64)) then (bif (n92 != (0 : Int)) then some (.ret (.bool false)) else (tkOut (env.pf 40 [(.row b4 k5 k6 g7), (.row b16 k17 k18 g19)]) none (fun v93 => (tkBool v93 none fun b94 => (bif (!b94) then some (.ret (.bool false)) else (tkOut (env.pf 40 [(.row b8 k9 k10 g11), (.row b20 k21 k22 g23)]) none (fun v95 => (tkBool v95 none fun b96 => (bif (!b96) then some (.ret (.bool false)) else (bif (decide (q12 = q24)) then (bif (decide (q14 = q26)) then (bif (!((i13 == i25) && ((i15 == i27) && true))) then some (.ret (.bool false)) else (bif (((k9 : Nat) : Int) != (((Sl.len (Cav.slices c)) : Nat) : Int)) then some (.ret (.bool false)) else (bif (((n49 : Nat) : Int) != (((Sl.len (Cav.slices c)) : Nat) : Int)) then some (.ret (.bool false)) else (bif (((n78 : Nat) : Int) != (((Sl.len (Cav.slices c)) : Nat) : Int)) then some (.ret (.bool false)) else (L10x2 env F c l n d F (0 : Int) b4 k5 k6 g7 b8 k9 k10 g11 q12 i13 q14 i15 nl42 n43 wd44 g45 nl48 n49 wd50 g51 q54 n55 q58 n59 nl71 n72 wd73 g74 nl77 n78 wd79 g80 q83 n84 q87 n88))))) else none) else none)))) (fun p95 => (tkIfc p95 none fun t96 x97 => (bif (flatP (.iface t96 x97)) then some (.pan (.iface t96 x97)) else none))))))) (fun p93 => (tkIfc p93 none fun t94 x95 => (bif (flatP (.iface t94 x95)) then some (.pan (.iface t94 x95)) else none))))) else none)) else none)) else none)) else none))))))))))))))))))) (fun p64 => (tkIfc p64 none fun t65 x66 => (bif (flatP (.iface t65 x66)) then some (.pan (.iface t65 x66)) else none)))) else none) else none) else none) else none) else none))))))))))))))))))))) (fun p35 => (tkIfc p35 none fun t36 x37 => (bif (flatP (.iface t36 x37)) then some (.pan (.iface t36 x37)) else none))))) := by kernel_rfl
theorem L10x1s (env : Env) (F : Nat) (c : Cav) (l : Sl Stg) (n : Int) (d : Int) (fu : Nat) (q0 : IntKind) (i1 : Int) (q2 : IntKind) (i3 : Int) (i4 : Int) (b5 : Bool) (k6 : Nat) (k7 : Nat) (g8 : Nat → List V) (b9 : Bool) (k10 : Nat) (k11 : Nat) (g12 : Nat → List V) (q13 : IntKind) (i14 : Int) (q15 : IntKind) (i16 : Int) (b17 : Bool) (k18 : Nat) (k19 : Nat) (g20 : Nat → List V) (b21 : Bool) (k22 : Nat) (k23 : Nat) (g24 : Nat → List V) (q25 : IntKind) (i26 : Int) (q27 : IntKind) (i28 : Int) (g29 : Nat → List V) : L10x1 env F c l n d (fu + 1) q0 i1 q2 i3 i4 b5 k6 k7 g8 b9 k10 k11 g12 q13 i14 q15 i16 b17 k18 k19 g20 b21 k22 k23 g24 q25 i26 q27 i28 g29 = (bif (decide (i4 < (((Sl.len (Cav.slices c)) : Nat) : Int))) then (bif (decide ((0 : Int) ≤ i4)) then (bif (decide (i4 < (((Sl.len (Cav.slices c)) : Nat) : Int))) then (tkCons (List.drop 1 (g29 (Int.toNat i4))) none fun v37 r38 => (tkInt v37 none fun q39 n40 => (tkCons (List.drop 1 (g29 (Int.toNat i4))) none fun v41 r42 => (tkInt v41 none fun q43 n44 => (tkCons (g29 (Int.toNat i4)) none fun v45 r46 => (tkInt v45 none fun q47 n48 => (bif (decide (q43 = q47)) then (bif (decide (q39 = .i64)) then (tkCons (List.drop 4 (updGet g29 (Int.toNat i4) 1 [(.int q39 (IntKind.wrap q39 (n40 - (if (IntKind.wrap q43 (n44 - n48)) < d then (IntKind.wrap q43 (n44 - n48)) else d))))] (Int.toNat i4))) none fun v49 r50 => (tkInt v49 none fun q51 n52 => (tkCons (List.drop 5 (updGet g29 (Int.toNat i4) 1 [(.int q39 (IntKind.wrap q39 (n40 - (if (IntKind.wrap q43 (n44 - n48)) < d then (IntKind.wrap q43 (n44 - n48)) else d))))] (Int.toNat i4))) none fun v53 r54 => (tkInt v53 none fun q55 n56 => (tkCons (List.drop 4 (updGet g29 (Int.toNat i4) 1 [(.int q39 (IntKind.wrap q39 (n40 - (if (IntKind.wrap q43 (n44 - n48)) < d then (IntKind.wrap q43 (n44 - n48)) else d))))] (Int.toNat i4))) none fun v57 r58 => (tkInt v57 none fun q59 n60 => (bif (decide (q55 = q59)) then (bif (decide (q51 = .i64)) then (L10x1 env F c l n d fu q0 i1 q2 i3 (IntKind.wrap .i64 (i4 + (1 : Int))) b5 k6 k7 g8 b9 k10 k11 g12 q13 i14 q15 i16 b17 k18 k19 g20 b21 k22 k23 g24 q25 i26 q27 i28 (updGet (updGet g29 (Int.toNat i4) 1 [(.int q39 (IntKind.wrap q39 (n40 - (if (IntKind.wrap q43 (n44 - n48)) < d then (IntKind.wrap q43 (n44 - n48)) else d))))]) (Int.toNat i4) 4 [(.int q51 (IntKind.wrap q51 (n52 + (if (IntKind.wrap q55 (n56 - n60)) < d then (IntKind.wrap q55 (n56 - n60)) else d))))])) else none) else none))))))) else none) else none))))))) else none) else none) else (tkOut (env.pf 42 [(.agg [(.row false (Sl.len (Cav.slices c)) 7 (fun u37 => (g29 u37))), (i64 (Cav.hold c)), (i64 (Cav.oil c))]), (sl eStg 4 l)]) none (fun v37 => (tkTup v37 none fun l38 => (tkCons l38 none fun v39 r40 => (tkAgg v39 none fun l41 => (tkCons l41 none fun v42 r43 => (tkRow v42 none fun nl44 n45 wd46 g47 => (tkCons r43 none fun v48 r49 => (tkRow v48 none fun nl50 n51 wd52 g53 => (tkCons r49 none fun v54 r55 => (tkInt v54 none fun q56 n57 => (tkCons r55 none fun v58 r59 => (tkInt v58 none fun q60 n61 => (tkNil r59 none ((tkCons r40 none fun v62 r63 => (tkInt v62 none fun q64 n65 => (tkNil r63 none ((bif (Sl.nl l) then none else (bif ((Sl.len l) == 0) then none else (bif (decide (((Sl.len l) * 32) ≤ 140737488355328)) then (bif (decide ((0 : Int) ≤ n)) then (bif (decide (n < (((Sl.len l) : Nat) : Int))) then (bif (decide ((0 : Int) ≤ n)) then (bif (decide (n < (((Sl.len l) : Nat) : Int))) then (tkOut (env.pf 42 [(.agg (eCav c)), (.row false (Sl.len l) 4 (fun u66 => (updGet (fun u67 => (eStg (Sl.el l u67))) (Int.toNat n) 0 [(i64 (if (IntKind.wrap .i64 ((Stg.water (Sl.el l (Int.toNat n))) + d)) < (1000000 : Int) then (IntKind.wrap .i64 ((Stg.water (Sl.el l (Int.toNat n))) + d)) else (1000000 : Int)))] u66)))]) none (fun v66 => (tkTup v66 none fun l67 => (tkCons l67 none fun v68 r69 => (tkAgg v68 none fun l70 => (tkCons l70 none fun v71 r72 => (tkRow v71 none fun nl73 n74 wd75 g76 => (tkCons r72 none fun v77 r78 => (tkRow v77 none fun nl79 n80 wd81 g82 => (tkCons r78 none fun v83 r84 => (tkInt v83 none fun q85 n86 => (tkCons r84 none fun v87 r88 => (tkInt v87 none fun q89 n90 => (tkNil r88 none ((tkCons r69 none fun v91 r92 => (tkInt v91 none fun q93 n94 => (tkNil r92 none ((bif (decide (q0 = .i64)) then (bif (i1 != (0 : Int)) then some (.ret (.bool false)) else (bif (decide (q2 = .i64)) then (bif (i3 != (0 : Int)) then some (.ret (.bool false)) else (bif (decide (q64 = .i64)) then (bif (n65 != (0 : Int)) then some (.ret (.bool false)) else (bif (decide (q93 = .i64)) then (bif (n94 != (0 : Int)) then some (.ret (.bool false)) else (tkOut (env.pf 40 [(.row b5 k6 k7 g8), (.row b17 k18 k19 g20)]) none (fun v95 => (tkBool v95 none fun b96 => (bif (!b96) then some (.ret (.bool false)) else (tkOut (env.pf 40 [(.row b9 k10 k11 g12), (.row b21 k22 k23 g24)]) none (fun v97 => (tkBool v97 none fun b98 => (bif (!b98) then some (.ret (.bool false)) else (bif (decide (q13 = q25)) then (bif (decide (q15 = q27)) then (bif (!((i14 == i26) && ((i16 == i28) && true))) then some (.ret (.bool false)) else (bif (((k10 : Nat) : Int) != (((Sl.len (Cav.slices c)) : Nat) : Int)) then some (.ret (.bool false)) else (bif (((n51 : Nat) : Int) != (((Sl.len (Cav.slices c)) : Nat) : Int)) then some (.ret (.bool false)) else (bif (((n80 : Nat) : Int) != (((Sl.len (Cav.slices c)) : Nat) : Int)) then some (.ret (.bool false)) else (L10x2 env F c l n d F (0 : Int) b5 k6 k7 g8 b9 k10 k11 g12 q13 i14 q15 i16 nl44 n45 wd46 g47 nl50 n51 wd52 g53 q56 n57 q60 n61 nl73 n74 wd75 g76 nl79 n80 wd81 g82 q85 n86 q89 n90))))) else none) else none)))) (fun p97 => (tkIfc p97 none fun t98 x99 => (bif (flatP (.iface t98 x99)) then some (.pan (.iface t98 x99)) else none))))))) (fun p95 => (tkIfc p95 none fun t96 x97 => (bif (flatP (.iface t96 x97)) then some (.pan (.iface t96 x97)) else none))))) else none)) else none)) else none)) else none))))))))))))))))))) (fun p66 => (tkIfc p66 none fun t67 x68 => (bif (flatP (.iface t67 x68)) then some (.pan (.iface t67 x68)) else none)))) else none) else none) else none) else none) else none))))))))))))))))))))) (fun p37 => (tkIfc p37 none fun t38 x39 => (bif (flatP (.iface t38 x39)) then some (.pan (.iface t38 x39)) else none))))) := by kernel_rfl
theorem L10x2s (env : Env) (F : Nat) (c : Cav) (l : Sl Stg) (n : Int) (d : Int) (fu : Nat) (i0 : Int) (b1 : Bool) (k2 : Nat) (k3 : Nat) (g4 : Nat → List V) (b5 : Bool) (k6 : Nat) (k7 : Nat) (g8 : Nat → List V) (q9 : IntKind) (i10 : Int) (q11 : IntKind) (i12 : Int) (b13 : Bool) (k14 : Nat) (k15 : Nat) (g16 : Nat → List V) (b17 : Bool) (k18 : Nat) (k19 : Nat) (g20 : Nat → List V) (q21 : IntKind) (i22 : Int) (q23 : IntKind) (i24 : Int) (b25 : Bool) (k26 : Nat) (k27 : Nat) (g28 : Nat → List V) (b29 : Bool) (k30 : Nat) (k31 : Nat) (g32 : Nat → List V) (q33 : IntKind) (i34 : Int) (q35 : IntKind) (i36 : Int) : L10x2 env F c l n d (fu + 1) i0 b1 k2 k3 g4 b5 k6 k7 g8 q9 i10 q11 i12 b13 k14 k15 g16 b17 k18 k19 g20 q21 i22 q23 i24 b25 k26 k27 g28 b29 k30 k31 g32 q33 i34 q35 i36 = (bif (decide (i0 < ((k6 : Nat) : Int))) then (bif (k19 == 2) then (bif (decide ((0 : Int) ≤ i0)) then (bif (decide (i0 < ((k18 : Nat) : Int))) then (tkCons (g20 (Int.toNat i0)) none fun v44 r45 => (tkInt v44 none fun q46 n47 => (bif (k7 == 2) then (bif (decide ((0 : Int) ≤ i0)) then (bif (decide (i0 < ((k6 : Nat) : Int))) then (tkCons (g8 (Int.toNat i0)) none fun v48 r49 => (tkInt v48 none fun q50 n51 => (bif (decide (q46 = q50)) then (bif (decide (n47 < n51)) then some (.ret (.bool false)) else (bif (k19 == 2) then (bif (decide ((0 : Int) ≤ i0)) then (bif (decide (i0 < ((k18 : Nat) : Int))) then (tkCons (List.drop 1 (g20 (Int.toNat i0))) none fun v52 r53 => (tkInt v52 none fun q54 n55 => (bif (k7 == 2) then (bif (decide ((0 : Int) ≤ i0)) then (bif (decide (i0 < ((k6 : Nat) : Int))) then (tkCons (List.drop 1 (g8 (Int.toNat i0))) none fun v56 r57 => (tkInt v56 none fun q58 n59 => (bif (decide (q54 = q58)) then (bif (decide (n55 > n59)) then some (.ret (.bool false)) else (bif (k31 == 2) then (bif (decide ((0 : Int) ≤ i0)) then (bif (decide (i0 < ((k30 : Nat) : Int))) then (tkCons (g32 (Int.toNat i0)) none fun v60 r61 => (tkInt v60 none fun q62 n63 => (bif (k7 == 2) then (bif (decide ((0 : Int) ≤ i0)) then (bif (decide (i0 < ((k6 : Nat) : Int))) then (tkCons (g8 (Int.toNat i0)) none fun v64 r65 => (tkInt v64 none fun q66 n67 => (bif (decide (q62 = q66)) then (bif (decide (n63 < n67)) then some (.ret (.bool false)) else (bif (k31 == 2) then (bif (decide ((0 : Int) ≤ i0)) then (bif (decide (i0 < ((k30 : Nat) : Int))) then (tkCons (List.drop 1 (g32 (Int.toNat i0))) none fun v68 r69 => (tkInt v68 none fun q70 n71 => (bif (k7 == 2) then (bif (decide ((0 : Int) ≤ i0)) then (bif (decide (i0 < ((k6 : Nat) : Int))) then (tkCons (List.drop 1 (g8 (Int.toNat i0))) none fun v72 r73 => (tkInt v72 none fun q74 n75 => (bif (decide (q70 = q74)) then (bif (decide (n71 < n75)) then some (.ret (.bool false)) else (L10x2 env F c l n d fu (IntKind.wrap .i64 (i0 + (1 : Int))) b1 k2 k3 g4 b5 k6 k7 g8 q9 i10 q11 i12 b13 k14 k15 g16 b17 k18 k19 g20 q21 i22 q23 i24 b25 k26 k27 g28 b29 k30 k31 g32 q33 i34 q35 i36)) else none))) else none) else none) else none))) else none) else none) else none)) else none))) else none) else none) else none))) else none) else none) else none)) else none))) else none) else none) else none))) else none) else none) else none)) else none))) else none) else none) else none))) else none) else none) else none) else (bif (decide (q21 = q9)) then (bif (decide (i22 ≥ i10)) then (bif (decide (q23 = q11)) then (bif (decide (i24 ≤ i12)) then (tkOut (env.pf 21 []) none (fun v44 => (tkBool v44 none fun b45 => some (.ret (.bool b45)))) (fun p44 => (tkIfc p44 none fun t45 x46 => (bif (flatP (.iface t45 x46)) then some (.pan (.iface t45 x46)) else none)))) else some (.ret (.bool false))) else none) else some (.ret (.bool false))) else none)) := by kernel_rfl
end Go.Sim.Le


namespace Go.Sim.Le
open Go.Proofs
theorem fitInt {k : IntKind} {c : V} (h : Fit (.int k) c) : ∃ n, c = .int k n ∧ k.min ≤ n ∧ n ≤ k.max := by
  cases h with
  | int h => exact ⟨_, rfl, h⟩
theorem fitL_nil {cs : List V} (h : FitL [] cs) : cs = [] := by
  have := h.1
  exact List.eq_nil_of_length_eq_zero this
theorem fitL_cons {s : Sh} {l : List Sh} {cs : List V} (h : FitL (s :: l) cs) : ∃ c cs', cs = c :: cs' ∧ Fit s c ∧ FitL l cs' := by
  obtain ⟨h1, h2⟩ := h
  cases cs with
  | nil => simp at h1
  | cons c cs' => exact ⟨c, cs', rfl, h2 0 s c rfl rfl, by simpa using h1, fun j s' c' g1 g2 => h2 (j + 1) s' c' (by simpa using g1) (by simpa using g2)⟩
theorem fitL_int {k : IntKind} {l : List Sh} {cs : List V} (h : FitL (.int k :: l) cs) : ∃ n cs', cs = .int k n :: cs' ∧ FitL l cs' := by
  obtain ⟨c, cs', rfl, h1, h2⟩ := fitL_cons h
  obtain ⟨n, rfl, _⟩ := fitInt h1
  exact ⟨n, cs', rfl, h2⟩
abbrev SlOk {α : Type} (s : Sl α) : Prop := s.len ≤ 140737488355328 ∧ (s.nl = true → s.len = 0)
theorem fitRow {α : Type} {e : α → List V} {P : α → Prop} {l : List Sh} (dec : ∀ cs, FitL l cs → ∃ a : α, cs = e a ∧ P a) {c : V} (h : Fit (.row l) c) : ∃ s : Sl α, c = sl e l.length s ∧ SlOk s ∧ ∀ i, P (s.el i) := by
  cases h with
  | row h hn hl hf =>
    rename_i nl len get
    have hx : ∀ i, ∃ a : α, get i = e a ∧ P a := fun i => dec _ ⟨hl i, hf i⟩
    refine ⟨⟨nl, len, fun i => (hx i).choose⟩, ?_, ⟨h, hn⟩, fun i => (hx i).choose_spec.2⟩
    show V.row nl len l.length get = V.row nl len l.length fun i => e (hx i).choose
    congr 1
    funext i
    exact (hx i).choose_spec.1
theorem fitL_row {α : Type} {e : α → List V} {P : α → Prop} {l r : List Sh} (dec : ∀ cs, FitL l cs → ∃ a : α, cs = e a ∧ P a) {cs : List V} (h : FitL (.row l :: r) cs) : ∃ (s : Sl α) (cs' : List V), cs = sl e l.length s :: cs' ∧ SlOk s ∧ (∀ i, P (s.el i)) ∧ FitL r cs' := by
  obtain ⟨c, cs', rfl, h1, h2⟩ := fitL_cons h
  obtain ⟨s, rfl, h3, h4⟩ := fitRow dec h1
  exact ⟨s, cs', rfl, h3, h4, h2⟩
abbrev i8 : Sh := .int .i64
abbrev shSlc : List Sh := [i8, i8, i8, i8, i8, i8, i8]
abbrev shCav : List Sh := [.row shSlc, i8, i8]
abbrev shStg : List Sh := [i8, i8, i8, i8]
abbrev shTruth : List Sh := [.row [i8], .row [.row [i8]]]
theorem decSlc (cs : List V) (h : FitL shSlc cs) : ∃ c : Slc, cs = eSlc c ∧ True := by
  obtain ⟨a0, _, rfl, h1⟩ := fitL_int h
  obtain ⟨a1, _, rfl, h2⟩ := fitL_int h1
  obtain ⟨a2, _, rfl, h3⟩ := fitL_int h2
  obtain ⟨a3, _, rfl, h4⟩ := fitL_int h3
  obtain ⟨a4, _, rfl, h5⟩ := fitL_int h4
  obtain ⟨a5, _, rfl, h6⟩ := fitL_int h5
  obtain ⟨a6, _, rfl, h7⟩ := fitL_int h6
  obtain rfl := fitL_nil h7
  exact ⟨⟨⟨a0, a1⟩, a2, a3, ⟨a4, a5⟩, a6⟩, rfl, trivial⟩
theorem decStg (cs : List V) (h : FitL shStg cs) : ∃ c : Stg, cs = eStg c ∧ True := by
  obtain ⟨a0, _, rfl, h1⟩ := fitL_int h
  obtain ⟨a1, _, rfl, h2⟩ := fitL_int h1
  obtain ⟨a2, _, rfl, h3⟩ := fitL_int h2
  obtain ⟨a3, _, rfl, h4⟩ := fitL_int h3
  obtain rfl := fitL_nil h4
  exact ⟨⟨a0, a1, a2, a3⟩, rfl, trivial⟩
theorem decCav (cs : List V) (h : FitL shCav cs) : ∃ c : Cav, cs = eCav c ∧ SlOk c.slices := by
  obtain ⟨a, _, rfl, h0, _, h1⟩ := fitL_row decSlc h
  obtain ⟨b, _, rfl, h2⟩ := fitL_int h1
  obtain ⟨d, _, rfl, h3⟩ := fitL_int h2
  obtain rfl := fitL_nil h3
  exact ⟨⟨a, b, d⟩, rfl, h0⟩
theorem own : ownKnob Try.prog.godebug = none := by kernel_rfl
end Go.Sim.Le


namespace Go.Sim.Le
open Go.Proofs
variable (F d : Nat)
theorem s19 (c : Cav) : (E F (d + 1)).pf 19 [.agg (eCav c)] = some (.ret (.bool (decide (c.slices.len ≤ 20)))) := by
  rw [E_pf, t19]
  refine b3 (b2 ?_)
  simp only [decide_eq_true_iff]
  omega
theorem z0' {α : Type} (a b : α) : (bif ((0 : Int) != 0) then a else b) = b := rfl
theorem lenB {n : Nat} (h : n ≤ 140737488355328) : n < Big := by show n < 4611686018427387904; omega
end Go.Sim.Le


namespace Go.Sim.Le
open Go.Proofs
variable (F d : Nat)
theorem s20 (c : Cav) (l : Sl Stg) (x y z : Int) (hC : c.slices.len < Big) (hCF : c.slices.len < F) (hB : l.len < Big) (hF : l.len < F) : (E F (d + 5)).pf 20 [.agg (eCav c), sl eStg 4 l, .int .i64 x, .int .i64 y, .int .i64 z] = some (.ret (.bool (decide (errP c l true ≠ 0 ∨ (c.slices.len : Int) ≤ x ∧ c.hold ≤ y ∧ (l.len : Int) ≤ z)))) := by
  rw [E_pf, t20]
  simp only [s23 F d c l true hC hCF hB hF, tkOut_ret, tkInt_i, decide_true, pT]
  by_cases h0 : errP c l true = 0
  · rw [h0, show ((0 : Int) != 0) = false from rfl, pF]
    by_cases h1 : (c.slices.len : Int) ≤ x
    · by_cases h2 : c.hold ≤ y
      · rw [decide_eq_true h1, decide_eq_true h2, pT, pT]
        exact b3 (b2 (by simp [h1, h2]))
      · rw [decide_eq_true h1, decide_eq_false h2, pT, pF]
        exact b3 (b2 (by simp [h2]))
    · rw [decide_eq_false h1, pF]
      exact b3 (b2 (by simp [h1]))
  · rw [show (errP c l true != 0) = true by simpa using h0, pT]
    exact b3 (b2 (by simp [h0]))
theorem s3 (c : Cav) (l : Sl Stg) (w : Sl Int) (n : Int) (hC : c.slices.len < Big) (hCF : c.slices.len < F) (hB : l.len < Big) (hLF : l.len < F) (hW : w.len < Big) (hWF : w.len < F) (hF : 1000000000 < F) : (E F (d + 20)).pf 3 [.agg (eCav c), sl eStg 4 l, sl eInt 1 w, .int .i64 n] = some (.ret (.bool true)) := by
  have q19 : (E F (d + 19)).pf 19 [.agg (eCav c)] = _ := s19 F (d + 18) c
  have q21 : (E F (d + 19)).pf 21 [] = _ := s21 F d hF
  have q20 : (E F (d + 19)).pf 20 [.agg (eCav c), sl eStg 4 l, .int .i64 5, .int .i64 60, .int .i64 4] = _ := s20 F (d + 14) c l 5 60 4 hC hCF hB hLF
  have q22 : (E F (d + 19)).pf 22 [.agg (eCav c), sl eStg 4 l, sl eInt 1 w, .int .i64 n] = _ := s22 F (d + 4) c l w n hC hCF hB hLF hW hWF (by omega)
  have q24 : (E F (d + 19)).pf 24 [.agg (eCav c), sl eInt 1 w, .int .i64 n] = _ := s24 F (d + 17) c w n hC hW hWF
  have q23 : (E F (d + 19)).pf 23 [.agg (eCav c), sl eStg 4 l, .bool (decide (WtOk c w n))] = _ := s23 F (d + 15) c l (decide (WtOk c w n)) hC hCF hB hLF
  rw [E_pf, t3]
  by_cases h0 : c.slices.len ≤ 20
  · rw [decide_eq_true h0] at q19
    by_cases h1 : (l.len : Int) > 20
    · simp only [q19, q21, tkOut_ret, tkBool_b, Bool.not_true, pF, decide_eq_true h1, pT]
    by_cases h2 : (w.len : Int) > 20
    · simp only [q19, q21, tkOut_ret, tkBool_b, Bool.not_true, pF, decide_eq_false h1, decide_eq_true h2, pT]
    simp only [q19, q20, tkOut_ret, tkBool_b, Bool.not_true, pF, decide_eq_false h1, decide_eq_false h2]
    generalize decide (errP c l true ≠ 0 ∨ (c.slices.len : Int) ≤ 5 ∧ c.hold ≤ 60 ∧ (l.len : Int) ≤ 4) = e
    cases e with
    | false => simp only [q21, tkOut_ret, tkBool_b, Bool.not_false, pT]
    | true =>
      by_cases h3 : errP c l (decide (WtOk c w n)) = 0
      · obtain ⟨h8, hc, hl, hw⟩ := errP_0.1 h3
        have hw' : WtOk c w n := of_decide_eq_true hw
        have hm : MeaOk c ⟨w, n⟩ := ⟨hw'.2.1, fun i hi => hw'.1 i (by rw [hw'.2.1]; exact hi), hw'.2.2.1, hw'.2.2.2⟩
        have q25 : (E F (d + 19)).pf 25 [.agg (eCav c), sl eStg 4 l, sl eInt 1 w, .int .i64 n] = _ := s25 F (d + 14) hc hm l (by omega) hl (by omega)
        rw [if_pos h3] at q22
        rw [h3] at q23
        simp only [q21, q22, q23, q24, q25, tkOut_ret, tkBool_b, tkTup_t, tkAgg_a, tkCons_c, tkInt_i, tkNil_n, Bool.not_true, pF, decide_true, pT, z0', beq_self_eq_true, Bool.and_self]
      · rw [if_neg h3] at q22
        have e1 : (errP c l (decide (WtOk c w n)) != 0) = true := by simpa using h3
        simp only [q21, q22, q23, q24, tkOut_ret, tkBool_b, tkTup_t, tkAgg_a, tkCons_c, tkInt_i, tkNil_n, Bool.not_true, pF, decide_true, pT, e1, beq_self_eq_true, Bool.and_self]
  · rw [decide_eq_false h0] at q19
    simp only [q19, q21, tkOut_ret, tkBool_b, Bool.not_false, pT]
end Go.Sim.Le


namespace Go.Sim.Le
open Go.Proofs
variable (F d : Nat)
def oneW (n u : Nat) : Int := if u = n then 1 else 0
def negW (q u : Nat) : Int := if u < q then -1 else 0
section
variable {c : Cav} (hc : CavOk c) (l : Sl Stg) (hL : l.len ≤ 300) (hs : ∀ i, i < l.len → StgOk c.slices.len (l.el i)) (hF : 400 < F)
include hc hL hs hF
def upW (b q u : Nat) : Int := if b ≤ u ∧ u < q then 1 else 0
end
end Go.Sim.Le


namespace Go.Sim.Le
open Go.Proofs
abbrev TruthOk (c : Cav) (n : Nat) (t : Truth) : Prop := t.vols.len = c.slices.len ∧ t.rates.len = n ∧ (∀ i, i < t.vols.len → (c.slices.el i).vol.lo ≤ t.vols.el i ∧ t.vols.el i ≤ (c.slices.el i).vol.hi) ∧
  ∀ k, k < t.rates.len → (t.rates.el k).len = c.slices.len ∧ ∀ i, i < c.slices.len → (c.slices.el i).rate.lo ≤ (t.rates.el k).el i ∧ (t.rates.el k).el i ≤ (c.slices.el i).rate.hi
variable (F d : Nat)
section
variable (c : Cav) (l : Sl Stg) (t : Truth) (hcl : c.slices.len < Big) (htl : t.rates.len < Big) (hCF : c.slices.len < F) (hTF : t.rates.len < F)
def rateB (k i : Nat) : Bool := decide ((c.slices.el i).rate.lo ≤ (t.rates.el k).el i ∧ (t.rates.el k).el i ≤ (c.slices.el i).rate.hi)
def rowB (k : Nat) : Bool := decide ((t.rates.el k).len = c.slices.len) && allF (rateB c t k) c.slices.len 0
include hcl htl hCF hTF
end
end Go.Sim.Le


namespace Go.Sim.Le
open Go.Proofs
abbrev wK (t : Truth) (j : Nat) : Nat → Int := (t.rates.el j).el
abbrev opnF (c : Cav) (i : Nat) : Int := (c.slices.el i).opn
abbrev fallF (c : Cav) (i : Nat) : Int := (c.slices.el i).fall
def volS (c : Cav) (l : Nat → Stg) (t : Truth) : Nat → Nat → Int
  | 0 => t.vols.el
  | j + 1 => fun i => volS c l t j i + opnF c i * (takeRow c (l j) (wK t j) (pathN (l j)) i * (l j).water)
def tkE (c : Cav) (l : Nat → Stg) (t : Truth) (j : Nat) : Int × Int := tkT c (l j) (wK t j) (pathN (l j))
def saltP (c : Cav) (l : Nat → Stg) (t : Truth) : Nat → Int
  | 0 => 0
  | j + 1 => saltP c l t j + (l j).water * (tkE c l t j).1
def sumpS (c : Cav) (l : Nat → Stg) (t : Truth) : Nat → Int
  | 0 => 0
  | j + 1 => sumpS c l t j + (l j).water * pathSum c (l j) (wK t j) (fallF c) (pathN (l j))
def brineS (c : Cav) (l : Nat → Stg) (t : Truth) : Nat → Int
  | 0 => 0
  | j + 1 => brineS c l t j + (1000000 * (l j).water - (l j).water * (tkE c l t j).2)
def outS (c : Cav) (l : Nat → Stg) (t : Truth) : Nat → Int
  | 0 => 0
  | j + 1 => outS c l t j + (1000000 * ((l j).water * (tkE c l t j).1) - c.hold * ((l j).water * (tkE c l t j).2))
def endV (c : Cav) (l : Nat → Stg) (t : Truth) (n : Nat) : List V := [sl eInt 1 ⟨false, c.slices.len, volS c l t n⟩, .int .i64 (sumpS c l t n), .int .i64 (saltP c l t n), .int .i64 (brineS c l t n), .int .i64 (outS c l t n)]
section
variable {c : Cav} (hc : CavOk c) {s : Stg} (hs : StgOk c.slices.len s) (w : Nat → Int) (hw : RatesOk c w)
include hc hs hw
end
theorem mulnn {a b x y : Int} (h1 : 0 ≤ a) (h2 : a ≤ x) (h3 : 0 ≤ b) (h4 : b ≤ y) : 0 ≤ a * b ∧ a * b ≤ x * y := ⟨Int.mul_nonneg h1 h3, Int.mul_le_mul h2 h4 h3 (by omega)⟩
section
variable {c : Cav} (hc : CavOk c) {n : Nat} {l : Nat → Stg} (hl : ∀ i, i < n → StgOk c.slices.len (l i)) {t : Truth} (ht : TruthOk c n t)
include hc hl ht
end
variable (F d : Nat)
section
variable {c : Cav} (hc : CavOk c) {l : Sl Stg} (hL : l.len ≤ 300) (hl : ∀ i, i < l.len → StgOk c.slices.len (l.el i)) {t : Truth} (ht : TruthOk c l.len t) (hF : 400 < F)
include hc hL hl ht hF
end
end Go.Sim.Le


namespace Go.Sim.Le
open Go.Proofs
variable (F d : Nat)
section
variable {c : Cav} (hc : CavOk c) {l : Sl Stg} (hL : l.len ≤ 300) (hl : ∀ i, i < l.len → StgOk c.slices.len (l.el i)) {t : Truth} (ht : TruthOk c l.len t) (hF : 400 < F)
include hc hL hl ht hF
end
end Go.Sim.Le


namespace Go.Sim.Le
open Go.Proofs
variable (F d : Nat)
end Go.Sim.Le


namespace Go.Sim.Le
open Go.Proofs
def watT (l : Nat → Stg) : Nat → Int
  | 0 => 0
  | j + 1 => watT l j + (l j).water
def roomS (c : Cav) (l : Nat → Stg) (t : Truth) : Nat → Int
  | 0 => 0
  | j + 1 => roomS c l t j + (l j).water * (tkE c l t j).2
section
variable {c : Cav} (hc : CavOk c) {n : Nat} {l : Nat → Stg} (hl : ∀ i, i < n → StgOk c.slices.len (l i)) {t : Truth} (ht : TruthOk c n t)
include hc hl ht
end
variable (F d : Nat)
section
variable {c : Cav} (hc : CavOk c) {l : Sl Stg} (hL : l.len ≤ 8) (hl : ∀ i, i < l.len → StgOk c.slices.len (l.el i)) {t : Truth} (ht : TruthOk c l.len t) (hF : 1000000000 < F)
include hc hL hl ht hF
end
end Go.Sim.Le


namespace Go.Sim.Le
open Go.Proofs
variable (F d : Nat)
end Go.Sim.Le


namespace Go.Sim.Le
open Go.Proofs
def saltS (c : Cav) (l : Nat → Stg) : Nat → Nat → Span
  | 0, _ => ⟨0, 0⟩
  | j + 1, k => addS (saltS c l j k) (timesS (rtRow c (l j) (pathN (l j)) k) (l j).water)
def volK (c : Cav) (l : Nat → Stg) (n k : Nat) : Span := addS (c.slices.el k).vol (timesS (saltS c l n k) (c.slices.el k).opn)
section
variable {c : Cav} (hc : CavOk c) {l : Nat → Stg} {n : Nat} (hl : ∀ i, i < n → StgOk c.slices.len (l i))
include hc hl
theorem salt_step {j : Nat} (hj : j < n) (k : Nat) : (0 ≤ (l j).water * (rtRow c (l j) (pathN (l j)) k).lo ∧ (l j).water * (rtRow c (l j) (pathN (l j)) k).lo ≤ (l j).water * (rtRow c (l j) (pathN (l j)) k).hi ∧ (l j).water * (rtRow c (l j) (pathN (l j)) k).hi ≤ 300000000) ∧ timesS (rtRow c (l j) (pathN (l j)) k) (l j).water = ⟨(l j).water * (rtRow c (l j) (pathN (l j)) k).lo, (l j).water * (rtRow c (l j) (pathN (l j)) k).hi⟩ := by
  have hs := hl j hj
  have hr := rtRow_in hc hs (pathN (l j)) (Nat.le_refl _) k
  have hwa := hs.1
  have m1 := mulnn (a := (l j).water) (b := (rtRow c (l j) (pathN (l j)) k).hi) (x := 1000000) (y := 300) (by omega) (by omega) (by omega) (by omega)
  have m2 := Int.mul_le_mul_of_nonneg_left hr.2.1 (show 0 ≤ (l j).water by omega)
  have m3 : 0 ≤ (l j).water * (rtRow c (l j) (pathN (l j)) k).lo := Int.mul_nonneg (by omega) (by omega)
  refine ⟨by omega, ?_⟩
  unfold timesS
  rw [if_neg (by omega)]
theorem salt_in (k : Nat) : ∀ j, j ≤ n → 0 ≤ (saltS c l j k).lo ∧ (saltS c l j k).lo ≤ (saltS c l j k).hi ∧ (saltS c l j k).hi ≤ 300000000 * j
  | 0, _ => by simp [saltS]
  | j + 1, h => by
    have i := salt_in k j (by omega)
    have hs := salt_step hc hl (j := j) (by omega) k
    simp only [saltS]
    rw [hs.2]
    simp only [addS]
    omega
theorem volK_in (h8 : n ≤ 8) {k : Nat} (hk : k < c.slices.len) : timesS (saltS c l n k) (c.slices.el k).opn = ⟨(c.slices.el k).opn * (saltS c l n k).lo, (c.slices.el k).opn * (saltS c l n k).hi⟩ ∧ 0 ≤ (c.slices.el k).opn * (saltS c l n k).lo ∧ (c.slices.el k).opn * (saltS c l n k).lo ≤ (c.slices.el k).opn * (saltS c l n k).hi ∧ (c.slices.el k).opn * (saltS c l n k).hi ≤ 7200000000000 := by
  have i := salt_in hc hl k n (Nat.le_refl _)
  have ho : 1000 ≤ (c.slices.el k).opn ∧ (c.slices.el k).opn ≤ 3000 := (hc.2.2.2 k hk).2.1
  have m1 := mulnn (a := (c.slices.el k).opn) (b := (saltS c l n k).hi) (x := 3000) (y := 2400000000) (by omega) (by omega) (by omega) (by omega)
  have m2 := Int.mul_le_mul_of_nonneg_left i.2.1 (show 0 ≤ (c.slices.el k).opn by omega)
  have m3 : 0 ≤ (c.slices.el k).opn * (saltS c l n k).lo := Int.mul_nonneg (by omega) (by omega)
  refine ⟨?_, by omega⟩
  unfold timesS
  rw [if_neg (by omega)]
end
def saltSl (c : Cav) (l : Nat → Stg) (n : Nat) : Sl Span := ⟨false, c.slices.len, saltS c l n⟩
variable (F d : Nat)
section
variable {c : Cav} (hc : CavOk c) {l : Sl Stg} (h8 : l.len ≤ 8) (hl : ∀ i, i < l.len → StgOk c.slices.len (l.el i)) (hF : 400 < F)
include hc h8 hl hF
theorem l84x1 (j m0 : Nat) (hj : j < l.len) : ∀ r k fu, k + r = c.slices.len → r < fu →
    L84x1 (E F (d + 2)) F c l m0 fu j false c.slices.len 2 (fun i => eSpan (rtRow c (l.el j) (pathN (l.el j)) i)) c.slices.len k (fun i => eSpan (if i < k then saltS c l.el (j + 1) i else saltS c l.el j i)) (l.el j).water (l.el j).into (l.el j).out (l.el j).blanket
      = L84x0 (E F (d + 2)) F c l m0 ((j + 1 : Nat) : Int) (fun i => eSpan (if i < c.slices.len then saltS c l.el (j + 1) i else saltS c l.el j i)) := by
  have hcl := hc.1
  intro r
  induction r with
  | zero =>
    intro k fu h hf
    obtain ⟨fu, rfl⟩ : ∃ k, fu = k + 1 := ⟨fu - 1, by omega⟩
    rw [L84x1s, decide_eq_false (by omega), pF, wrS (by omega), show k = c.slices.len by omega]
  | succ r ih =>
    intro k fu h hf
    obtain ⟨fu, rfl⟩ : ∃ k, fu = k + 1 := ⟨fu - 1, by omega⟩
    have hst := salt_step hc hl hj k
    have hs := salt_in hc hl k j (by omega)
    have e3 := upd_span (fun i => if i < k then saltS c l.el (j + 1) i else saltS c l.el j i) k (addS (saltS c l.el j k) (timesS (rtRow c (l.el j) (pathN (l.el j)) k) (l.el j).water))
    have e4 : (fun i => eSpan (if i = k then addS (saltS c l.el j k) (timesS (rtRow c (l.el j) (pathN (l.el j)) k) (l.el j).water) else if i < k then saltS c l.el (j + 1) i else saltS c l.el j i)) = fun i => eSpan (if i < k + 1 then saltS c l.el (j + 1) i else saltS c l.el j i) := by
      funext i
      refine congrArg eSpan ?_
      by_cases h1 : i = k
      · subst h1; rw [if_pos rfl, if_pos (by omega)]; rfl
      · rw [if_neg h1]
        by_cases h2 : i < k
        · rw [if_pos h2, if_pos (by omega)]
        · rw [if_neg h2, if_neg (by omega)]
    rw [e4] at e3
    have q86 : (E F (d + 2)).pf 86 [.agg [.int .i64 (rtRow c (l.el j) (pathN (l.el j)) k).lo, .int .i64 (rtRow c (l.el j) (pathN (l.el j)) k).hi], .int .i64 (l.el j).water] = _ := s86 F (d + 1) (rtRow c (l.el j) (pathN (l.el j)) k) (l.el j).water (by constructor <;> omega) (by constructor <;> omega)
    have q85 := s85 F (d + 1) (saltS c l.el j k) (timesS (rtRow c (l.el j) (pathN (l.el j)) k) (l.el j).water) (by omega) (by constructor <;> omega) (by constructor <;> omega) (by rw [hst.2]; constructor <;> simp only <;> omega) (by rw [hst.2]; constructor <;> simp only <;> omega)
    rw [show d + 1 + 1 = d + 2 from rfl] at q85
    rw [L84x1s]
    simp (disch := omega) only [decide_eq_true, Int.toNat_natCast, pT, show ((2 : Nat) == 2) = true from rfl, List.take, List.length, show ((0 + 1 + 1 : Nat) == 2) = true from rfl, tkCons_c, tkInt_i, tkNil_n, if_neg (Nat.lt_irrefl k), q86, tkOut_ret, tkAgg_a]
    rw [q85]
    simp only [tkOut_ret, tkAgg_a, tkCons_c, tkInt_i, tkNil_n]
    rw [wrS (by omega)]
    simp only [eSpan] at e3
    rw [e3]
    exact ih (k + 1) fu (by omega) (by omega)
theorem l84x0 : ∀ r j fu (g : Nat → Span), j + r = l.len → r < fu → (∀ i, i < c.slices.len → g i = saltS c l.el j i) → (∀ i, ¬ i < c.slices.len → g i = saltS c l.el j i) →
    L84x0 (E F (d + 2)) F c l fu j (fun i => eSpan (g i)) = some (.ret (sl eSpan 2 (saltSl c l.el l.len))) := by
  have hcl := hc.1
  intro r
  induction r with
  | zero =>
    intro j fu g h hf hg hg2
    obtain ⟨fu, rfl⟩ : ∃ k, fu = k + 1 := ⟨fu - 1, by omega⟩
    have e : g = saltS c l.el l.len := by
      funext i
      rw [show l.len = j by omega]
      by_cases h : i < c.slices.len
      · exact hg i h
      · exact hg2 i h
    rw [L84x0s, decide_eq_false (by omega), pF, e]
    simp only [Int.toNat_natCast]
    rfl
  | succ r ih =>
    intro j fu g h hf hg hg2
    obtain ⟨fu, rfl⟩ : ∃ k, fu = k + 1 := ⟨fu - 1, by omega⟩
    have e : g = fun i => if i < 0 then saltS c l.el (j + 1) i else saltS c l.el j i := by
      funext i
      rw [if_neg (by omega)]
      by_cases h : i < c.slices.len
      · exact hg i h
      · exact hg2 i h
    have q82 : (E F (d + 2)).pf 82 [.agg (eCav c), .agg (eStg (l.el j))] = _ := s82 F d c hc (l.el j) (hl j (by omega)) (by omega)
    have e2 := l84x1 F d hc h8 hl hF j fu (by omega) c.slices.len 0 F (by omega) (by omega)
    rw [L84x0s]
    simp (disch := omega) only [decide_eq_true, Int.toNat_natCast, pT, q82, tkOut_ret, sl, rateSl, tkRow_r]
    rw [e]
    refine Eq.trans e2 ?_
    refine ih (j + 1) fu (fun i => if i < c.slices.len then saltS c l.el (j + 1) i else saltS c l.el j i) (by omega) (by omega) (fun i hi => if_pos hi) fun i hi => ?_
    rw [if_neg hi]
    have hz : ∀ j, j ≤ l.len → saltS c l.el j i = ⟨0, 0⟩ := by
      intro j
      induction j with
      | zero => intro _; rfl
      | succ j ih =>
        intro h
        have hr : ∀ k, k ≤ pathN (l.el j) → rtRow c (l.el j) k i = ⟨0, 0⟩ := by
          intro k
          induction k with
          | zero => intro _; rfl
          | succ k ih =>
            intro h2
            have hin := pathAt_in (hl j (by omega)) (k := k) (by omega)
            simp only [rtRow]
            rw [if_neg (by omega)]
            exact ih (by omega)
        simp only [saltS]
        rw [ih (by omega), hr _ (Nat.le_refl _)]
        simp [timesS, addS]
    rw [hz _ (by omega), hz _ (by omega)]
theorem s84 : (E F (d + 3)).pf 84 [.agg (eCav c), sl eStg 4 l] = some (.ret (sl eSpan 2 (saltSl c l.el l.len))) := by
  have hcl := hc.1
  rw [E_pf, t84]
  simp (disch := omega) only [decide_eq_true, decide_true, pT]
  exact l84x0 F d hc h8 hl hF l.len 0 F (fun _ => ⟨0, 0⟩) (by omega) (by omega) (fun _ _ => rfl) fun _ _ => rfl
theorem l42 (p : Span) : ∀ r k fu, k + 1 + r = c.slices.len → r < fu →
    L42x1 (E F (d + 14)) F c l fu ((k + 1 : Nat) : Int) false c.slices.len 2 (fun i => eSpan (saltS c l.el l.len i)) (k + 1) .i64 p.lo .i64 p.hi (k + 1) (gl eSpan ⟨0, 0⟩ (tabL (volK c l.el l.len) (k + 1)))
      = some (.ret (.tup [.agg [sl eSpan 2 (saltSl c l.el l.len), sl eSpan 2 (tabP (volK c l.el l.len) c.slices.len), .int .i64 p.lo, .int .i64 p.hi], .int .i64 0])) := by
  have hcl := hc.1
  intro r
  induction r with
  | zero =>
    intro k fu h hf
    obtain ⟨fu, rfl⟩ : ∃ k, fu = k + 1 := ⟨fu - 1, by omega⟩
    rw [L42x1s, decide_eq_false (by omega), pF, show k + 1 = c.slices.len by omega]
    rfl
  | succ r ih =>
    intro k fu h hf
    obtain ⟨fu, rfl⟩ : ∃ k, fu = k + 1 := ⟨fu - 1, by omega⟩
    have hv := volK_in hc hl h8 (k := k + 1) (by omega)
    have hvo : SpanIn (c.slices.el (k + 1)).vol 0 10000000000000 := (hc.2.2.2 (k + 1) (by omega)).1
    unfold SpanIn at hvo
    have q86 : (E F (d + 14)).pf 86 [.agg [.int .i64 (saltS c l.el l.len (k + 1)).lo, .int .i64 (saltS c l.el l.len (k + 1)).hi], .int .i64 (c.slices.el (k + 1)).opn] = _ := s86 F (d + 13) (saltS c l.el l.len (k + 1)) (c.slices.el (k + 1)).opn (by constructor <;> omega) (by constructor <;> omega)
    have q85 := s85 F (d + 13) (c.slices.el (k + 1)).vol (timesS (saltS c l.el l.len (k + 1)) (c.slices.el (k + 1)).opn) (by omega) (by constructor <;> omega) (by constructor <;> omega) (by rw [hv.1]; constructor <;> simp only <;> omega) (by rw [hv.1]; constructor <;> simp only <;> omega)
    rw [show d + 13 + 1 = d + 14 from rfl] at q85
    have e3 : appGet (k + 1) (gl eSpan ⟨0, 0⟩ (tabL (volK c l.el l.len) (k + 1))) (fun _ => eSpan (volK c l.el l.len (k + 1))) = gl eSpan ⟨0, 0⟩ (tabL (volK c l.el l.len) (k + 1 + 1)) := by
      refine (gl_snoc (m := volK c l.el l.len (k + 1)) (e := eSpan) (tabL_len _ (k + 1)) rfl).trans ?_
      rw [← tabL_S]
    rw [L42x1s]
    simp (disch := omega) only [decide_eq_true, Int.toNat_natCast, pT, show ((2 : Nat) == 2) = true from rfl, List.take, List.length, show ((0 + 1 + 1 : Nat) == 2) = true from rfl, tkCons_c, tkInt_i, tkNil_n, q86, tkOut_ret, tkAgg_a]
    rw [q85]
    simp only [tkOut_ret, tkAgg_a, tkCons_c, tkInt_i, tkNil_n]
    rw [wrS (by omega)]
    unfold volK at e3
    simp only [eSpan] at e3
    unfold volK
    rw [e3]
    exact ih (k + 1) fu (by omega) (by omega)
end
end Go.Sim.Le


namespace Go.Sim.Le
open Go.Proofs
def sumpM (c : Cav) : Mea := ⟨⟨false, c.slices.len, fun _ => 0⟩, 1⟩
theorem sumpM_ok (c : Cav) : MeaOk c (sumpM c) := ⟨rfl, fun i _ => by show -1000 ≤ (0 : Int) ∧ (0 : Int) ≤ 1000; omega, by show -1000 ≤ (1 : Int); omega, by show (1 : Int) ≤ 1000; omega⟩
def afterV (c : Cav) (l : Nat → Stg) (n : Nat) : List V := [sl eSpan 2 (saltSl c l n), sl eSpan 2 (tabP (volK c l n) c.slices.len), .int .i64 (boundS c l (sumpM c) n).lo, .int .i64 (boundS c l (sumpM c) n).hi]
def after0 : List V := [.row true 0 0 fun _ => [], .row true 0 0 fun _ => [], .int .i64 0, .int .i64 0]
variable (F d : Nat)
theorem s42 (c : Cav) (l : Sl Stg) (hC : c.slices.len < Big) (hCF : c.slices.len < F) (hB : l.len < Big) (hLF : l.len < F) (hF : 1000000000 < F) : (E F (d + 15)).pf 42 [.agg (eCav c), sl eStg 4 l] =
    some (.ret (.tup (if errP c l true = 0 then [.agg (afterV c l.el l.len), .int .i64 0] else [.agg after0, .int .i64 (errP c l true)]))) := by
  have q57 := s57 F (d + 7) c l hC hCF hB hLF
  rw [show d + 7 + 7 = d + 14 from rfl] at q57
  have e57 : (if 8 < l.len then (3 : Int) else if CavOk c ∧ ∀ i, i < l.len → StgOk c.slices.len (l.el i) then 0 else 2) = errP c l true := by
    unfold errP
    simp only [and_true]
  rw [e57] at q57
  rw [E_pf, t42]
  simp only [q57, tkOut_ret, tkInt_i, decide_true, pT]
  by_cases h0 : errP c l true = 0
  · obtain ⟨h8, hc, hl, _⟩ := errP_0.1 h0
    have hcl := hc.1
    have hv := volK_in hc hl h8 (k := 0) (by omega)
    have hvo : SpanIn (c.slices.el 0).vol 0 10000000000000 := (hc.2.2.2 0 (by omega)).1
    unfold SpanIn at hvo
    have q84 : (E F (d + 14)).pf 84 [.agg (eCav c), sl eStg 4 l] = _ := s84 F (d + 11) hc h8 hl (by omega)
    have q62 : (E F (d + 14)).pf 62 [.agg (eCav c), sl eStg 4 l, .agg (eMea (sumpM c))] = _ := s62 F d hc (sumpM_ok c) l (by omega) hl (by omega)
    have q86 : (E F (d + 14)).pf 86 [.agg [.int .i64 (saltS c l.el l.len 0).lo, .int .i64 (saltS c l.el l.len 0).hi], .int .i64 (c.slices.el 0).opn] = _ := s86 F (d + 13) (saltS c l.el l.len 0) (c.slices.el 0).opn (by constructor <;> omega) (by constructor <;> omega)
    have q85 := s85 F (d + 13) (c.slices.el 0).vol (timesS (saltS c l.el l.len 0) (c.slices.el 0).opn) (by omega) (by constructor <;> omega) (by constructor <;> omega) (by rw [hv.1]; constructor <;> simp only <;> omega) (by rw [hv.1]; constructor <;> simp only <;> omega)
    rw [show d + 13 + 1 = d + 14 from rfl] at q85
    obtain ⟨F, rfl⟩ : ∃ k, F = k + 1 := ⟨F - 1, by omega⟩
    have e := l42 (F + 1) d hc h8 hl (by omega) (boundS c l.el (sumpM c) l.len) (c.slices.len - 1) 0 F (by omega) (by omega)
    rw [h0, if_pos rfl]
    simp only [eMea, sumpM, sl, eInt] at q62
    simp only [sl] at q84 q62 ⊢
    simp only [sl, q84, tkRow_r, show ((0 : Int) != 0) = false from rfl, pF, saltSl]
    simp (disch := omega) only [decide_eq_true, decide_true, pT, Int.toNat_natCast, q62, tkOut_ret, tkAgg_a, tkCons_c, tkInt_i, tkNil_n, eSpan, tkRow_r]
    rw [L42x0s]
    simp (disch := omega) only [decide_eq_true, Int.toNat_natCast, pT, show ((2 : Nat) == 2) = true from rfl, List.take, List.length, show ((0 + 1 + 1 : Nat) == 2) = true from rfl, tkCons_c, tkInt_i, tkNil_n, q86, tkOut_ret, tkAgg_a]
    rw [q85]
    simp only [tkOut_ret, tkAgg_a, tkCons_c, tkInt_i, tkNil_n]
    rw [show tabL (volK c l.el l.len) (0 + 1) = [volK c l.el l.len 0] from rfl, ← gl_one rfl] at e
    exact e
  · rw [if_neg h0]
    have e1 : (errP c l true != 0) = true := by simpa using h0
    simp only [e1, pT]
    rfl
end Go.Sim.Le


namespace Go.Sim.Le
open Go.Proofs
theorem bestHi_le {f : Int → Int} {a H : Int} : ∀ j : Nat, (∀ n, a ≤ n → n ≤ a + j → f n ≤ H) → bestHi f a j ≤ H
  | 0, h => h a (by omega) (by omega)
  | j + 1, h => by
    have h1 := bestHi_le j fun n h1 h2 => h n h1 (by omega)
    have h2 := h (a + ((j + 1 : Nat) : Int)) (by omega) (by omega)
    simp only [bestHi]
    omega
theorem le_bestLo {f : Int → Int} {a H : Int} : ∀ j : Nat, (∀ n, a ≤ n → n ≤ a + j → H ≤ f n) → H ≤ bestLo f a j
  | 0, h => h a (by omega) (by omega)
  | j + 1, h => by
    have h1 := le_bestLo j fun n h1 h2 => h n h1 (by omega)
    have h2 := h (a + ((j + 1 : Nat) : Int)) (by omega) (by omega)
    simp only [bestLo]
    omega
theorem le_bestHi {f : Int → Int} {a : Int} {n : Int} (h1 : a ≤ n) : ∀ j : Nat, n ≤ a + j → f n ≤ bestHi f a j
  | 0, h => by rw [show n = a by omega]; exact Int.le_refl _
  | j + 1, h => by
    simp only [bestHi]
    by_cases h2 : n ≤ a + j
    · have := le_bestHi h1 (f := f) j h2; omega
    · rw [show n = a + ((j + 1 : Nat) : Int) by omega]; omega
theorem bestLo_le {f : Int → Int} {a : Int} {n : Int} (h1 : a ≤ n) : ∀ j : Nat, n ≤ a + j → bestLo f a j ≤ f n
  | 0, h => by rw [show n = a by omega]; exact Int.le_refl _
  | j + 1, h => by
    simp only [bestLo]
    by_cases h2 : n ≤ a + j
    · have := bestLo_le h1 (f := f) j h2; omega
    · rw [show n = a + ((j + 1 : Nat) : Int) by omega]; omega
def oneM (c : Cav) (u : Nat) : Mea := ⟨⟨false, c.slices.len, oneW u⟩, 0⟩
section
variable {c : Cav} (hc : CavOk c) {s : Stg} (hs : StgOk c.slices.len s)
include hc hs
end
end Go.Sim.Le


namespace Go.Sim.Le
open Go.Proofs
section
variable {c : Cav} (hc : CavOk c)
include hc
end
variable (F d : Nat)
section
variable {c : Cav} (hc : CavOk c) {l : Sl Stg} (h8 : l.len ≤ 8) (hl : ∀ i, i < l.len → StgOk c.slices.len (l.el i)) (hF : 1000000000 < F)
include hc h8 hl hF
def afterR (c : Cav) (l : Nat → Stg) (n : Nat) : List V := [sl eSpan 2 (tabP (saltS c l n) c.slices.len), sl eSpan 2 (tabP (volK c l n) c.slices.len), .int .i64 (boundS c l (sumpM c) n).lo, .int .i64 (boundS c l (sumpM c) n).hi]
end
end Go.Sim.Le


namespace Go.Sim.Le
open Go.Proofs
variable (F d : Nat)
end Go.Sim.Le


namespace Go.Sim.Le
open Go.Proofs
theorem sumF_split (f : Nat → Int) (a : Nat) : ∀ b, sumF f (a + b) = sumF f a + sumF (fun i => f (a + i)) b
  | 0 => by simp [sumF]
  | b + 1 => by
    rw [show a + (b + 1) = a + b + 1 by omega]
    simp only [sumF]
    rw [sumF_split f a b]; omega
def rotF {α : Type} (l : Nat → α) (n q u : Nat) : α := if u < n - q then l (u + q) else l (u - (n - q))
theorem sumF_rot (f : Nat → Int) {n q : Nat} (h : q ≤ n) : sumF (rotF f n q) n = sumF f n := by
  have e1 := sumF_split (rotF f n q) (n - q) q
  have e2 := sumF_split f q (n - q)
  rw [show n - q + q = n by omega] at e1
  rw [show q + (n - q) = n by omega] at e2
  have e3 : sumF (rotF f n q) (n - q) = sumF (fun i => f (q + i)) (n - q) := sumF_cong _ fun u hu => by
    unfold rotF
    rw [if_pos hu, Nat.add_comm]
  have e4 : sumF (fun i => rotF f n q (n - q + i)) q = sumF f q := sumF_cong _ fun u hu => by
    unfold rotF
    rw [if_neg (by omega), show n - q + u - (n - q) = u by omega]
  omega
theorem salt_sum (c : Cav) (l : Nat → Stg) (k : Nat) : ∀ j, saltS c l j k = ⟨sumF (fun i => (timesS (rtRow c (l i) (pathN (l i)) k) (l i).water).lo) j, sumF (fun i => (timesS (rtRow c (l i) (pathN (l i)) k) (l i).water).hi) j⟩
  | 0 => rfl
  | j + 1 => by simp only [saltS, sumF, addS]; rw [salt_sum c l k j]
theorem bound_sum (c : Cav) (l : Nat → Stg) (m : Mea) : ∀ j, boundS c l m j = ⟨(firstS c m c.slices.len).lo + sumF (fun i => (grownS c m (l i)).lo) j, (firstS c m c.slices.len).hi + sumF (fun i => (grownS c m (l i)).hi) j⟩
  | 0 => by simp only [boundS, sumF, Int.add_zero]
  | j + 1 => by simp only [boundS, sumF, addS]; rw [bound_sum c l m j]; simp only [Int.add_assoc]
theorem rotF_map {α β : Type} (f : α → β) (l : Nat → α) (n q : Nat) : (fun i => f (rotF l n q i)) = rotF (fun i => f (l i)) n q := by
  funext i
  unfold rotF
  split <;> rfl
theorem salt_rot (c : Cav) (l : Nat → Stg) {n q : Nat} (h : q ≤ n) (k : Nat) : saltS c (rotF l n q) n k = saltS c l n k := by
  rw [salt_sum, salt_sum]
  rw [rotF_map (fun s : Stg => (timesS (rtRow c s (pathN s) k) s.water).lo) l n q, rotF_map (fun s : Stg => (timesS (rtRow c s (pathN s) k) s.water).hi) l n q, sumF_rot _ h, sumF_rot _ h]
theorem bound_rot (c : Cav) (l : Nat → Stg) (m : Mea) {n q : Nat} (h : q ≤ n) : boundS c (rotF l n q) m n = boundS c l m n := by
  rw [bound_sum, bound_sum]
  rw [rotF_map (fun s : Stg => (grownS c m s).lo) l n q, rotF_map (fun s : Stg => (grownS c m s).hi) l n q, sumF_rot _ h, sumF_rot _ h]
theorem volK_rot (c : Cav) (l : Nat → Stg) {n q : Nat} (h : q ≤ n) (k : Nat) : volK c (rotF l n q) n k = volK c l n k := by
  unfold volK; rw [salt_rot c l h]
def narrow (d : Int) (x : Slc) : Slc := { x with vol := ⟨x.vol.lo, x.vol.hi - min d (x.vol.hi - x.vol.lo)⟩, rate := ⟨x.rate.lo + min d (x.rate.hi - x.rate.lo), x.rate.hi⟩ }
def narrowC (d : Int) (c : Cav) : Cav := { c with slices := ⟨false, c.slices.len, fun u => if u < c.slices.len then narrow d (c.slices.el u) else c.slices.el u⟩ }
theorem narrow_el (d : Int) (c : Cav) {u : Nat} (h : u < c.slices.len) : (narrowC d c).slices.el u = narrow d (c.slices.el u) := if_pos h
theorem narrow_ok {d : Int} (hd : 0 ≤ d) {c : Cav} (hc : CavOk c) : CavOk (narrowC d c) := by
  refine ⟨hc.1, hc.2.1, hc.2.2.1, fun i hi => ?_⟩
  have h := hc.2.2.2 i hi
  rw [narrow_el d c hi]
  unfold SlcOk SpanIn at h ⊢
  simp only [narrow]
  omega
section
variable {d : Int} (hd : 0 ≤ d) {c : Cav} (hc : CavOk c) {s : Stg} (hs : StgOk c.slices.len s)
include hd hc hs
theorem narrow_sum : ∀ k, k ≤ pathN s → sumLo c s k ≤ sumLo (narrowC d c) s k ∧ sumHi (narrowC d c) s k = sumHi c s k := by
  intro k
  induction k with
  | zero => intro _; simp [sumLo, sumHi]
  | succ k ih =>
    intro h
    have i := ih (by omega)
    have ho : SpanIn (slAt c s k).rate 0 300 := (slcOk_at hc hs (k := k) (by omega)).2.2.2.1
    unfold SpanIn at ho
    have hin := pathAt_in hs (k := k) (by omega)
    have e0 : slAt (narrowC d c) s k = narrow d (slAt c s k) := narrow_el d c (by omega)
    have e1 : (slAt (narrowC d c) s k).rate.lo = (slAt c s k).rate.lo + min d ((slAt c s k).rate.hi - (slAt c s k).rate.lo) := by rw [e0]; rfl
    have e2 : (slAt (narrowC d c) s k).rate.hi = (slAt c s k).rate.hi := by rw [e0]; rfl
    simp only [sumLo, sumHi, e1, e2]
    omega
theorem narrow_row (u : Nat) : ∀ k, k ≤ pathN s → (rtRow c s k u).lo ≤ (rtRow (narrowC d c) s k u).lo ∧ (rtRow (narrowC d c) s k u).hi ≤ (rtRow c s k u).hi := by
  intro k
  induction k with
  | zero => intro _; simp [rtRow]
  | succ k ih =>
    intro h
    have i := ih (by omega)
    have hsm := narrow_sum hd hc hs k (by omega)
    have ho : SpanIn (slAt c s k).rate 0 300 := (slcOk_at hc hs (k := k) (by omega)).2.2.2.1
    unfold SpanIn at ho
    have hin := pathAt_in hs (k := k) (by omega)
    have e0 : slAt (narrowC d c) s k = narrow d (slAt c s k) := narrow_el d c (by omega)
    have e1 : (slAt (narrowC d c) s k).rate.lo = (slAt c s k).rate.lo + min d ((slAt c s k).rate.hi - (slAt c s k).rate.lo) := by rw [e0]; rfl
    have e2 : (slAt (narrowC d c) s k).rate.hi = (slAt c s k).rate.hi := by rw [e0]; rfl
    have e3 : (narrowC d c).hold = c.hold := rfl
    simp only [rtRow]
    split
    · simp only [rtK, e1, e2, e3]; omega
    · exact i
end
section
variable {d : Int} (hd : 0 ≤ d) {c : Cav} (hc : CavOk c) {l : Nat → Stg} {n : Nat} (hl : ∀ i, i < n → StgOk c.slices.len (l i))
include hd hc hl
theorem narrow_salt (u : Nat) : ∀ j, j ≤ n → (saltS c l j u).lo ≤ (saltS (narrowC d c) l j u).lo ∧ (saltS (narrowC d c) l j u).hi ≤ (saltS c l j u).hi
  | 0, _ => by simp [saltS]
  | j + 1, h => by
    have i := narrow_salt u j (by omega)
    have hs := hl j (by omega)
    have hr := narrow_row hd hc hs u (pathN (l j)) (Nat.le_refl _)
    have h1 := salt_step hc hl (j := j) (by omega) u
    have h2 := salt_step (narrow_ok hd hc) (l := l) (n := n) hl (j := j) (by omega) u
    have hwa := hs.1
    have m1 := Int.mul_le_mul_of_nonneg_left hr.1 (show 0 ≤ (l j).water by omega)
    have m2 := Int.mul_le_mul_of_nonneg_left hr.2 (show 0 ≤ (l j).water by omega)
    simp only [saltS]
    rw [h1.2, h2.2]
    simp only [addS]
    omega
theorem narrow_vol (h8 : n ≤ 8) {u : Nat} (hu : u < c.slices.len) : (volK c l n u).lo ≤ (volK (narrowC d c) l n u).lo ∧ (volK (narrowC d c) l n u).hi ≤ (volK c l n u).hi := by
  have i := narrow_salt hd hc hl u n (Nat.le_refl _)
  have h1 := volK_in hc hl h8 hu
  have h2 := volK_in (narrow_ok hd hc) (l := l) (n := n) hl h8 (k := u) hu
  have ho : 1000 ≤ (c.slices.el u).opn ∧ (c.slices.el u).opn ≤ 3000 := (hc.2.2.2 u hu).2.1
  have hv : SpanIn (c.slices.el u).vol 0 10000000000000 := (hc.2.2.2 u hu).1
  unfold SpanIn at hv
  have e1 : ((narrowC d c).slices.el u).opn = (c.slices.el u).opn := by rw [narrow_el d c hu]; rfl
  have e2 : ((narrowC d c).slices.el u).vol = ⟨(c.slices.el u).vol.lo, (c.slices.el u).vol.hi - min d ((c.slices.el u).vol.hi - (c.slices.el u).vol.lo)⟩ := by rw [narrow_el d c hu]; rfl
  have m1 := Int.mul_le_mul_of_nonneg_left i.1 (show 0 ≤ (c.slices.el u).opn by omega)
  have m2 := Int.mul_le_mul_of_nonneg_left i.2 (show 0 ≤ (c.slices.el u).opn by omega)
  unfold volK
  rw [h1.1, h2.1, e1, e2]
  simp only [addS]
  omega
end
theorem rtRow_wat (c : Cav) (s : Stg) (w : Int) : ∀ k, (sumLo c { s with water := w } k = sumLo c s k ∧ sumHi c { s with water := w } k = sumHi c s k) ∧ rtRow c { s with water := w } k = rtRow c s k
  | 0 => ⟨⟨rfl, rfl⟩, rfl⟩
  | k + 1 => by
    obtain ⟨⟨h1, h2⟩, h3⟩ := rtRow_wat c s w k
    have e1 : slAt c { s with water := w } k = slAt c s k := rfl
    have e2 : pathAt { s with water := w } k = pathAt s k := rfl
    refine ⟨⟨?_, ?_⟩, ?_⟩
    · simp only [sumLo]; rw [h1, e1]
    · simp only [sumHi]; rw [h2, e1]
    · funext j
      simp only [rtRow, rtK]
      rw [h1, h2, h3, e1, e2]
def moreL (d : Int) (q : Nat) (l : Nat → Stg) (u : Nat) : Stg := if u = q then { l u with water := min 1000000 ((l u).water + d) } else l u
section
variable {d : Int} (hd : 0 ≤ d) {c : Cav} (hc : CavOk c) {l : Nat → Stg} {n : Nat} (hl : ∀ i, i < n → StgOk c.slices.len (l i)) (q : Nat)
include hd hl
theorem more_ok : ∀ i, i < n → StgOk c.slices.len (moreL d q l i) := by
  intro i hi
  have h := hl i hi
  unfold moreL
  split
  · exact ⟨by have := h.1; show 1 ≤ min 1000000 ((l i).water + d) ∧ min 1000000 ((l i).water + d) ≤ 1000000; omega, h.2⟩
  · exact h
include hc
theorem more_salt (u : Nat) : ∀ j, j ≤ n → (saltS c l j u).lo ≤ (saltS c (moreL d q l) j u).lo ∧ (saltS c l j u).hi ≤ (saltS c (moreL d q l) j u).hi
  | 0, _ => by simp [saltS]
  | j + 1, h => by
    have i := more_salt u j (by omega)
    have hs := hl j (by omega)
    have hr := rtRow_in hc hs (pathN (l j)) (Nat.le_refl _) u
    have h1 := salt_step hc hl (j := j) (by omega) u
    have h2 := salt_step hc (more_ok hd hl q) (j := j) (by omega) u
    have hwa := hs.1
    simp only [saltS]
    rw [h1.2, h2.2]
    have e1 : rtRow c (moreL d q l j) (pathN (moreL d q l j)) u = rtRow c (l j) (pathN (l j)) u := by
      unfold moreL
      split
      · have := (rtRow_wat c (l j) (min 1000000 ((l j).water + d)) (pathN (l j))).2
        exact congrFun this u
      · rfl
    have e2 : (l j).water ≤ (moreL d q l j).water := by
      unfold moreL
      split
      · show (l j).water ≤ min 1000000 ((l j).water + d); omega
      · omega
    have m1 := Int.mul_le_mul_of_nonneg_right (c := (rtRow c (l j) (pathN (l j)) u).lo) e2 (by omega)
    have m2 := Int.mul_le_mul_of_nonneg_right (c := (rtRow c (l j) (pathN (l j)) u).hi) e2 (by omega)
    rw [e1]
    simp only [addS]
    omega
theorem more_vol (h8 : n ≤ 8) {u : Nat} (hu : u < c.slices.len) : (volK c l n u).lo ≤ (volK c (moreL d q l) n u).lo ∧ (volK c l n u).hi ≤ (volK c (moreL d q l) n u).hi := by
  have i := more_salt hd hc hl q u n (Nat.le_refl _)
  have h1 := volK_in hc hl h8 hu
  have h2 := volK_in hc (more_ok hd hl q) h8 hu
  have ho : 1000 ≤ (c.slices.el u).opn ∧ (c.slices.el u).opn ≤ 3000 := (hc.2.2.2 u hu).2.1
  have m1 := Int.mul_le_mul_of_nonneg_left i.1 (show 0 ≤ (c.slices.el u).opn by omega)
  have m2 := Int.mul_le_mul_of_nonneg_left i.2 (show 0 ≤ (c.slices.el u).opn by omega)
  unfold volK
  rw [h1.1, h2.1]
  simp only [addS]
  omega
end
end Go.Sim.Le


namespace Go.Sim.Le
open Go.Proofs
section
variable {d : Int} (hd : 0 ≤ d) {c : Cav} (hc : CavOk c) {s : Stg} (hs : StgOk c.slices.len s)
include hd hc hs
theorem rest_narrow (m : Mea) : ∀ r, r ≤ pathN s → ∀ b, 0 ≤ b → (restS c m s r b).lo ≤ (restS (narrowC d c) m s r b).lo ∧ (restS (narrowC d c) m s r b).hi ≤ (restS c m s r b).hi := by
  intro r
  induction r with
  | zero => intro _ b _; simp [restS]
  | succ r ih =>
    intro h b hb
    have ho : SpanIn (slAt c s (pathN s - (r + 1))).rate 0 300 := (slcOk_at hc hs (k := pathN s - (r + 1)) (by omega)).2.2.2.1
    unfold SpanIn at ho
    have hin := pathAt_in hs (k := pathN s - (r + 1)) (by omega)
    have e0 : slAt (narrowC d c) s (pathN s - (r + 1)) = narrow d (slAt c s (pathN s - (r + 1))) := narrow_el d c (by omega)
    have e1 : (slAt (narrowC d c) s (pathN s - (r + 1))).rate.lo = (slAt c s (pathN s - (r + 1))).rate.lo + min d ((slAt c s (pathN s - (r + 1))).rate.hi - (slAt c s (pathN s - (r + 1))).rate.lo) := by rw [e0]; rfl
    have e2 : (slAt (narrowC d c) s (pathN s - (r + 1))).rate.hi = (slAt c s (pathN s - (r + 1))).rate.hi := by rw [e0]; rfl
    have e3 : gainI (narrowC d c) m (pathAt s (pathN s - (r + 1))).toNat = gainI c m (pathAt s (pathN s - (r + 1))).toNat := by
      unfold gainI
      rw [narrow_el d c (by omega)]; rfl
    simp only [restS]
    rw [e1, e2, e3]
    generalize (slAt c s (pathN s - (r + 1))).rate.lo = lo at ho ⊢
    generalize (slAt c s (pathN s - (r + 1))).rate.hi = hi at ho ⊢
    generalize gainI c m (pathAt s (pathN s - (r + 1))).toNat = g
    constructor
    · refine le_bestLo _ fun n h1 h2 => ?_
      have i := (ih (by omega) (b - n) (by omega)).1
      have e := bestLo_le (f := fun n => (restS c m s r (b - n)).lo + n * g) (a := min lo b) (n := n) (by omega) (min hi b - min lo b).toNat (by omega)
      omega
    · refine bestHi_le _ fun n h1 h2 => ?_
      have i := (ih (by omega) (b - n) (by omega)).2
      have e := le_bestHi (f := fun n => (restS c m s r (b - n)).hi + n * g) (a := min lo b) (n := n) (by omega) (min hi b - min lo b).toNat (by omega)
      omega
end
theorem first_sump (c : Cav) : ∀ k, firstS c (sumpM c) k = ⟨0, 0⟩
  | 0 => rfl
  | k + 1 => by
    simp only [firstS]
    rw [first_sump c k]
    show addS _ (timesS (c.slices.el k).vol 0) = _
    simp [timesS, addS]
theorem bound_narrow {d : Int} (hd : 0 ≤ d) {c : Cav} (hc : CavOk c) {l : Nat → Stg} {n : Nat} (hl : ∀ i, i < n → StgOk c.slices.len (l i)) : ∀ j, j ≤ n → (boundS c l (sumpM c) j).lo ≤ (boundS (narrowC d c) l (sumpM (narrowC d c)) j).lo ∧ (boundS (narrowC d c) l (sumpM (narrowC d c)) j).hi ≤ (boundS c l (sumpM c) j).hi
  | 0, _ => by
    simp only [boundS]
    rw [first_sump, first_sump]; simp
  | j + 1, h => by
    have i := bound_narrow hd hc hl j (by omega)
    have hs := hl j (by omega)
    have hH := hc.2.1
    have hr := rest_narrow hd hc hs (sumpM c) (pathN (l j)) (Nat.le_refl _) c.hold (by omega)
    have hwa := hs.1
    have hnw : ¬ (l j).water < 0 := by omega
    have m1 := Int.mul_le_mul_of_nonneg_left hr.1 (show 0 ≤ (l j).water by omega)
    have m2 := Int.mul_le_mul_of_nonneg_left hr.2 (show 0 ≤ (l j).water by omega)
    simp only [boundS, addS, grownS, timesS, if_neg hnw]
    show (boundS c l (sumpM c) j).lo + (l j).water * (restS c (sumpM c) (l j) (pathN (l j)) c.hold).lo ≤ (boundS (narrowC d c) l (sumpM (narrowC d c)) j).lo + (l j).water * (restS (narrowC d c) (sumpM c) (l j) (pathN (l j)) c.hold).lo ∧ (boundS (narrowC d c) l (sumpM (narrowC d c)) j).hi + (l j).water * (restS (narrowC d c) (sumpM c) (l j) (pathN (l j)) c.hold).hi ≤ (boundS c l (sumpM c) j).hi + (l j).water * (restS c (sumpM c) (l j) (pathN (l j)) c.hold).hi
    omega
variable (F d : Nat)
theorem l10x2 (c : Cav) (l : Sl Stg) (n x : Int) (hF : 1000000000 < F) (V1 V2 V3 : Sl Span) (hB : V1.len < Big) (h2 : V2.len = V1.len) (h3 : V3.len = V1.len) (hv : ∀ u, u < V1.len → ((V1.el u).lo ≤ (V2.el u).lo ∧ (V2.el u).hi ≤ (V1.el u).hi) ∧ (V1.el u).lo ≤ (V3.el u).lo ∧ (V1.el u).hi ≤ (V3.el u).hi) (S1 S2 S3 : Sl Span) (p1 p2 p3 : Span) (hp : p1.lo ≤ p2.lo ∧ p2.hi ≤ p1.hi) : ∀ j i fu, i + j = V1.len → j < fu →
    L10x2 (E F (d + 19)) F c l n x fu i S1.nl S1.len 2 (fun i => eSpan (S1.el i)) V1.nl V1.len 2 (fun i => eSpan (V1.el i)) .i64 p1.lo .i64 p1.hi S2.nl S2.len 2 (fun i => eSpan (S2.el i)) V2.nl V2.len 2 (fun i => eSpan (V2.el i)) .i64 p2.lo .i64 p2.hi S3.nl S3.len 2 (fun i => eSpan (S3.el i)) V3.nl V3.len 2 (fun i => eSpan (V3.el i)) .i64 p3.lo .i64 p3.hi = some (.ret (.bool true)) := by
  have q21 : (E F (d + 19)).pf 21 [] = _ := s21 F d hF
  have hB' : V1.len < 4611686018427387904 := hB
  intro j
  induction j with
  | zero =>
    intro i fu h hf
    obtain ⟨fu, rfl⟩ : ∃ k, fu = k + 1 := ⟨fu - 1, by omega⟩
    rw [L10x2s, decide_eq_false (by omega), pF]
    simp only [decide_true, pT, decide_eq_true (show p2.lo ≥ p1.lo from hp.1), decide_eq_true hp.2, q21, tkOut_ret, tkBool_b]
  | succ j ih =>
    intro i fu h hf
    obtain ⟨fu, rfl⟩ : ∃ k, fu = k + 1 := ⟨fu - 1, by omega⟩
    have hu := hv i (by omega)
    rw [L10x2s]
    simp only [decide_eq_true (show (i : Int) < (V1.len : Int) by omega), decide_eq_true (show (0 : Int) ≤ (i : Int) by omega), decide_eq_true (show (i : Int) < (V2.len : Int) by omega), decide_eq_true (show (i : Int) < (V3.len : Int) by omega), pT, show ((2 : Nat) == 2) = true from rfl, Int.toNat_natCast, tkCons_c, tkInt_i, List.drop, decide_true]
    rw [decide_eq_false (show ¬ (V2.el i).lo < (V1.el i).lo by omega), pF, decide_eq_false (show ¬ (V2.el i).hi > (V1.el i).hi by omega), pF, decide_eq_false (show ¬ (V3.el i).lo < (V1.el i).lo by omega), pF, decide_eq_false (show ¬ (V3.el i).hi < (V1.el i).hi by omega), pF, wrS (by omega)]
    exact ih (i + 1) fu (by omega) (by omega)
section
variable {c : Cav} (hc : CavOk c) {l : Sl Stg} (h8 : l.len ≤ 8) (hl : ∀ i, i < l.len → StgOk c.slices.len (l.el i)) (hF : 1000000000 < F)
include hc h8 hl hF
theorem l10x1 (q x : Nat) (hq : q < l.len) (hx : x ≤ 100) (hnl : l.nl = true → l.len = 0) (S2 : Sl Span) (hS : S2.len = c.slices.len ∧ ∀ i, i < c.slices.len → S2.el i = saltS c l.el l.len i) : ∀ j i fu, i + j = c.slices.len → j < fu →
    L10x1 (E F (d + 19)) F c l q x fu .i64 0 .i64 0 i false c.slices.len 2 (fun i => eSpan ((saltSl c l.el l.len).el i)) false c.slices.len 2 (fun i => eSpan ((tabP (volK c l.el l.len) c.slices.len).el i)) .i64 (boundS c l.el (sumpM c) l.len).lo .i64 (boundS c l.el (sumpM c) l.len).hi
      S2.nl S2.len 2 (fun i => eSpan (S2.el i)) false c.slices.len 2 (fun i => eSpan ((tabP (volK c l.el l.len) c.slices.len).el i)) .i64 (boundS c l.el (sumpM c) l.len).lo .i64 (boundS c l.el (sumpM c) l.len).hi
      (fun u => eSlc (if u < i then narrow x (c.slices.el u) else c.slices.el u)) = some (.ret (.bool true)) := by
  have hcl := hc.1
  intro j
  induction j with
  | zero =>
    intro i fu h hf
    obtain ⟨fu, rfl⟩ : ∃ k, fu = k + 1 := ⟨fu - 1, by omega⟩
    have hi : i = c.slices.len := by omega
    subst hi
    have hd : (0 : Int) ≤ x := by omega
    have hn : l.nl = false := by cases h : l.nl with | false => rfl | true => have := hnl h; omega
    have hlp : (l.len == 0) = false := by rw [beq_eq_false_iff_ne]; omega
    have hcn := narrow_ok hd hc
    have hm8 : errP (narrowC x c) l true = 0 := errP_0.2 ⟨h8, hcn, hl, rfl⟩
    have hL3 : (⟨false, l.len, moreL x q l.el⟩ : Sl Stg).len = l.len := rfl
    have hm9 : errP c ⟨false, l.len, moreL x q l.el⟩ true = 0 := errP_0.2 ⟨h8, hc, more_ok hd hl q, rfl⟩
    have q42 : (E F (d + 19)).pf 42 [.agg [.row false c.slices.len 7 (fun u => eSlc (if u < c.slices.len then narrow x (c.slices.el u) else c.slices.el u)), .int .i64 c.hold, .int .i64 c.oil], .row l.nl l.len 4 (fun i => eStg (l.el i))] = some (.ret (.tup [.agg (afterV (narrowC x c) l.el l.len), .int .i64 0])) := by
      have := s42 F (d + 4) (narrowC x c) l (by show c.slices.len < 4611686018427387904; omega) (by show c.slices.len < F; omega) (by show l.len < 4611686018427387904; omega) (by omega) hF
      rw [if_pos hm8] at this
      exact this
    have hwa := (hl q hq).1
    have e5 : (fun u => eStg (moreL x q l.el u)) = updGet (fun u => eStg (l.el u)) q 0 [.int .i64 (min 1000000 ((l.el q).water + x))] := by
      funext u
      unfold updGet moreL
      by_cases h1 : u = q
      · subst h1; rw [if_pos rfl, if_pos rfl]; rfl
      · rw [if_neg h1, if_neg h1]
    have q42' : (E F (d + 19)).pf 42 [.agg (eCav c), .row false l.len 4 (fun u => updGet (fun i => eStg (l.el i)) q 0 [.int .i64 (min 1000000 ((l.el q).water + x))] u)] = some (.ret (.tup [.agg (afterV c (moreL x q l.el) l.len), .int .i64 0])) := by
      have := s42 F (d + 4) c ⟨false, l.len, moreL x q l.el⟩ (by show c.slices.len < 4611686018427387904; omega) (by omega) (by show l.len < 4611686018427387904; omega) (by show l.len < F; omega) hF
      rw [if_pos hm9] at this
      rw [← e5]
      exact this
    have q40 : (E F (d + 19)).pf 40 [sl eSpan 2 (saltSl c l.el l.len), sl eSpan 2 S2] = _ := s40 F (d + 18) _ _ (by show c.slices.len < 4611686018427387904; omega) (by show c.slices.len < F; omega)
    have q40' : (E F (d + 19)).pf 40 [sl eSpan 2 (tabP (volK c l.el l.len) c.slices.len), sl eSpan 2 (tabP (volK c l.el l.len) c.slices.len)] = _ := s40 F (d + 18) _ _ (by show c.slices.len < 4611686018427387904; omega) (by show c.slices.len < F; omega)
    rw [decide_eq_true (show SameP (saltSl c l.el l.len) S2 from ⟨hS.1.symm, fun i hi => (hS.2 i hi).symm⟩)] at q40
    rw [decide_eq_true (show SameP (tabP (volK c l.el l.len) c.slices.len) (tabP (volK c l.el l.len) c.slices.len) from ⟨rfl, fun i hi => rfl⟩)] at q40'
    have e := l10x2 F d c l q x hF (tabP (volK c l.el l.len) c.slices.len) (tabP (volK (narrowC x c) l.el l.len) c.slices.len) (tabP (volK c (moreL x q l.el) l.len) c.slices.len) (by show c.slices.len < 4611686018427387904; omega) rfl rfl (fun u hu => by
      have hu' : u < c.slices.len := hu
      rw [tabP_el _ hu', tabP_el _ hu', tabP_el _ hu']
      exact ⟨narrow_vol hd hc hl h8 hu', more_vol hd hc hl q h8 hu'⟩) (saltSl c l.el l.len) (saltSl (narrowC x c) l.el l.len) (saltSl c (moreL x q l.el) l.len) (boundS c l.el (sumpM c) l.len) (boundS (narrowC x c) l.el (sumpM (narrowC x c)) l.len) (boundS c (moreL x q l.el) (sumpM c) l.len) (bound_narrow hd hc hl _ (Nat.le_refl _)) c.slices.len 0 F (by show 0 + c.slices.len = c.slices.len; omega) (by omega)
    rw [L10x1s, decide_eq_false (by omega), pF]
    simp only [afterV, sl, eCav, hn] at q42
    simp only [afterV, sl] at q42'
    have q40s : (E F (d + 19)).pf 40 [.row false c.slices.len 2 (fun i => eSpan ((saltSl c l.el l.len).el i)), .row S2.nl S2.len 2 (fun i => eSpan (S2.el i))] = some (.ret (.bool true)) := q40
    have q40v : (E F (d + 19)).pf 40 [.row false c.slices.len 2 (fun i => eSpan ((tabP (volK c l.el l.len) c.slices.len).el i)), .row false c.slices.len 2 (fun i => eSpan ((tabP (volK c l.el l.len) c.slices.len).el i))] = some (.ret (.bool true)) := q40'
    simp only [sl, q42, tkOut_ret, tkTup_t, tkAgg_a, tkCons_c, tkInt_i, tkRow_r, tkNil_n, hn, hlp, pF]
    rw [decide_eq_true (show l.len * 32 ≤ 140737488355328 by omega), pT, decide_eq_true (show (0 : Int) ≤ (q : Int) by omega), pT, decide_eq_true (show (q : Int) < (l.len : Int) by omega), pT]
    simp only [Int.toNat_natCast]
    rw [wr (n := (l.el q).water + x) (by omega), mnE]
    rw [q42']
    simp only [tkOut_ret, tkTup_t, tkAgg_a, tkCons_c, tkInt_i, tkRow_r, tkNil_n, decide_true, pT, pF, q40s, q40v, tkBool_b, Bool.not_true, beq_self_eq_true, Bool.and_self, bne_self_eq_false]
    simp only [show (tabP (volK (narrowC (x : Int) c) l.el l.len) (narrowC (x : Int) c).slices.len).len = c.slices.len from rfl, show (tabP (volK c (moreL (x : Int) q l.el) l.len) c.slices.len).len = c.slices.len from rfl, bne_self_eq_false, pF]
    exact e
  | succ j ih =>
    intro i fu h hf
    obtain ⟨fu, rfl⟩ : ∃ k, fu = k + 1 := ⟨fu - 1, by omega⟩
    have ho := hc.2.2.2 i (by omega)
    unfold SlcOk SpanIn at ho
    have e4 : updGet (updGet (fun u => eSlc (if u < i then narrow x (c.slices.el u) else c.slices.el u)) i 1 [.int .i64 ((c.slices.el i).vol.hi - min (x : Int) ((c.slices.el i).vol.hi - (c.slices.el i).vol.lo))]) i 4 [.int .i64 ((c.slices.el i).rate.lo + min (x : Int) ((c.slices.el i).rate.hi - (c.slices.el i).rate.lo))] = fun u => eSlc (if u < i + 1 then narrow x (c.slices.el u) else c.slices.el u) := by
      funext u
      unfold updGet
      by_cases h1 : u = i
      · subst h1
        simp only [if_pos rfl, if_neg (Nat.lt_irrefl u), if_pos (Nat.lt_succ_self u)]
        rfl
      · simp only [if_neg h1]
        by_cases h2 : u < i
        · rw [if_pos h2, if_pos (by omega)]
        · rw [if_neg h2, if_neg (by omega)]
    have e := ih (i + 1) fu (by omega) (by omega)
    rw [← e4] at e
    rw [L10x1s]
    simp (disch := omega) only [decide_eq_true, pT, Int.toNat_natCast, List.drop, tkCons_c, tkInt_i, decide_true, if_neg (Nat.lt_irrefl i)]
    have e7 : ∀ v : V, updGet (fun u => eSlc (if u < i then narrow x (c.slices.el u) else c.slices.el u)) i 1 [v] i = [.int .i64 (c.slices.el i).vol.lo, v, .int .i64 (c.slices.el i).opn, .int .i64 (c.slices.el i).fall, .int .i64 (c.slices.el i).rate.lo, .int .i64 (c.slices.el i).rate.hi, .int .i64 (c.slices.el i).most] := by
      intro v
      unfold updGet
      rw [if_pos rfl]
      simp only [if_neg (Nat.lt_irrefl i)]
      rfl
    simp only [e7, List.drop, tkCons_c, tkInt_i, decide_true, pT, mnE]
    rw [wr (n := (c.slices.el i).vol.hi - (c.slices.el i).vol.lo) (by omega), wr (n := (c.slices.el i).vol.hi - min (x : Int) ((c.slices.el i).vol.hi - (c.slices.el i).vol.lo)) (by omega), wr (n := (c.slices.el i).rate.hi - (c.slices.el i).rate.lo) (by omega), wr (n := (c.slices.el i).rate.lo + min (x : Int) ((c.slices.el i).rate.hi - (c.slices.el i).rate.lo)) (by omega), wrS (by omega)]
    exact e
end
end Go.Sim.Le


namespace Go.Sim.Le
open Go.Proofs
variable (F d : Nat)
theorem after_rot (c : Cav) (l : Nat → Stg) {n q : Nat} (h : q ≤ n) : afterV c (rotF l n q) n = afterV c l n := by
  have e1 : saltS c (rotF l n q) n = saltS c l n := by funext k; exact salt_rot c l h k
  have e2 : volK c (rotF l n q) n = volK c l n := by funext k; exact volK_rot c l h k
  unfold afterV saltSl
  rw [e1, e2, bound_rot c l _ h]
theorem s10 (c : Cav) (l : Sl Stg) (n x : Int) (hC : c.slices.len < Big) (hCF : c.slices.len < F) (hB : l.len < Big) (hLF : l.len < F) (hcn : c.slices.nl = true → c.slices.len = 0) (hnl : l.nl = true → l.len = 0) (hF : 1000000000 < F) : (E F (d + 20)).pf 10 [.agg (eCav c), sl eStg 4 l, .int .i64 n, .int .i64 x] = some (.ret (.bool true)) := by
  have q19 : (E F (d + 19)).pf 19 [.agg (eCav c)] = _ := s19 F (d + 18) c
  have q21 : (E F (d + 19)).pf 21 [] = _ := s21 F d hF
  have q20 : (E F (d + 19)).pf 20 [.agg (eCav c), sl eStg 4 l, .int .i64 5, .int .i64 100, .int .i64 8] = _ := s20 F (d + 14) c l 5 100 8 hC hCF hB hLF
  have q23 : (E F (d + 19)).pf 23 [.agg (eCav c), sl eStg 4 l, .bool true] = _ := s23 F (d + 15) c l true hC hCF hB hLF
  have q42 : (E F (d + 19)).pf 42 [.agg (eCav c), sl eStg 4 l] = _ := s42 F (d + 4) c l hC hCF hB hLF hF
  rw [E_pf, t10]
  cases h0 : decide (c.slices.len ≤ 20) with
  | false => rw [h0] at q19; simp only [q19, q21, tkOut_ret, tkBool_b, Bool.not_false, pT]
  | true =>
    rw [h0] at q19
    simp only [q19, tkOut_ret, tkBool_b, Bool.not_true, pF]
    cases decide ((l.len : Int) > 20) with
    | true => simp only [q21, tkOut_ret, tkBool_b, pT]
    | false =>
      rw [pF]
      by_cases h3 : errP c l true = 0
      · obtain ⟨h8, hc, hl, _⟩ := errP_0.1 h3
        have hcl := hc.1
        rw [h3] at q23
        rw [if_pos h3] at q42
        simp only [q23, q20, tkOut_ret, tkBool_b, tkInt_i, decide_true, pT, pF, z0']
        generalize decide (errP c l true ≠ 0 ∨ (c.slices.len : Int) ≤ 5 ∧ c.hold ≤ 100 ∧ (l.len : Int) ≤ 8) = e
        cases e with
        | false => simp only [q21, tkOut_ret, tkBool_b, Bool.not_false, pT]
        | true =>
          simp only [Bool.not_true, pF]
          by_cases g1 : n < 0
          · simp only [decide_eq_true g1, pT, q21, tkOut_ret, tkBool_b]
          by_cases g2 : n ≥ l.len
          · simp only [decide_eq_false g1, decide_eq_true g2, pT, pF, q21, tkOut_ret, tkBool_b]
          by_cases g3 : x < 0
          · simp only [decide_eq_false g1, decide_eq_false g2, decide_eq_true g3, pT, pF, q21, tkOut_ret, tkBool_b]
          by_cases g4 : x > 100
          · simp only [decide_eq_false g1, decide_eq_false g2, decide_eq_false g3, decide_eq_true g4, pT, pF, q21, tkOut_ret, tkBool_b]
          obtain ⟨q, rfl⟩ : ∃ k : Nat, n = k := ⟨n.toNat, by omega⟩
          obtain ⟨x, rfl⟩ : ∃ k : Nat, x = k := ⟨x.toNat, by omega⟩
          have hn : l.nl = false := by cases h : l.nl with | false => rfl | true => have := hnl h; omega
          have hcn' : c.slices.nl = false := by cases h : c.slices.nl with | false => rfl | true => have := hcn h; omega
          have hrl : ∀ i, i < l.len → StgOk c.slices.len (rotF l.el l.len q i) := by
            intro i hi
            unfold rotF
            split
            · exact hl _ (by omega)
            · exact hl _ (by omega)
          have hm9 : errP c ⟨false, l.len, rotF l.el l.len q⟩ true = 0 := errP_0.2 ⟨h8, hc, hrl, rfl⟩
          have q42' : (E F (d + 19)).pf 42 [.agg (eCav c), .row false l.len 4 (fun u => eStg (rotF l.el l.len q u))] = some (.ret (.tup [.agg (afterV c l.el l.len), .int .i64 0])) := by
            have := s42 F (d + 4) c ⟨false, l.len, rotF l.el l.len q⟩ hC hCF hB hLF hF
            rw [if_pos hm9] at this
            rw [← after_rot c l.el (show q ≤ l.len by omega)]
            exact this
          have e := l10x1 F d hc h8 hl hF q x (by omega) (by omega) hnl (saltSl c l.el l.len) ⟨rfl, fun _ _ => rfl⟩ c.slices.len 0 F (by omega) (by omega)
          simp only [Nat.not_lt_zero, if_false] at e
          have z1 : (l.len - q == 0) = false := by rw [beq_eq_false_iff_ne]; omega
          have z2 : (c.slices.len == 0) = false := by rw [beq_eq_false_iff_ne]; omega
          simp only [afterV, sl, hn] at q42 q42'
          simp only [sl, decide_eq_false g1, decide_eq_false g2, decide_eq_false g3, decide_eq_false g4, pF, q42, tkOut_ret, tkTup_t, tkAgg_a, tkCons_c, tkInt_i, tkRow_r, tkNil_n, Bool.true_or, pT, Int.toNat_natCast, hn, hcn', z1, z2]
          rw [decide_eq_true (show (0 : Int) ≤ (q : Int) by omega), decide_eq_true (show q ≤ l.len by omega), decide_eq_true (show l.len ≤ l.len by omega), decide_eq_true (show (l.len - q) * 32 ≤ 140737488355328 by omega), decide_eq_true (show 0 ≤ q by omega)]
          simp only [pT, pF]
          by_cases hq0 : q = 0
          · subst hq0
            simp only [Nat.sub_zero, Nat.add_zero, beq_self_eq_true, pT]
            rw [q42]
            simp only [tkOut_ret, tkTup_t, tkAgg_a, tkCons_c, tkInt_i, tkRow_r, tkNil_n]
            rw [decide_eq_true (show c.slices.len * 56 ≤ 140737488355328 by omega), pT]
            exact e
          · have z3 : (q - 0 == 0) = false := by rw [beq_eq_false_iff_ne]; omega
            rw [z3, pF, decide_eq_true (show (l.len - q + (q - 0)) * 32 ≤ 140737488355328 by omega), pT]
            rw [show l.len - q + (q - 0) = l.len by omega]
            have e5 : (fun u => appGet (l.len - q) (fun u => eStg (l.el (u + q))) (fun u => eStg (l.el u)) u) = fun u => eStg (rotF l.el l.len q u) := by
              funext u
              unfold appGet rotF
              split <;> rfl
            rw [e5, q42']
            simp only [tkOut_ret, tkTup_t, tkAgg_a, tkCons_c, tkInt_i, tkRow_r, tkNil_n]
            rw [decide_eq_true (show c.slices.len * 56 ≤ 140737488355328 by omega), pT]
            exact e
      · have e1 : (errP c l true != 0) = true := by simpa using h3
        simp only [q21, q23, tkOut_ret, tkBool_b, tkInt_i, decide_true, pT, e1]
end Go.Sim.Le


namespace Go.Proofs.Ythbpdkcfnbiejaa
open Go.ChangeShapes Go.WideShapes Go.ChangeAt Go.RowKit Go.Sim Go.Sim.Le
set_option maxRecDepth 100000 in
theorem leachMore_fit (cs : List V) (h : ArgsFit [(true, shCav), (false, [.row shStg]), (false, [i8]), (false, [i8])] cs) : (E 2000000000000000 20).pf 10 cs = some (.ret (.bool true)) := by
  obtain ⟨l0, cs0, rfl, h0, g0⟩ := h
  obtain ⟨s1, c1, cs1, e1, rfl, h1, g1⟩ := g0
  obtain ⟨s2, c2, cs2, e2, rfl, h2, g2⟩ := g1
  obtain ⟨s3, c3, cs3, e3, rfl, h3, g3⟩ := g2
  injection e1 with e1 _; subst e1
  injection e2 with e2 _; subst e2
  injection e3 with e3 _; subst e3
  obtain rfl : cs3 = [] := g3
  obtain ⟨a0, rfl, m0⟩ := decCav l0 h0
  obtain ⟨a1, rfl, m1, n1⟩ := fitRow decStg h1
  obtain ⟨a2, rfl, m2⟩ := fitInt h2
  obtain ⟨a3, rfl, m3⟩ := fitInt h3
  exact s10 2000000000000000 0 a0 a1 a2 a3 (lenB m0.1) (by have := m0.1; omega) (lenB m1.1) (by have := m1.1; omega) m0.2 m1.2 (by omega)
set_option maxRecDepth 100000 in
theorem leachMore_lifted (os : Os) (started : os.Started) (H : Type) (enc : TypeId × Value → H) :
    ReturnsInHanded {} Try.checked os 10 .any (Rows.leachMoreSpec.pre6 enc Try.prog Try.f10 Rows.leachMoreRow.domain false) (Rows.leachMoreSpec.post enc Try.prog Try.f10 false true false false) := by
  refine returnsInHanded_of_change_sized (C := Try.checked) own started (by kernel_rfl) Try.func10
    (ChangeSpec.witness6 (enc := enc) (C := Try.checked) false ⟨#[], #[.agg #[.slice none 0 0, .int .i64 0, .int .i64 0], .slice none 0 0, .int .i64 0, .int .i64 0], []⟩ 8 (by kernel_rfl) (by kernel_rfl) (by kernel_rfl) (by kernel_rfl)) ?_
  intro W base args ds gs before hval hW _ hwt _
  exact law_contract (tb := 4) (okE 2000000000000000 20) (by kernel_rfl) leachMore_fit
    ⟨rfl, fun H ds h => by match ds, h with | [_, _, _, _], _ => exact ⟨rfl, rfl, rfl⟩⟩ (by kernel_rfl) (by kernel_rfl) laid (by decide +kernel) W base args ds gs before hval hW hwt
theorem leachMore_holds : Rows.LeachMoreSaid :=
  OpenClaim.holds_of_wide 10 Try.f10 rfl rfl rfl rfl rfl rfl rfl ⟨rfl, rfl, rfl, rfl, rfl⟩ rfl rfl rfl rfl rfl (by kernel_rfl) Try.func10 (by kernel_rfl)
    (of_decide_eq_true (by kernel_rfl)) (by unfold Func.isWrapper; first | (rw [if_pos (by decide +kernel)]; kernel_rfl) | (rw [if_neg (by decide +kernel)]; exact ⟨rfl, rfl⟩))
    (fun os started H enc _ => leachMore_lifted os started H enc)
#print axioms leachMore_holds
end Go.Proofs.Ythbpdkcfnbiejaa
