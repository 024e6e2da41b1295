import Derived.Test.YtgigacidbnobjaaAg
import Derived.KernelRfl
import Derived.Test.YtgigacidbnobjaaRows
set_option linter.unusedVariables false
set_option linter.unusedSimpArgs false
set_option linter.unusedSectionVars false
set_option maxRecDepth 100000
namespace Go.Sim.Pl
open Go.Proofs
theorem t45 (env : Env) (F : Nat) (a : Sl (Sl Int)) (x : Int) (n : Int) (b : Sl (Sl Int)) (y : Int) (k : Int) : (evFun Try.prog (cfg F) env 45 [(sl eIL 1 a), (i64 x), (i64 n), (sl eIL 1 b), (i64 y), (i64 k)]) = (bif (x != y) then some (.ret (.bool (decide (x < y)))) else (bif (n != k) then some (.ret (.bool (decide (n < k)))) else (tkOut (env.pf 79 [(sl eIL 1 a), (sl eIL 1 b)]) none (fun v8 => (tkBool v8 none fun b9 => some (.ret (.bool b9)))) (fun p8 => (tkIfc p8 none fun t9 x10 => (bif (flatP (.iface t9 x10)) then some (.pan (.iface t9 x10)) else none)))))) := by kernel_rfl
noncomputable def L79x0 (env : Env) (F : Nat) (a : Sl (Sl Int)) (b : Sl (Sl Int)) (fu : Nat) (i0 : Int) : Option Out := atLoop Try.prog (cfg F) env 79 [.r, .l, .r, .d] [] fu { tm := tmL 67 0 [(0, (sl eIL 1 a)), (1, (sl eIL 1 b)), (5, (i64 i0))], hp := [] }
noncomputable def L79x1 (env : Env) (F : Nat) (a : Sl (Sl Int)) (b : Sl (Sl Int)) (m0 : Nat) (fu : Nat) (i0 : Int) (i1 : Int) : Option Out := atLoop Try.prog (cfg F) env 79 [.r, .l, .r, .d, .d, .r, .l, .d, .r, .d] [m0] fu { tm := tmL 67 0 [(0, (sl eIL 1 a)), (1, (sl eIL 1 b)), (5, (i64 i0)), (6, (i64 i1))], hp := [] }
theorem t79 (env : Env) (F : Nat) (a : Sl (Sl Int)) (b : Sl (Sl Int)) : (evFun Try.prog (cfg F) env 79 [(sl eIL 1 a), (sl eIL 1 b)]) = (L79x0 env F a b F (0 : Int)) := by kernel_rfl
theorem L79x0s (env : Env) (F : Nat) (a : Sl (Sl Int)) (b : Sl (Sl Int)) (fu : Nat) (i0 : Int) : L79x0 env F a b (fu + 1) i0 = (bif (decide (i0 < (((Sl.len a) : Nat) : Int))) then (bif (decide (i0 < (((Sl.len b) : Nat) : Int))) then (L79x1 env F a b fu F i0 (0 : Int)) else some (.ret (.bool false))) else some (.ret (.bool false))) := by kernel_rfl
theorem L79x1s (env : Env) (F : Nat) (a : Sl (Sl Int)) (b : Sl (Sl Int)) (m0 : Nat) (fu : Nat) (i0 : Int) (i1 : Int) : L79x1 env F a b m0 (fu + 1) i0 i1 = (bif (decide ((0 : Int) ≤ i0)) then (bif (decide (i0 < (((Sl.len a) : Nat) : Int))) then (bif (decide (i1 < (((Sl.len (Sl.el a (Int.toNat i0))) : Nat) : Int))) then (bif (decide ((0 : Int) ≤ i0)) then (bif (decide (i0 < (((Sl.len b) : Nat) : Int))) then (bif (decide (i1 < (((Sl.len (Sl.el b (Int.toNat i0))) : Nat) : Int))) then (bif (decide ((0 : Int) ≤ i0)) then (bif (decide (i0 < (((Sl.len a) : Nat) : Int))) then (bif (decide ((0 : Int) ≤ i1)) then (bif (decide (i1 < (((Sl.len (Sl.el a (Int.toNat i0))) : Nat) : Int))) then (bif (decide ((0 : Int) ≤ i0)) then (bif (decide (i0 < (((Sl.len b) : Nat) : Int))) then (bif (decide ((0 : Int) ≤ i1)) then (bif (decide (i1 < (((Sl.len (Sl.el b (Int.toNat i0))) : Nat) : Int))) then (bif ((Sl.el (Sl.el a (Int.toNat i0)) (Int.toNat i1)) != (Sl.el (Sl.el b (Int.toNat i0)) (Int.toNat i1))) then (bif (decide ((0 : Int) ≤ i0)) then (bif (decide (i0 < (((Sl.len a) : Nat) : Int))) then (bif (decide ((0 : Int) ≤ i1)) then (bif (decide (i1 < (((Sl.len (Sl.el a (Int.toNat i0))) : Nat) : Int))) then (bif (decide ((0 : Int) ≤ i0)) then (bif (decide (i0 < (((Sl.len b) : Nat) : Int))) then (bif (decide ((0 : Int) ≤ i1)) then (bif (decide (i1 < (((Sl.len (Sl.el b (Int.toNat i0))) : Nat) : Int))) then some (.ret (.bool (decide ((Sl.el (Sl.el a (Int.toNat i0)) (Int.toNat i1)) < (Sl.el (Sl.el b (Int.toNat i0)) (Int.toNat i1)))))) else none) else none) else none) else none) else none) else none) else none) else none) else (L79x1 env F a b m0 fu i0 (IntKind.wrap .i64 (i1 + (1 : Int))))) else none) else none) else none) else none) else none) else none) else none) else none) else (L79x0 env F a b m0 (IntKind.wrap .i64 (i0 + (1 : Int))))) else none) else none) else (L79x0 env F a b m0 (IntKind.wrap .i64 (i0 + (1 : Int))))) else none) else none) := by kernel_rfl
noncomputable def L440x0 (env : Env) (F : Nat) (l : Sl Mach) (n : Int) (fu : Nat) : Option Out := atLoop Try.prog (cfg F) env 44 [.r, .l, .r, .d] [] fu { tm := tmL 51 0 [(0, (sl eMach 10 l)), (1, (i64 n)), (2, (.row true 0 0 (fun u5 => []))), (7, (i64 (0 : Int)))], hp := [] }
theorem t440 (env : Env) (F : Nat) (l : Sl Mach) (n : Int) : (evFun Try.prog (cfg F) env 44 [(sl eMach 10 l), (i64 n), (.row true 0 0 (fun u4 => []))]) = (L440x0 env F l n F) := by kernel_rfl
theorem L440x0s (env : Env) (F : Nat) (l : Sl Mach) (n : Int) (fu : Nat) : L440x0 env F l n (fu + 1) = some (.ret (.bool (((0 : Nat) : Int) == n))) := by kernel_rfl
theorem t371 (env : Env) (F : Nat) (l : Sl Mach) (hs : Sl Hour) : (evFun Try.prog (cfg F) env 37 [(sl eMach 10 l), (sl eHour 3 hs), (.row true 0 0 (fun u4 => []))]) = (tkOut (env.pf 60 [(sl eMach 10 l), (sl eHour 3 hs), (.row true 0 0 (fun u4 => []))]) none (fun v4 => (tkInt v4 none fun q5 n6 => (bif (decide (q5 = .i64)) then (bif (n6 != (0 : Int)) then some (.ret (.tup [(.agg [(i64 (0 : Int)), (i64 (0 : Int))]), (i64 (0 : Int)), (.int q5 n6)])) else (tkOut (env.pf 61 [(sl eMach 10 l), (sl eHour 3 hs), (.row true 0 0 (fun u7 => []))]) none (fun v7 => (tkTup v7 none fun l8 => (tkCons l8 none fun v9 r10 => (tkAgg v9 none fun l11 => (tkCons l11 none fun v12 r13 => (tkInt v12 none fun q14 n15 => (tkCons r13 none fun v16 r17 => (tkInt v16 none fun q18 n19 => (tkCons r17 none fun v20 r21 => (tkInt v20 none fun q22 n23 => (tkNil r21 none ((tkCons r10 none fun v24 r25 => (tkAgg v24 none fun l26 => (tkCons l26 none fun v27 r28 => (tkInt v27 none fun q29 n30 => (tkCons r28 none fun v31 r32 => (tkInt v31 none fun q33 n34 => (tkNil r32 none ((tkCons r25 none fun v35 r36 => (tkInt v35 none fun q37 n38 => (tkNil r36 none ((bif (decide (q18 = .i64)) then (bif (n19 != (1 : Int)) then some (.ret (.tup [(.agg [(i64 (0 : Int)), (i64 (0 : Int))]), (i64 (0 : Int)), (i64 (7 : Int))])) else some (.ret (.tup [(.agg [(.int q29 n30), (.int q33 n34)]), (.int q37 n38), (i64 (0 : Int))]))) else none))))))))))))))))))))))))) (fun p7 => (tkIfc p7 none fun t8 x9 => (bif (flatP (.iface t8 x9)) then some (.pan (.iface t8 x9)) else none))))) else none))) (fun p4 => (tkIfc p4 none fun t5 x6 => (bif (flatP (.iface t5 x6)) then some (.pan (.iface t5 x6)) else none)))) := by kernel_rfl
theorem t601 (env : Env) (F : Nat) (l : Sl Mach) (hs : Sl Hour) : (evFun Try.prog (cfg F) env 60 [(sl eMach 10 l), (sl eHour 3 hs), (.row true 0 0 (fun u4 => []))]) = (tkOut (env.pf 69 [(sl eMach 10 l), (sl eHour 3 hs)]) none (fun v4 => (tkInt v4 none fun q5 n6 => (bif (decide (q5 = .i64)) then (bif (n6 != (0 : Int)) then some (.ret (.int q5 n6)) else (bif (((0 : Nat) : Int) != (((Sl.len hs) : Nat) : Int)) then some (.ret (i64 (2 : Int))) else (tkOut (env.pf 91 [(.row true 0 0 (fun u7 => [])), (.fn (.func 92) [] [(.rptr 1 1 (fun u7 => [(sl eMach 10 l)]) 0 0)])]) none (fun v7 => (tkBool v7 none fun b8 => (bif (!b8) then some (.ret (i64 (2 : Int))) else some (.ret (i64 (0 : Int)))))) (fun p7 => (tkIfc p7 none fun t8 x9 => (bif (flatP (.iface t8 x9)) then some (.pan (.iface t8 x9)) else none)))))) else none))) (fun p4 => (tkIfc p4 none fun t5 x6 => (bif (flatP (.iface t5 x6)) then some (.pan (.iface t5 x6)) else none)))) := by kernel_rfl
noncomputable def L611x0 (env : Env) (F : Nat) (l : Sl Mach) (hs : Sl Hour) (fu : Nat) (b0 : Bool) (k1 : Nat) (k2 : Nat) (g3 : Nat → List V) : Option Out := atLoop Try.prog (cfg F) env 61 [.r, .r, .r, .r, .l, .r, .d] [] fu { tm := tmL 74 0 [(0, (sl eMach 10 l)), (1, (sl eHour 3 hs)), (6, (.optr 0 0 0)), (7, (.optr 1 0 0)), (9, (.row b0 k1 k2 g3)), (10, (.optr 2 0 0)), (11, (i64 (0 : Int))), (21, (.row true 0 0 (fun u9 => []))), (22, (i64 ((0 : Nat) : Int))), (23, (i64 (0 : Int)))], hp := [(.box 61 [(i64 (0 : Int)), (i64 (0 : Int)), (i64 (0 : Int))] true), (.box 48 [(i64 (0 : Int)), (i64 (0 : Int))] true), (.box 48 [(i64 (0 : Int)), (i64 (0 : Int))] true)] }
theorem t611 (env : Env) (F : Nat) (l : Sl Mach) (hs : Sl Hour) : (evFun Try.prog (cfg F) env 61 [(sl eMach 10 l), (sl eHour 3 hs), (.row true 0 0 (fun u4 => []))]) = (tkOut (env.pf 76 [(sl eMach 10 l)]) none (fun v4 => (tkRow v4 none fun nl5 n6 wd7 g8 => (L611x0 env F l hs F nl5 n6 wd7 g8))) (fun p4 => (tkIfc p4 none fun t5 x6 => (bif (flatP (.iface t5 x6)) then some (.pan (.iface t5 x6)) else none)))) := by kernel_rfl
theorem L611x0s (env : Env) (F : Nat) (l : Sl Mach) (hs : Sl Hour) (fu : Nat) (b0 : Bool) (k1 : Nat) (k2 : Nat) (g3 : Nat → List V) : L611x0 env F l hs (fu + 1) b0 k1 k2 g3 = some (.ret (.tup [(.agg [(i64 (0 : Int)), (i64 (1 : Int)), (i64 (0 : Int))]), (.agg [(i64 (0 : Int)), (i64 (0 : Int))]), (i64 (0 : Int))])) := by kernel_rfl
noncomputable def L910x0 (env : Env) (F : Nat) (l : Sl Mach) (fu : Nat) : Option Out := atLoop Try.prog (cfg F) env 91 [.r, .l, .r, .d] [] fu { tm := tmL 20 0 [(1, (.fn (.func 92) [] [(.rptr 1 1 (fun u4 => [(sl eMach 10 l)]) 0 0)])), (7, (.row true 0 0 (fun u4 => []))), (8, (i64 ((0 : Nat) : Int))), (9, (i64 (0 : Int)))], hp := [] }
theorem t910 (env : Env) (F : Nat) (l : Sl Mach) : (evFun Try.prog (cfg F) env 91 [(.row true 0 0 (fun u3 => [])), (.fn (.func 92) [] [(.rptr 1 1 (fun u3 => [(sl eMach 10 l)]) 0 0)])]) = (L910x0 env F l F) := by kernel_rfl
theorem L910x0s (env : Env) (F : Nat) (l : Sl Mach) (fu : Nat) : L910x0 env F l (fu + 1) = some (.ret (.bool true)) := by kernel_rfl
theorem t450 (env : Env) (F : Nat) (a : Sl (Sl Int)) (x : Int) (n : Int) (y : Int) (k : Int) : (evFun Try.prog (cfg F) env 45 [(sl eIL 1 a), (i64 x), (i64 n), (.row true 0 0 (fun u7 => [])), (i64 y), (i64 k)]) = (bif (x != y) then some (.ret (.bool (decide (x < y)))) else (bif (n != k) then some (.ret (.bool (decide (n < k)))) else (tkOut (env.pf 79 [(sl eIL 1 a), (.row true 0 0 (fun u7 => []))]) none (fun v7 => (tkBool v7 none fun b8 => some (.ret (.bool b8)))) (fun p7 => (tkIfc p7 none fun t8 x9 => (bif (flatP (.iface t8 x9)) then some (.pan (.iface t8 x9)) else none)))))) := by kernel_rfl
noncomputable def L790x0 (env : Env) (F : Nat) (a : Sl (Sl Int)) (fu : Nat) : Option Out := atLoop Try.prog (cfg F) env 79 [.r, .l, .r, .d] [] fu { tm := tmL 67 0 [(0, (sl eIL 1 a)), (1, (.row true 0 0 (fun u4 => []))), (5, (i64 (0 : Int)))], hp := [] }
theorem t790 (env : Env) (F : Nat) (a : Sl (Sl Int)) : (evFun Try.prog (cfg F) env 79 [(sl eIL 1 a), (.row true 0 0 (fun u3 => []))]) = (L790x0 env F a F) := by kernel_rfl
theorem L790x0s (env : Env) (F : Nat) (a : Sl (Sl Int)) (fu : Nat) : L790x0 env F a (fu + 1) = (bif (decide ((0 : Int) < (((Sl.len a) : Nat) : Int))) then some (.ret (.bool false)) else some (.ret (.bool false))) := by kernel_rfl
theorem t12 (env : Env) (F : Nat) (l : Sl Mach) (hs : Sl Hour) (sc : Sl (Sl Int)) : (evFun Try.prog (cfg F) env 12 [(sl eMach 10 l), (sl eHour 3 hs), (sl eIL 1 sc)]) = (tkOut (env.pf 15 [(sl eMach 10 l)]) none (fun v5 => (tkBool v5 none fun b6 => (bif (!b6) then (tkOut (env.pf 16 []) none (fun v7 => (tkBool v7 none fun b8 => some (.ret (.bool b8)))) (fun p7 => (tkIfc p7 none fun t8 x9 => (bif (flatP (.iface t8 x9)) then some (.pan (.iface t8 x9)) else none)))) else (bif (decide ((((Sl.len l) : Nat) : Int) > (3 : Int))) then (tkOut (env.pf 16 []) none (fun v7 => (tkBool v7 none fun b8 => some (.ret (.bool b8)))) (fun p7 => (tkIfc p7 none fun t8 x9 => (bif (flatP (.iface t8 x9)) then some (.pan (.iface t8 x9)) else none)))) else (bif (decide ((((Sl.len hs) : Nat) : Int) > (5 : Int))) then (tkOut (env.pf 16 []) none (fun v7 => (tkBool v7 none fun b8 => some (.ret (.bool b8)))) (fun p7 => (tkIfc p7 none fun t8 x9 => (bif (flatP (.iface t8 x9)) then some (.pan (.iface t8 x9)) else none)))) else (tkOut (env.pf 31 [(sl eHour 3 hs), (sl eIL 1 sc)]) none (fun v7 => (tkBool v7 none fun b8 => (bif (!b8) then (tkOut (env.pf 16 []) none (fun v9 => (tkBool v9 none fun b10 => some (.ret (.bool b10)))) (fun p9 => (tkIfc p9 none fun t10 x11 => (bif (flatP (.iface t10 x11)) then some (.pan (.iface t10 x11)) else none)))) else (tkOut (env.pf 33 [(sl eMach 10 l), (sl eHour 3 hs), (sl eIL 1 sc)]) none (fun v9 => (tkInt v9 none fun q10 n11 => (bif (decide (q10 = .i64)) then (bif (n11 != (0 : Int)) then (tkOut (env.pf 16 []) none (fun v12 => (tkBool v12 none fun b13 => some (.ret (.bool b13)))) (fun p12 => (tkIfc p12 none fun t13 x14 => (bif (flatP (.iface t13 x14)) then some (.pan (.iface t13 x14)) else none)))) else (tkOut (env.pf 41 [(sl eMach 10 l), (sl eHour 3 hs)]) none (fun v12 => (tkTup v12 none fun l13 => (tkCons l13 none fun v14 r15 => (tkRow v14 none fun nl16 n17 wd18 g19 => (tkCons r15 none fun v20 r21 => (tkInt v20 none fun q22 n23 => (tkCons r21 none fun v24 r25 => (tkInt v24 none fun q26 n27 => (tkNil r25 none ((tkOut (env.pf 37 [(sl eMach 10 l), (sl eHour 3 hs), (sl eIL 1 sc)]) none (fun v28 => (tkTup v28 none fun l29 => (tkCons l29 none fun v30 r31 => (tkAgg v30 none fun l32 => (tkCons l32 none fun v33 r34 => (tkInt v33 none fun q35 n36 => (tkCons r34 none fun v37 r38 => (tkInt v37 none fun q39 n40 => (tkNil r38 none ((tkCons r31 none fun v41 r42 => (tkInt v41 none fun q43 n44 => (tkCons r42 none fun v45 r46 => (tkInt v45 none fun q47 n48 => (tkNil r46 none ((bif (decide (q47 = .i64)) then (bif (n48 != (0 : Int)) then (bif (decide (q47 = .i64)) then (bif (n48 != (7 : Int)) then some (.ret (.bool false)) else (bif (decide (q26 = .i64)) then (bif (n27 != (0 : Int)) then (bif (decide (q26 = .i64)) then (bif (n27 == (5 : Int)) then (bif (decide (q47 = .i64)) then (bif (n48 == (7 : Int)) then (tkOut (env.pf 16 []) none (fun v49 => (tkBool v49 none fun b50 => some (.ret (.bool b50)))) (fun p49 => (tkIfc p49 none fun t50 x51 => (bif (flatP (.iface t50 x51)) then some (.pan (.iface t50 x51)) else none)))) else some (.ret (.bool false))) else none) else some (.ret (.bool false))) else none) else (tkOut (env.pf 44 [(sl eMach 10 l), (i64 (((Sl.len hs) : Nat) : Int)), (.row nl16 n17 wd18 g19)]) none (fun v49 => (tkBool v49 none fun b50 => (bif (!b50) then some (.ret (.bool false)) else (tkOut (env.pf 37 [(sl eMach 10 l), (sl eHour 3 hs), (.row nl16 n17 wd18 g19)]) none (fun v51 => (tkTup v51 none fun l52 => (tkCons l52 none fun v53 r54 => (tkAgg v53 none fun l55 => (tkCons l55 none fun v56 r57 => (tkInt v56 none fun q58 n59 => (tkCons r57 none fun v60 r61 => (tkInt v60 none fun q62 n63 => (tkNil r61 none ((tkCons r54 none fun v64 r65 => (tkInt v64 none fun q66 n67 => (tkCons r65 none fun v68 r69 => (tkInt v68 none fun q70 n71 => (tkNil r69 none ((bif (decide (q70 = .i64)) then (bif (n71 == (0 : Int)) then (bif (decide (q62 = q22)) then (bif (n63 == n23) then (bif (decide (q47 = .i64)) then (bif (n48 != (0 : Int)) then (tkOut (env.pf 16 []) none (fun v72 => (tkBool v72 none fun b73 => some (.ret (.bool b73)))) (fun p72 => (tkIfc p72 none fun t73 x74 => (bif (flatP (.iface t73 x74)) then some (.pan (.iface t73 x74)) else none)))) else (tkOut (env.pf 45 [(sl eIL 1 sc), (.int q39 n40), (.int q43 n44), (.row nl16 n17 wd18 g19), (.int q22 n23), (.int q66 n67)]) none (fun v72 => (tkBool v72 none fun b73 => (bif (!b73) then (tkOut (env.pf 16 []) none (fun v74 => (tkBool v74 none fun b75 => some (.ret (.bool b75)))) (fun p74 => (tkIfc p74 none fun t75 x76 => (bif (flatP (.iface t75 x76)) then some (.pan (.iface t75 x76)) else none)))) else some (.ret (.bool false))))) (fun p72 => (tkIfc p72 none fun t73 x74 => (bif (flatP (.iface t73 x74)) then some (.pan (.iface t73 x74)) else none))))) else none) else some (.ret (.bool false))) else none) else some (.ret (.bool false))) else none))))))))))))))))) (fun p51 => (tkIfc p51 none fun t52 x53 => (bif (flatP (.iface t52 x53)) then some (.pan (.iface t52 x53)) else none))))))) (fun p49 => (tkIfc p49 none fun t50 x51 => (bif (flatP (.iface t50 x51)) then some (.pan (.iface t50 x51)) else none))))) else none)) else none) else (bif (decide (q26 = .i64)) then (bif (n27 != (0 : Int)) then (bif (decide (q26 = .i64)) then (bif (n27 == (5 : Int)) then (bif (decide (q47 = .i64)) then (bif (n48 == (7 : Int)) then (tkOut (env.pf 16 []) none (fun v49 => (tkBool v49 none fun b50 => some (.ret (.bool b50)))) (fun p49 => (tkIfc p49 none fun t50 x51 => (bif (flatP (.iface t50 x51)) then some (.pan (.iface t50 x51)) else none)))) else some (.ret (.bool false))) else none) else some (.ret (.bool false))) else none) else (tkOut (env.pf 44 [(sl eMach 10 l), (i64 (((Sl.len hs) : Nat) : Int)), (.row nl16 n17 wd18 g19)]) none (fun v49 => (tkBool v49 none fun b50 => (bif (!b50) then some (.ret (.bool false)) else (tkOut (env.pf 37 [(sl eMach 10 l), (sl eHour 3 hs), (.row nl16 n17 wd18 g19)]) none (fun v51 => (tkTup v51 none fun l52 => (tkCons l52 none fun v53 r54 => (tkAgg v53 none fun l55 => (tkCons l55 none fun v56 r57 => (tkInt v56 none fun q58 n59 => (tkCons r57 none fun v60 r61 => (tkInt v60 none fun q62 n63 => (tkNil r61 none ((tkCons r54 none fun v64 r65 => (tkInt v64 none fun q66 n67 => (tkCons r65 none fun v68 r69 => (tkInt v68 none fun q70 n71 => (tkNil r69 none ((bif (decide (q70 = .i64)) then (bif (n71 == (0 : Int)) then (bif (decide (q62 = q22)) then (bif (n63 == n23) then (bif (decide (q47 = .i64)) then (bif (n48 != (0 : Int)) then (tkOut (env.pf 16 []) none (fun v72 => (tkBool v72 none fun b73 => some (.ret (.bool b73)))) (fun p72 => (tkIfc p72 none fun t73 x74 => (bif (flatP (.iface t73 x74)) then some (.pan (.iface t73 x74)) else none)))) else (tkOut (env.pf 45 [(sl eIL 1 sc), (.int q39 n40), (.int q43 n44), (.row nl16 n17 wd18 g19), (.int q22 n23), (.int q66 n67)]) none (fun v72 => (tkBool v72 none fun b73 => (bif (!b73) then (tkOut (env.pf 16 []) none (fun v74 => (tkBool v74 none fun b75 => some (.ret (.bool b75)))) (fun p74 => (tkIfc p74 none fun t75 x76 => (bif (flatP (.iface t75 x76)) then some (.pan (.iface t75 x76)) else none)))) else some (.ret (.bool false))))) (fun p72 => (tkIfc p72 none fun t73 x74 => (bif (flatP (.iface t73 x74)) then some (.pan (.iface t73 x74)) else none))))) else none) else some (.ret (.bool false))) else none) else some (.ret (.bool false))) else none))))))))))))))))) (fun p51 => (tkIfc p51 none fun t52 x53 => (bif (flatP (.iface t52 x53)) then some (.pan (.iface t52 x53)) else none))))))) (fun p49 => (tkIfc p49 none fun t50 x51 => (bif (flatP (.iface t50 x51)) then some (.pan (.iface t50 x51)) else none))))) else none)) else none))))))))))))))))) (fun p28 => (tkIfc p28 none fun t29 x30 => (bif (flatP (.iface t29 x30)) then some (.pan (.iface t29 x30)) else none)))))))))))))) (fun p12 => (tkIfc p12 none fun t13 x14 => (bif (flatP (.iface t13 x14)) then some (.pan (.iface t13 x14)) else none))))) else none))) (fun p9 => (tkIfc p9 none fun t10 x11 => (bif (flatP (.iface t10 x11)) then some (.pan (.iface t10 x11)) else none))))))) (fun p7 => (tkIfc p7 none fun t8 x9 => (bif (flatP (.iface t8 x9)) then some (.pan (.iface t8 x9)) else none))))))))) (fun p5 => (tkIfc p5 none fun t6 x7 => (bif (flatP (.iface t6 x7)) then some (.pan (.iface t6 x7)) else none)))) := by kernel_rfl
end Go.Sim.Pl


namespace Go.Sim.Pl
open Go.Proofs
theorem fitInt {k : IntKind} {c : V} (h : Fit (.int k) c) : ∃ n, c = .int k n ∧ k.min ≤ n ∧ n ≤ k.max := by
  cases h with
  | int h => exact ⟨_, rfl, h⟩
theorem fitL_nil {cs : List V} (h : FitL [] cs) : cs = [] := by
  have := h.1
  exact List.eq_nil_of_length_eq_zero this
theorem fitL_cons {s : Sh} {l : List Sh} {cs : List V} (h : FitL (s :: l) cs) : ∃ c cs', cs = c :: cs' ∧ Fit s c ∧ FitL l cs' := by
  obtain ⟨h1, h2⟩ := h
  cases cs with
  | nil => simp at h1
  | cons c cs' => exact ⟨c, cs', rfl, h2 0 s c rfl rfl, by simpa using h1, fun j s' c' g1 g2 => h2 (j + 1) s' c' (by simpa using g1) (by simpa using g2)⟩
theorem fitL_int {k : IntKind} {l : List Sh} {cs : List V} (h : FitL (.int k :: l) cs) : ∃ n cs', cs = .int k n :: cs' ∧ FitL l cs' := by
  obtain ⟨c, cs', rfl, h1, h2⟩ := fitL_cons h
  obtain ⟨n, rfl, _⟩ := fitInt h1
  exact ⟨n, cs', rfl, h2⟩
abbrev SlOk {α : Type} (s : Sl α) : Prop := s.len ≤ 140737488355328 ∧ (s.nl = true → s.len = 0)
theorem fitRow {α : Type} {e : α → List V} {P : α → Prop} {l : List Sh} (dec : ∀ cs, FitL l cs → ∃ a : α, cs = e a ∧ P a) {c : V} (h : Fit (.row l) c) : ∃ s : Sl α, c = sl e l.length s ∧ SlOk s ∧ ∀ i, P (s.el i) := by
  cases h with
  | row h hn hl hf =>
    rename_i nl len get
    have hx : ∀ i, ∃ a : α, get i = e a ∧ P a := fun i => dec _ ⟨hl i, hf i⟩
    refine ⟨⟨nl, len, fun i => (hx i).choose⟩, ?_, ⟨h, hn⟩, fun i => (hx i).choose_spec.2⟩
    show V.row nl len l.length get = V.row nl len l.length fun i => e (hx i).choose
    congr 1
    funext i
    exact (hx i).choose_spec.1
theorem fitL_row {α : Type} {e : α → List V} {P : α → Prop} {l r : List Sh} (dec : ∀ cs, FitL l cs → ∃ a : α, cs = e a ∧ P a) {cs : List V} (h : FitL (.row l :: r) cs) : ∃ (s : Sl α) (cs' : List V), cs = sl e l.length s :: cs' ∧ SlOk s ∧ (∀ i, P (s.el i)) ∧ FitL r cs' := by
  obtain ⟨c, cs', rfl, h1, h2⟩ := fitL_cons h
  obtain ⟨s, rfl, h3, h4⟩ := fitRow dec h1
  exact ⟨s, cs', rfl, h3, h4, h2⟩
theorem fitL_bool {l : List Sh} {cs : List V} (h : FitL (.bool :: l) cs) : ∃ n cs', cs = .bool n :: cs' ∧ FitL l cs' := by
  obtain ⟨c, cs', rfl, h1, h2⟩ := fitL_cons h
  cases h1 with
  | bool => exact ⟨_, cs', rfl, h2⟩
abbrev i8 : Sh := .int .i64
abbrev shRow : List Sh := [i8, i8, i8, i8]
abbrev shMach : List Sh := [i8, .row shRow, i8, i8, i8, i8, i8, i8, .bool, i8]
abbrev shHour : List Sh := [i8, i8, i8]
abbrev shSpan : List Sh := [i8, i8]
abbrev I64 (n : Int) : Prop := IntKind.i64.min ≤ n ∧ n ≤ IntKind.i64.max
theorem decInt (cs : List V) (h : FitL [i8] cs) : ∃ n : Int, cs = eInt n ∧ I64 n := by
  obtain ⟨c, cs', rfl, h1, h2⟩ := fitL_cons h
  obtain ⟨n, rfl, m1, m2⟩ := fitInt h1
  obtain rfl := fitL_nil h2
  refine ⟨n, rfl, ?_⟩
  exact ⟨m1, m2⟩
theorem decIL (cs : List V) (h : FitL [.row [i8]] cs) : ∃ s : Sl Int, cs = eIL s ∧ SlOk s := by
  obtain ⟨s, _, rfl, h1, _, h2⟩ := fitL_row decInt h
  obtain rfl := fitL_nil h2
  exact ⟨s, rfl, h1⟩
theorem decRow (cs : List V) (h : FitL shRow cs) : ∃ c : Row, cs = eRow c ∧ True := by
  obtain ⟨a0, _, rfl, h1⟩ := fitL_int h
  obtain ⟨a1, _, rfl, h2⟩ := fitL_int h1
  obtain ⟨a2, _, rfl, h3⟩ := fitL_int h2
  obtain ⟨a3, _, rfl, h4⟩ := fitL_int h3
  obtain rfl := fitL_nil h4
  exact ⟨⟨a0, a1, a2, a3⟩, rfl, trivial⟩
theorem decHour (cs : List V) (h : FitL shHour cs) : ∃ c : Hour, cs = eHour c ∧ True := by
  obtain ⟨a0, _, rfl, h1⟩ := fitL_int h
  obtain ⟨a1, _, rfl, h2⟩ := fitL_int h1
  obtain ⟨a2, _, rfl, h3⟩ := fitL_int h2
  obtain rfl := fitL_nil h3
  exact ⟨⟨a0, ⟨a1, a2⟩⟩, rfl, trivial⟩
theorem dcMach (cs : List V) (h : FitL shMach cs) : ∃ c : Mach, cs = eMach c ∧ SlOk c.rows := by
  obtain ⟨a0, _, rfl, h1⟩ := fitL_int h
  obtain ⟨rw, _, rfl, h0, _, h2⟩ := fitL_row decRow h1
  obtain ⟨a2, _, rfl, h3⟩ := fitL_int h2
  obtain ⟨a3, _, rfl, h4⟩ := fitL_int h3
  obtain ⟨a4, _, rfl, h5⟩ := fitL_int h4
  obtain ⟨a5, _, rfl, h6⟩ := fitL_int h5
  obtain ⟨a6, _, rfl, h7⟩ := fitL_int h6
  obtain ⟨a7, _, rfl, h8⟩ := fitL_int h7
  obtain ⟨a8, _, rfl, h9⟩ := fitL_bool h8
  obtain ⟨a9, _, rfl, h10⟩ := fitL_int h9
  obtain rfl := fitL_nil h10
  exact ⟨⟨a0, rw, a2, a3, a4, a5, a6, a7, a8, a9⟩, rfl, h0⟩
theorem own : ownKnob Try.prog.godebug = none := by kernel_rfl
end Go.Sim.Pl


namespace Go.Sim.Pl
open Go.Proofs
variable (F d : Nat)
end Go.Sim.Pl


namespace Go.Sim.Pl
open Go.Proofs
theorem dd {α : Type} [DecidableEq α] (a : α) : decide (a = a) = true := decide_eq_true rfl
variable (F d : Nat)
theorem inB_of {l : Sl Mach} {hs : Sl Hour} (hF : 140737488355330 < F) (hl : l.len ≤ 140737488355328) (hR : ∀ i, (l.el i).rows.len ≤ 140737488355328) (hh : hs.len ≤ 140737488355328) : InB l hs F :=
  ⟨⟨lenB hl, by omega⟩, fun i _ => ⟨lenB (hR i), by have := hR i; omega⟩, lenB hh, by omega⟩
theorem schB_of {sc : Sl (Sl Int)} (hF : 140737488355330 < F) (hs : sc.len ≤ 140737488355328) (hw : ∀ i, (sc.el i).len ≤ 140737488355328) : SchB sc F :=
  ⟨⟨lenB hs, by omega⟩, fun i _ => ⟨lenB (hw i), by have := hw i; omega⟩⟩
end Go.Sim.Pl


namespace Go.Sim.Pl
open Go.Proofs
def sumN (l : Sl Mach) (sc : Nat → Sl Int) : Nat → Int
  | 0 => 0
  | t + 1 => sumN l sc t + startN (sc t) (stAt l sc t) l.len
def sumE (l : Sl Mach) (sc : Nat → Sl Int) : Nat → Int
  | 0 => 0
  | t + 1 => sumE l sc t + startE l (sc t) (stAt l sc t) l.len
def sumLo (l : Sl Mach) (hs : Nat → Hour) (sc : Nat → Sl Int) : Nat → Int
  | 0 => 0
  | t + 1 => sumLo l hs sc t + (hourE l (sc t) (hs t)).1
def sumHi (l : Sl Mach) (hs : Nat → Hour) (sc : Nat → Sl Int) : Nat → Int
  | 0 => 0
  | t + 1 => sumHi l hs sc t + (hourE l (sc t) (hs t)).2
variable (F d : Nat)
section
variable {l : Sl Mach} (hl : PlantOk l) {hs : Sl Hour} (hh : HoursOk hs) (h24 : hs.len ≤ 24) {sc : Sl (Sl Int)} (hsc : SchedOk l hs.len sc) (hF : 1000 < F)
include hl hh h24 hsc hF
end
section
variable {l : Sl Mach} (hl : PlantOk l) {hs : Sl Hour} (hh : HoursOk hs) (h24 : hs.len ≤ 24) {sc : Sl (Sl Int)} (hsc : SchedOk l hs.len sc) (hF : 2000 < F)
include hl hF
include hh h24 hsc
end
end Go.Sim.Pl


namespace Go.Sim.Pl
open Go.Proofs
variable (F d : Nat)
end Go.Sim.Pl


namespace Go.Sim.Pl
open Go.Proofs
abbrev mst (l : Sl Mach) (x : Int) (z : Nat) : Int := (rowAt (l.el z) x).most
abbrev inK (l : Sl Mach) (r : Nat → Bool) (k : Int) (i : Nat) : Prop := (l.el i).kind = k ∧ r i = true
structure KindOk (l : Sl Mach) (r : Nat → Bool) (f x k : Int) (w : Nat → Int) : Prop where
  lim : ∀ i, i < l.len → inK l r k i → 0 ≤ w i ∧ w i ≤ mst l x i
  all : sumP (inK l r k) w l.len = f ∨ (sumP (inK l r k) w l.len < f ∧ ∀ i, i < l.len → inK l r k i → w i = mst l x i)
  low : (∃ m, m < l.len ∧ inK l r k m ∧ (rowAt (l.el m) x).least < w m) → ∀ i, i < l.len → inK l r k i → (rowAt (l.el i) x).least ≤ w i
  full : ∀ i m, i < l.len → m < l.len → inK l r k i → inK l r k m → (rowAt (l.el i) x).energy < (rowAt (l.el m) x).energy → (rowAt (l.el m) x).least < w m → w i = mst l x i
abbrev CarOk (l : Sl Mach) (r : Nat → Bool) (f x : Int) (w : Nat → Int) : Prop := (∀ i, i < l.len → (0 ≤ w i ∧ w i ≤ mst l x i) ∧ (r i = false → w i ≤ 0)) ∧ ∀ k : Int, 1 ≤ k ∧ k ≤ 3 → thereS l.el k l.len = true → sumP (fun i => (l.el i).kind = k) w l.len = f
abbrev prcS (l : Sl Mach) (r : Nat → Bool) (x k : Int) (w : Nat → Int) : Int := maxP (fun i => (l.el i).kind = k ∧ r i = true ∧ w i > (rowAt (l.el i) x).least) (fun i => (rowAt (l.el i) x).energy) l.len
end Go.Sim.Pl


namespace Go.Sim.Pl
open Go.Proofs
variable (F d : Nat)
section
variable {l : Sl Mach} {r : Sl Bool} {f : Int} (h4 : RunOk l r f) (hF : 2000 < F) {s : Span} (hs : RatioOk s) (a x : Int) (q16 : (E F (d + 42)).pf 16 [] = some (.ret (.bool true)))
include h4 hF hs q16
end
end Go.Sim.Pl


namespace Go.Sim.Pl
open Go.Proofs
def okL (l : Sl Mach) (hs : Nat → Hour) : Nat → (Nat → Sta) → List Int → Prop
  | _, _, [] => True
  | t, st, a :: p => (faultS l st (wayS l.len a) (hs t)).1 = 1 ∧ okL l hs (t + 1) (nextS l st (wayS l.len a)) p
def enL (l : Sl Mach) (hs : Nat → Hour) : Nat → (Nat → Sta) → List Int → Int
  | _, _, [] => 0
  | t, st, a :: p => (hourE l (wayS l.len a) (hs t)).2 + startE l (wayS l.len a) st l.len + enL l hs (t + 1) (nextS l st (wayS l.len a)) p
def stL (l : Sl Mach) : (Nat → Sta) → List Int → Int
  | _, [] => 0
  | st, a :: p => startN (wayS l.len a) st l.len + stL l (nextS l st (wayS l.len a)) p
def lexL : List Int → List Int → Prop
  | a :: p, b :: q => a < b ∨ a = b ∧ lexL p q
  | _, _ => True
def Vld (l : Sl Mach) (h : Hour) (st : Nat → Sta) (rest : (Nat → Sta) → Bst) (a : Nat) : Prop := (faultS l st (wayS l.len a) h).1 = 1 ∧ (rest (nextS l st (wayS l.len a))).right = true
abbrev adB (l : Sl Mach) (h : Hour) (st : Nat → Sta) (rest : (Nat → Sta) → Bst) (a : Nat) : Bst := addB l h st (rest (nextS l st (wayS l.len a))) a
def Pick (l : Sl Mach) (h : Hour) (st : Nat → Sta) (rest : (Nat → Sta) → Bst) (m : Nat) (o : Bst) : Prop :=
  (o.right = false ∧ ∀ a, a < m → ¬ Vld l h st rest a) ∨ ∃ a, a < m ∧ Vld l h st rest a ∧ o = adB l h st rest a ∧ ∀ b, b < m → Vld l h st rest b → (adB l h st rest a).energy < (adB l h st rest b).energy ∨ (adB l h st rest a).energy = (adB l h st rest b).energy ∧ ((adB l h st rest a).starts < (adB l h st rest b).starts ∨ (adB l h st rest a).starts = (adB l h st rest b).starts ∧ a ≤ b)
theorem pick_step {l : Sl Mach} {h : Hour} {st : Nat → Sta} {rest : (Nat → Sta) → Bst} {m : Nat} {o : Bst} (ho : Pick l h st rest m o) : Pick l h st rest (m + 1) (stepB l h st rest o m) := by
  unfold stepB
  by_cases h1 : (faultS l st (wayS l.len m) h).1 = 1
  case neg =>
    rw [if_pos h1]
    have hn : ¬ Vld l h st rest m := fun hv => h1 hv.1
    rcases ho with ⟨h2, h3⟩ | ⟨a, h2, h3, h4, h5⟩
    · refine .inl ⟨h2, fun b hb hv => ?_⟩
      rcases Nat.lt_or_eq_of_le (Nat.le_of_lt_succ hb) with h6 | h6
      · exact h3 b h6 hv
      · subst h6; exact hn hv
    · refine .inr ⟨a, by omega, h3, h4, fun b hb hv => ?_⟩
      rcases Nat.lt_or_eq_of_le (Nat.le_of_lt_succ hb) with h6 | h6
      · exact h5 b h6 hv
      · subst h6; exact absurd hv hn
  rw [if_neg (fun hh => hh h1)]
  by_cases h2 : (rest (nextS l st (wayS l.len m))).right = false
  · rw [if_pos h2]
    have hn : ¬ Vld l h st rest m := fun hv => by rw [hv.2] at h2; exact absurd h2 (by decide)
    rcases ho with ⟨h3, h4⟩ | ⟨a, h3, h4, h5, h6⟩
    · refine .inl ⟨h3, fun b hb hv => ?_⟩
      rcases Nat.lt_or_eq_of_le (Nat.le_of_lt_succ hb) with h7 | h7
      · exact h4 b h7 hv
      · subst h7; exact hn hv
    · refine .inr ⟨a, by omega, h4, h5, fun b hb hv => ?_⟩
      rcases Nat.lt_or_eq_of_le (Nat.le_of_lt_succ hb) with h7 | h7
      · exact h6 b h7 hv
      · subst h7; exact absurd hv hn
  rw [if_neg h2]
  have hv : Vld l h st rest m := ⟨h1, by simpa using h2⟩
  unfold takeB
  by_cases hc : o.right = false ∨ (adB l h st rest m).energy < o.energy ∨ (adB l h st rest m).energy = o.energy ∧ (adB l h st rest m).starts < o.starts
  · rw [if_pos hc]
    refine .inr ⟨m, by omega, hv, rfl, fun b hb hvb => ?_⟩
    rcases Nat.lt_or_eq_of_le (Nat.le_of_lt_succ hb) with h7 | h7
    · rcases ho with ⟨h3, h4⟩ | ⟨a, h3, h4, h5, h6⟩
      · exact absurd hvb (h4 b h7)
      · have h8 := h6 b h7 hvb
        rw [h5] at hc
        rcases hc with hc | hc
        · exact absurd hc (by simp [adB, addB])
        · omega
    · subst h7; exact .inr ⟨rfl, .inr ⟨rfl, Nat.le_refl _⟩⟩
  · rw [if_neg hc]
    rcases ho with ⟨h3, h4⟩ | ⟨a, h3, h4, h5, h6⟩
    · exact absurd (.inl h3) hc
    · refine .inr ⟨a, by omega, h4, h5, fun b hb hvb => ?_⟩
      rcases Nat.lt_or_eq_of_le (Nat.le_of_lt_succ hb) with h7 | h7
      · exact h6 b h7 hvb
      · subst h7
        rw [h5] at hc
        have h8 : ¬ ((adB l h st rest b).energy < (adB l h st rest a).energy ∨ (adB l h st rest b).energy = (adB l h st rest a).energy ∧ (adB l h st rest b).starts < (adB l h st rest a).starts) := fun hh => hc (.inr hh)
        omega
theorem pick_ways {l : Sl Mach} {h : Hour} {st : Nat → Sta} {rest : (Nat → Sta) → Bst} : ∀ (k m : Nat) (o : Bst), Pick l h st rest m o → Pick l h st rest (m + k) (waysB l h st rest k m o)
  | 0, _, _, ho => ho
  | k + 1, m, o, ho => by
    have e := pick_ways k (m + 1) _ (pick_step ho)
    rw [show m + (k + 1) = m + 1 + k by omega]
    exact e
theorem pick_bst {l : Sl Mach} (hs : Nat → Hour) (j t : Nat) (st : Nat → Sta) : Pick l (hs t) st (bst l hs j (t + 1)) (3 ^ l.len) (bst l hs (j + 1) t st) := by
  have e := pick_ways (l := l) (h := hs t) (st := st) (rest := bst l hs j (t + 1)) (3 ^ l.len) 0 bNo (.inl ⟨rfl, fun a ha => by omega⟩)
  rw [Nat.zero_add] at e
  exact e
theorem planW_len (l : Sl Mach) (hs : Nat → Hour) : ∀ (j t : Nat) (st : Nat → Sta), (planW l hs j t st).length = j
  | 0, _, _ => rfl
  | j + 1, t, st => by simp only [planW, List.length_cons, planW_len l hs j]
theorem planW_cons {l : Sl Mach} {hs : Nat → Hour} {j t : Nat} {st : Nat → Sta} {a : Nat} (e : bst l hs (j + 1) t st = adB l (hs t) st (bst l hs j (t + 1)) a) : planW l hs (j + 1) t st = (a : Int) :: planW l hs j (t + 1) (nextS l st (wayS l.len a)) := by
  have ew : (bst l hs (j + 1) t st).way = some (a : Int) := by rw [e]; rfl
  simp only [planW, ew, Option.getD]
theorem bst_att (l : Sl Mach) (hs : Nat → Hour) : ∀ (j t : Nat) (st : Nat → Sta), (bst l hs j t st).right = true → okL l hs t st (planW l hs j t st) ∧ enL l hs t st (planW l hs j t st) = (bst l hs j t st).energy ∧ stL l st (planW l hs j t st) = (bst l hs j t st).starts ∧ ∀ a ∈ planW l hs j t st, 0 ≤ a ∧ a < ((3 ^ l.len : Nat) : Int)
  | 0, _, _, _ => ⟨trivial, rfl, rfl, by simp [planW]⟩
  | j + 1, t, st, h => by
    rcases pick_bst (l := l) hs j t st with ⟨h1, _⟩ | ⟨a, h1, h2, h3, _⟩
    · rw [h1] at h; exact absurd h (by decide)
    · obtain ⟨i1, i2, i3, i4⟩ := bst_att l hs j (t + 1) _ h2.2
      rw [planW_cons h3, h3]
      refine ⟨⟨h2.1, i1⟩, ?_, ?_, ?_⟩
      · show _ + enL l hs (t + 1) _ _ = _ + _
        rw [i2]
      · show _ + stL l _ _ = _ + _
        rw [i3]
      · intro b hb
        rcases List.mem_cons.1 hb with h5 | h5
        · omega
        · exact i4 b h5
theorem bst_opt (l : Sl Mach) (hs : Nat → Hour) : ∀ (p : List Int) (t : Nat) (st : Nat → Sta), (∀ a ∈ p, 0 ≤ a ∧ a < ((3 ^ l.len : Nat) : Int)) → okL l hs t st p → (bst l hs p.length t st).right = true ∧ ((bst l hs p.length t st).energy < enL l hs t st p ∨ (bst l hs p.length t st).energy = enL l hs t st p ∧ ((bst l hs p.length t st).starts < stL l st p ∨ (bst l hs p.length t st).starts = stL l st p ∧ lexL (planW l hs p.length t st) p))
  | [], _, _, _, _ => ⟨rfl, .inr ⟨rfl, .inr ⟨rfl, trivial⟩⟩⟩
  | c :: p, t, st, hb, h => by
    obtain ⟨b, rfl⟩ : ∃ b : Nat, c = b := ⟨c.toNat, by have := hb c (by simp); omega⟩
    have hb0 := hb b (by simp)
    obtain ⟨i1, i2⟩ := bst_opt l hs p (t + 1) (nextS l st (wayS l.len b)) (fun a ha => hb a (by simp [ha])) h.2
    have hv : Vld l (hs t) st (bst l hs p.length (t + 1)) b := ⟨h.1, i1⟩
    rw [List.length_cons]
    rcases pick_bst (l := l) hs p.length t st with ⟨h1, h2⟩ | ⟨a, h1, h2, h3, h4⟩
    · exact absurd hv (h2 b (by omega))
    · have h5 := h4 b (by omega) hv
      refine ⟨by rw [h3]; rfl, ?_⟩
      rw [planW_cons h3, h3]
      have e1 : (adB l (hs t) st (bst l hs p.length (t + 1)) b).energy = (hourE l (wayS l.len b) (hs t)).2 + startE l (wayS l.len b) st l.len + (bst l hs p.length (t + 1) (nextS l st (wayS l.len b))).energy := rfl
      have e2 : (adB l (hs t) st (bst l hs p.length (t + 1)) b).starts = startN (wayS l.len b) st l.len + (bst l hs p.length (t + 1) (nextS l st (wayS l.len b))).starts := rfl
      have e3 : enL l hs t st ((b : Int) :: p) = (hourE l (wayS l.len b) (hs t)).2 + startE l (wayS l.len b) st l.len + enL l hs (t + 1) (nextS l st (wayS l.len b)) p := rfl
      have e4 : stL l st ((b : Int) :: p) = startN (wayS l.len b) st l.len + stL l (nextS l st (wayS l.len b)) p := rfl
      rw [e1, e2] at h5
      rw [e3, e4]
      show _ ∨ _ ∧ (_ ∨ _ ∧ ((a : Int) < b ∨ (a : Int) = b ∧ lexL _ p))
      by_cases hab : a = b
      · subst hab
        rw [e1, e2]
        rcases i2 with i2 | ⟨i2, i3 | ⟨i3, i4⟩⟩
        · exact .inl (by omega)
        · exact .inr ⟨by omega, .inl (by omega)⟩
        · exact .inr ⟨by omega, .inr ⟨by omega, .inr ⟨rfl, i4⟩⟩⟩
      · generalize (adB l (hs t) st (bst l hs p.length (t + 1)) a).energy = x at *
        generalize (adB l (hs t) st (bst l hs p.length (t + 1)) a).starts = y at *
        have i2' : (bst l hs p.length (t + 1) (nextS l st (wayS l.len b))).energy < enL l hs (t + 1) (nextS l st (wayS l.len b)) p ∨ (bst l hs p.length (t + 1) (nextS l st (wayS l.len b))).energy = enL l hs (t + 1) (nextS l st (wayS l.len b)) p ∧ (bst l hs p.length (t + 1) (nextS l st (wayS l.len b))).starts ≤ stL l (nextS l st (wayS l.len b)) p := by
          rcases i2 with i2 | ⟨i2, i3 | ⟨i3, _⟩⟩
          · exact .inl i2
          · exact .inr ⟨i2, by omega⟩
          · exact .inr ⟨i2, by omega⟩
        by_cases k1 : x < (hourE l (wayS l.len b) (hs t)).2 + startE l (wayS l.len b) st l.len + enL l hs (t + 1) (nextS l st (wayS l.len b)) p
        · exact .inl k1
        · refine .inr ⟨by omega, ?_⟩
          by_cases k2 : y < startN (wayS l.len b) st l.len + stL l (nextS l st (wayS l.len b)) p
          · exact .inl k2
          · exact .inr ⟨by omega, .inl (by omega)⟩
def numF (w : Nat → Int) : Nat → Int
  | 0 => 0
  | i + 1 => 3 * numF w i + w i
theorem numF_in {w : Nat → Int} : ∀ n, (∀ i, i < n → 0 ≤ w i ∧ w i ≤ 2) → 0 ≤ numF w n ∧ numF w n < ((3 ^ n : Nat) : Int)
  | 0, _ => by simp [numF]
  | n + 1, h => by
    have ih := numF_in n fun i hi => h i (by omega)
    have h0 := h n (by omega)
    simp only [numF]
    rw [Nat.pow_succ]
    generalize 3 ^ n = p at *
    omega
theorem digG_eq {w : Nat → Int} : ∀ n, (∀ i, i < n → 0 ≤ w i ∧ w i ≤ 2) → ∀ (g : Nat → Int) i, digG n (numF w n) g i = if i < n then w i else g i
  | 0, _, g, i => by simp [digG]
  | n + 1, h, g, i => by
    have ih := digG_eq n (fun i hi => h i (by omega))
    have h0 := h n (by omega)
    have hb := numF_in n fun i hi => h i (by omega)
    simp only [digG, numF]
    have e1 : (3 * numF w n + w n).tdiv 3 = numF w n := by
      rw [Int.tdiv_eq_ediv_of_nonneg (by omega)]; omega
    have e2 : (3 * numF w n + w n).tmod 3 = w n := by
      rw [Int.tmod_eq_emod_of_nonneg (by omega)]; omega
    rw [e1, e2, ih]
    by_cases h1 : i < n
    · rw [if_pos h1, if_pos (by omega)]
    · rw [if_neg h1]
      by_cases h2 : i = n
      · rw [if_pos h2, if_pos (by omega), h2]
      · rw [if_neg h2, if_neg (by omega)]
abbrev WEq (n : Nat) (w w' : Sl Int) : Prop := w.len = n ∧ w'.len = n ∧ ∀ i, i < n → w.el i = w'.el i
theorem way_num {n : Nat} {w : Sl Int} (h : DoesOk n w) : WEq n w (wayS n (numF w.el n)) :=
  ⟨h.1, rfl, fun i hi => by
    show w.el i = digG n (numF w.el n) (fun _ => 0) i
    rw [digG_eq n h.2, if_pos hi]⟩
theorem digG_in : ∀ (n : Nat) (a : Int) (g : Nat → Int) i, 0 ≤ a → i < n → 0 ≤ digG n a g i ∧ digG n a g i ≤ 2
  | 0, _, _, i, _, h => by omega
  | n + 1, a, g, i, ha, h => by
    simp only [digG]
    have e1 : a.tdiv 3 = a / 3 := Int.tdiv_eq_ediv_of_nonneg ha
    have e2 : a.tmod 3 = a % 3 := Int.tmod_eq_emod_of_nonneg ha
    by_cases h1 : i < n
    · exact digG_in n _ _ i (by rw [e1]; omega) h1
    · have h2 : i = n := by omega
      subst h2
      have : ∀ (m : Nat) (b : Int) (g : Nat → Int) k, m ≤ k → digG m b g k = g k := by
        intro m
        induction m with
        | zero => intro b g k _; rfl
        | succ m ih =>
          intro b g k hk
          simp only [digG]
          rw [ih _ _ k (by omega), if_neg (by omega)]
      rw [this i _ _ i (Nat.le_refl _), if_pos rfl, e2]
      omega
theorem way_does (n : Nat) {a : Int} (ha : 0 ≤ a) : DoesOk n (wayS n a) := ⟨rfl, fun i hi => digG_in n a _ i ha hi⟩
section
variable {l : Sl Mach} {w w' : Sl Int} (h : WEq l.len w w')
include h
theorem runs_weq : runsS w = runsS w' := by
  unfold runsS
  rw [h.1, h.2.1]
  exact rowT_congr fun j hj => by rw [h.2.2 j hj]
theorem busy_weq : ∀ i, i ≤ l.len → busyB w.el i = busyB w'.el i
  | 0, _ => rfl
  | i + 1, hi => by simp only [busyB, busy_weq i (by omega), h.2.2 i (by omega)]
theorem fault_weq {st st' : Nat → Sta} (e : ∀ i, i < l.len → st i = st' i) (ho : Hour) : faultS l st w ho = faultS l st' w' ho := by
  rw [faultS_congr e]
  unfold faultS
  rw [firstP_congr (p := fun i => upB (l.el i) (st' i) (w.el i)) (q := fun i => upB (l.el i) (st' i) (w'.el i)) l.len 0 (fun k _ h2 => by rw [h.2.2 k (by omega)])]
  rw [firstP_congr (p := fun i => downB (l.el i) (st' i) (w.el i)) (q := fun i => downB (l.el i) (st' i) (w'.el i)) l.len 0 (fun k _ h2 => by rw [h.2.2 k (by omega)])]
  rw [firstP_congr (p := fun i => cutB (l.el i) (st' i) (w.el i)) (q := fun i => cutB (l.el i) (st' i) (w'.el i)) l.len 0 (fun k _ h2 => by rw [h.2.2 k (by omega)])]
  rw [firstP_congr (p := crewB w.el) (q := crewB w'.el) l.len 0 (fun k _ h2 => by unfold crewB; rw [busy_weq h k (by omega), h.2.2 k (by omega)])]
  rw [firstP_congr (p := fun i => wornB (l.el i) (st' i) (w.el i)) (q := fun i => wornB (l.el i) (st' i) (w'.el i)) l.len 0 (fun k _ h2 => by rw [h.2.2 k (by omega)])]
  rw [runs_weq h]
theorem hourE_weq (ho : Hour) : hourE l w ho = hourE l w' ho := by
  unfold hourE
  rw [runs_weq h]
theorem start_weq {st st' : Nat → Sta} (e : ∀ i, i < l.len → st i = st' i) : startE l w st l.len = startE l w' st' l.len ∧ startN w st l.len = startN w' st' l.len := by
  have e1 := start_congr (l := l) (w := w) l.len e
  rw [e1.1, e1.2]
  have hb : ∀ i, startB w st' i = startB w' st' i := fun i => by unfold startB; rw [runs_weq h]
  have : ∀ n, startE l w st' n = startE l w' st' n ∧ startN w st' n = startN w' st' n := by
    intro n
    induction n with
    | zero => exact ⟨rfl, rfl⟩
    | succ n ih => simp only [startE, startN, hb, ih.1, ih.2]; exact ⟨trivial, trivial⟩
  exact this _
end
theorem play_L {l : Sl Mach} {hs : Nat → Hour} {sc : Nat → Sl Int} : ∀ (p : List Int) (t : Nat) (st : Nat → Sta) (lo hi n : Int), (∀ i, i < l.len → stAt l sc t i = st i) → (∀ k (hk : k < p.length), WEq l.len (sc (t + k)) (wayS l.len p[k])) →
    ((playR l hs sc p.length t lo hi n).rule = 1 ↔ okL l hs t st p) ∧ (okL l hs t st p → (playR l hs sc p.length t lo hi n).hi = hi + enL l hs t st p ∧ (playR l hs sc p.length t lo hi n).many = n + stL l st p)
  | [], t, st, lo, hi, n, _, _ => by simp [playR, okL, enL, stL]
  | a :: p, t, st, lo, hi, n, e, hw => by
    have hw0 : WEq l.len (sc t) (wayS l.len a) := hw 0 (by simp)
    have e' : ∀ i, i < l.len → stAt l sc (t + 1) i = nextS l st (wayS l.len a) i := fun i hi => by
      show afterS (stAt l sc t i) (l.el i) ((sc t).el i) = afterS (st i) (l.el i) ((wayS l.len a).el i)
      rw [e i hi, hw0.2.2 i hi]
    have ih := play_L (l := l) (hs := hs) (sc := sc) p (t + 1) (nextS l st (wayS l.len a)) (lo + ((hourE l (sc t) (hs t)).1 + startE l (sc t) (stAt l sc t) l.len)) (hi + ((hourE l (sc t) (hs t)).2 + startE l (sc t) (stAt l sc t) l.len)) (n + startN (sc t) (stAt l sc t) l.len) e' (fun k hk => by
      have := hw (k + 1) (by simp; omega)
      rw [show t + 1 + k = t + (k + 1) by omega]
      exact this)
    rw [List.length_cons]
    simp only [playR]
    rw [fault_weq hw0 e (hs t)]
    by_cases h1 : (faultS l st (wayS l.len a) (hs t)).1 = 1
    · rw [if_neg (fun hh => hh h1)]
      refine ⟨⟨fun h => ⟨h1, ih.1.1 h⟩, fun h => ih.1.2 h.2⟩, fun h => ?_⟩
      obtain ⟨i1, i2⟩ := ih.2 h.2
      rw [i1, i2, hourE_weq hw0, (start_weq hw0 e).1, (start_weq hw0 e).2]
      simp only [enL, stL]
      omega
    · rw [if_pos h1]
      exact ⟨⟨fun h => absurd h h1, fun h => absurd h.1 h1⟩, fun h => absurd h.1 h1⟩
def codes (n : Nat) (sc : Nat → Sl Int) (h : Nat) : List Int := (List.range h).map fun t => numF (sc t).el n
theorem codes_len (n : Nat) (sc : Nat → Sl Int) (h : Nat) : (codes n sc h).length = h := by simp [codes]
theorem codes_at {n : Nat} {sc : Nat → Sl Int} {h k : Nat} (hk : k < (codes n sc h).length) : (codes n sc h)[k] = numF (sc k).el n := by simp [codes]
section
variable {l : Sl Mach} {hs : Sl Hour} {sc : Sl (Sl Int)}
theorem codes_in (hsc : SchedOk l hs.len sc) : ∀ a ∈ codes l.len sc.el hs.len, 0 ≤ a ∧ a < ((3 ^ l.len : Nat) : Int) := by
  intro a ha
  unfold codes at ha
  rw [List.mem_map] at ha
  obtain ⟨t, ht, rfl⟩ := ha
  rw [List.mem_range] at ht
  exact numF_in l.len (hsc.1 t (by have := hsc.2; omega)).2
theorem play_codes (hsc : SchedOk l hs.len sc) : ((playS l hs sc).rule = 1 ↔ okL l hs.el 0 (beginF l) (codes l.len sc.el hs.len)) ∧ (okL l hs.el 0 (beginF l) (codes l.len sc.el hs.len) → (playS l hs sc).hi = enL l hs.el 0 (beginF l) (codes l.len sc.el hs.len) ∧ (playS l hs sc).many = stL l (beginF l) (codes l.len sc.el hs.len)) := by
  have e := play_L (l := l) (hs := hs.el) (sc := sc.el) (codes l.len sc.el hs.len) 0 (beginF l) 0 0 0 (fun i _ => rfl) (fun k hk => by
    rw [codes_at hk, Nat.zero_add]
    rw [codes_len] at hk
    exact way_num (hsc.1 k (by have := hsc.2; omega)))
  rw [codes_len] at e
  unfold playS
  simp only [Int.zero_add] at e
  exact e
def planQ (l : Sl Mach) (hs : Sl Hour) : Sl (Sl Int) := ⟨false, hs.len, fun j => wayS l.len ((planS l hs).getD j ((planS l hs).getLastD 0))⟩
theorem planS_len : (planS l hs).length = hs.len := planW_len _ _ _ _ _
theorem planS_at {k : Nat} (hk : k < (planS l hs).length) : (planS l hs).getD k ((planS l hs).getLastD 0) = (planS l hs)[k] := by
  rw [List.getD_eq_getElem?_getD, List.getElem?_eq_getElem hk]; rfl
theorem planQ_ok (hr : (bestS l hs).right = true) : SchedOk l hs.len (planQ l hs) := by
  refine ⟨fun k hk => ?_, rfl⟩
  have hk : k < (planS l hs).length := by rw [planS_len]; exact hk
  have := (bst_att l hs.el hs.len 0 (beginF l) hr).2.2.2 _ (List.getElem_mem hk)
  show DoesOk l.len (wayS l.len ((planS l hs).getD k ((planS l hs).getLastD 0)))
  rw [planS_at hk]
  exact way_does _ this.1
theorem planQ_play (hr : (bestS l hs).right = true) : (playS l hs (planQ l hs)).rule = 1 ∧ (playS l hs (planQ l hs)).hi = (bestS l hs).energy ∧ (playS l hs (planQ l hs)).many = (bestS l hs).starts := by
  obtain ⟨h1, h2, h3, _⟩ := bst_att l hs.el hs.len 0 (beginF l) hr
  have e := play_L (l := l) (hs := hs.el) (sc := (planQ l hs).el) (planS l hs) 0 (beginF l) 0 0 0 (fun i _ => rfl) (fun k hk => by
    rw [Nat.zero_add]
    refine ⟨rfl, rfl, fun i hi => ?_⟩
    show (wayS l.len ((planS l hs).getD k ((planS l hs).getLastD 0))).el i = _
    rw [planS_at hk])
  rw [planS_len] at e
  simp only [Int.zero_add] at e
  obtain ⟨e1, e2⟩ := e
  refine ⟨e1.2 h1, ?_, ?_⟩
  · exact (e2 h1).1.trans h2
  · exact (e2 h1).2.trans h3
end
end Go.Sim.Pl


namespace Go.Sim.Pl
open Go.Proofs
def lessW (a b : Nat → Int) : Nat → Nat → Option Bool
  | 0, _ => none
  | j + 1, i => if a i ≠ b i then some (decide (a i < b i)) else lessW a b j (i + 1)
def lessS (a b : Nat → Sl Int) (m : Nat) : Nat → Nat → Bool
  | 0, _ => false
  | j + 1, t => match lessW (a t).el (b t).el m 0 with
    | some v => v
    | none => lessS a b m j (t + 1)
variable (F d : Nat)
section
variable {a b : Sl (Sl Int)} {m : Nat} (hm : m ≤ 1000) (hab : a.len = b.len) (hn : a.len ≤ 1000) (ha : ∀ t, t < a.len → (a.el t).len = m) (hb : ∀ t, t < a.len → (b.el t).len = m) (hF : 2000 < F)
include hm hab hn ha hb hF
theorem l79x1 (m0 t : Nat) (ht : t < a.len) (R : Bool) (K : L79x0 (E F d) F a b m0 ((t + 1 : Nat) : Int) = some (.ret (.bool R))) : ∀ j i fu, i + j = m → j < fu → L79x1 (E F d) F a b m0 fu t i = some (.ret (.bool (match lessW (a.el t).el (b.el t).el j i with
    | some v => v
    | none => R))) := by
  have hla := ha t ht
  have hlb := hb t ht
  have hT : IntKind.i64.wrap ((t : Int) + 1) = ((t + 1 : Nat) : Int) := wrS (by omega)
  intro j
  induction j with
  | zero =>
    intro i fu h hf
    obtain ⟨fu, rfl⟩ : ∃ k, fu = k + 1 := ⟨fu - 1, by omega⟩
    rw [L79x1s]
    simp (disch := omega) only [decide_eq_true, decide_eq_false, pT, pF, Int.toNat_natCast, hT]
    exact K
  | succ j ih =>
    intro i fu h hf
    obtain ⟨fu, rfl⟩ : ∃ k, fu = k + 1 := ⟨fu - 1, by omega⟩
    have hS : IntKind.i64.wrap ((i : Int) + 1) = ((i + 1 : Nat) : Int) := wrS (by omega)
    rw [L79x1s]
    simp (disch := omega) only [decide_eq_true, pT, Int.toNat_natCast, hS]
    simp only [lessW]
    by_cases h1 : (a.el t).el i = (b.el t).el i
    · rw [if_neg (fun hh => hh h1), show ((a.el t).el i != (b.el t).el i) = false by simp [h1], pF]
      exact ih (i + 1) fu (by omega) (by omega)
    · rw [if_pos h1, show ((a.el t).el i != (b.el t).el i) = true by rw [bne_iff_ne]; exact h1, pT]
theorem l79x0 : ∀ j t fu, t + j = a.len → j < fu → L79x0 (E F d) F a b fu t = some (.ret (.bool (lessS a.el b.el m j t))) := by
  intro j
  induction j with
  | zero =>
    intro t fu h hf
    obtain ⟨fu, rfl⟩ : ∃ k, fu = k + 1 := ⟨fu - 1, by omega⟩
    rw [L79x0s, decide_eq_false (by omega), pF]
    rfl
  | succ j ih =>
    intro t fu h hf
    obtain ⟨fu, rfl⟩ : ∃ k, fu = k + 1 := ⟨fu - 1, by omega⟩
    rw [L79x0s]
    simp (disch := omega) only [decide_eq_true, pT]
    exact l79x1 F d hm hab hn ha hb hF fu t (by omega) _ (ih (t + 1) fu (by omega) (by omega)) m 0 F (by omega) (by omega)
theorem s79 : (E F (d + 1)).pf 79 [sl eIL 1 a, sl eIL 1 b] = some (.ret (.bool (lessS a.el b.el m a.len 0))) := by
  rw [E_pf, t79]
  exact l79x0 F d hm hab hn ha hb hF a.len 0 F (by omega) (by omega)
theorem s45 (x n y k : Int) : (E F (d + 2)).pf 45 [sl eIL 1 a, .int .i64 x, .int .i64 n, sl eIL 1 b, .int .i64 y, .int .i64 k] = some (.ret (.bool (if x ≠ y then decide (x < y) else if n ≠ k then decide (n < k) else lessS a.el b.el m a.len 0))) := by
  have q := s79 F d hm hab hn ha hb hF
  rw [E_pf, t45]
  simp only [q, tkOut_ret, tkBool_b]
  by_cases h1 : x = y
  · rw [if_neg (fun hh => hh h1), h1, bne_self_eq_false, pF]
    by_cases h2 : n = k
    · rw [if_neg (fun hh => hh h2), h2, bne_self_eq_false, pF]
    · rw [if_pos h2, show (n != k) = true by rw [bne_iff_ne]; exact h2, pT]
  · rw [if_pos h1, show (x != y) = true by rw [bne_iff_ne]; exact h1, pT]
end
theorem numF_congr {w w' : Nat → Int} : ∀ n, (∀ i, i < n → w i = w' i) → numF w n = numF w' n
  | 0, _ => rfl
  | n + 1, h => by simp only [numF, numF_congr n (fun i hi => h i (by omega)), h n (by omega)]
theorem numF_lt {w w' : Nat → Int} {i : Nat} (he : ∀ k, k < i → w k = w' k) (hl : w i < w' i) : ∀ n, i < n → (∀ k, k < n → 0 ≤ w k ∧ w k ≤ 2) → (∀ k, k < n → 0 ≤ w' k ∧ w' k ≤ 2) → numF w n < numF w' n
  | 0, h, _, _ => by omega
  | n + 1, h, h1, h2 => by
    simp only [numF]
    have a1 := h1 n (by omega)
    have a2 := h2 n (by omega)
    rcases Nat.lt_or_eq_of_le (Nat.le_of_lt_succ h) with h3 | h3
    · have := numF_lt he hl n h3 (fun k hk => h1 k (by omega)) (fun k hk => h2 k (by omega))
      omega
    · subst h3
      rw [numF_congr i he]
      omega
theorem lessW_num {w w' : Nat → Int} {n : Nat} (h1 : ∀ k, k < n → 0 ≤ w k ∧ w k ≤ 2) (h2 : ∀ k, k < n → 0 ≤ w' k ∧ w' k ≤ 2) : ∀ j i, i + j = n → (∀ k, k < i → w k = w' k) → (lessW w w' j i = none ∧ numF w n = numF w' n) ∨ (lessW w w' j i = some true ∧ numF w n < numF w' n) ∨ (lessW w w' j i = some false ∧ numF w' n < numF w n)
  | 0, i, h, he => .inl ⟨rfl, numF_congr n fun k hk => he k (by omega)⟩
  | j + 1, i, h, he => by
    simp only [lessW]
    by_cases h3 : w i = w' i
    · rw [if_neg (fun hh => hh h3)]
      refine lessW_num h1 h2 j (i + 1) (by omega) fun k hk => ?_
      rcases Nat.lt_or_eq_of_le (Nat.le_of_lt_succ hk) with h4 | h4
      · exact he k h4
      · subst h4; exact h3
    · rw [if_pos h3]
      by_cases h4 : w i < w' i
      · rw [decide_eq_true h4]
        exact .inr (.inl ⟨rfl, numF_lt he h4 n (by omega) h1 h2⟩)
      · rw [decide_eq_false h4]
        exact .inr (.inr ⟨rfl, numF_lt (fun k hk => (he k hk).symm) (by omega) n (by omega) h2 h1⟩)
theorem numF_dig : ∀ (n : Nat) (a : Int) (g : Nat → Int), 0 ≤ a → a < ((3 ^ n : Nat) : Int) → numF (digG n a g) n = a
  | 0, a, g, h1, h2 => by simp [numF]; simp at h2; omega
  | n + 1, a, g, h1, h2 => by
    have e1 : a.tdiv 3 = a / 3 := Int.tdiv_eq_ediv_of_nonneg h1
    have e2 : a.tmod 3 = a % 3 := Int.tmod_eq_emod_of_nonneg h1
    rw [Nat.pow_succ] at h2
    have ih := fun g' => numF_dig n (a.tdiv 3) g' (by rw [e1]; omega) (by rw [e1]; generalize 3 ^ n = p at *; omega)
    have hk : ∀ (m : Nat) (b : Int) (g : Nat → Int) k, m ≤ k → digG m b g k = g k := by
      intro m
      induction m with
      | zero => intro b g k _; rfl
      | succ m ihm =>
        intro b g k hk
        simp only [digG]
        rw [ihm _ _ k (by omega), if_neg (by omega)]
    simp only [numF, digG]
    rw [ih, hk n _ _ n (Nat.le_refl _), if_pos rfl, e1, e2]
    omega
theorem less_no {a b : Nat → Sl Int} {m : Nat} (p : List Int) : ∀ (q : List Int) (t : Nat), (∀ k, k < p.length → DoesOk m (a (t + k))) → (∀ k (hk : k < p.length), DoesOk m (b (t + k)) ∧ numF (b (t + k)).el m = p[k]) → q = (List.range' t p.length).map (fun k => numF (a k).el m) → lexL p q → lessS a b m p.length t = false := by
  induction p with
  | nil => intro q t _ _ _ _; rfl
  | cons c p ih =>
    intro q t ha hb hq hx
    have ha0 : DoesOk m (a t) := ha 0 (by simp)
    have hb0' : DoesOk m (b t) ∧ numF (b t).el m = c := hb 0 (by simp)
    rw [List.length_cons, List.range'_succ, List.map_cons] at hq
    subst hq
    rw [List.length_cons]
    simp only [lessS]
    have ihh := ih _ (t + 1) (fun k hk => by
      have := ha (k + 1) (by simp; omega)
      rw [show t + 1 + k = t + (k + 1) by omega]
      exact this) (fun k hk => by
      have := hb (k + 1) (by simp; omega)
      rw [show t + 1 + k = t + (k + 1) by omega]
      exact this) rfl
    have hx' : c < numF (a t).el m ∨ c = numF (a t).el m ∧ lexL p _ := hx
    rcases lessW_num ha0.2 hb0'.1.2 m 0 (by omega) (fun k hk => by omega) with ⟨e1, e2⟩ | ⟨e1, e2⟩ | ⟨e1, e2⟩
    · rw [e1]
      rcases hx' with h | h
      · omega
      · exact ihh h.2
    · exfalso
      omega
    · rw [e1]
theorem codes_range (n : Nat) (sc : Nat → Sl Int) (h : Nat) : codes n sc h = (List.range' 0 h).map fun k => numF (sc k).el n := by
  unfold codes
  rw [List.range_eq_range']
theorem not_better {l : Sl Mach} {hs : Sl Hour} {sc : Sl (Sl Int)} (hsc : SchedOk l hs.len sc) (h : (playS l hs sc).rule = 1) : (bestS l hs).right = true ∧ ((bestS l hs).energy < (playS l hs sc).hi ∨ (bestS l hs).energy = (playS l hs sc).hi ∧ ((bestS l hs).starts < (playS l hs sc).many ∨ (bestS l hs).starts = (playS l hs sc).many ∧ lessS sc.el (planQ l hs).el l.len sc.len 0 = false)) := by
  have e := play_codes hsc
  have hok := e.1.1 h
  obtain ⟨e1, e2⟩ := e.2 hok
  have hb := bst_opt l hs.el (codes l.len sc.el hs.len) 0 (beginF l) (codes_in hsc) hok
  rw [codes_len] at hb
  rw [e1, e2]
  have hr : (bestS l hs).right = true := hb.1
  refine ⟨hr, ?_⟩
  rcases hb.2 with h1 | ⟨h1, h2 | ⟨h2, h3⟩⟩
  · exact .inl h1
  · exact .inr ⟨h1, .inl h2⟩
  · refine .inr ⟨h1, .inr ⟨h2, ?_⟩⟩
    have hlen : (planS l hs).length = hs.len := planS_len
    have hq := planQ_ok hr
    have hin := (bst_att l hs.el hs.len 0 (beginF l) hr).2.2.2
    have := less_no (a := sc.el) (b := (planQ l hs).el) (m := l.len) (planS l hs) (codes l.len sc.el hs.len) 0 (fun k hk => by
      rw [Nat.zero_add]
      exact hsc.1 k (by have := hsc.2; omega)) (fun k hk => by
      rw [Nat.zero_add]
      refine ⟨hq.1 k (by rw [hlen] at hk; exact hk), ?_⟩
      show numF (wayS l.len ((planS l hs).getD k ((planS l hs).getLastD 0))).el l.len = _
      rw [planS_at hk]
      have := hin _ (List.getElem_mem hk)
      exact numF_dig l.len _ _ this.1 this.2) (by rw [codes_range, hlen]) h3
    rw [hlen] at this
    rw [hsc.2]
    exact this
theorem cnt_small {l : Sl Mach} {hs : Sl Hour} (h1 : l.len ≤ 3) (h2 : hs.len ≤ 5) : 30 * cntS (3 ^ l.len) hs.len < 1000000000000 := by
  have a : l.len = 0 ∨ l.len = 1 ∨ l.len = 2 ∨ l.len = 3 := by omega
  have b : hs.len = 0 ∨ hs.len = 1 ∨ hs.len = 2 ∨ hs.len = 3 ∨ hs.len = 4 ∨ hs.len = 5 := by omega
  rcases a with a | a | a | a <;> rcases b with b | b | b | b | b | b <;> rw [a, b] <;> decide
section
variable {l : Sl Mach} (hl : PlantOk l) {hs : Sl Hour} (hh : HoursOk hs) (h24 : hs.len ≤ 24) (hF : 140737488355330 < F) (hr : (bestS l hs).right = true)
include hl hh h24 hF hr
theorem out_44 : (E F (d + 1)).pf 44 [sl eMach 10 l, .int .i64 hs.len, outR l hs] = some (.ret (.bool true)) := by
  have hl2 := hl.2
  unfold outR
  by_cases h0 : hs.len = 0
  · rw [if_pos h0]
    obtain ⟨G, rfl⟩ : ∃ k, F = k + 1 := ⟨F - 1, by omega⟩
    rw [E_pf, t440, L440x0s, h0]
    rfl
  · rw [if_neg h0]
    have hq := planQ_ok hr
    have hS : SchB (planQ l hs) F := ⟨⟨by show hs.len < 4611686018427387904; omega, show hs.len < F by omega⟩, fun i hi => ⟨by show l.len < 4611686018427387904; omega, show l.len < F by omega⟩⟩
    have e := s44 F d l hs.len (planQ l hs) (by show l.len < 4611686018427387904; omega) (by omega) hS
    rw [decide_eq_true hq] at e
    exact e
theorem out_37 : ∃ lo, (E F (d + 12)).pf 37 [sl eMach 10 l, sl eHour 3 hs, outR l hs] = some (.ret (.tup [.agg [.int .i64 lo, .int .i64 (bestS l hs).energy], .int .i64 (bestS l hs).starts, .int .i64 0])) := by
  have hl2 := hl.2
  have hB : InB l hs F := ⟨⟨by show l.len < 4611686018427387904; omega, by omega⟩, rowsB F hl (by omega), show hs.len < 4611686018427387904 by omega, show hs.len < F by omega⟩
  unfold outR
  by_cases h0 : hs.len = 0
  · rw [if_pos h0]
    have hb : bestS l hs = bYes := by unfold bestS; rw [h0]; rfl
    rw [hb]
    have q69 := s69 F (d + 2) l hs hB
    have he : errA l hs = 0 := by
      unfold errA
      rw [if_neg (by omega), if_pos ⟨hl, hh⟩]
    rw [he] at q69
    obtain ⟨G, rfl⟩ : ∃ k, F = k + 1 := ⟨F - 1, by omega⟩
    have q91 : (E (G + 1) (d + 10)).pf 91 [.row true 0 0 (fun _ => []), .fn (.func 92) [] [.rptr 1 1 (fun _ => [sl eMach 10 l]) 0 0]] = some (.ret (.bool true)) := by
      rw [E_pf, t910, L910x0s]
    have q60 : (E (G + 1) (d + 11)).pf 60 [sl eMach 10 l, sl eHour 3 hs, .row true 0 0 (fun _ => [])] = some (.ret (.int .i64 0)) := by
      rw [E_pf, t601]
      simp only [q69, q91, h0, tkOut_ret, tkInt_i, tkBool_b, decide_true, pT, pF, Bool.not_true, show ((0 : Int) != 0) = false from rfl, show (((0 : Nat) : Int) != ((0 : Nat) : Int)) = false from rfl]
    have q76 := s76 (G + 1) (d + 8) l (by omega) (by omega) (by omega)
    have q61 : (E (G + 1) (d + 11)).pf 61 [sl eMach 10 l, sl eHour 3 hs, .row true 0 0 (fun _ => [])] = some (.ret (.tup [.agg [.int .i64 0, .int .i64 1, .int .i64 0], .agg [.int .i64 0, .int .i64 0], .int .i64 0])) := by
      rw [E_pf, t611]
      simp only [q76, tkOut_ret, tkRow_r]
      rw [L611x0s]
    refine ⟨0, ?_⟩
    rw [E_pf, t371]
    simp only [q60, q61, tkOut_ret, tkTup_t, tkCons_c, tkAgg_a, tkInt_i, tkNil_n, decide_true, pT, pF, show ((0 : Int) != 0) = false from rfl, show ((1 : Int) != 1) = false from rfl]
    rfl
  · rw [if_neg h0]
    have hq := planQ_ok hr
    obtain ⟨p1, p2, p3⟩ := planQ_play hr
    have hS : SchB (planQ l hs) F := ⟨⟨by show hs.len < 4611686018427387904; omega, show hs.len < F by omega⟩, fun i hi => ⟨by show l.len < 4611686018427387904; omega, show l.len < F by omega⟩⟩
    have e := s37 F d l hs (planQ l hs) (by omega) hB hS
    have he : errS l hs (planQ l hs) = 0 := by
      unfold errS
      rw [if_neg (by omega), if_pos ⟨hl, hh, hq⟩]
    rw [if_pos he, if_pos p1, p2, p3] at e
    exact ⟨_, e⟩
theorem out_45 {sc : Sl (Sl Int)} (hsc : SchedOk l hs.len sc) (hp : (playS l hs sc).rule = 1) : (E F (d + 2)).pf 45 [sl eIL 1 sc, .int .i64 (playS l hs sc).hi, .int .i64 (playS l hs sc).many, outR l hs, .int .i64 (bestS l hs).energy, .int .i64 (bestS l hs).starts] = some (.ret (.bool false)) := by
  have hl2 := hl.2
  have hscl := hsc.2
  have hn := (not_better hsc hp).2
  unfold outR
  by_cases h0 : hs.len = 0
  · rw [if_pos h0]
    obtain ⟨G, rfl⟩ : ∃ k, F = k + 1 := ⟨F - 1, by omega⟩
    have q79 : (E (G + 1) (d + 1)).pf 79 [sl eIL 1 sc, .row true 0 0 (fun _ => [])] = some (.ret (.bool false)) := by
      rw [E_pf, t790, L790x0s, decide_eq_false (by omega), pF]
    rw [E_pf, t450]
    simp only [q79, tkOut_ret, tkBool_b]
    rcases hn with h1 | ⟨h1, h2⟩
    · rw [show ((playS l hs sc).hi != (bestS l hs).energy) = true by rw [bne_iff_ne]; omega, pT, decide_eq_false (by omega)]
    · rw [show ((playS l hs sc).hi != (bestS l hs).energy) = false by simp; omega, pF]
      rcases h2 with h2 | ⟨h2, _⟩
      · rw [show ((playS l hs sc).many != (bestS l hs).starts) = true by rw [bne_iff_ne]; omega, pT, decide_eq_false (by omega)]
      · rw [show ((playS l hs sc).many != (bestS l hs).starts) = false by simp; omega, pF]
  · rw [if_neg h0]
    have e := s45 F d (a := sc) (b := planQ l hs) (m := l.len) (by omega) hscl (by omega) (fun t ht => (hsc.1 t ht).1) (fun t ht => rfl) (by omega) (playS l hs sc).hi (playS l hs sc).many (bestS l hs).energy (bestS l hs).starts
    have hv : (if (playS l hs sc).hi ≠ (bestS l hs).energy then decide ((playS l hs sc).hi < (bestS l hs).energy) else if (playS l hs sc).many ≠ (bestS l hs).starts then decide ((playS l hs sc).many < (bestS l hs).starts) else lessS sc.el (planQ l hs).el l.len sc.len 0) = false := by
      rcases hn with h1 | ⟨h1, h2⟩
      · rw [if_pos (by omega), decide_eq_false (by omega)]
      · rw [if_neg (by omega)]
        rcases h2 with h2 | ⟨h2, h3⟩
        · rw [if_pos (by omega), decide_eq_false (by omega)]
        · rw [if_neg (by omega)]; exact h3
    rw [hv] at e
    exact e
theorem out_row : ∃ nl n wd g, outR l hs = .row nl n wd g := by
  unfold outR
  split
  · exact ⟨_, _, _, _, rfl⟩
  · exact ⟨_, _, _, _, rfl⟩
end
theorem law12 (hF : 140737488355330 < F) (l : Sl Mach) (hs : Sl Hour) (sc : Sl (Sl Int)) (hl : l.len ≤ 140737488355328) (hR : ∀ i, (l.el i).rows.len ≤ 140737488355328) (hh : hs.len ≤ 140737488355328) (hsc : sc.len ≤ 140737488355328) (hw : ∀ i, (sc.el i).len ≤ 140737488355328) :
    (E F (d + 43)).pf 12 [sl eMach 10 l, sl eHour 3 hs, sl eIL 1 sc] = some (.ret (.bool true)) := by
  have q16 := s16 F d (by omega)
  have q15 := s15 F (d + 41) l (lenB hl) (by omega)
  have hB := inB_of F hF hl hR hh
  have hS := schB_of F hF hsc hw
  have q31 := s31 F (d + 41) hs sc hS.1.1 hS.1.2
  have q37 := s37 F (d + 30) l hs sc (by omega) hB hS
  have q33 := s33 F (d + 38) l hs sc hB hS
  rw [E_pf, t12]
  simp only [q15, q16, q31, q33, tkOut_ret, tkBool_b]
  by_cases h1 : ShortP l
  case neg => rw [decide_eq_false h1, Bool.not_false, pT]
  rw [decide_eq_true h1, Bool.not_true, pF]
  by_cases g1 : (l.len : Int) > 3
  · rw [decide_eq_true g1, pT]
  rw [decide_eq_false g1, pF]
  by_cases g2 : (hs.len : Int) > 5
  · rw [decide_eq_true g2, pT]
  rw [decide_eq_false g2, pF]
  by_cases h2 : BriefP hs sc
  case neg => rw [decide_eq_false h2, Bool.not_false, pT]
  rw [decide_eq_true h2, Bool.not_true, pF]
  simp only [tkInt_i, dd, decide_true, pT]
  by_cases h3 : errS l hs sc = 0
  case neg => rw [show (errS l hs sc != 0) = true by simp [h3], pT]
  rw [h3, show ((0 : Int) != 0) = false from rfl, pF]
  rw [if_pos h3] at q37
  obtain ⟨a1, a2, a3, a4⟩ := errS_0 h3
  have heA : errA l hs = 0 := by
    unfold errA
    rw [if_neg (by omega), if_pos ⟨a1, a2⟩]
  have q41 := s41 F (d + 1) l hs (by omega) hB (fun _ => cnt_small (by omega) (by omega))
  rw [if_pos heA] at q41
  by_cases hp : (playS l hs sc).rule = 1
  · have hr := (not_better a4 hp).1
    rw [if_pos hr] at q41
    rw [if_pos hp] at q37
    obtain ⟨nl, n, wd, g, ho⟩ := out_row F a1 a2 a3 hF hr
    have q44 := out_44 F (d + 41) a1 a2 a3 hF hr
    obtain ⟨lo, q37'⟩ := out_37 F (d + 30) a1 a2 a3 hF hr
    have q45 := out_45 F (d + 40) a1 a2 a3 hF hr a4 hp
    rw [ho] at q41 q44 q37' q45
    simp only [q41, q37, q44, q37', q45, tkOut_ret, tkTup_t, tkCons_c, tkAgg_a, tkRow_r, tkInt_i, tkBool_b, tkNil_n, dd, decide_true, pT, pF, show ((0 : Int) != 0) = false from rfl, show ((0 : Int) == 0) = true from rfl, beq_self_eq_true, Bool.not_true, Bool.not_false]
  · rw [if_neg hp] at q37
    by_cases hr : (bestS l hs).right = true
    · rw [if_pos hr] at q41
      obtain ⟨nl, n, wd, g, ho⟩ := out_row F a1 a2 a3 hF hr
      have q44 := out_44 F (d + 41) a1 a2 a3 hF hr
      obtain ⟨lo, q37'⟩ := out_37 F (d + 30) a1 a2 a3 hF hr
      rw [ho] at q41 q44 q37'
      simp only [q41, q37, q44, q37', tkOut_ret, tkTup_t, tkCons_c, tkAgg_a, tkRow_r, tkInt_i, tkBool_b, tkNil_n, dd, decide_true, pT, pF, show ((0 : Int) != 0) = false from rfl, show ((7 : Int) != 0) = true from rfl, show ((7 : Int) != 7) = false from rfl, show ((0 : Int) == 0) = true from rfl, beq_self_eq_true, Bool.not_true, Bool.not_false]
    · rw [if_neg hr] at q41
      simp only [q41, q37, tkOut_ret, tkTup_t, tkCons_c, tkAgg_a, tkRow_r, tkInt_i, tkBool_b, tkNil_n, dd, decide_true, pT, pF, show ((5 : Int) != 0) = true from rfl, show ((7 : Int) != 0) = true from rfl, show ((7 : Int) != 7) = false from rfl, beq_self_eq_true]
end Go.Sim.Pl
