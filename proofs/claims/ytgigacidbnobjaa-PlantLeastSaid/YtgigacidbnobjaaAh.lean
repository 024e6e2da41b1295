import Derived.Test.YtgigacidbnobjaaAg
import Derived.KernelRfl
import Derived.Test.YtgigacidbnobjaaRows
set_option linter.unusedVariables false
set_option linter.unusedSimpArgs false
set_option linter.unusedSectionVars false
set_option maxRecDepth 100000
namespace Go.Sim.Pl
open Go.Proofs
noncomputable def L24x0 (env : Env) (F : Nat) (l : Sl Mach) (r : Sl Bool) (f : Int) (x : Int) (w : Sl Int) (fu : Nat) (i0 : Int) (i1 : Int) (g2 : Nat → List V) (g3 : Nat → List V) : Option Out := atLoop Try.prog (cfg F) env 24 [.r, .r, .r, .r, .l, .r, .d] [] fu { tm := tmL 120 0 [(0, (sl eMach 10 l)), (1, (sl eBool 1 r)), (2, (i64 f)), (3, (i64 x)), (4, (sl eInt 1 w)), (12, (.osl 0 0 3)), (13, (.osl 1 0 3)), (14, (i64 i0)), (15, (i64 i1))], hp := [(.arr 3 1 3 g2 true), (.arr 4 1 3 g3 true)] }
noncomputable def L24x1 (env : Env) (F : Nat) (l : Sl Mach) (r : Sl Bool) (f : Int) (x : Int) (w : Sl Int) (fu : Nat) (i0 : Int) (i1 : Int) (g2 : Nat → List V) (g3 : Nat → List V) : Option Out := atLoop Try.prog (cfg F) env 24 [.r, .r, .r, .r, .r, .l, .r, .d] [] fu { tm := tmL 120 0 [(2, (i64 f)), (12, (.osl 0 0 3)), (13, (.osl 1 0 3)), (14, (i64 i0)), (18, (i64 i1))], hp := [(.arr 3 1 3 g2 true), (.arr 4 1 3 g3 true)] }
theorem t24 (env : Env) (F : Nat) (l : Sl Mach) (r : Sl Bool) (f : Int) (x : Int) (w : Sl Int) : (evFun Try.prog (cfg F) env 24 [(sl eMach 10 l), (sl eBool 1 r), (i64 f), (i64 x), (sl eInt 1 w)]) = (bif ((((Sl.len w) : Nat) : Int) != (((Sl.len l) : Nat) : Int)) then some (.ret (.tup [(i64 (-(1 : Int))), (i64 (0 : Int))])) else (L24x0 env F l r f x w F (0 : Int) (0 : Int) (fun u7 => [(i64 (0 : Int))]) (fun u7 => [(.bool false)]))) := by kernel_rfl
theorem L24x0s (env : Env) (F : Nat) (l : Sl Mach) (r : Sl Bool) (f : Int) (x : Int) (w : Sl Int) (fu : Nat) (i0 : Int) (i1 : Int) (g2 : Nat → List V) (g3 : Nat → List V) : L24x0 env F l r f x w (fu + 1) i0 i1 g2 g3 = (bif (decide (i1 < (((Sl.len l) : Nat) : Int))) then (bif (decide ((0 : Int) ≤ i1)) then (bif (decide (i1 < (((Sl.len l) : Nat) : Int))) then (tkOut (env.pf 25 [(.agg (eMach (Sl.el l (Int.toNat i1)))), (i64 x)]) none (fun v12 => (tkAgg v12 none fun l13 => (tkCons l13 none fun v14 r15 => (tkInt v14 none fun q16 n17 => (tkCons r15 none fun v18 r19 => (tkInt v18 none fun q20 n21 => (tkCons r19 none fun v22 r23 => (tkInt v22 none fun q24 n25 => (tkCons r23 none fun v26 r27 => (tkInt v26 none fun q28 n29 => (tkNil r27 none ((bif (decide ((0 : Int) ≤ i1)) then (bif (decide (i1 < (((Sl.len l) : Nat) : Int))) then (bif (decide ((0 : Int) ≤ (IntKind.wrap .i64 ((Mach.kind (Sl.el l (Int.toNat i1))) - (1 : Int))))) then (bif (decide ((IntKind.wrap .i64 ((Mach.kind (Sl.el l (Int.toNat i1))) - (1 : Int))) < ((3 : Nat) : Int))) then (bif (decide ((0 : Int) ≤ i1)) then (bif (decide (i1 < (((Sl.len w) : Nat) : Int))) then (bif (decide ((Sl.el w (Int.toNat i1)) < (0 : Int))) then some (.ret (.tup [(i64 (-(1 : Int))), (i64 (0 : Int))])) else (bif (decide ((0 : Int) ≤ i1)) then (bif (decide (i1 < (((Sl.len w) : Nat) : Int))) then (bif (decide (.i64 = q24)) then (bif (decide ((Sl.el w (Int.toNat i1)) > n25)) then some (.ret (.tup [(i64 (-(1 : Int))), (i64 (0 : Int))])) else (bif (decide ((0 : Int) ≤ i1)) then (bif (decide (i1 < (((Sl.len r) : Nat) : Int))) then (bif (!(Sl.el r (Int.toNat i1))) then (bif (decide ((0 : Int) ≤ i1)) then (bif (decide (i1 < (((Sl.len w) : Nat) : Int))) then (bif (decide ((Sl.el w (Int.toNat i1)) > (0 : Int))) then some (.ret (.tup [(i64 (-(1 : Int))), (i64 (0 : Int))])) else (bif (decide ((0 : Int) ≤ (IntKind.wrap .i64 ((Mach.kind (Sl.el l (Int.toNat i1))) - (1 : Int))))) then (bif (decide ((IntKind.wrap .i64 ((Mach.kind (Sl.el l (Int.toNat i1))) - (1 : Int))) < ((3 : Nat) : Int))) then (tkCons (g2 (Int.toNat (IntKind.wrap .i64 ((Mach.kind (Sl.el l (Int.toNat i1))) - (1 : Int))))) none fun v30 r31 => (tkInt v30 none fun q32 n33 => (bif (decide ((0 : Int) ≤ i1)) then (bif (decide (i1 < (((Sl.len w) : Nat) : Int))) then (bif (decide (q32 = .i64)) then (bif (decide ((0 : Int) ≤ (IntKind.wrap .i64 ((Mach.kind (Sl.el l (Int.toNat i1))) - (1 : Int))))) then (bif (decide ((IntKind.wrap .i64 ((Mach.kind (Sl.el l (Int.toNat i1))) - (1 : Int))) < ((3 : Nat) : Int))) then (bif (decide ((0 : Int) ≤ i1)) then (bif (decide (i1 < (((Sl.len r) : Nat) : Int))) then (bif (Sl.el r (Int.toNat i1)) then (bif (decide ((0 : Int) ≤ i1)) then (bif (decide (i1 < (((Sl.len w) : Nat) : Int))) then (bif (decide (q28 = q20)) then (bif (decide (.i64 = q28)) then (L24x0 env F l r f x w fu (IntKind.wrap .i64 (i0 + (IntKind.wrap q28 (n29 * (if n21 < (Sl.el w (Int.toNat i1)) then (Sl.el w (Int.toNat i1)) else n21))))) (IntKind.wrap .i64 (i1 + (1 : Int))) (updGet g2 (Int.toNat (IntKind.wrap .i64 ((Mach.kind (Sl.el l (Int.toNat i1))) - (1 : Int)))) 0 [(.int q32 (IntKind.wrap q32 (n33 + (Sl.el w (Int.toNat i1)))))]) (updGet g3 (Int.toNat (IntKind.wrap .i64 ((Mach.kind (Sl.el l (Int.toNat i1))) - (1 : Int)))) 0 [(.bool true)])) else none) else none) else none) else none) else (L24x0 env F l r f x w fu i0 (IntKind.wrap .i64 (i1 + (1 : Int))) (updGet g2 (Int.toNat (IntKind.wrap .i64 ((Mach.kind (Sl.el l (Int.toNat i1))) - (1 : Int)))) 0 [(.int q32 (IntKind.wrap q32 (n33 + (Sl.el w (Int.toNat i1)))))]) (updGet g3 (Int.toNat (IntKind.wrap .i64 ((Mach.kind (Sl.el l (Int.toNat i1))) - (1 : Int)))) 0 [(.bool true)]))) else none) else none) else none) else none) else none) else none) else none))) else none) else none)) else none) else none) else (bif (decide ((0 : Int) ≤ (IntKind.wrap .i64 ((Mach.kind (Sl.el l (Int.toNat i1))) - (1 : Int))))) then (bif (decide ((IntKind.wrap .i64 ((Mach.kind (Sl.el l (Int.toNat i1))) - (1 : Int))) < ((3 : Nat) : Int))) then (tkCons (g2 (Int.toNat (IntKind.wrap .i64 ((Mach.kind (Sl.el l (Int.toNat i1))) - (1 : Int))))) none fun v30 r31 => (tkInt v30 none fun q32 n33 => (bif (decide ((0 : Int) ≤ i1)) then (bif (decide (i1 < (((Sl.len w) : Nat) : Int))) then (bif (decide (q32 = .i64)) then (bif (decide ((0 : Int) ≤ (IntKind.wrap .i64 ((Mach.kind (Sl.el l (Int.toNat i1))) - (1 : Int))))) then (bif (decide ((IntKind.wrap .i64 ((Mach.kind (Sl.el l (Int.toNat i1))) - (1 : Int))) < ((3 : Nat) : Int))) then (bif (decide ((0 : Int) ≤ i1)) then (bif (decide (i1 < (((Sl.len r) : Nat) : Int))) then (bif (Sl.el r (Int.toNat i1)) then (bif (decide ((0 : Int) ≤ i1)) then (bif (decide (i1 < (((Sl.len w) : Nat) : Int))) then (bif (decide (q28 = q20)) then (bif (decide (.i64 = q28)) then (L24x0 env F l r f x w fu (IntKind.wrap .i64 (i0 + (IntKind.wrap q28 (n29 * (if n21 < (Sl.el w (Int.toNat i1)) then (Sl.el w (Int.toNat i1)) else n21))))) (IntKind.wrap .i64 (i1 + (1 : Int))) (updGet g2 (Int.toNat (IntKind.wrap .i64 ((Mach.kind (Sl.el l (Int.toNat i1))) - (1 : Int)))) 0 [(.int q32 (IntKind.wrap q32 (n33 + (Sl.el w (Int.toNat i1)))))]) (updGet g3 (Int.toNat (IntKind.wrap .i64 ((Mach.kind (Sl.el l (Int.toNat i1))) - (1 : Int)))) 0 [(.bool true)])) else none) else none) else none) else none) else (L24x0 env F l r f x w fu i0 (IntKind.wrap .i64 (i1 + (1 : Int))) (updGet g2 (Int.toNat (IntKind.wrap .i64 ((Mach.kind (Sl.el l (Int.toNat i1))) - (1 : Int)))) 0 [(.int q32 (IntKind.wrap q32 (n33 + (Sl.el w (Int.toNat i1)))))]) (updGet g3 (Int.toNat (IntKind.wrap .i64 ((Mach.kind (Sl.el l (Int.toNat i1))) - (1 : Int)))) 0 [(.bool true)]))) else none) else none) else none) else none) else none) else none) else none))) else none) else none)) else none) else none)) else none) else none) else none)) else none) else none) else none) else none) else none) else none))))))))))))) (fun p12 => (tkIfc p12 none fun t13 x14 => (bif (flatP (.iface t13 x14)) then none else none)))) else none) else none) else (L24x1 env F l r f x w F i0 (0 : Int) g2 g3)) := by kernel_rfl
theorem L24x1s (env : Env) (F : Nat) (l : Sl Mach) (r : Sl Bool) (f : Int) (x : Int) (w : Sl Int) (fu : Nat) (i0 : Int) (i1 : Int) (g2 : Nat → List V) (g3 : Nat → List V) : L24x1 env F l r f x w (fu + 1) i0 i1 g2 g3 = (bif (decide (i1 < (3 : Int))) then (bif (decide ((0 : Int) ≤ i1)) then (bif (decide (i1 < ((3 : Nat) : Int))) then (tkCons (g3 (Int.toNat i1)) none fun v12 r13 => (tkBool v12 none fun b14 => (bif b14 then (bif (decide ((0 : Int) ≤ i1)) then (bif (decide (i1 < ((3 : Nat) : Int))) then (tkCons (g2 (Int.toNat i1)) none fun v15 r16 => (tkInt v15 none fun q17 n18 => (bif (decide (q17 = .i64)) then (bif (n18 != f) then some (.ret (.tup [(i64 (-(1 : Int))), (i64 (0 : Int))])) else (L24x1 env F l r f x w fu i0 (IntKind.wrap .i64 (i1 + (1 : Int))) g2 g3)) else none))) else none) else none) else (L24x1 env F l r f x w fu i0 (IntKind.wrap .i64 (i1 + (1 : Int))) g2 g3)))) else none) else none) else some (.ret (.tup [(i64 (0 : Int)), (i64 i0)]))) := by kernel_rfl
noncomputable def L4x0 (env : Env) (F : Nat) (l : Sl Mach) (r : Sl Bool) (f : Int) (x : Int) (w : Sl Int) (fu : Nat) (b0 : Bool) (k1 : Nat) (k2 : Nat) (g3 : Nat → List V) (b4 : Bool) (k5 : Nat) (k6 : Nat) (g7 : Nat → List V) (i8 : Int) : Option Out := atLoop Try.prog (cfg F) env 4 [.r, .r, .r, .r, .r, .r, .r, .l, .r, .d] [] fu { tm := tmL 167 0 [(0, (sl eMach 10 l)), (1, (sl eBool 1 r)), (3, (i64 x)), (11, (.row b0 k1 k2 g3)), (12, (.row b4 k5 k6 g7)), (19, (i64 i8))], hp := [] }
theorem t4 (env : Env) (F : Nat) (l : Sl Mach) (r : Sl Bool) (f : Int) (x : Int) (w : Sl Int) : (evFun Try.prog (cfg F) env 4 [(sl eMach 10 l), (sl eBool 1 r), (i64 f), (i64 x), (sl eInt 1 w)]) = (tkOut (env.pf 15 [(sl eMach 10 l)]) none (fun v7 => (tkBool v7 none fun b8 => (bif (!b8) then (tkOut (env.pf 16 []) none (fun v9 => (tkBool v9 none fun b10 => some (.ret (.bool b10)))) (fun p9 => (tkIfc p9 none fun t10 x11 => (bif (flatP (.iface t10 x11)) then some (.pan (.iface t10 x11)) else none)))) else (bif (decide ((((Sl.len r) : Nat) : Int) > (20 : Int))) then (tkOut (env.pf 16 []) none (fun v9 => (tkBool v9 none fun b10 => some (.ret (.bool b10)))) (fun p9 => (tkIfc p9 none fun t10 x11 => (bif (flatP (.iface t10 x11)) then some (.pan (.iface t10 x11)) else none)))) else (bif (decide ((((Sl.len w) : Nat) : Int) > (20 : Int))) then (tkOut (env.pf 16 []) none (fun v9 => (tkBool v9 none fun b10 => some (.ret (.bool b10)))) (fun p9 => (tkIfc p9 none fun t10 x11 => (bif (flatP (.iface t10 x11)) then some (.pan (.iface t10 x11)) else none)))) else (tkOut (env.pf 18 [(sl eMach 10 l), (sl eBool 1 r), (i64 f)]) none (fun v9 => (tkBool v9 none fun b10 => (bif (!b10) then (tkOut (env.pf 16 []) none (fun v11 => (tkBool v11 none fun b12 => some (.ret (.bool b12)))) (fun p11 => (tkIfc p11 none fun t12 x13 => (bif (flatP (.iface t12 x13)) then some (.pan (.iface t12 x13)) else none)))) else (bif (decide (x < (1000 : Int))) then (tkOut (env.pf 16 []) none (fun v11 => (tkBool v11 none fun b12 => some (.ret (.bool b12)))) (fun p11 => (tkIfc p11 none fun t12 x13 => (bif (flatP (.iface t12 x13)) then some (.pan (.iface t12 x13)) else none)))) else (bif (decide (x > (5000 : Int))) then (tkOut (env.pf 16 []) none (fun v11 => (tkBool v11 none fun b12 => some (.ret (.bool b12)))) (fun p11 => (tkIfc p11 none fun t12 x13 => (bif (flatP (.iface t12 x13)) then some (.pan (.iface t12 x13)) else none)))) else (tkOut (env.pf 17 [(sl eMach 10 l), (sl eBool 1 r), (i64 f), (i64 x)]) none (fun v11 => (tkTup v11 none fun l12 => (tkCons l12 none fun v13 r14 => (tkRow v13 none fun nl15 n16 wd17 g18 => (tkCons r14 none fun v19 r20 => (tkRow v19 none fun nl21 n22 wd23 g24 => (tkCons r20 none fun v25 r26 => (tkInt v25 none fun q27 n28 => (tkCons r26 none fun v29 r30 => (tkInt v29 none fun q31 n32 => (tkNil r30 none ((tkOut (env.pf 24 [(sl eMach 10 l), (sl eBool 1 r), (i64 f), (i64 x), (sl eInt 1 w)]) none (fun v33 => (tkTup v33 none fun l34 => (tkCons l34 none fun v35 r36 => (tkInt v35 none fun q37 n38 => (tkCons r36 none fun v39 r40 => (tkInt v39 none fun q41 n42 => (tkNil r40 none ((bif (decide (q31 = .i64)) then (bif (n32 != (0 : Int)) then (bif (decide (q31 = .i64)) then (bif (n32 == (5 : Int)) then (bif (decide (q37 = .i64)) then (bif (decide (n38 < (0 : Int))) then (tkOut (env.pf 16 []) none (fun v43 => (tkBool v43 none fun b44 => some (.ret (.bool b44)))) (fun p43 => (tkIfc p43 none fun t44 x45 => (bif (flatP (.iface t44 x45)) then some (.pan (.iface t44 x45)) else none)))) else some (.ret (.bool false))) else none) else some (.ret (.bool false))) else none) else (tkOut (env.pf 24 [(sl eMach 10 l), (sl eBool 1 r), (i64 f), (i64 x), (.row nl15 n16 wd17 g18)]) none (fun v43 => (tkTup v43 none fun l44 => (tkCons l44 none fun v45 r46 => (tkInt v45 none fun q47 n48 => (tkCons r46 none fun v49 r50 => (tkInt v49 none fun q51 n52 => (tkNil r50 none ((bif (decide (q47 = .i64)) then (bif (decide (n48 < (0 : Int))) then some (.ret (.bool false)) else (bif (decide (q51 = q27)) then (bif (n52 != n28) then some (.ret (.bool false)) else (bif (((n22 : Nat) : Int) != (3 : Int)) then some (.ret (.bool false)) else (bif (decide (q37 = .i64)) then (bif (decide (n38 ≥ (0 : Int))) then (bif (decide (q41 = q27)) then (bif (decide (n42 < n28)) then some (.ret (.bool false)) else (L4x0 env F l r f x w F nl15 n16 wd17 g18 nl21 n22 wd23 g24 (0 : Int))) else none) else (L4x0 env F l r f x w F nl15 n16 wd17 g18 nl21 n22 wd23 g24 (0 : Int))) else none))) else none)) else none))))))))) (fun p43 => (tkIfc p43 none fun t44 x45 => (bif (flatP (.iface t44 x45)) then some (.pan (.iface t44 x45)) else none))))) else none))))))))) (fun p33 => (tkIfc p33 none fun t34 x35 => (bif (flatP (.iface t34 x35)) then some (.pan (.iface t34 x35)) else none)))))))))))))))) (fun p11 => (tkIfc p11 none fun t12 x13 => (bif (flatP (.iface t12 x13)) then some (.pan (.iface t12 x13)) else none))))))))) (fun p9 => (tkIfc p9 none fun t10 x11 => (bif (flatP (.iface t10 x11)) then some (.pan (.iface t10 x11)) else none))))))))) (fun p7 => (tkIfc p7 none fun t8 x9 => (bif (flatP (.iface t8 x9)) then some (.pan (.iface t8 x9)) else none)))) := by kernel_rfl
theorem L4x0s (env : Env) (F : Nat) (l : Sl Mach) (r : Sl Bool) (f : Int) (x : Int) (w : Sl Int) (fu : Nat) (b0 : Bool) (k1 : Nat) (k2 : Nat) (g3 : Nat → List V) (b4 : Bool) (k5 : Nat) (k6 : Nat) (g7 : Nat → List V) (i8 : Int) : L4x0 env F l r f x w (fu + 1) b0 k1 k2 g3 b4 k5 k6 g7 i8 = (bif (decide (i8 < (((Sl.len l) : Nat) : Int))) then (bif (decide ((0 : Int) ≤ i8)) then (bif (decide (i8 < (((Sl.len l) : Nat) : Int))) then (tkOut (env.pf 25 [(.agg (eMach (Sl.el l (Int.toNat i8)))), (i64 x)]) none (fun v17 => (tkAgg v17 none fun l18 => (tkCons l18 none fun v19 r20 => (tkInt v19 none fun q21 n22 => (tkCons r20 none fun v23 r24 => (tkInt v23 none fun q25 n26 => (tkCons r24 none fun v27 r28 => (tkInt v27 none fun q29 n30 => (tkCons r28 none fun v31 r32 => (tkInt v31 none fun q33 n34 => (tkNil r32 none ((bif (decide ((0 : Int) ≤ i8)) then (bif (decide (i8 < (((Sl.len l) : Nat) : Int))) then (bif (k6 == 1) then (bif (decide ((0 : Int) ≤ (IntKind.wrap .i64 ((Mach.kind (Sl.el l (Int.toNat i8))) - (1 : Int))))) then (bif (decide ((IntKind.wrap .i64 ((Mach.kind (Sl.el l (Int.toNat i8))) - (1 : Int))) < ((k5 : Nat) : Int))) then (tkCons (g7 (Int.toNat (IntKind.wrap .i64 ((Mach.kind (Sl.el l (Int.toNat i8))) - (1 : Int))))) none fun v35 r36 => (tkInt v35 none fun q37 n38 => (bif (decide ((0 : Int) ≤ i8)) then (bif (decide (i8 < (((Sl.len r) : Nat) : Int))) then (bif (Sl.el r (Int.toNat i8)) then (bif (k2 == 1) then (bif (decide ((0 : Int) ≤ i8)) then (bif (decide (i8 < ((k1 : Nat) : Int))) then (tkCons (g3 (Int.toNat i8)) none fun v39 r40 => (tkInt v39 none fun q41 n42 => (bif (decide (q41 = q25)) then (bif (decide (n42 > n26)) then (bif (decide (q33 = q37)) then (bif (decide (n34 > n38)) then some (.ret (.bool false)) else (bif (decide (q33 = q37)) then (bif (decide (n34 < n38)) then (bif (k2 == 1) then (bif (decide ((0 : Int) ≤ i8)) then (bif (decide (i8 < ((k1 : Nat) : Int))) then (tkCons (g3 (Int.toNat i8)) none fun v43 r44 => (tkInt v43 none fun q45 n46 => (bif (decide (q45 = q29)) then (bif (decide (n46 < n30)) then some (.ret (.bool false)) else (L4x0 env F l r f x w fu b0 k1 k2 g3 b4 k5 k6 g7 (IntKind.wrap .i64 (i8 + (1 : Int))))) else none))) else none) else none) else none) else (L4x0 env F l r f x w fu b0 k1 k2 g3 b4 k5 k6 g7 (IntKind.wrap .i64 (i8 + (1 : Int))))) else none)) else none) else (bif (decide (q33 = q37)) then (bif (decide (n34 < n38)) then (bif (k2 == 1) then (bif (decide ((0 : Int) ≤ i8)) then (bif (decide (i8 < ((k1 : Nat) : Int))) then (tkCons (g3 (Int.toNat i8)) none fun v43 r44 => (tkInt v43 none fun q45 n46 => (bif (decide (q45 = q29)) then (bif (decide (n46 < n30)) then some (.ret (.bool false)) else (L4x0 env F l r f x w fu b0 k1 k2 g3 b4 k5 k6 g7 (IntKind.wrap .i64 (i8 + (1 : Int))))) else none))) else none) else none) else none) else (L4x0 env F l r f x w fu b0 k1 k2 g3 b4 k5 k6 g7 (IntKind.wrap .i64 (i8 + (1 : Int))))) else none)) else none))) else none) else none) else none) else (L4x0 env F l r f x w fu b0 k1 k2 g3 b4 k5 k6 g7 (IntKind.wrap .i64 (i8 + (1 : Int))))) else none) else none))) else none) else none) else none) else none) else none))))))))))))) (fun p17 => (tkIfc p17 none fun t18 x19 => (bif (flatP (.iface t18 x19)) then none else none)))) else none) else none) else (tkOut (env.pf 16 []) none (fun v17 => (tkBool v17 none fun b18 => some (.ret (.bool b18)))) (fun p17 => (tkIfc p17 none fun t18 x19 => (bif (flatP (.iface t18 x19)) then some (.pan (.iface t18 x19)) else none))))) := by kernel_rfl
end Go.Sim.Pl


namespace Go.Sim.Pl
open Go.Proofs
theorem fitInt {k : IntKind} {c : V} (h : Fit (.int k) c) : ∃ n, c = .int k n ∧ k.min ≤ n ∧ n ≤ k.max := by
  cases h with
  | int h => exact ⟨_, rfl, h⟩
theorem fitL_nil {cs : List V} (h : FitL [] cs) : cs = [] := by
  have := h.1
  exact List.eq_nil_of_length_eq_zero this
theorem fitL_cons {s : Sh} {l : List Sh} {cs : List V} (h : FitL (s :: l) cs) : ∃ c cs', cs = c :: cs' ∧ Fit s c ∧ FitL l cs' := by
  obtain ⟨h1, h2⟩ := h
  cases cs with
  | nil => simp at h1
  | cons c cs' => exact ⟨c, cs', rfl, h2 0 s c rfl rfl, by simpa using h1, fun j s' c' g1 g2 => h2 (j + 1) s' c' (by simpa using g1) (by simpa using g2)⟩
theorem fitL_int {k : IntKind} {l : List Sh} {cs : List V} (h : FitL (.int k :: l) cs) : ∃ n cs', cs = .int k n :: cs' ∧ FitL l cs' := by
  obtain ⟨c, cs', rfl, h1, h2⟩ := fitL_cons h
  obtain ⟨n, rfl, _⟩ := fitInt h1
  exact ⟨n, cs', rfl, h2⟩
abbrev SlOk {α : Type} (s : Sl α) : Prop := s.len ≤ 140737488355328 ∧ (s.nl = true → s.len = 0)
theorem fitRow {α : Type} {e : α → List V} {P : α → Prop} {l : List Sh} (dec : ∀ cs, FitL l cs → ∃ a : α, cs = e a ∧ P a) {c : V} (h : Fit (.row l) c) : ∃ s : Sl α, c = sl e l.length s ∧ SlOk s ∧ ∀ i, P (s.el i) := by
  cases h with
  | row h hn hl hf =>
    rename_i nl len get
    have hx : ∀ i, ∃ a : α, get i = e a ∧ P a := fun i => dec _ ⟨hl i, hf i⟩
    refine ⟨⟨nl, len, fun i => (hx i).choose⟩, ?_, ⟨h, hn⟩, fun i => (hx i).choose_spec.2⟩
    show V.row nl len l.length get = V.row nl len l.length fun i => e (hx i).choose
    congr 1
    funext i
    exact (hx i).choose_spec.1
theorem fitL_row {α : Type} {e : α → List V} {P : α → Prop} {l r : List Sh} (dec : ∀ cs, FitL l cs → ∃ a : α, cs = e a ∧ P a) {cs : List V} (h : FitL (.row l :: r) cs) : ∃ (s : Sl α) (cs' : List V), cs = sl e l.length s :: cs' ∧ SlOk s ∧ (∀ i, P (s.el i)) ∧ FitL r cs' := by
  obtain ⟨c, cs', rfl, h1, h2⟩ := fitL_cons h
  obtain ⟨s, rfl, h3, h4⟩ := fitRow dec h1
  exact ⟨s, cs', rfl, h3, h4, h2⟩
theorem fitL_bool {l : List Sh} {cs : List V} (h : FitL (.bool :: l) cs) : ∃ n cs', cs = .bool n :: cs' ∧ FitL l cs' := by
  obtain ⟨c, cs', rfl, h1, h2⟩ := fitL_cons h
  cases h1 with
  | bool => exact ⟨_, cs', rfl, h2⟩
abbrev i8 : Sh := .int .i64
abbrev shRow : List Sh := [i8, i8, i8, i8]
abbrev shMach : List Sh := [i8, .row shRow, i8, i8, i8, i8, i8, i8, .bool, i8]
abbrev shHour : List Sh := [i8, i8, i8]
abbrev shSpan : List Sh := [i8, i8]
abbrev I64 (n : Int) : Prop := IntKind.i64.min ≤ n ∧ n ≤ IntKind.i64.max
theorem decInt (cs : List V) (h : FitL [i8] cs) : ∃ n : Int, cs = eInt n ∧ I64 n := by
  obtain ⟨c, cs', rfl, h1, h2⟩ := fitL_cons h
  obtain ⟨n, rfl, m1, m2⟩ := fitInt h1
  obtain rfl := fitL_nil h2
  refine ⟨n, rfl, ?_⟩
  exact ⟨m1, m2⟩
theorem decBool (cs : List V) (h : FitL [.bool] cs) : ∃ n : Bool, cs = eBool n ∧ True := by
  obtain ⟨n, cs', rfl, h2⟩ := fitL_bool h
  obtain rfl := fitL_nil h2
  exact ⟨n, rfl, trivial⟩
theorem decRow (cs : List V) (h : FitL shRow cs) : ∃ c : Row, cs = eRow c ∧ True := by
  obtain ⟨a0, _, rfl, h1⟩ := fitL_int h
  obtain ⟨a1, _, rfl, h2⟩ := fitL_int h1
  obtain ⟨a2, _, rfl, h3⟩ := fitL_int h2
  obtain ⟨a3, _, rfl, h4⟩ := fitL_int h3
  obtain rfl := fitL_nil h4
  exact ⟨⟨a0, a1, a2, a3⟩, rfl, trivial⟩
theorem dcMach (cs : List V) (h : FitL shMach cs) : ∃ c : Mach, cs = eMach c ∧ SlOk c.rows := by
  obtain ⟨a0, _, rfl, h1⟩ := fitL_int h
  obtain ⟨rw, _, rfl, h0, _, h2⟩ := fitL_row decRow h1
  obtain ⟨a2, _, rfl, h3⟩ := fitL_int h2
  obtain ⟨a3, _, rfl, h4⟩ := fitL_int h3
  obtain ⟨a4, _, rfl, h5⟩ := fitL_int h4
  obtain ⟨a5, _, rfl, h6⟩ := fitL_int h5
  obtain ⟨a6, _, rfl, h7⟩ := fitL_int h6
  obtain ⟨a7, _, rfl, h8⟩ := fitL_int h7
  obtain ⟨a8, _, rfl, h9⟩ := fitL_bool h8
  obtain ⟨a9, _, rfl, h10⟩ := fitL_int h9
  obtain rfl := fitL_nil h10
  exact ⟨⟨a0, rw, a2, a3, a4, a5, a6, a7, a8, a9⟩, rfl, h0⟩
theorem own : ownKnob Try.prog.godebug = none := by kernel_rfl
end Go.Sim.Pl


namespace Go.Sim.Pl
open Go.Proofs
variable (F d : Nat)
end Go.Sim.Pl


namespace Go.Sim.Pl
open Go.Proofs
theorem dd {α : Type} [DecidableEq α] (a : α) : decide (a = a) = true := decide_eq_true rfl
variable (F d : Nat)
end Go.Sim.Pl


namespace Go.Sim.Pl
open Go.Proofs
def sumN (l : Sl Mach) (sc : Nat → Sl Int) : Nat → Int
  | 0 => 0
  | t + 1 => sumN l sc t + startN (sc t) (stAt l sc t) l.len
def sumE (l : Sl Mach) (sc : Nat → Sl Int) : Nat → Int
  | 0 => 0
  | t + 1 => sumE l sc t + startE l (sc t) (stAt l sc t) l.len
def sumLo (l : Sl Mach) (hs : Nat → Hour) (sc : Nat → Sl Int) : Nat → Int
  | 0 => 0
  | t + 1 => sumLo l hs sc t + (hourE l (sc t) (hs t)).1
def sumHi (l : Sl Mach) (hs : Nat → Hour) (sc : Nat → Sl Int) : Nat → Int
  | 0 => 0
  | t + 1 => sumHi l hs sc t + (hourE l (sc t) (hs t)).2
variable (F d : Nat)
section
variable {l : Sl Mach} (hl : PlantOk l) {hs : Sl Hour} (hh : HoursOk hs) (h24 : hs.len ≤ 24) {sc : Sl (Sl Int)} (hsc : SchedOk l hs.len sc) (hF : 1000 < F)
include hl hh h24 hsc hF
end
section
variable {l : Sl Mach} (hl : PlantOk l) {hs : Sl Hour} (hh : HoursOk hs) (h24 : hs.len ≤ 24) {sc : Sl (Sl Int)} (hsc : SchedOk l hs.len sc) (hF : 2000 < F)
include hl hF
include hh h24 hsc
end
end Go.Sim.Pl


namespace Go.Sim.Pl
open Go.Proofs
variable (F d : Nat)
end Go.Sim.Pl


namespace Go.Sim.Pl
open Go.Proofs
theorem leasts_spec {l : Sl Mach} {x : Int} : ∀ (S : List Nat) (s : Shr), S.Pairwise (· ≠ ·) → 0 ≤ s.left → (∀ z ∈ S, 0 ≤ (rowAt (l.el z) x).least) →
    0 ≤ (S.foldl (leastF l x) s).left ∧ (S.foldl (leastF l x) s).left + sumL (S.map (S.foldl (leastF l x) s).sh) = s.left ∧ (∀ z ∈ S, 0 ≤ (S.foldl (leastF l x) s).sh z ∧ (S.foldl (leastF l x) s).sh z ≤ (rowAt (l.el z) x).least) ∧ (0 < (S.foldl (leastF l x) s).left → ∀ z ∈ S, (S.foldl (leastF l x) s).sh z = (rowAt (l.el z) x).least) := by
  intro S
  induction S with
  | nil => intro s _ h _; simp [sumL]; exact h
  | cons y S ih =>
    intro s hp h hz
    rw [List.pairwise_cons] at hp
    have hy : y ∉ S := fun hm => hp.1 y hm rfl
    have h0 := hz y (by simp)
    have e1 : (leastF l x s y).left = s.left - min s.left (rowAt (l.el y) x).least := rfl
    have e2 : (leastF l x s y).sh y = min s.left (rowAt (l.el y) x).least := by simp [leastF]
    obtain ⟨i1, i2, i3, i4⟩ := ih (leastF l x s y) hp.2 (by rw [e1]; omega) (fun z hz' => hz z (by simp [hz']))
    have e3 := leasts_sh (l := l) (x := x) S (leastF l x s y) hy
    simp only [List.foldl_cons]
    rw [e2] at e3
    refine ⟨i1, ?_, ?_, ?_⟩
    · simp only [List.map_cons]
      show _ + (_ + sumL _) = _
      omega
    · intro z hz'
      rcases List.mem_cons.1 hz' with rfl | hz'
      · omega
      · exact i3 z hz'
    · intro hl z hz'
      rcases List.mem_cons.1 hz' with rfl | hz'
      · have : 0 ≤ sumL (S.map (S.foldl (leastF l x) (leastF l x s z)).sh) := by
          clear i2
          have : ∀ (T : List Nat) (g : Nat → Int), (∀ z ∈ T, 0 ≤ g z) → 0 ≤ sumL (T.map g) := by
            intro T g
            induction T with
            | nil => intro _; simp [sumL]
            | cons a T ih' =>
              intro h
              have := ih' (fun z hz => h z (by simp [hz]))
              have := h a (by simp)
              show 0 ≤ g a + sumL (T.map g)
              omega
          exact this S _ (fun z hz => (i3 z hz).1)
        omega
      · exact i4 hl z hz'
abbrev mst (l : Sl Mach) (x : Int) (z : Nat) : Int := (rowAt (l.el z) x).most
theorem mores_spec {l : Sl Mach} {x k : Int} : ∀ (S : List Nat) (s : Shr), S.Pairwise (· ≠ ·) → 0 ≤ s.left → (∀ z ∈ S, s.sh z ≤ mst l x z) →
    (0 ≤ (S.foldl (moreF l x k) s).left ∧ (S.foldl (moreF l x k) s).left + sumL (S.map (S.foldl (moreF l x k) s).sh) = s.left + sumL (S.map s.sh)) ∧ (∀ z ∈ S, s.sh z ≤ (S.foldl (moreF l x k) s).sh z ∧ (S.foldl (moreF l x k) s).sh z ≤ mst l x z) ∧ (0 < (S.foldl (moreF l x k) s).left → ∀ z ∈ S, (S.foldl (moreF l x k) s).sh z = mst l x z) ∧ (s.left = 0 → ∀ z, (S.foldl (moreF l x k) s).sh z = s.sh z) ∧ S.Pairwise (fun a b => s.sh b < (S.foldl (moreF l x k) s).sh b → (S.foldl (moreF l x k) s).sh a = mst l x a) := by
  intro S
  induction S with
  | nil => intro s _ h _; simp; exact h
  | cons y S ih =>
    intro s hp h hz
    rw [List.pairwise_cons] at hp
    have hy : y ∉ S := fun hm => hp.1 y hm rfl
    have h0 := hz y (by simp)
    have e1 : (moreF l x k s y).left = s.left - min s.left (mst l x y - s.sh y) := rfl
    have e2 : (moreF l x k s y).sh y = s.sh y + min s.left (mst l x y - s.sh y) := by simp [moreF]
    have e4 : ∀ z, z ≠ y → (moreF l x k s y).sh z = s.sh z := fun z hz => by simp [moreF, hz]
    obtain ⟨i1, i2, i3, i4, i5⟩ := ih (moreF l x k s y) hp.2 (by rw [e1]; omega) (fun z hz' => by
      rw [e4 z (fun e => hy (e ▸ hz'))]
      exact hz z (by simp [hz']))
    have e3 := mores_sh (l := l) (x := x) (k := k) S (moreF l x k s y) hy
    have e5 : S.map (moreF l x k s y).sh = S.map s.sh := List.map_congr_left fun z hz' => e4 z (fun e => hy (e ▸ hz'))
    rw [e5] at i1
    rw [e2] at e3
    simp only [List.foldl_cons]
    refine ⟨⟨i1.1, ?_⟩, ?_, ?_, ?_, ?_⟩
    · simp only [List.map_cons]
      show _ + (_ + sumL _) = _ + (_ + sumL _)
      omega
    · intro z hz'
      rcases List.mem_cons.1 hz' with rfl | hz'
      · omega
      · have := i2 z hz'
        rw [e4 z (fun e => hy (e ▸ hz'))] at this
        exact this
    · intro hl z hz'
      rcases List.mem_cons.1 hz' with rfl | hz'
      · by_cases hc : (moreF l x k s z).left = 0
        · exfalso
          have hsh := i4 hc
          have : S.map (S.foldl (moreF l x k) (moreF l x k s z)).sh = S.map s.sh := by
            rw [← e5]
            exact List.map_congr_left fun z _ => hsh z
          rw [this] at i1
          omega
        · omega
      · exact i3 hl z hz'
    · intro hl z
      have := i4 (by omega) z
      rw [this]
      by_cases hzy : z = y
      · subst hzy; rw [e2]; omega
      · exact e4 z hzy
    · refine List.pairwise_cons.2 ⟨fun b hb hlt => ?_, ?_⟩
      · have hby : b ≠ y := fun e => hy (e ▸ hb)
        rw [e3]
        by_cases hc : (moreF l x k s y).left = 0
        · exfalso
          have := i4 hc b
          rw [e4 b hby] at this
          omega
        · omega
      · refine i5.imp_of_mem fun {a b} ha hb hab hlt => hab ?_
        rw [e4 b (fun e => hy (e ▸ hb))]
        exact hlt
theorem pair_key {key : Nat → Int} {R : Nat → Nat → Prop} : ∀ {S : List Nat}, S.Pairwise (Bef key) → S.Pairwise R → ∀ i ∈ S, ∀ m ∈ S, key i < key m → R i m := by
  intro S
  induction S with
  | nil => intro _ _ i hi; simp at hi
  | cons y S ih =>
    intro h1 h2 i hi m hm hk
    rw [List.pairwise_cons] at h1 h2
    rcases List.mem_cons.1 hi with hi1 | hi1
    · rcases List.mem_cons.1 hm with hm1 | hm1
      · rw [hi1, hm1] at hk; omega
      · rw [hi1]; exact h2.1 m hm1
    · rcases List.mem_cons.1 hm with hm1 | hm1
      · rw [hm1] at hk
        rcases h1.1 i hi1 with h | h <;> omega
      · exact ih h1.2 h2.2 i hi1 m hm1 hk
abbrev inK (l : Sl Mach) (r : Nat → Bool) (k : Int) (i : Nat) : Prop := (l.el i).kind = k ∧ r i = true
theorem mine_ne (l : Sl Mach) (r : Nat → Bool) (k : Int) : (mine l r k).Pairwise (· ≠ ·) := (mineR_ord l r k l.len 0).imp fun h => Nat.ne_of_lt h
theorem sum_mine (l : Sl Mach) (r : Nat → Bool) (k : Int) (g : Nat → Int) : sumL ((mine l r k).map g) = sumP (inK l r k) g l.len :=
  (sum_list _ (mine_ne l r k) (fun z hz => (mine_mem.1 hz).1)).trans (sumP_congr (fun i hi => by rw [mine_mem]; exact ⟨fun h => h.2, fun h => ⟨hi, h⟩⟩) (fun _ _ _ => rfl))
theorem sum_mineE (l : Sl Mach) (r : Nat → Bool) (x k : Int) (g : Nat → Int) : sumL ((mineE l r x k).map g) = sumP (inK l r k) g l.len :=
  (sum_list _ (mineE_ne l r x k) (fun z hz => (mineE_mem.1 hz).1)).trans (sumP_congr (fun i hi => by rw [mineE_mem]; exact ⟨fun h => h.2, fun h => ⟨hi, h⟩⟩) (fun _ _ _ => rfl))
structure KindOk (l : Sl Mach) (r : Nat → Bool) (f x k : Int) (w : Nat → Int) : Prop where
  lim : ∀ i, i < l.len → inK l r k i → 0 ≤ w i ∧ w i ≤ mst l x i
  all : sumP (inK l r k) w l.len = f ∨ (sumP (inK l r k) w l.len < f ∧ ∀ i, i < l.len → inK l r k i → w i = mst l x i)
  low : (∃ m, m < l.len ∧ inK l r k m ∧ (rowAt (l.el m) x).least < w m) → ∀ i, i < l.len → inK l r k i → (rowAt (l.el i) x).least ≤ w i
  full : ∀ i m, i < l.len → m < l.len → inK l r k i → inK l r k m → (rowAt (l.el i) x).energy < (rowAt (l.el m) x).energy → (rowAt (l.el m) x).least < w m → w i = mst l x i
theorem kind_ok {l : Sl Mach} (hl : PlantOk l) {r : Nat → Bool} {f x k : Int} (hf : 0 ≤ f) (s : Shr) : KindOk l r f x k (kindF l r f x s k).sh := by
  obtain ⟨a1, a2, a3, a4⟩ := leasts_spec (l := l) (x := x) (mine l r k) { s with left := f } (mine_ne l r k) hf (fun z hz => (row_in (hl.1 z (mine_mem.1 hz).1) x).1.1)
  generalize hs1 : (mine l r k).foldl (leastF l x) { s with left := f } = s1 at a1 a2 a3 a4
  have hk : kindF l r f x s k = (mineE l r x k).foldl (moreF l x k) s1 := by rw [← hs1]; rfl
  have hin : ∀ i, i < l.len → inK l r k i → i ∈ mine l r k := fun i h1 h2 => mine_mem.2 ⟨h1, h2⟩
  have hinE : ∀ i, i < l.len → inK l r k i → i ∈ mineE l r x k := fun i h1 h2 => mineE_mem.2 ⟨h1, h2⟩
  obtain ⟨b1, b2, b3, b4, b5⟩ := mores_spec (l := l) (x := x) (k := k) (mineE l r x k) s1 (mineE_ne l r x k) a1 (fun z hz => by
    have h := mineE_mem.1 hz
    have h1 := (a3 z (mine_mem.2 h)).2
    have h2 := (row_in (hl.1 z h.1) x).1.2
    show _ ≤ (rowAt (l.el z) x).most
    omega)
  rw [hk]
  rw [sum_mine] at a2
  rw [sum_mineE, sum_mineE] at b1
  refine ⟨?_, ?_, ?_, ?_⟩
  · intro i hi hki
    have h1 := b2 i (hinE i hi hki)
    have h2 := a3 i (hin i hi hki)
    omega
  · have a2' : s1.left + sumP (inK l r k) s1.sh l.len = f := a2
    by_cases hc : 0 < ((mineE l r x k).foldl (moreF l x k) s1).left
    · exact .inr ⟨by omega, fun i hi hki => b3 hc i (hinE i hi hki)⟩
    · exact .inl (by omega)
  · rintro ⟨m, hm, hkm, hlt⟩ i hi hki
    have hpos : 0 < s1.left := by
      by_cases hc : s1.left = 0
      · have := b4 hc m
        have := (a3 m (hin m hm hkm)).2
        omega
      · omega
    have h1 := a4 hpos i (hin i hi hki)
    have h2 := (b2 i (hinE i hi hki)).1
    omega
  · intro i m hi hm hki hkm he hlt
    refine pair_key (mineE_ord l r x k) b5 i (hinE i hi hki) m (hinE m hm hkm) he ?_
    have := (a3 m (hin m hm hkm)).2
    omega
theorem kindOk_congr {l : Sl Mach} {r : Nat → Bool} {f x k : Int} {w w' : Nat → Int} (h : KindOk l r f x k w) (e : ∀ i, (l.el i).kind = k → w' i = w i) : KindOk l r f x k w' := by
  have hs : sumP (inK l r k) w' l.len = sumP (inK l r k) w l.len := sumP_congr (fun _ _ => Iff.rfl) (fun i _ hi => e i hi.1)
  refine ⟨?_, ?_, ?_, ?_⟩
  · intro i hi hk; rw [e i hk.1]; exact h.lim i hi hk
  · rw [hs]
    rcases h.all with h1 | ⟨h1, h2⟩
    · exact .inl h1
    · exact .inr ⟨h1, fun i hi hk => by rw [e i hk.1]; exact h2 i hi hk⟩
  · rintro ⟨m, hm, hkm, hlt⟩ i hi hk
    rw [e i hk.1]
    exact h.low ⟨m, hm, hkm, by rw [← e m hkm.1]; exact hlt⟩ i hi hk
  · intro i m hi hm hki hkm he hlt
    rw [e i hki.1]
    exact h.full i m hi hm hki hkm he (by rw [← e m hkm.1]; exact hlt)
theorem share_ok {l : Sl Mach} (hl : PlantOk l) {r : Nat → Bool} {f x : Int} (hf : 0 ≤ f) {k : Int} (hk : 1 ≤ k ∧ k ≤ 3) : KindOk l r f x k (shareS l r f x).sh := by
  have h3 : k = 1 ∨ k = 2 ∨ k = 3 := by omega
  rcases h3 with rfl | rfl | rfl
  · exact kindOk_congr (kind_ok hl hf shr0) fun i hi => sh_1 r f x hi
  · exact kindOk_congr (kind_ok hl hf (shr1 l r f x)) fun i hi => sh_2 r f x hi
  · rw [shareS_eq]; exact kind_ok hl hf _
theorem share_off {l : Sl Mach} {r : Nat → Bool} {f x : Int} {i : Nat} (h : r i = false) : (shareS l r f x).sh i = 0 := by
  have hn : ∀ k, ¬ ((l.el i).kind = k ∧ r i = true) := fun k hk => by rw [h] at hk; exact absurd hk.2 (by decide)
  rw [shareS_eq, kind_sh (hn 3)]
  show (kindF l r f x (kindF l r f x shr0 1) 2).sh i = 0
  rw [kind_sh (hn 2), kind_sh (hn 1)]
  rfl
theorem sumP_le {p : Nat → Prop} [DecidablePred p] {g g' : Nat → Int} : ∀ {n : Nat}, (∀ i, i < n → p i → g i ≤ g' i) → sumP p g n ≤ sumP p g' n
  | 0, _ => by simp [sumP]
  | n + 1, h => by
    have ih := sumP_le (p := p) (g := g) (g' := g') (n := n) (fun i hi => h i (by omega))
    simp only [sumP]
    split
    · rename_i hp; have := h n (by omega) hp; omega
    · omega
theorem sumP_add {p : Nat → Prop} [DecidablePred p] {g g' : Nat → Int} : ∀ {n : Nat}, sumP p (fun i => g i + g' i) n = sumP p g n + sumP p g' n
  | 0 => rfl
  | n + 1 => by
    have ih := sumP_add (p := p) (g := g) (g' := g') (n := n)
    simp only [sumP]
    split <;> omega
theorem sumP_mul {p : Nat → Prop} [DecidablePred p] {g : Nat → Int} {c : Int} : ∀ {n : Nat}, sumP p (fun i => c * g i) n = c * sumP p g n
  | 0 => by simp [sumP]
  | n + 1 => by
    have ih := sumP_mul (p := p) (g := g) (c := c) (n := n)
    simp only [sumP]
    rw [ih, Int.mul_add]
    split <;> simp
theorem maxP_le {p : Nat → Prop} [DecidablePred p] {g : Nat → Int} {i : Nat} : ∀ {n : Nat}, i < n → p i → g i ≤ maxP p g n
  | 0, h, _ => by omega
  | n + 1, h, hp => by
    simp only [maxP]
    rcases Nat.lt_or_eq_of_le (Nat.le_of_lt_succ h) with h1 | rfl
    · have ih := maxP_le (p := p) (g := g) (n := n) h1 hp
      split <;> omega
    · rw [if_pos hp]; omega
theorem maxP_at {p : Nat → Prop} [DecidablePred p] {g : Nat → Int} : ∀ {n : Nat}, 0 < maxP p g n → ∃ i, i < n ∧ p i ∧ g i = maxP p g n
  | 0, h => by simp [maxP] at h
  | n + 1, h => by
    simp only [maxP] at h ⊢
    split
    · rename_i hp
      rw [if_pos hp] at h
      by_cases hc : maxP p g n ≤ g n
      · exact ⟨n, by omega, hp, by omega⟩
      · obtain ⟨i, h1, h2, h3⟩ := maxP_at (p := p) (g := g) (n := n) (by omega)
        exact ⟨i, by omega, h2, by omega⟩
    · rename_i hp
      rw [if_neg hp] at h
      obtain ⟨i, h1, h2, h3⟩ := maxP_at (p := p) (g := g) (n := n) h
      exact ⟨i, by omega, h2, h3⟩
theorem mostS_sum (l : Sl Mach) (r : Nat → Bool) (x k : Int) : ∀ n, mostS l.el r x k n = sumP (inK l r k) (mst l x) n
  | 0 => rfl
  | n + 1 => by
    have ih := mostS_sum l r x k n
    simp only [mostS, sumP, ih]
theorem thereS_iff (l : Nat → Mach) (k : Int) : ∀ n, thereS l k n = true ↔ ∃ i, i < n ∧ (l i).kind = k
  | 0 => by simp [thereS]
  | n + 1 => by
    have ih := thereS_iff l k n
    simp only [thereS, Bool.or_eq_true, decide_eq_true_iff, ih]
    constructor
    · rintro (⟨i, h1, h2⟩ | h)
      · exact ⟨i, by omega, h2⟩
      · exact ⟨n, by omega, h⟩
    · rintro ⟨i, h1, h2⟩
      rcases Nat.lt_or_eq_of_le (Nat.le_of_lt_succ h1) with h3 | rfl
      · exact .inl ⟨i, h3, h2⟩
      · exact .inr h2
theorem lacks_0 {l : Sl Mach} {r : Nat → Bool} {f x : Int} : lacks l r f x = 0 ↔ ∀ k, 1 ≤ k ∧ k ≤ 3 → shortK l.el r f x k l.len = false := by
  unfold lacks
  simp only [lackK]
  constructor
  · intro h k hk
    have h3 : k = 1 ∨ k = 2 ∨ k = 3 := by omega
    by_cases h1 : shortK l.el r f x 1 l.len = true
    · rw [if_pos h1] at h; omega
    · rw [if_neg h1] at h
      by_cases h2 : shortK l.el r f x (1 + 1) l.len = true
      · rw [if_pos h2] at h; omega
      · rw [if_neg h2] at h
        by_cases h4 : shortK l.el r f x (1 + 1 + 1) l.len = true
        · rw [if_pos h4] at h; omega
        · rcases h3 with rfl | rfl | rfl
          · simpa using h1
          · simpa using h2
          · simpa using h4
  · intro h
    rw [if_neg (by rw [h 1 (by omega)]; simp), if_neg (by rw [h (1 + 1) (by omega)]; simp), if_neg (by rw [h (1 + 1 + 1) (by omega)]; simp)]
abbrev CarOk (l : Sl Mach) (r : Nat → Bool) (f x : Int) (w : Nat → Int) : Prop := (∀ i, i < l.len → (0 ≤ w i ∧ w i ≤ mst l x i) ∧ (r i = false → w i ≤ 0)) ∧ ∀ k : Int, 1 ≤ k ∧ k ≤ 3 → thereS l.el k l.len = true → sumP (fun i => (l.el i).kind = k) w l.len = f
theorem car_kind {l : Sl Mach} {r : Nat → Bool} {x : Int} {w : Nat → Int} (h : ∀ i, i < l.len → (0 ≤ w i ∧ w i ≤ mst l x i) ∧ (r i = false → w i ≤ 0)) (k : Int) : sumP (fun i => (l.el i).kind = k) w l.len = sumP (inK l r k) w l.len := by
  have : ∀ n, n ≤ l.len → sumP (fun i => (l.el i).kind = k) w n = sumP (inK l r k) w n := by
    intro n
    induction n with
    | zero => intro _; rfl
    | succ n ih =>
      intro hn
      have e := ih (by omega)
      have hw := h n (by omega)
      simp only [sumP, e]
      by_cases h1 : (l.el n).kind = k
      · rw [if_pos h1]
        by_cases hr : r n = true
        · rw [if_pos ⟨h1, hr⟩]
        · rw [if_neg (fun h => hr h.2)]
          have := hw.2 (by simpa using hr)
          omega
      · rw [if_neg h1, if_neg (fun h => h1 h.1)]
  exact this l.len (Nat.le_refl _)
theorem none_car {l : Sl Mach} {r : Nat → Bool} {f x : Int} {w : Nat → Int} (hk : lacks l r f x ≠ 0) : ¬ CarOk l r f x w := by
  intro h
  apply hk
  rw [lacks_0]
  intro k hk2
  by_cases hs : shortK l.el r f x k l.len = true
  · exfalso
    unfold shortK at hs
    rw [Bool.and_eq_true, decide_eq_true_iff, mostS_sum] at hs
    have h1 := h.2 k hk2 hs.1
    rw [car_kind h.1] at h1
    have h2 : sumP (inK l r k) w l.len ≤ sumP (inK l r k) (mst l x) l.len := sumP_le fun i hi _ => (h.1 i hi).1.2
    omega
  · simpa using hs
theorem share_car {l : Sl Mach} (hl : PlantOk l) {r : Nat → Bool} {f x : Int} (hf : 0 ≤ f) (hk : lacks l r f x = 0) : CarOk l r f x (shareS l r f x).sh := by
  have h1 : ∀ i, i < l.len → (0 ≤ (shareS l r f x).sh i ∧ (shareS l r f x).sh i ≤ mst l x i) ∧ (r i = false → (shareS l r f x).sh i ≤ 0) := by
    intro i hi
    cases hr : r i with
    | true => exact ⟨(share_ok hl hf (hl.1 i hi).2.1).lim i hi ⟨rfl, hr⟩, fun h => absurd h (by decide)⟩
    | false =>
      have e := share_off (l := l) (f := f) (x := x) hr
      have := (row_in (hl.1 i hi) x).1
      rw [e]
      exact ⟨⟨Int.le_refl _, show (0 : Int) ≤ (rowAt (l.el i) x).most by omega⟩, fun _ => Int.le_refl _⟩
  refine ⟨h1, fun k hk2 ht => ?_⟩
  rw [car_kind h1]
  rcases (share_ok hl hf hk2 (r := r) (x := x)).all with h | ⟨h, h2⟩
  · exact h
  · exfalso
    have hs := (lacks_0.1 hk) k hk2
    unfold shortK at hs
    rw [ht, Bool.true_and, decide_eq_false_iff_not, mostS_sum] at hs
    rw [sumP_congr (fun _ _ => Iff.rfl) h2] at h
    omega
theorem sum_kinds {l : Sl Mach} (hl : PlantOk l) {r : Nat → Bool} {g : Nat → Int} : ∀ n, n ≤ l.len → sumP (fun i => r i = true) g n = sumP (inK l r 1) g n + sumP (inK l r 2) g n + sumP (inK l r 3) g n
  | 0, _ => rfl
  | n + 1, h => by
    have ih := sum_kinds hl (r := r) (g := g) n (by omega)
    have hk := (hl.1 n (by omega)).2.1
    simp only [sumP, inK, ih]
    by_cases hr : r n = true
    · have h3 : (l.el n).kind = 1 ∨ (l.el n).kind = 2 ∨ (l.el n).kind = 3 := by omega
      rw [if_pos hr]
      rcases h3 with h3 | h3 | h3
      · rw [if_pos (show inK l r 1 n from ⟨h3, hr⟩), if_neg (show ¬ inK l r 2 n from fun h => by have := h.1; omega), if_neg (show ¬ inK l r 3 n from fun h => by have := h.1; omega)]; omega
      · rw [if_neg (show ¬ inK l r 1 n from fun h => by have := h.1; omega), if_pos (show inK l r 2 n from ⟨h3, hr⟩), if_neg (show ¬ inK l r 3 n from fun h => by have := h.1; omega)]; omega
      · rw [if_neg (show ¬ inK l r 1 n from fun h => by have := h.1; omega), if_neg (show ¬ inK l r 2 n from fun h => by have := h.1; omega), if_pos (show inK l r 3 n from ⟨h3, hr⟩)]; omega
    · rw [if_neg hr, if_neg (fun h => hr h.2), if_neg (fun h => hr h.2), if_neg (fun h => hr h.2)]
      omega
abbrev prcS (l : Sl Mach) (r : Nat → Bool) (x k : Int) (w : Nat → Int) : Int := maxP (fun i => (l.el i).kind = k ∧ r i = true ∧ w i > (rowAt (l.el i) x).least) (fun i => (rowAt (l.el i) x).energy) l.len
theorem price_1 {l : Sl Mach} {r : Nat → Bool} {x k : Int} {w : Nat → Int} {i : Nat} (hi : i < l.len) (hk : inK l r k i) (h : (rowAt (l.el i) x).least < w i) : (rowAt (l.el i) x).energy ≤ prcS l r x k w :=
  maxP_le (p := fun i => (l.el i).kind = k ∧ r i = true ∧ w i > (rowAt (l.el i) x).least) (g := fun i => (rowAt (l.el i) x).energy) hi ⟨hk.1, hk.2, h⟩
theorem price_2 {l : Sl Mach} (hl : PlantOk l) {r : Nat → Bool} {f x k : Int} {w : Nat → Int} (h : KindOk l r f x k w) {i : Nat} (hi : i < l.len) (hk : inK l r k i) (hp : (rowAt (l.el i) x).energy < prcS l r x k w) : w i = mst l x i := by
  have h0 := (row_in (hl.1 i hi) x).2.2.1
  unfold prcS at hp
  obtain ⟨m, hm, hpm, he⟩ := maxP_at (p := fun i => (l.el i).kind = k ∧ r i = true ∧ w i > (rowAt (l.el i) x).least) (g := fun i => (rowAt (l.el i) x).energy) (n := l.len) (by omega)
  exact h.full i m hi hm hk ⟨hpm.1, hpm.2.1⟩ (by omega) hpm.2.2
theorem kind_least {l : Sl Mach} (hl : PlantOk l) {r : Nat → Bool} {f x k : Int} {w o : Nat → Int} (h : KindOk l r f x k w) (hs : sumP (inK l r k) w l.len = f) (ho : ∀ i, i < l.len → inK l r k i → o i ≤ mst l x i) (hso : sumP (inK l r k) o l.len = f) :
    sumP (inK l r k) (enT l w x) l.len ≤ sumP (inK l r k) (enT l o x) l.len := by
  have hP0 : 0 ≤ prcS l r x k w := maxP_0
  have hterm : sumP (inK l r k) (fun i => enT l w x i + prcS l r x k w * max (o i) (rowAt (l.el i) x).least) l.len ≤ sumP (inK l r k) (fun i => enT l o x i + prcS l r x k w * max (w i) (rowAt (l.el i) x).least) l.len := by
    refine sumP_le fun i hi hk => ?_
    have hr := (row_in (hl.1 i hi) x)
    have ho' : o i ≤ (rowAt (l.el i) x).most := ho i hi hk
    have hkey : 0 ≤ ((rowAt (l.el i) x).energy - prcS l r x k w) * (max (o i) (rowAt (l.el i) x).least - max (w i) (rowAt (l.el i) x).least) := by
      rcases Int.lt_trichotomy (rowAt (l.el i) x).energy (prcS l r x k w) with h1 | h1 | h1
      · have e : w i = (rowAt (l.el i) x).most := price_2 hl h hi hk h1
        refine Int.mul_nonneg_of_nonpos_of_nonpos (by omega) ?_
        omega
      · rw [h1, Int.sub_self, Int.zero_mul]; exact Int.le_refl _
      · refine Int.mul_nonneg (by omega) ?_
        by_cases hc : (rowAt (l.el i) x).least < w i
        · have := price_1 hi hk hc; omega
        · omega
    have e : ((rowAt (l.el i) x).energy - prcS l r x k w) * (max (o i) (rowAt (l.el i) x).least - max (w i) (rowAt (l.el i) x).least) = (enT l o x i + prcS l r x k w * max (w i) (rowAt (l.el i) x).least) - (enT l w x i + prcS l r x k w * max (o i) (rowAt (l.el i) x).least) := by
      simp only [enT]
      generalize (rowAt (l.el i) x).energy = a
      generalize prcS l r x k w = p
      generalize max (o i) (rowAt (l.el i) x).least = u
      generalize max (w i) (rowAt (l.el i) x).least = v
      rw [Int.sub_mul, Int.mul_sub, Int.mul_sub]
      omega
    omega
  rw [sumP_add, sumP_add, sumP_mul (g := fun i => max (o i) (rowAt (l.el i) x).least), sumP_mul (g := fun i => max (w i) (rowAt (l.el i) x).least)] at hterm
  have hle : prcS l r x k w * sumP (inK l r k) (fun i => max (w i) (rowAt (l.el i) x).least) l.len ≤ prcS l r x k w * sumP (inK l r k) (fun i => max (o i) (rowAt (l.el i) x).least) l.len := by
    rcases Int.lt_or_eq_of_le hP0 with h1 | h1
    · refine Int.mul_le_mul_of_nonneg_left ?_ hP0
      obtain ⟨m, hm, hpm, he⟩ := maxP_at (p := fun i => (l.el i).kind = k ∧ r i = true ∧ w i > (rowAt (l.el i) x).least) (g := fun i => (rowAt (l.el i) x).energy) (n := l.len) h1
      have hlow := h.low ⟨m, hm, ⟨hpm.1, hpm.2.1⟩, hpm.2.2⟩
      have e1 : sumP (inK l r k) (fun i => max (w i) (rowAt (l.el i) x).least) l.len = sumP (inK l r k) w l.len := sumP_congr (fun _ _ => Iff.rfl) (fun i hi hk => by have := hlow i hi hk; show max _ _ = _; omega)
      have e2 : sumP (inK l r k) o l.len ≤ sumP (inK l r k) (fun i => max (o i) (rowAt (l.el i) x).least) l.len := sumP_le fun i _ _ => by show o i ≤ max _ _; omega
      omega
    · rw [← h1, Int.zero_mul, Int.zero_mul]; exact Int.le_refl _
  omega
theorem share_least {l : Sl Mach} (hl : PlantOk l) {r : Nat → Bool} {f x : Int} (hf : 0 ≤ f) (hk : lacks l r f x = 0) {o : Nat → Int} (ho : CarOk l r f x o) : enS l r f x ≤ sumP (fun i => r i = true) (enT l o x) l.len := by
  unfold enS
  rw [energy_eq hl r f x, sum_kinds hl l.len (Nat.le_refl _), sum_kinds hl l.len (Nat.le_refl _)]
  have hc := share_car hl hf hk (r := r)
  have hk3 : ∀ k, 1 ≤ k ∧ k ≤ 3 → sumP (inK l r k) (enT l (shareS l r f x).sh x) l.len ≤ sumP (inK l r k) (enT l o x) l.len := by
    intro k hk'
    by_cases ht : thereS l.el k l.len = true
    · have h1 := hc.2 k hk' ht
      have h2 := ho.2 k hk' ht
      rw [car_kind hc.1] at h1
      rw [car_kind ho.1] at h2
      exact kind_least hl (share_ok hl hf hk') h1 (fun i hi _ => (ho.1 i hi).1.2) h2
    · have hn : ∀ i, i < l.len → ¬ inK l r k i := fun i hi hki => ht ((thereS_iff _ _ _).2 ⟨i, hi, hki.1⟩)
      rw [sumP_no hn, sumP_no hn]
      exact Int.le_refl _
  have h1 := hk3 1 (by omega)
  have h2 := hk3 2 (by omega)
  have h3 := hk3 3 (by omega)
  omega
end Go.Sim.Pl


namespace Go.Sim.Pl
open Go.Proofs
abbrev kix (l : Sl Mach) (i : Nat) : Nat := ((l.el i).kind - 1).toNat
def smF (l : Sl Mach) (w : Nat → Int) : Nat → Nat → Int
  | 0 => fun _ => 0
  | i + 1 => fun j => if j = kix l i then smF l w i (kix l i) + w i else smF l w i j
def thF (l : Sl Mach) : Nat → Nat → Bool
  | 0 => fun _ => false
  | i + 1 => fun j => if j = kix l i then true else thF l i j
theorem smF_eq {l : Sl Mach} (hl : PlantOk l) (w : Nat → Int) {j : Nat} (_ : j < 3) : ∀ n, n ≤ l.len → smF l w n j = sumP (fun i => (l.el i).kind = (j : Int) + 1) w n
  | 0, _ => rfl
  | n + 1, h => by
    have ih := smF_eq hl w ‹j < 3› n (by omega)
    have hk := (hl.1 n (by omega)).2.1
    simp only [smF, sumP]
    by_cases h1 : j = kix l n
    · rw [if_pos h1, if_pos (by unfold kix at h1; omega), ← h1, ih]
    · rw [if_neg h1, if_neg (by unfold kix at h1; omega), ih, Int.add_zero]
theorem thF_eq {l : Sl Mach} (hl : PlantOk l) {j : Nat} (_ : j < 3) : ∀ n, n ≤ l.len → thF l n j = thereS l.el ((j : Int) + 1) n
  | 0, _ => rfl
  | n + 1, h => by
    have ih := thF_eq hl ‹j < 3› n (by omega)
    have hk := (hl.1 n (by omega)).2.1
    simp only [thF, thereS]
    by_cases h1 : j = kix l n
    · rw [if_pos h1, decide_eq_true (by unfold kix at h1; omega), Bool.or_true]
    · rw [if_neg h1, decide_eq_false (by unfold kix at h1; omega), ih, Bool.or_false]
def okA (l : Sl Mach) (r : Nat → Bool) (x : Int) (w : Nat → Int) (i : Nat) : Bool := !decide (w i < 0) && (!decide (w i > (rowAt (l.el i) x).most) && (r i || !decide (w i > 0)))
variable (F d : Nat)
section
variable {l : Sl Mach} (hl : PlantOk l) (hF : 1000 < F) (r : Sl Bool) (hr : r.len = l.len) (f x : Int) (w : Sl Int) (hw : w.len = l.len)
include hl hF hr hw
theorem l24x1 (en : Int) (sm : Nat → Int) (th : Nat → Bool) : ∀ (j k fu : Nat), k + j = 3 → j < fu → L24x1 (E F (d + 1)) F l r f x w fu en k (fun j => eInt (sm j)) (fun j => eBool (th j)) = some (.ret (.tup (bif allF (fun k => !th k || sm k == f) j k then [.int .i64 0, .int .i64 en] else [.int .i64 (-1), .int .i64 0]))) := by
  intro j
  induction j with
  | zero =>
    intro k fu h hf
    obtain ⟨fu, rfl⟩ : ∃ k, fu = k + 1 := ⟨fu - 1, by omega⟩
    rw [L24x1s, decide_eq_false (by omega), pF]
    rfl
  | succ j ih =>
    intro k fu h hf
    obtain ⟨fu, rfl⟩ : ∃ k, fu = k + 1 := ⟨fu - 1, by omega⟩
    have hS : IntKind.i64.wrap ((k : Int) + 1) = ((k + 1 : Nat) : Int) := wrS (by omega)
    have e := ih (k + 1) fu (by omega) (by omega)
    rw [L24x1s]
    simp (disch := omega) only [decide_eq_true, dd, decide_true, pT, Int.toNat_natCast, hS, tkCons_c, tkBool_b, tkInt_i, e]
    simp only [allF]
    cases h1 : th k with
    | false => rfl
    | true =>
      rw [pT]
      by_cases h2 : sm k = f
      · rw [h2, bne_self_eq_false, pF, beq_self_eq_true]; rfl
      · rw [show (sm k != f) = true by simp [h2], pT, show (sm k == f) = false by simp [h2]]; rfl
theorem l24x0 : ∀ j i fu, i + j = l.len → j < fu → (∀ a, a < i → okA l r.el x w.el a = true) →
    L24x0 (E F (d + 1)) F l r f x w fu (sumP (fun i => r.el i = true) (enT l w.el x) i) i (fun j => eInt (smF l w.el i j)) (fun j => eBool (thF l i j)) = bif allF (okA l r.el x w.el) j i then L24x1 (E F (d + 1)) F l r f x w F (sumP (fun i => r.el i = true) (enT l w.el x) l.len) 0 (fun j => eInt (smF l w.el l.len j)) (fun j => eBool (thF l l.len j)) else some (.ret (.tup [.int .i64 (-1), .int .i64 0])) := by
  have hl2 := hl.2
  intro j
  induction j with
  | zero =>
    intro i fu h hf _
    obtain ⟨fu, rfl⟩ : ∃ k, fu = k + 1 := ⟨fu - 1, by omega⟩
    obtain rfl : i = l.len := by omega
    rw [L24x0s, decide_eq_false (by omega), pF]
    simp only [allF, cond_true]
  | succ j ih =>
    intro i fu h hf hok
    obtain ⟨fu, rfl⟩ : ∃ k, fu = k + 1 := ⟨fu - 1, by omega⟩
    have hS : IntKind.i64.wrap ((i : Int) + 1) = ((i + 1 : Nat) : Int) := wrS (by omega)
    have hi : i < l.len := by omega
    have hk := (hl.1 i hi).2.1
    have hK : IntKind.i64.wrap ((l.el i).kind - 1) = ((kix l i : Nat) : Int) := by rw [wr (by omega)]; unfold kix; omega
    have hK3 : kix l i < 3 := by unfold kix; omega
    have q25 := e25 F d hl hF x hi
    have hrow := row_in (hl.1 i hi) x
    simp only [allF]
    rw [L24x0s]
    simp (disch := omega) only [decide_eq_true, dd, decide_true, pT, Int.toNat_natCast, hS, hK, q25, tkOut_ret, tkAgg_a, tkCons_c, tkInt_i, tkNil_n]
    unfold okA
    by_cases h1 : w.el i < 0
    · rw [decide_eq_true h1, pT]; rfl
    rw [decide_eq_false h1, pF]
    by_cases h2 : w.el i > (rowAt (l.el i) x).most
    · rw [decide_eq_true h2, pT]; rfl
    rw [decide_eq_false h2, pF]
    have hsm : ∀ n, n ≤ l.len → (∀ a, a < n → okA l r.el x w.el a = true) → (∀ j, 0 ≤ smF l w.el n j ∧ smF l w.el n j ≤ 1000000 * n) ∧ 0 ≤ sumP (fun i => r.el i = true) (enT l w.el x) n ∧ sumP (fun i => r.el i = true) (enT l w.el x) n ≤ 1000000000 * n := by
      intro n
      induction n with
      | zero => intro _ _; exact ⟨fun j => by simp [smF], by simp [sumP]⟩
      | succ n ihn =>
        intro hn ha
        obtain ⟨a1, a2⟩ := ihn (by omega) (fun a h => ha a (by omega))
        have hb := ha n (by omega)
        unfold okA at hb
        simp only [Bool.and_eq_true, Bool.not_eq_true', decide_eq_false_iff_not] at hb
        have hrn := row_in (hl.1 n (by omega)) x
        refine ⟨fun j => ?_, ?_⟩
        · simp only [smF]
          have b1 := a1 (kix l n)
          have b2 := a1 j
          split <;> omega
        · simp only [sumP]
          have e5 : enT l w.el x n = (rowAt (l.el n) x).energy * max (w.el n) (rowAt (l.el n) x).least := rfl
          have := mul_in (a := (rowAt (l.el n) x).energy) (b := max (w.el n) (rowAt (l.el n) x).least) ⟨hrn.2.2.1, hrn.2.2.2⟩ (by omega)
          split <;> omega
    obtain ⟨c1, c2⟩ := hsm i (by omega) hok
    have c3 := c1 (kix l i)
    have hsum : IntKind.i64.wrap (smF l w.el i (kix l i) + w.el i) = smF l w.el i (kix l i) + w.el i := wr (by omega)
    have hg2 : updGet (fun j => eInt (smF l w.el i j)) (kix l i) 0 [V.int .i64 (smF l w.el i (kix l i) + w.el i)] = fun j => eInt (smF l w.el (i + 1) j) := upd_int (smF l w.el i) (kix l i) _
    have hg3 : updGet (fun j => eBool (thF l i j)) (kix l i) 0 [V.bool true] = fun j => eBool (thF l (i + 1) j) := upd_bool (thF l i) (kix l i) true
    cases h3 : r.el i with
    | false =>
      rw [Bool.not_false, pT]
      by_cases h4 : w.el i > 0
      · rw [decide_eq_true h4, pT]; rfl
      rw [decide_eq_false h4, pF]
      have e := ih (i + 1) fu (by omega) (by omega) (fun a ha => by
        rcases Nat.lt_or_eq_of_le (Nat.le_of_lt_succ ha) with h5 | rfl
        · exact hok a h5
        · unfold okA; simp [h1, h2, h4])
      simp (disch := omega) only [decide_eq_true, dd, decide_true, pT, pF, Int.toNat_natCast, hS, hK, tkCons_c, tkInt_i, hsum, hg2, hg3]
      simp only [sumP, h3, Bool.false_eq_true, if_false, Int.add_zero] at e
      rw [e]
      rfl
    | true =>
      rw [Bool.not_true, pF]
      have e := ih (i + 1) fu (by omega) (by omega) (fun a ha => by
        rcases Nat.lt_or_eq_of_le (Nat.le_of_lt_succ ha) with h5 | rfl
        · exact hok a h5
        · unfold okA; simp [h1, h2, h3])
      have hm := mul_in (a := (rowAt (l.el i) x).energy) (b := max (rowAt (l.el i) x).least (w.el i)) ⟨hrow.2.2.1, hrow.2.2.2⟩ (by omega)
      have hen : enT l w.el x i = (rowAt (l.el i) x).energy * max (rowAt (l.el i) x).least (w.el i) := by
        show _ * max _ _ = _
        rw [Int.max_comm]
      simp (disch := omega) only [decide_eq_true, dd, decide_true, pT, pF, Int.toNat_natCast, hS, hK, tkCons_c, tkInt_i, hsum, hg2, hg3, mxE, wr]
      simp only [sumP, h3, if_true, hen] at e
      rw [e]
      rfl
theorem s24xraw : (E F (d + 2)).pf 24 [sl eMach 10 l, sl eBool 1 r, .int .i64 f, .int .i64 x, sl eInt 1 w] = some (.ret (.tup (bif allF (okA l r.el x w.el) l.len 0 && allF (fun k => !thF l l.len k || smF l w.el l.len k == f) 3 0 then [.int .i64 0, .int .i64 (sumP (fun i => r.el i = true) (enT l w.el x) l.len)] else [.int .i64 (-1), .int .i64 0]))) := by
  have hl2 := hl.2
  have e := l24x0 F d hl hF r hr f x w hw l.len 0 F (by omega) (by omega) (fun a ha => by omega)
  have e2 := l24x1 F d hl hF r hr f x w hw (sumP (fun i => r.el i = true) (enT l w.el x) l.len) (smF l w.el l.len) (thF l l.len) 3 0 F (by omega) (by omega)
  rw [E_pf, t24, hw, bne_self_eq_false, pF]
  refine Eq.trans e ?_
  cases allF (okA l r.el x w.el) l.len 0 with
  | false => rfl
  | true =>
    rw [cond_true]
    exact e2
omit hw in
theorem car_dec : (allF (okA l r.el x w.el) l.len 0 && allF (fun k => !thF l l.len k || smF l w.el l.len k == f) 3 0) = true ↔ CarOk l r.el f x w.el := by
  rw [Bool.and_eq_true, allF_dec, allF_dec, decide_eq_true_iff, decide_eq_true_iff]
  constructor
  · rintro ⟨h1, h2⟩
    refine ⟨fun i hi => ?_, fun k hk ht => ?_⟩
    · have := h1 i hi
      unfold okA at this
      simp only [Bool.and_eq_true, Bool.or_eq_true, Bool.not_eq_true', decide_eq_false_iff_not] at this
      refine ⟨⟨by omega, show w.el i ≤ (rowAt (l.el i) x).most by omega⟩, fun h3 => ?_⟩
      rcases this.2.2 with h | h
      · rw [h3] at h; exact absurd h (by decide)
      · omega
    · have h3 := h2 (k - 1).toNat (by omega)
      have hk' : (((k - 1).toNat : Nat) : Int) + 1 = k := by omega
      rw [thF_eq hl (by omega) l.len (Nat.le_refl _), smF_eq hl w.el (by omega) l.len (Nat.le_refl _), hk', ht] at h3
      simpa using h3
  · rintro ⟨h1, h2⟩
    refine ⟨fun i hi => ?_, fun k hk => ?_⟩
    · obtain ⟨⟨a, b⟩, c⟩ := h1 i hi
      have b' : w.el i ≤ (rowAt (l.el i) x).most := b
      unfold okA
      simp only [Bool.and_eq_true, Bool.or_eq_true, Bool.not_eq_true', decide_eq_false_iff_not]
      refine ⟨by omega, by omega, ?_⟩
      cases h3 : r.el i with
      | true => exact .inl rfl
      | false => have := c h3; exact .inr (by omega)
    · rw [thF_eq hl hk l.len (Nat.le_refl _), smF_eq hl w.el hk l.len (Nat.le_refl _)]
      cases ht : thereS l.el ((k : Int) + 1) l.len with
      | false => rfl
      | true => rw [h2 _ (by omega) ht]; simp
theorem s24xok (h : CarOk l r.el f x w.el) : (E F (d + 2)).pf 24 [sl eMach 10 l, sl eBool 1 r, .int .i64 f, .int .i64 x, sl eInt 1 w] = some (.ret (.tup [.int .i64 0, .int .i64 (sumP (fun i => r.el i = true) (enT l w.el x) l.len)])) := by
  rw [s24xraw F d hl hF r hr f x w hw, (car_dec F hl hF r hr f x w).2 h, cond_true]
end
section
variable {l : Sl Mach} (hl : PlantOk l) (hF : 1000 < F) (r : Sl Bool) (hr : r.len = l.len) (f x : Int) (w : Sl Int)
include hl hF hr
theorem s24xno (h : ¬ (w.len = l.len ∧ CarOk l r.el f x w.el)) : (E F (d + 2)).pf 24 [sl eMach 10 l, sl eBool 1 r, .int .i64 f, .int .i64 x, sl eInt 1 w] = some (.ret (.tup [.int .i64 (-1), .int .i64 0])) := by
  by_cases hw : w.len = l.len
  · rw [s24xraw F d hl hF r hr f x w hw]
    cases hc : (allF (okA l r.el x w.el) l.len 0 && allF (fun k => !thF l l.len k || smF l w.el l.len k == f) 3 0) with
    | false => rfl
    | true => exact absurd ⟨hw, (car_dec F hl hF r hr f x w).1 hc⟩ h
  · rw [E_pf, t24, show ((w.len : Int) != (l.len : Int)) = true by rw [bne_iff_ne]; omega, pT]
theorem l4x0 (hf : 0 ≤ f) (q16 : (E F (d + 1)).pf 16 [] = some (.ret (.bool true))) : ∀ j i fu, i + j = l.len → j < fu →
    L4x0 (E F (d + 1)) F l r f x w fu false l.len 1 (fun i => eInt ((shareS l r.el f x).sh i)) false 3 1 (fun i => eInt ((shareS l r.el f x).pr i)) i = some (.ret (.bool true)) := by
  have hl2 := hl.2
  intro j
  induction j with
  | zero =>
    intro i fu h hf'
    obtain ⟨fu, rfl⟩ : ∃ k, fu = k + 1 := ⟨fu - 1, by omega⟩
    rw [L4x0s, decide_eq_false (by omega), pF]
    simp only [q16, tkOut_ret, tkBool_b]
  | succ j ih =>
    intro i fu h hf'
    obtain ⟨fu, rfl⟩ : ∃ k, fu = k + 1 := ⟨fu - 1, by omega⟩
    have hS : IntKind.i64.wrap ((i : Int) + 1) = ((i + 1 : Nat) : Int) := wrS (by omega)
    have hi : i < l.len := by omega
    have hk := (hl.1 i hi).2.1
    have hK : IntKind.i64.wrap ((l.el i).kind - 1) = ((kix l i : Nat) : Int) := by rw [wr (by omega)]; unfold kix; omega
    have hK3 : kix l i < 3 := by unfold kix; omega
    have q25 := e25 F d hl hF x hi
    have e := ih (i + 1) fu (by omega) (by omega)
    have hpe : (shareS l r.el f x).pr (kix l i) = prcS l r.el x (l.el i).kind (shareS l r.el f x).sh := by
      rw [price_eq hl r.el f x hK3, show ((kix l i : Nat) : Int) + 1 = (l.el i).kind by unfold kix; omega]
    rw [L4x0s]
    simp (disch := omega) only [decide_eq_true, dd, decide_true, pT, Int.toNat_natCast, hS, hK, q25, tkOut_ret, tkAgg_a, tkCons_c, tkInt_i, tkNil_n, beq_self_eq_true, hpe, e]
    cases h3 : r.el i with
    | false => rfl
    | true =>
      have hko := share_ok hl hf (k := (l.el i).kind) hk (r := r.el) (x := x)
      have hp1 := fun h => price_1 (w := (shareS l r.el f x).sh) (x := x) (k := (l.el i).kind) hi ⟨rfl, h3⟩ h
      have hp2 := fun h => price_2 hl hko hi ⟨rfl, h3⟩ h
      rw [pT]
      by_cases h4 : (shareS l r.el f x).sh i > (rowAt (l.el i) x).least
      · rw [decide_eq_true h4, pT, decide_eq_false (by have := hp1 h4; omega), pF]
        by_cases h5 : (rowAt (l.el i) x).energy < prcS l r.el x (l.el i).kind (shareS l r.el f x).sh
        · have h6 : (shareS l r.el f x).sh i = (rowAt (l.el i) x).most := hp2 h5
          rw [decide_eq_true h5, pT, decide_eq_false (show ¬ (shareS l r.el f x).sh i < (rowAt (l.el i) x).most by omega), pF]
        · rw [decide_eq_false h5, pF]
      · rw [decide_eq_false h4, pF]
        by_cases h5 : (rowAt (l.el i) x).energy < prcS l r.el x (l.el i).kind (shareS l r.el f x).sh
        · have h6 : (shareS l r.el f x).sh i = (rowAt (l.el i) x).most := hp2 h5
          rw [decide_eq_true h5, pT, decide_eq_false (show ¬ (shareS l r.el f x).sh i < (rowAt (l.el i) x).most by omega), pF]
        · rw [decide_eq_false h5, pF]
end
theorem law4 (hF : 140737488355330 < F) (l : Sl Mach) (r : Sl Bool) (f x : Int) (w : Sl Int) (hl : l.len ≤ 140737488355328) (hR : ∀ i, (l.el i).rows.len ≤ 140737488355328) :
    (E F (d + 43)).pf 4 [sl eMach 10 l, sl eBool 1 r, .int .i64 f, .int .i64 x, sl eInt 1 w] = some (.ret (.bool true)) := by
  have q16 := s16 F d (by omega)
  have q15 := s15 F (d + 41) l (lenB hl) (by omega)
  have hRB : RowsB l F := fun i _ => ⟨lenB (hR i), by have := hR i; omega⟩
  have q18 := s18 F (d + 38) l r f (lenB hl) (by omega) hRB
  rw [E_pf, t4]
  simp only [q15, q16, q18, tkOut_ret, tkBool_b]
  by_cases h1 : ShortP l
  case neg => rw [decide_eq_false h1, Bool.not_false, pT]
  rw [decide_eq_true h1, Bool.not_true, pF]
  by_cases h2 : (r.len : Int) > 20
  · rw [decide_eq_true h2, pT]
  rw [decide_eq_false h2, pF]
  by_cases h2' : (w.len : Int) > 20
  · rw [decide_eq_true h2', pT]
  rw [decide_eq_false h2', pF]
  by_cases h4 : RunOk l r f
  case neg => rw [decide_eq_false h4, Bool.not_false, pT]
  rw [decide_eq_true h4, Bool.not_true, pF]
  by_cases h5 : x < 1000
  · rw [decide_eq_true h5, pT]
  rw [decide_eq_false h5, pF]
  by_cases h6 : x > 5000
  · rw [decide_eq_true h6, pT]
  rw [decide_eq_false h6, pF]
  have hx : 1000 ≤ x ∧ x ≤ 5000 := by omega
  have hF2 : 2000 < F := by omega
  have hF1 : 1000 < F := by omega
  by_cases hk : lacks l r.el f x = 0
  · have q17 := s17xok F (d + 32) h4 hF2 hx hk
    have hc := share_car h4.1 h4.2.2.1 hk
    have q24 : (E F (d + 42)).pf 24 [sl eMach 10 l, sl eBool 1 r, .int .i64 f, .int .i64 x, .row false l.len 1 (fun i => eInt ((shareS l r.el f x).sh i))] = _ := s24xok F (d + 40) h4.1 hF1 r h4.2.1 f x ⟨false, l.len, (shareS l r.el f x).sh⟩ rfl hc
    have qe := energy_eq h4.1 r.el f x
    have q4 := l4x0 F (d + 41) h4.1 hF1 r h4.2.1 f x w h4.2.2.1 q16 l.len 0 F (by omega) (by have := h4.1.2; omega)
    have qb : ((((3 : Nat) : Int)) != 3) = false := by decide
    have qn : ∀ n : Int, (n != n) = false := fun n => by simp
    by_cases hw : w.len = l.len ∧ CarOk l r.el f x w.el
    · have q24' := s24xok F (d + 40) h4.1 hF1 r h4.2.1 f x w hw.1 hw.2
      have hle := share_least h4.1 h4.2.2.1 hk hw.2
      unfold enS at hle
      rw [qe] at hle
      simp only [q17, q24, q24', tkOut_ret, tkTup_t, tkCons_c, tkRow_r, tkInt_i, tkNil_n, pT, pF, dd, decide_true, beq_self_eq_true, qe, show ((0 : Int) != 0) = false from rfl, show decide ((0 : Int) < 0) = false from rfl, show decide ((0 : Int) ≥ 0) = true from rfl, qb, qn, decide_eq_false (show ¬ sumP (fun i => r.el i = true) (enT l w.el x) l.len < sumP (fun i => r.el i = true) (enT l (shareS l r.el f x).sh x) l.len by omega)]
      exact q4
    · have q24' := s24xno F (d + 40) h4.1 hF1 r h4.2.1 f x w hw
      simp only [q17, q24, q24', tkOut_ret, tkTup_t, tkCons_c, tkRow_r, tkInt_i, tkNil_n, pT, pF, dd, decide_true, beq_self_eq_true, qe, show ((0 : Int) != 0) = false from rfl, show decide ((0 : Int) < 0) = false from rfl, show decide ((-1 : Int) ≥ 0) = false from rfl, qb, qn]
      exact q4
  · have q17 := s17xnone F (d + 32) h4 hF2 hx hk
    have q24' := s24xno F (d + 40) h4.1 hF1 r h4.2.1 f x w (fun h => none_car hk h.2)
    simp only [q17, q24', tkOut_ret, tkTup_t, tkCons_c, tkRow_r, tkInt_i, tkNil_n, pT, pF, dd, decide_true, beq_self_eq_true, show ((5 : Int) != 0) = true from rfl, show decide ((-1 : Int) < 0) = true from rfl]
end Go.Sim.Pl
