import Derived.Test.YtgigacidbnobjaaAg
import Derived.KernelRfl
import Derived.Test.YtgigacidbnobjaaRows
set_option linter.unusedVariables false
set_option linter.unusedSimpArgs false
set_option linter.unusedSectionVars false
set_option maxRecDepth 100000
namespace Go.Sim.Pl
open Go.Proofs
theorem t370 (env : Env) (F : Nat) (l : Sl Mach) (sc : Sl (Sl Int)) : (evFun Try.prog (cfg F) env 37 [(sl eMach 10 l), (.row true 0 0 (fun u4 => [])), (sl eIL 1 sc)]) = (tkOut (env.pf 60 [(sl eMach 10 l), (.row true 0 0 (fun u4 => [])), (sl eIL 1 sc)]) none (fun v4 => (tkInt v4 none fun q5 n6 => (bif (decide (q5 = .i64)) then (bif (n6 != (0 : Int)) then some (.ret (.tup [(.agg [(i64 (0 : Int)), (i64 (0 : Int))]), (i64 (0 : Int)), (.int q5 n6)])) else (tkOut (env.pf 61 [(sl eMach 10 l), (.row true 0 0 (fun u7 => [])), (sl eIL 1 sc)]) none (fun v7 => (tkTup v7 none fun l8 => (tkCons l8 none fun v9 r10 => (tkAgg v9 none fun l11 => (tkCons l11 none fun v12 r13 => (tkInt v12 none fun q14 n15 => (tkCons r13 none fun v16 r17 => (tkInt v16 none fun q18 n19 => (tkCons r17 none fun v20 r21 => (tkInt v20 none fun q22 n23 => (tkNil r21 none ((tkCons r10 none fun v24 r25 => (tkAgg v24 none fun l26 => (tkCons l26 none fun v27 r28 => (tkInt v27 none fun q29 n30 => (tkCons r28 none fun v31 r32 => (tkInt v31 none fun q33 n34 => (tkNil r32 none ((tkCons r25 none fun v35 r36 => (tkInt v35 none fun q37 n38 => (tkNil r36 none ((bif (decide (q18 = .i64)) then (bif (n19 != (1 : Int)) then some (.ret (.tup [(.agg [(i64 (0 : Int)), (i64 (0 : Int))]), (i64 (0 : Int)), (i64 (7 : Int))])) else some (.ret (.tup [(.agg [(.int q29 n30), (.int q33 n34)]), (.int q37 n38), (i64 (0 : Int))]))) else none))))))))))))))))))))))))) (fun p7 => (tkIfc p7 none fun t8 x9 => (bif (flatP (.iface t8 x9)) then some (.pan (.iface t8 x9)) else none))))) else none))) (fun p4 => (tkIfc p4 none fun t5 x6 => (bif (flatP (.iface t5 x6)) then some (.pan (.iface t5 x6)) else none)))) := by kernel_rfl
theorem t600 (env : Env) (F : Nat) (l : Sl Mach) (sc : Sl (Sl Int)) : (evFun Try.prog (cfg F) env 60 [(sl eMach 10 l), (.row true 0 0 (fun u4 => [])), (sl eIL 1 sc)]) = (tkOut (env.pf 69 [(sl eMach 10 l), (.row true 0 0 (fun u4 => []))]) none (fun v4 => (tkInt v4 none fun q5 n6 => (bif (decide (q5 = .i64)) then (bif (n6 != (0 : Int)) then some (.ret (.int q5 n6)) else (bif ((((Sl.len sc) : Nat) : Int) != ((0 : Nat) : Int)) then some (.ret (i64 (2 : Int))) else (tkOut (env.pf 91 [(sl eIL 1 sc), (.fn (.func 92) [] [(.rptr 1 1 (fun u7 => [(sl eMach 10 l)]) 0 0)])]) none (fun v7 => (tkBool v7 none fun b8 => (bif (!b8) then some (.ret (i64 (2 : Int))) else some (.ret (i64 (0 : Int)))))) (fun p7 => (tkIfc p7 none fun t8 x9 => (bif (flatP (.iface t8 x9)) then some (.pan (.iface t8 x9)) else none)))))) else none))) (fun p4 => (tkIfc p4 none fun t5 x6 => (bif (flatP (.iface t5 x6)) then some (.pan (.iface t5 x6)) else none)))) := by kernel_rfl
noncomputable def L610x0 (env : Env) (F : Nat) (l : Sl Mach) (sc : Sl (Sl Int)) (fu : Nat) (b0 : Bool) (k1 : Nat) (k2 : Nat) (g3 : Nat → List V) : Option Out := atLoop Try.prog (cfg F) env 61 [.r, .r, .r, .r, .l, .r, .d] [] fu { tm := tmL 74 0 [(0, (sl eMach 10 l)), (1, (.row true 0 0 (fun u9 => []))), (6, (.optr 0 0 0)), (7, (.optr 1 0 0)), (9, (.row b0 k1 k2 g3)), (10, (.optr 2 0 0)), (11, (i64 (0 : Int))), (21, (sl eIL 1 sc)), (22, (i64 (((Sl.len sc) : Nat) : Int))), (23, (i64 (0 : Int)))], hp := [(.box 61 [(i64 (0 : Int)), (i64 (0 : Int)), (i64 (0 : Int))] true), (.box 48 [(i64 (0 : Int)), (i64 (0 : Int))] true), (.box 48 [(i64 (0 : Int)), (i64 (0 : Int))] true)] }
theorem t610 (env : Env) (F : Nat) (l : Sl Mach) (sc : Sl (Sl Int)) : (evFun Try.prog (cfg F) env 61 [(sl eMach 10 l), (.row true 0 0 (fun u4 => [])), (sl eIL 1 sc)]) = (tkOut (env.pf 76 [(sl eMach 10 l)]) none (fun v4 => (tkRow v4 none fun nl5 n6 wd7 g8 => (L610x0 env F l sc F nl5 n6 wd7 g8))) (fun p4 => (tkIfc p4 none fun t5 x6 => (bif (flatP (.iface t5 x6)) then some (.pan (.iface t5 x6)) else none)))) := by kernel_rfl
theorem L610x0s (env : Env) (F : Nat) (l : Sl Mach) (sc : Sl (Sl Int)) (fu : Nat) (b0 : Bool) (k1 : Nat) (k2 : Nat) (g3 : Nat → List V) : L610x0 env F l sc (fu + 1) b0 k1 k2 g3 = (bif (decide ((0 : Int) < (((Sl.len sc) : Nat) : Int))) then (bif (decide ((0 : Int) < (((Sl.len sc) : Nat) : Int))) then none else none) else some (.ret (.tup [(.agg [(i64 (0 : Int)), (i64 (1 : Int)), (i64 (0 : Int))]), (.agg [(i64 (0 : Int)), (i64 (0 : Int))]), (i64 (0 : Int))]))) := by kernel_rfl
theorem t690 (env : Env) (F : Nat) (l : Sl Mach) : (evFun Try.prog (cfg F) env 69 [(sl eMach 10 l), (.row true 0 0 (fun u3 => []))]) = (tkOut (env.pf 80 [(sl eMach 10 l)]) none (fun v3 => (tkBool v3 none fun b4 => (bif (!b4) then some (.ret (i64 (2 : Int))) else (tkOut (env.pf 95 [(.row true 0 0 (fun u5 => [])), (.fn (.func 96) [] [])]) none (fun v5 => (tkBool v5 none fun b6 => (bif (!b6) then some (.ret (i64 (2 : Int))) else some (.ret (i64 (0 : Int)))))) (fun p5 => (tkIfc p5 none fun t6 x7 => (bif (flatP (.iface t6 x7)) then some (.pan (.iface t6 x7)) else none))))))) (fun p3 => (tkIfc p3 none fun t4 x5 => (bif (flatP (.iface t4 x5)) then some (.pan (.iface t4 x5)) else none)))) := by kernel_rfl
noncomputable def L950x0 (env : Env) (F : Nat) (fu : Nat) : Option Out := atLoop Try.prog (cfg F) env 95 [.r, .l, .r, .d] [] fu { tm := tmL 20 0 [(1, (.fn (.func 96) [] [])), (7, (.row true 0 0 (fun u3 => []))), (8, (i64 ((0 : Nat) : Int))), (9, (i64 (0 : Int)))], hp := [] }
theorem t950 (env : Env) (F : Nat) : (evFun Try.prog (cfg F) env 95 [(.row true 0 0 (fun u2 => [])), (.fn (.func 96) [] [])]) = (L950x0 env F F) := by kernel_rfl
theorem L950x0s (env : Env) (F : Nat) (fu : Nat) : L950x0 env F (fu + 1) = some (.ret (.bool true)) := by kernel_rfl
noncomputable def L10x0 (env : Env) (F : Nat) (l : Sl Mach) (hs : Sl Hour) (sc : Sl (Sl Int)) (w : Sl Int) (fu : Nat) (q0 : IntKind) (i1 : Int) (q2 : IntKind) (i3 : Int) : Option Out := atLoop Try.prog (cfg F) env 10 [.r, .r, .r, .r, .r, .r, .l, .r, .d] [] fu { tm := tmL 222 0 [(0, (sl eMach 10 l)), (1, (sl eHour 3 hs)), (2, (sl eIL 1 sc)), (3, (sl eInt 1 w)), (9, (.optr 0 0 0)), (12, (.row true 0 0 (fun u11 => []))), (13, (i64 (0 : Int))), (14, (i64 (0 : Int))), (15, (.bool true)), (16, (i64 (0 : Int)))], hp := [(.box 48 [(.int q0 i1), (.int q2 i3)] true)] }
noncomputable def L10x1 (env : Env) (F : Nat) (l : Sl Mach) (hs : Sl Hour) (sc : Sl (Sl Int)) (w : Sl Int) (fu : Nat) (k0 : Nat) (i1 : Int) (i2 : Int) (b3 : Bool) (i4 : Int) (q5 : IntKind) (i6 : Int) (q7 : IntKind) (i8 : Int) (k9 : Nat) (g10 : Nat → List V) : Option Out := atLoop Try.prog (cfg F) env 10 [.r, .r, .r, .r, .r, .r, .l, .r, .d] [] fu { tm := tmL 222 0 [(0, (sl eMach 10 l)), (1, (sl eHour 3 hs)), (2, (sl eIL 1 sc)), (3, (sl eInt 1 w)), (9, (.optr 0 0 0)), (12, (.osl 1 0 k0)), (13, (i64 i1)), (14, (i64 i2)), (15, (.bool b3)), (16, (i64 i4))], hp := [(.box 48 [(.int q5 i6), (.int q7 i8)] true), (.arr 68 3 k9 g10 true)] }
noncomputable def L10x2 (env : Env) (F : Nat) (l : Sl Mach) (hs : Sl Hour) (sc : Sl (Sl Int)) (w : Sl Int) (m0 : Nat) (fu : Nat) (k0 : Nat) (i1 : Int) (i2 : Int) (b3 : Bool) (i4 : Int) (q5 : IntKind) (i6 : Int) (q7 : IntKind) (i8 : Int) (i9 : Int) (q10 : IntKind) (i11 : Int) (q12 : IntKind) (i13 : Int) (k14 : Nat) (g15 : Nat → List V) (i16 : Int) (i17 : Int) : Option Out := atLoop Try.prog (cfg F) env 10 [.r, .r, .r, .r, .r, .r, .l, .r, .d, .d, .r, .l, .d, .r, .r, .r, .r, .r, .l, .r, .d] [m0] fu { tm := tmL 222 0 [(0, (sl eMach 10 l)), (1, (sl eHour 3 hs)), (2, (sl eIL 1 sc)), (3, (sl eInt 1 w)), (9, (.optr 0 0 0)), (12, (.osl 1 0 k0)), (13, (i64 i1)), (14, (i64 i2)), (15, (.bool b3)), (16, (i64 i4)), (17, (.optr 2 0 0)), (18, (.int q5 i6)), (19, (.int q7 i8)), (20, (i64 i9))], hp := [(.box 48 [(.int q10 i11), (.int q12 i13)] true), (.arr 68 3 k14 g15 true), (.box 48 [(i64 i16), (i64 i17)] true)] }
theorem t10 (env : Env) (F : Nat) (l : Sl Mach) (hs : Sl Hour) (sc : Sl (Sl Int)) (w : Sl Int) : (evFun Try.prog (cfg F) env 10 [(sl eMach 10 l), (sl eHour 3 hs), (sl eIL 1 sc), (sl eInt 1 w)]) = (tkOut (env.pf 15 [(sl eMach 10 l)]) none (fun v6 => (tkBool v6 none fun b7 => (bif (!b7) then (tkOut (env.pf 16 []) none (fun v8 => (tkBool v8 none fun b9 => some (.ret (.bool b9)))) (fun p8 => (tkIfc p8 none fun t9 x10 => (bif (flatP (.iface t9 x10)) then some (.pan (.iface t9 x10)) else none)))) else (tkOut (env.pf 31 [(sl eHour 3 hs), (sl eIL 1 sc)]) none (fun v8 => (tkBool v8 none fun b9 => (bif (!b9) then (tkOut (env.pf 16 []) none (fun v10 => (tkBool v10 none fun b11 => some (.ret (.bool b11)))) (fun p10 => (tkIfc p10 none fun t11 x12 => (bif (flatP (.iface t11 x12)) then some (.pan (.iface t11 x12)) else none)))) else (bif (decide ((((Sl.len w) : Nat) : Int) > (40 : Int))) then (tkOut (env.pf 16 []) none (fun v10 => (tkBool v10 none fun b11 => some (.ret (.bool b11)))) (fun p10 => (tkIfc p10 none fun t11 x12 => (bif (flatP (.iface t11 x12)) then some (.pan (.iface t11 x12)) else none)))) else (tkOut (env.pf 33 [(sl eMach 10 l), (sl eHour 3 hs), (sl eIL 1 sc)]) none (fun v10 => (tkInt v10 none fun q11 n12 => (bif (decide (q11 = .i64)) then (bif (n12 != (0 : Int)) then (tkOut (env.pf 16 []) none (fun v13 => (tkBool v13 none fun b14 => some (.ret (.bool b14)))) (fun p13 => (tkIfc p13 none fun t14 x15 => (bif (flatP (.iface t14 x15)) then some (.pan (.iface t14 x15)) else none)))) else (bif ((((Sl.len w) : Nat) : Int) != (((Sl.len hs) : Nat) : Int)) then (tkOut (env.pf 16 []) none (fun v13 => (tkBool v13 none fun b14 => some (.ret (.bool b14)))) (fun p13 => (tkIfc p13 none fun t14 x15 => (bif (flatP (.iface t14 x15)) then some (.pan (.iface t14 x15)) else none)))) else (tkOut (env.pf 37 [(sl eMach 10 l), (sl eHour 3 hs), (sl eIL 1 sc)]) none (fun v13 => (tkTup v13 none fun l14 => (tkCons l14 none fun v15 r16 => (tkAgg v15 none fun l17 => (tkCons l17 none fun v18 r19 => (tkInt v18 none fun q20 n21 => (tkCons r19 none fun v22 r23 => (tkInt v22 none fun q24 n25 => (tkNil r23 none ((tkCons r16 none fun v26 r27 => (tkInt v26 none fun q28 n29 => (tkCons r27 none fun v30 r31 => (tkInt v30 none fun q32 n33 => (tkNil r31 none ((bif (decide (q32 = .i64)) then (bif (n33 != (0 : Int)) then (bif (decide (q32 = .i64)) then (bif (n33 == (7 : Int)) then (tkOut (env.pf 16 []) none (fun v34 => (tkBool v34 none fun b35 => some (.ret (.bool b35)))) (fun p34 => (tkIfc p34 none fun t35 x36 => (bif (flatP (.iface t35 x36)) then some (.pan (.iface t35 x36)) else none)))) else some (.ret (.bool false))) else none) else (L10x0 env F l hs sc w F q20 n21 q24 n25)) else none))))))))))))))))) (fun p13 => (tkIfc p13 none fun t14 x15 => (bif (flatP (.iface t14 x15)) then some (.pan (.iface t14 x15)) else none)))))) else none))) (fun p10 => (tkIfc p10 none fun t11 x12 => (bif (flatP (.iface t11 x12)) then some (.pan (.iface t11 x12)) else none)))))))) (fun p8 => (tkIfc p8 none fun t9 x10 => (bif (flatP (.iface t9 x10)) then some (.pan (.iface t9 x10)) else none))))))) (fun p6 => (tkIfc p6 none fun t7 x8 => (bif (flatP (.iface t7 x8)) then some (.pan (.iface t7 x8)) else none)))) := by kernel_rfl
theorem L10x0s (env : Env) (F : Nat) (l : Sl Mach) (hs : Sl Hour) (sc : Sl (Sl Int)) (w : Sl Int) (fu : Nat) (q0 : IntKind) (i1 : Int) (q2 : IntKind) (i3 : Int) : L10x0 env F l hs sc w (fu + 1) q0 i1 q2 i3 = (bif (decide ((0 : Int) < (((Sl.len hs) : Nat) : Int))) then (bif (decide ((0 : Int) < (((Sl.len hs) : Nat) : Int))) then (bif (decide ((0 : Int) < (((Sl.len w) : Nat) : Int))) then (bif (decide ((Sl.el w 0) < (Span.lo (Hour.ratio (Sl.el hs 0))))) then (tkOut (env.pf 16 []) none (fun v11 => (tkBool v11 none fun b12 => some (.ret (.bool b12)))) (fun p11 => (tkIfc p11 none fun t12 x13 => (bif (flatP (.iface t12 x13)) then some (.pan (.iface t12 x13)) else none)))) else (bif (decide ((0 : Int) < (((Sl.len w) : Nat) : Int))) then (bif (decide ((Sl.el w 0) > (Span.hi (Hour.ratio (Sl.el hs 0))))) then (tkOut (env.pf 16 []) none (fun v11 => (tkBool v11 none fun b12 => some (.ret (.bool b12)))) (fun p11 => (tkIfc p11 none fun t12 x13 => (bif (flatP (.iface t12 x13)) then some (.pan (.iface t12 x13)) else none)))) else (bif (decide ((0 : Int) < (((Sl.len hs) : Nat) : Int))) then (bif (decide ((0 : Int) < (((Sl.len w) : Nat) : Int))) then (bif (decide ((0 : Int) < (((Sl.len w) : Nat) : Int))) then (bif (!(decide ((IntKind.wrap .i64 ((Span.hi (Hour.ratio (Sl.el hs 0))) - (Span.lo (Hour.ratio (Sl.el hs 0))))) ≤ (60 : Int)))) then (L10x1 env F l hs sc w fu 1 (0 : Int) (0 : Int) (decide ((IntKind.wrap .i64 ((Span.hi (Hour.ratio (Sl.el hs 0))) - (Span.lo (Hour.ratio (Sl.el hs 0))))) ≤ (60 : Int))) (IntKind.wrap .i64 ((0 : Int) + (1 : Int))) q0 i1 q2 i3 1 (fun u11 => [(i64 (Hour.flow (Sl.el hs 0))), (i64 (Sl.el w 0)), (i64 (Sl.el w 0))])) else (L10x2 env F l hs sc w fu F 1 (0 : Int) (0 : Int) (decide ((IntKind.wrap .i64 ((Span.hi (Hour.ratio (Sl.el hs 0))) - (Span.lo (Hour.ratio (Sl.el hs 0))))) ≤ (60 : Int))) (0 : Int) .i64 (0 : Int) .i64 (0 : Int) (Span.lo (Hour.ratio (Sl.el hs 0))) q0 i1 q2 i3 1 (fun u11 => [(i64 (Hour.flow (Sl.el hs 0))), (i64 (Sl.el w 0)), (i64 (Sl.el w 0))]) (Span.lo (Hour.ratio (Sl.el hs 0))) (Span.hi (Hour.ratio (Sl.el hs 0))))) else none) else none) else none)) else none)) else none) else none) else (tkOut (env.pf 37 [(sl eMach 10 l), (.row true 0 0 (fun u11 => [])), (sl eIL 1 sc)]) none (fun v11 => (tkTup v11 none fun l12 => (tkCons l12 none fun v13 r14 => (tkAgg v13 none fun l15 => (tkCons l15 none fun v16 r17 => (tkInt v16 none fun q18 n19 => (tkCons r17 none fun v20 r21 => (tkInt v20 none fun q22 n23 => (tkNil r21 none ((tkCons r14 none fun v24 r25 => (tkInt v24 none fun q26 n27 => (tkCons r25 none fun v28 r29 => (tkInt v28 none fun q30 n31 => (tkNil r29 none ((bif (decide (q30 = .i64)) then (bif (n31 != (0 : Int)) then some (.ret (.bool false)) else (bif (decide (q18 = q22)) then (bif (n19 != n23) then some (.ret (.bool false)) else (bif (decide (q18 = q0)) then (bif (decide (n19 < i1)) then some (.ret (.bool false)) else (bif (decide (q22 = q2)) then (bif (decide (n23 > i3)) then some (.ret (.bool false)) else (bif (decide (q2 = q0)) then (bif (decide (q2 = .i64)) then (bif ((IntKind.wrap q2 (i3 - i1)) == (IntKind.wrap .i64 ((0 : Int) - (0 : Int)))) then (tkOut (env.pf 16 []) none (fun v32 => (tkBool v32 none fun b33 => some (.ret (.bool b33)))) (fun p32 => (tkIfc p32 none fun t33 x34 => (bif (flatP (.iface t33 x34)) then some (.pan (.iface t33 x34)) else none)))) else some (.ret (.bool false))) else none) else none)) else none)) else none)) else none)) else none))))))))))))))))) (fun p11 => (tkIfc p11 none fun t12 x13 => (bif (flatP (.iface t12 x13)) then some (.pan (.iface t12 x13)) else none))))) := by kernel_rfl
theorem L10x1s (env : Env) (F : Nat) (l : Sl Mach) (hs : Sl Hour) (sc : Sl (Sl Int)) (w : Sl Int) (fu : Nat) (k0 : Nat) (i1 : Int) (i2 : Int) (b3 : Bool) (i4 : Int) (q5 : IntKind) (i6 : Int) (q7 : IntKind) (i8 : Int) (k9 : Nat) (g10 : Nat → List V) : L10x1 env F l hs sc w (fu + 1) k0 i1 i2 b3 i4 q5 i6 q7 i8 k9 g10 = (bif (decide (i4 < (((Sl.len hs) : Nat) : Int))) then (bif (decide ((0 : Int) ≤ i4)) then (bif (decide (i4 < (((Sl.len hs) : Nat) : Int))) then (bif (decide ((0 : Int) ≤ i4)) then (bif (decide (i4 < (((Sl.len w) : Nat) : Int))) then (bif (decide ((Sl.el w (Int.toNat i4)) < (Span.lo (Hour.ratio (Sl.el hs (Int.toNat i4)))))) then (tkOut (env.pf 16 []) none (fun v18 => (tkBool v18 none fun b19 => some (.ret (.bool b19)))) (fun p18 => (tkIfc p18 none fun t19 x20 => (bif (flatP (.iface t19 x20)) then some (.pan (.iface t19 x20)) else none)))) else (bif (decide ((0 : Int) ≤ i4)) then (bif (decide (i4 < (((Sl.len w) : Nat) : Int))) then (bif (decide ((Sl.el w (Int.toNat i4)) > (Span.hi (Hour.ratio (Sl.el hs (Int.toNat i4)))))) then (tkOut (env.pf 16 []) none (fun v18 => (tkBool v18 none fun b19 => some (.ret (.bool b19)))) (fun p18 => (tkIfc p18 none fun t19 x20 => (bif (flatP (.iface t19 x20)) then some (.pan (.iface t19 x20)) else none)))) else (bif (decide ((0 : Int) ≤ i4)) then (bif (decide (i4 < (((Sl.len hs) : Nat) : Int))) then (bif (decide ((0 : Int) ≤ i4)) then (bif (decide (i4 < (((Sl.len w) : Nat) : Int))) then (bif (decide ((0 : Int) ≤ i4)) then (bif (decide (i4 < (((Sl.len w) : Nat) : Int))) then (bif (decide (((k0 + 1) * 24) ≤ 140737488355328)) then (bif b3 then (bif (!(decide ((IntKind.wrap .i64 ((Span.hi (Hour.ratio (Sl.el hs (Int.toNat i4)))) - (Span.lo (Hour.ratio (Sl.el hs (Int.toNat i4)))))) ≤ (60 : Int)))) then (L10x1 env F l hs sc w fu (k0 + 1) i1 i2 (decide ((IntKind.wrap .i64 ((Span.hi (Hour.ratio (Sl.el hs (Int.toNat i4)))) - (Span.lo (Hour.ratio (Sl.el hs (Int.toNat i4)))))) ≤ (60 : Int))) (IntKind.wrap .i64 (i4 + (1 : Int))) q5 i6 q7 i8 (k0 + 1) (appGet k0 g10 (fun u18 => [(i64 (Hour.flow (Sl.el hs (Int.toNat i4)))), (i64 (Sl.el w (Int.toNat i4))), (i64 (Sl.el w (Int.toNat i4)))]))) else (L10x2 env F l hs sc w fu F (k0 + 1) i1 i2 (decide ((IntKind.wrap .i64 ((Span.hi (Hour.ratio (Sl.el hs (Int.toNat i4)))) - (Span.lo (Hour.ratio (Sl.el hs (Int.toNat i4)))))) ≤ (60 : Int))) i4 .i64 (0 : Int) .i64 (0 : Int) (Span.lo (Hour.ratio (Sl.el hs (Int.toNat i4)))) q5 i6 q7 i8 (k0 + 1) (appGet k0 g10 (fun u18 => [(i64 (Hour.flow (Sl.el hs (Int.toNat i4)))), (i64 (Sl.el w (Int.toNat i4))), (i64 (Sl.el w (Int.toNat i4)))])) (Span.lo (Hour.ratio (Sl.el hs (Int.toNat i4)))) (Span.hi (Hour.ratio (Sl.el hs (Int.toNat i4)))))) else (L10x1 env F l hs sc w fu (k0 + 1) i1 i2 false (IntKind.wrap .i64 (i4 + (1 : Int))) q5 i6 q7 i8 (k0 + 1) (appGet k0 g10 (fun u18 => [(i64 (Hour.flow (Sl.el hs (Int.toNat i4)))), (i64 (Sl.el w (Int.toNat i4))), (i64 (Sl.el w (Int.toNat i4)))])))) else none) else none) else none) else none) else none) else none) else none)) else none) else none)) else none) else none) else none) else none) else (tkOut (env.pf 37 [(sl eMach 10 l), (.row false k0 3 (fun u18 => (g10 u18))), (sl eIL 1 sc)]) none (fun v18 => (tkTup v18 none fun l19 => (tkCons l19 none fun v20 r21 => (tkAgg v20 none fun l22 => (tkCons l22 none fun v23 r24 => (tkInt v23 none fun q25 n26 => (tkCons r24 none fun v27 r28 => (tkInt v27 none fun q29 n30 => (tkNil r28 none ((tkCons r21 none fun v31 r32 => (tkInt v31 none fun q33 n34 => (tkCons r32 none fun v35 r36 => (tkInt v35 none fun q37 n38 => (tkNil r36 none ((bif (decide (q37 = .i64)) then (bif (n38 != (0 : Int)) then some (.ret (.bool false)) else (bif (decide (q25 = q29)) then (bif (n26 != n30) then some (.ret (.bool false)) else (bif (decide (q25 = q5)) then (bif (decide (n26 < i6)) then some (.ret (.bool false)) else (bif (decide (q29 = q7)) then (bif (decide (n30 > i8)) then some (.ret (.bool false)) else (bif (!b3) then (tkOut (env.pf 16 []) none (fun v39 => (tkBool v39 none fun b40 => some (.ret (.bool b40)))) (fun p39 => (tkIfc p39 none fun t40 x41 => (bif (flatP (.iface t40 x41)) then some (.pan (.iface t40 x41)) else none)))) else (bif (decide (q7 = q5)) then (bif (decide (q7 = .i64)) then (bif ((IntKind.wrap q7 (i8 - i6)) == (IntKind.wrap .i64 (i2 - i1))) then (tkOut (env.pf 16 []) none (fun v39 => (tkBool v39 none fun b40 => some (.ret (.bool b40)))) (fun p39 => (tkIfc p39 none fun t40 x41 => (bif (flatP (.iface t40 x41)) then some (.pan (.iface t40 x41)) else none)))) else some (.ret (.bool false))) else none) else none))) else none)) else none)) else none)) else none))))))))))))))))) (fun p18 => (tkIfc p18 none fun t19 x20 => (bif (flatP (.iface t19 x20)) then some (.pan (.iface t19 x20)) else none))))) := by kernel_rfl
theorem L10x2s (env : Env) (F : Nat) (l : Sl Mach) (hs : Sl Hour) (sc : Sl (Sl Int)) (w : Sl Int) (m0 : Nat) (fu : Nat) (k0 : Nat) (i1 : Int) (i2 : Int) (b3 : Bool) (i4 : Int) (q5 : IntKind) (i6 : Int) (q7 : IntKind) (i8 : Int) (i9 : Int) (q10 : IntKind) (i11 : Int) (q12 : IntKind) (i13 : Int) (k14 : Nat) (g15 : Nat → List V) (i16 : Int) (i17 : Int) : L10x2 env F l hs sc w m0 (fu + 1) k0 i1 i2 b3 i4 q5 i6 q7 i8 i9 q10 i11 q12 i13 k14 g15 i16 i17 = (bif (decide (i9 ≤ i17)) then (bif (decide ((0 : Int) ≤ i4)) then (bif (decide (i4 < (((Sl.len sc) : Nat) : Int))) then (tkOut (env.pf 35 [(sl eInt 1 (Sl.el sc (Int.toNat i4)))]) none (fun v26 => (tkRow v26 none fun nl27 n28 wd29 g30 => (bif (decide ((0 : Int) ≤ i4)) then (bif (decide (i4 < (((Sl.len hs) : Nat) : Int))) then (tkOut (env.pf 17 [(sl eMach 10 l), (.row nl27 n28 wd29 g30), (i64 (Hour.flow (Sl.el hs (Int.toNat i4)))), (i64 i9)]) none (fun v31 => (tkTup v31 none fun l32 => (tkCons l32 none fun v33 r34 => (tkRow v33 none fun nl35 n36 wd37 g38 => (tkCons r34 none fun v39 r40 => (tkRow v39 none fun nl41 n42 wd43 g44 => (tkCons r40 none fun v45 r46 => (tkInt v45 none fun q47 n48 => (tkCons r46 none fun v49 r50 => (tkInt v49 none fun q51 n52 => (tkNil r50 none ((bif (decide (q51 = .i64)) then (bif (n52 != (0 : Int)) then some (.ret (.bool false)) else (bif (i9 == i16) then (L10x2 env F l hs sc w m0 fu k0 i1 i2 b3 i4 q47 (if n48 < n48 then n48 else n48) q47 (if n48 < n48 then n48 else n48) (IntKind.wrap .i64 (i9 + (1 : Int))) q10 i11 q12 i13 k14 g15 i16 i17) else (L10x2 env F l hs sc w m0 fu k0 i1 i2 b3 i4 q5 (if n48 < i6 then n48 else i6) q7 (if i8 < n48 then n48 else i8) (IntKind.wrap .i64 (i9 + (1 : Int))) q10 i11 q12 i13 k14 g15 i16 i17))) else none))))))))))))) (fun p31 => (tkIfc p31 none fun t32 x33 => (bif (flatP (.iface t32 x33)) then some (.pan (.iface t32 x33)) else none)))) else none) else none))) (fun p26 => (tkIfc p26 none fun t27 x28 => (bif (flatP (.iface t27 x28)) then none else none)))) else none) else none) else (bif (decide (.i64 = q5)) then (bif (decide (.i64 = q7)) then (L10x1 env F l hs sc w m0 k0 (IntKind.wrap .i64 (i1 + i6)) (IntKind.wrap .i64 (i2 + i8)) b3 (IntKind.wrap .i64 (i4 + (1 : Int))) q10 i11 q12 i13 k14 g15) else none) else none)) := by kernel_rfl
end Go.Sim.Pl


namespace Go.Sim.Pl
open Go.Proofs
theorem fitInt {k : IntKind} {c : V} (h : Fit (.int k) c) : ∃ n, c = .int k n ∧ k.min ≤ n ∧ n ≤ k.max := by
  cases h with
  | int h => exact ⟨_, rfl, h⟩
theorem fitL_nil {cs : List V} (h : FitL [] cs) : cs = [] := by
  have := h.1
  exact List.eq_nil_of_length_eq_zero this
theorem fitL_cons {s : Sh} {l : List Sh} {cs : List V} (h : FitL (s :: l) cs) : ∃ c cs', cs = c :: cs' ∧ Fit s c ∧ FitL l cs' := by
  obtain ⟨h1, h2⟩ := h
  cases cs with
  | nil => simp at h1
  | cons c cs' => exact ⟨c, cs', rfl, h2 0 s c rfl rfl, by simpa using h1, fun j s' c' g1 g2 => h2 (j + 1) s' c' (by simpa using g1) (by simpa using g2)⟩
theorem fitL_int {k : IntKind} {l : List Sh} {cs : List V} (h : FitL (.int k :: l) cs) : ∃ n cs', cs = .int k n :: cs' ∧ FitL l cs' := by
  obtain ⟨c, cs', rfl, h1, h2⟩ := fitL_cons h
  obtain ⟨n, rfl, _⟩ := fitInt h1
  exact ⟨n, cs', rfl, h2⟩
abbrev SlOk {α : Type} (s : Sl α) : Prop := s.len ≤ 140737488355328 ∧ (s.nl = true → s.len = 0)
theorem fitRow {α : Type} {e : α → List V} {P : α → Prop} {l : List Sh} (dec : ∀ cs, FitL l cs → ∃ a : α, cs = e a ∧ P a) {c : V} (h : Fit (.row l) c) : ∃ s : Sl α, c = sl e l.length s ∧ SlOk s ∧ ∀ i, P (s.el i) := by
  cases h with
  | row h hn hl hf =>
    rename_i nl len get
    have hx : ∀ i, ∃ a : α, get i = e a ∧ P a := fun i => dec _ ⟨hl i, hf i⟩
    refine ⟨⟨nl, len, fun i => (hx i).choose⟩, ?_, ⟨h, hn⟩, fun i => (hx i).choose_spec.2⟩
    show V.row nl len l.length get = V.row nl len l.length fun i => e (hx i).choose
    congr 1
    funext i
    exact (hx i).choose_spec.1
theorem fitL_row {α : Type} {e : α → List V} {P : α → Prop} {l r : List Sh} (dec : ∀ cs, FitL l cs → ∃ a : α, cs = e a ∧ P a) {cs : List V} (h : FitL (.row l :: r) cs) : ∃ (s : Sl α) (cs' : List V), cs = sl e l.length s :: cs' ∧ SlOk s ∧ (∀ i, P (s.el i)) ∧ FitL r cs' := by
  obtain ⟨c, cs', rfl, h1, h2⟩ := fitL_cons h
  obtain ⟨s, rfl, h3, h4⟩ := fitRow dec h1
  exact ⟨s, cs', rfl, h3, h4, h2⟩
theorem fitL_bool {l : List Sh} {cs : List V} (h : FitL (.bool :: l) cs) : ∃ n cs', cs = .bool n :: cs' ∧ FitL l cs' := by
  obtain ⟨c, cs', rfl, h1, h2⟩ := fitL_cons h
  cases h1 with
  | bool => exact ⟨_, cs', rfl, h2⟩
abbrev i8 : Sh := .int .i64
abbrev shRow : List Sh := [i8, i8, i8, i8]
abbrev shMach : List Sh := [i8, .row shRow, i8, i8, i8, i8, i8, i8, .bool, i8]
abbrev shHour : List Sh := [i8, i8, i8]
abbrev shSpan : List Sh := [i8, i8]
abbrev I64 (n : Int) : Prop := IntKind.i64.min ≤ n ∧ n ≤ IntKind.i64.max
theorem decInt (cs : List V) (h : FitL [i8] cs) : ∃ n : Int, cs = eInt n ∧ I64 n := by
  obtain ⟨c, cs', rfl, h1, h2⟩ := fitL_cons h
  obtain ⟨n, rfl, m1, m2⟩ := fitInt h1
  obtain rfl := fitL_nil h2
  refine ⟨n, rfl, ?_⟩
  exact ⟨m1, m2⟩
theorem decIL (cs : List V) (h : FitL [.row [i8]] cs) : ∃ s : Sl Int, cs = eIL s ∧ SlOk s := by
  obtain ⟨s, _, rfl, h1, _, h2⟩ := fitL_row decInt h
  obtain rfl := fitL_nil h2
  exact ⟨s, rfl, h1⟩
theorem decRow (cs : List V) (h : FitL shRow cs) : ∃ c : Row, cs = eRow c ∧ True := by
  obtain ⟨a0, _, rfl, h1⟩ := fitL_int h
  obtain ⟨a1, _, rfl, h2⟩ := fitL_int h1
  obtain ⟨a2, _, rfl, h3⟩ := fitL_int h2
  obtain ⟨a3, _, rfl, h4⟩ := fitL_int h3
  obtain rfl := fitL_nil h4
  exact ⟨⟨a0, a1, a2, a3⟩, rfl, trivial⟩
theorem decHour (cs : List V) (h : FitL shHour cs) : ∃ c : Hour, cs = eHour c ∧ True := by
  obtain ⟨a0, _, rfl, h1⟩ := fitL_int h
  obtain ⟨a1, _, rfl, h2⟩ := fitL_int h1
  obtain ⟨a2, _, rfl, h3⟩ := fitL_int h2
  obtain rfl := fitL_nil h3
  exact ⟨⟨a0, ⟨a1, a2⟩⟩, rfl, trivial⟩
theorem dcMach (cs : List V) (h : FitL shMach cs) : ∃ c : Mach, cs = eMach c ∧ SlOk c.rows := by
  obtain ⟨a0, _, rfl, h1⟩ := fitL_int h
  obtain ⟨rw, _, rfl, h0, _, h2⟩ := fitL_row decRow h1
  obtain ⟨a2, _, rfl, h3⟩ := fitL_int h2
  obtain ⟨a3, _, rfl, h4⟩ := fitL_int h3
  obtain ⟨a4, _, rfl, h5⟩ := fitL_int h4
  obtain ⟨a5, _, rfl, h6⟩ := fitL_int h5
  obtain ⟨a6, _, rfl, h7⟩ := fitL_int h6
  obtain ⟨a7, _, rfl, h8⟩ := fitL_int h7
  obtain ⟨a8, _, rfl, h9⟩ := fitL_bool h8
  obtain ⟨a9, _, rfl, h10⟩ := fitL_int h9
  obtain rfl := fitL_nil h10
  exact ⟨⟨a0, rw, a2, a3, a4, a5, a6, a7, a8, a9⟩, rfl, h0⟩
theorem own : ownKnob Try.prog.godebug = none := by kernel_rfl
end Go.Sim.Pl


namespace Go.Sim.Pl
open Go.Proofs
variable (F d : Nat)
end Go.Sim.Pl


namespace Go.Sim.Pl
open Go.Proofs
theorem dd {α : Type} [DecidableEq α] (a : α) : decide (a = a) = true := decide_eq_true rfl
variable (F d : Nat)
theorem inB_of {l : Sl Mach} {hs : Sl Hour} (hF : 140737488355330 < F) (hl : l.len ≤ 140737488355328) (hR : ∀ i, (l.el i).rows.len ≤ 140737488355328) (hh : hs.len ≤ 140737488355328) : InB l hs F :=
  ⟨⟨lenB hl, by omega⟩, fun i _ => ⟨lenB (hR i), by have := hR i; omega⟩, lenB hh, by omega⟩
theorem schB_of {sc : Sl (Sl Int)} (hF : 140737488355330 < F) (hs : sc.len ≤ 140737488355328) (hw : ∀ i, (sc.el i).len ≤ 140737488355328) : SchB sc F :=
  ⟨⟨lenB hs, by omega⟩, fun i _ => ⟨lenB (hw i), by have := hw i; omega⟩⟩
end Go.Sim.Pl


namespace Go.Sim.Pl
open Go.Proofs
def sumN (l : Sl Mach) (sc : Nat → Sl Int) : Nat → Int
  | 0 => 0
  | t + 1 => sumN l sc t + startN (sc t) (stAt l sc t) l.len
def sumE (l : Sl Mach) (sc : Nat → Sl Int) : Nat → Int
  | 0 => 0
  | t + 1 => sumE l sc t + startE l (sc t) (stAt l sc t) l.len
def sumLo (l : Sl Mach) (hs : Nat → Hour) (sc : Nat → Sl Int) : Nat → Int
  | 0 => 0
  | t + 1 => sumLo l hs sc t + (hourE l (sc t) (hs t)).1
def sumHi (l : Sl Mach) (hs : Nat → Hour) (sc : Nat → Sl Int) : Nat → Int
  | 0 => 0
  | t + 1 => sumHi l hs sc t + (hourE l (sc t) (hs t)).2
theorem play_sum {l : Sl Mach} (hs : Nat → Hour) (sc : Nat → Sl Int) : ∀ (j t : Nat) (lo hi n : Int), (playR l hs sc j t lo hi n).rule = 1 →
    (playR l hs sc j t lo hi n).lo = lo + (sumLo l hs sc (t + j) - sumLo l hs sc t) + (sumE l sc (t + j) - sumE l sc t) ∧
    (playR l hs sc j t lo hi n).hi = hi + (sumHi l hs sc (t + j) - sumHi l hs sc t) + (sumE l sc (t + j) - sumE l sc t) ∧
    (playR l hs sc j t lo hi n).many = n + (sumN l sc (t + j) - sumN l sc t) := by
  intro j
  induction j with
  | zero => intro t lo hi n h; simp only [playR, Nat.add_zero]; omega
  | succ j ih =>
    intro t lo hi n h
    simp only [playR] at h ⊢
    by_cases hr : (faultS l (stAt l sc t) (sc t) (hs t)).1 = 1
    · rw [if_neg (fun hh => hh hr)] at h ⊢
      have e := ih (t + 1) _ _ _ h
      rw [show t + (j + 1) = t + 1 + j by omega]
      simp only [sumLo, sumHi, sumE, sumN] at e ⊢
      omega
    · rw [if_pos hr] at h
      exact absurd h hr
variable (F d : Nat)
section
variable {l : Sl Mach} (hl : PlantOk l) {hs : Sl Hour} (hh : HoursOk hs) (h24 : hs.len ≤ 24) {sc : Sl (Sl Int)} (hsc : SchedOk l hs.len sc) (hF : 1000 < F)
include hl hh h24 hsc hF
theorem sums_in : ∀ t, t ≤ hs.len → (0 ≤ sumN l sc.el t ∧ sumN l sc.el t ≤ 1000 * t) ∧ (0 ≤ sumE l sc.el t ∧ sumE l sc.el t ≤ 10000000000 * t) ∧ (0 ≤ sumLo l hs.el sc.el t ∧ sumLo l hs.el sc.el t ≤ 18000000000 * t) ∧ (0 ≤ sumHi l hs.el sc.el t ∧ sumHi l hs.el sc.el t ≤ 18000000000 * t)
  | 0, _ => by simp [sumN, sumE, sumLo, sumHi]
  | t + 1, h => by
    have ih := sums_in t (by omega)
    have hho := hh t (by omega)
    have hw := (hsc.1 t (by have := hsc.2; omega)).1
    have hN := startE_in F hl (st := rowS (stAt l sc.el t) l.len) hF rfl hw hho (stAt l sc.el t) l.len (by omega)
    have hE := hourE_in hl (w := sc.el t) hho
    have := hl.2
    simp only [sumN, sumE, sumLo, sumHi]
    omega
end
section
variable {l : Sl Mach} (hl : PlantOk l) {hs : Sl Hour} (hh : HoursOk hs) (h24 : hs.len ≤ 24) {sc : Sl (Sl Int)} (hsc : SchedOk l hs.len sc) (hF : 2000 < F)
include hl hF
include hh h24 hsc
end
end Go.Sim.Pl


namespace Go.Sim.Pl
open Go.Proofs
theorem playS_sum {l : Sl Mach} {hs : Sl Hour} {sc : Sl (Sl Int)} (h : (playS l hs sc).rule = 1) :
    (playS l hs sc).lo = sumE l sc.el hs.len + sumLo l hs.el sc.el hs.len ∧ (playS l hs sc).hi = sumE l sc.el hs.len + sumHi l hs.el sc.el hs.len ∧ (playS l hs sc).many = sumN l sc.el hs.len := by
  have e := play_sum hs.el sc.el hs.len 0 0 0 0 h
  unfold playS
  simp only [Nat.zero_add, sumE, sumLo, sumHi, sumN] at e
  omega
variable (F d : Nat)
end Go.Sim.Pl


namespace Go.Sim.Pl
open Go.Proofs
abbrev mst (l : Sl Mach) (x : Int) (z : Nat) : Int := (rowAt (l.el z) x).most
abbrev inK (l : Sl Mach) (r : Nat → Bool) (k : Int) (i : Nat) : Prop := (l.el i).kind = k ∧ r i = true
structure KindOk (l : Sl Mach) (r : Nat → Bool) (f x k : Int) (w : Nat → Int) : Prop where
  lim : ∀ i, i < l.len → inK l r k i → 0 ≤ w i ∧ w i ≤ mst l x i
  all : sumP (inK l r k) w l.len = f ∨ (sumP (inK l r k) w l.len < f ∧ ∀ i, i < l.len → inK l r k i → w i = mst l x i)
  low : (∃ m, m < l.len ∧ inK l r k m ∧ (rowAt (l.el m) x).least < w m) → ∀ i, i < l.len → inK l r k i → (rowAt (l.el i) x).least ≤ w i
  full : ∀ i m, i < l.len → m < l.len → inK l r k i → inK l r k m → (rowAt (l.el i) x).energy < (rowAt (l.el m) x).energy → (rowAt (l.el m) x).least < w m → w i = mst l x i
abbrev CarOk (l : Sl Mach) (r : Nat → Bool) (f x : Int) (w : Nat → Int) : Prop := (∀ i, i < l.len → (0 ≤ w i ∧ w i ≤ mst l x i) ∧ (r i = false → w i ≤ 0)) ∧ ∀ k : Int, 1 ≤ k ∧ k ≤ 3 → thereS l.el k l.len = true → sumP (fun i => (l.el i).kind = k) w l.len = f
abbrev prcS (l : Sl Mach) (r : Nat → Bool) (x k : Int) (w : Nat → Int) : Int := maxP (fun i => (l.el i).kind = k ∧ r i = true ∧ w i > (rowAt (l.el i) x).least) (fun i => (rowAt (l.el i) x).energy) l.len
end Go.Sim.Pl


namespace Go.Sim.Pl
open Go.Proofs
theorem rowR_congr {m : Mach} {x y : Int} : ∀ j i, (∀ k, i ≤ k → k < i + j → ((m.rows.el k).ratio ≥ x ↔ (m.rows.el k).ratio ≥ y)) → rowR m x j i = rowR m y j i
  | 0, _, _ => rfl
  | j + 1, i, h => by
    have ih := rowR_congr (m := m) (x := x) (y := y) j (i + 1) (fun k h1 h2 => h k (by omega) (by omega))
    have h0 := h i (by omega) (by omega)
    simp only [rowR, ih]
    by_cases h1 : (m.rows.el i).ratio ≥ x
    · rw [if_pos h1, if_pos (h0.1 h1)]
    · rw [if_neg h1, if_neg (fun h => h1 (h0.2 h))]
theorem ratR_mem {m : Mach} {s : Span} {k : Nat} (h : s.lo < (m.rows.el k).ratio + 1 ∧ (m.rows.el k).ratio + 1 ≤ s.hi) : ∀ j i, i ≤ k → k < i + j → (m.rows.el k).ratio + 1 ∈ ratR m s j i
  | 0, i, h1, h2 => by omega
  | j + 1, i, h1, h2 => by
    simp only [ratR, List.mem_append]
    rcases Nat.eq_or_lt_of_le h1 with h3 | h3
    · subst h3
      exact .inl (by rw [if_pos h]; simp)
    · exact .inr (ratR_mem h j (i + 1) (by omega) (by omega))
theorem ratM_mem {l : Sl Mach} {s : Span} {a : Nat} {x : Int} (h : x ∈ ratR (l.el a) s (l.el a).rows.len 0) : ∀ j i, i ≤ a → a < i + j → x ∈ ratM l s j i
  | 0, i, h1, h2 => by omega
  | j + 1, i, h1, h2 => by
    simp only [ratM, List.mem_append]
    rcases Nat.eq_or_lt_of_le h1 with h3 | h3
    · subst h3
      exact .inl h
    · exact .inr (ratM_mem h j (i + 1) (by omega) (by omega))
theorem last_le {x : Int} : ∀ (L : List Int), (∃ z ∈ L, z ≤ x) → ∃ y ∈ L, y ≤ x ∧ ∀ z ∈ L, z ≤ x → z ≤ y
  | [], h => by obtain ⟨z, hz, _⟩ := h; simp at hz
  | a :: L, h => by
    by_cases h1 : ∃ z ∈ L, z ≤ x
    · obtain ⟨y, hy, hyx, hm⟩ := last_le L h1
      by_cases h2 : a ≤ x ∧ y ≤ a
      · refine ⟨a, by simp, h2.1, fun z hz hzx => ?_⟩
        rcases List.mem_cons.1 hz with h3 | h3
        · omega
        · have := hm z h3 hzx; omega
      · refine ⟨y, by simp [hy], hyx, fun z hz hzx => ?_⟩
        rcases List.mem_cons.1 hz with h3 | h3
        · subst h3; omega
        · exact hm z h3 hzx
    · obtain ⟨z, hz, hzx⟩ := h
      rcases List.mem_cons.1 hz with h3 | h3
      · refine ⟨a, by simp, by omega, fun w hw hwx => ?_⟩
        rcases List.mem_cons.1 hw with h4 | h4
        · omega
        · exact absurd ⟨w, h4, hwx⟩ h1
      · exact absurd ⟨z, h3, hzx⟩ h1
theorem rat_cover {l : Sl Mach} {s : Span} {x : Int} (hx : s.lo ≤ x ∧ x ≤ s.hi) : ∃ y ∈ ratL l s, ∀ i, i < l.len → rowAt (l.el i) x = rowAt (l.el i) y := by
  obtain ⟨y, hy, hyx, hm⟩ := last_le (x := x) (ratL l s) ⟨s.lo, by simp [ratL], hx.1⟩
  have hlo := hm s.lo (by simp [ratL]) hx.1
  refine ⟨y, hy, fun i hi => rowR_congr _ _ fun k _ hk => ⟨fun h => by omega, fun h => ?_⟩⟩
  by_cases h1 : ((l.el i).rows.el k).ratio ≥ x
  · exact h1
  · exfalso
    have hin : ((l.el i).rows.el k).ratio + 1 ∈ ratL l s := by
      unfold ratL
      refine List.mem_cons_of_mem _ (ratM_mem (a := i) (ratR_mem (k := k) ⟨by omega, by omega⟩ _ 0 (by omega) (by omega)) _ 0 (by omega) (by omega))
    have := hm _ hin (by omega)
    omega
theorem mostS_congr {l : Sl Mach} {r : Nat → Bool} {x y k : Int} : ∀ n, (∀ i, i < n → rowAt (l.el i) x = rowAt (l.el i) y) → mostS l.el r x k n = mostS l.el r y k n
  | 0, _ => rfl
  | n + 1, h => by
    have ih := mostS_congr (l := l) (r := r) (x := x) (y := y) (k := k) n (fun i hi => h i (by omega))
    simp only [mostS, ih, h n (by omega)]
theorem lacks_congr {l : Sl Mach} {r : Nat → Bool} {f x y : Int} (h : ∀ i, i < l.len → rowAt (l.el i) x = rowAt (l.el i) y) : lacks l r f x = lacks l r f y := by
  have hk : ∀ k, shortK l.el r f x k l.len = shortK l.el r f y k l.len := fun k => by
    unfold shortK
    rw [mostS_congr l.len h]
  unfold lacks
  simp only [lackK, hk]
theorem fails_iff {l : Sl Mach} {r : Nat → Bool} {f : Int} {s : Span} (hs : RatioOk s) : failsB l r f (ratL l s) = true ↔ ∃ x, (s.lo ≤ x ∧ x ≤ s.hi) ∧ lacks l r f x ≠ 0 := by
  unfold failsB
  rw [List.any_eq_true]
  constructor
  · rintro ⟨x, hx, h⟩
    rw [decide_eq_true_iff] at h
    exact ⟨x, ratL_in hs x hx, by omega⟩
  · rintro ⟨x, hx, h⟩
    obtain ⟨y, hy, he⟩ := rat_cover (l := l) hx
    refine ⟨y, hy, ?_⟩
    rw [decide_eq_true_iff, ← lacks_congr he]
    have := lacks_in l r f x
    omega
theorem short_0 {l : Sl Mach} {r : Nat → Bool} {f : Int} {s : Span} (hs : RatioOk s) : shortest l r f s = 0 ↔ ∀ x, s.lo ≤ x → x ≤ s.hi → lacks l r f x = 0 := by
  have h := shortest_0 l r f s
  rw [fails_iff hs] at h
  constructor
  · intro h0 x h1 h2
    by_cases hk : lacks l r f x = 0
    · exact hk
    · exact absurd h0 (h.2 ⟨x, ⟨h1, h2⟩, hk⟩)
  · intro ha
    by_cases hk : shortest l r f s = 0
    · exact hk
    · obtain ⟨x, hx, hn⟩ := h.1 hk
      exact absurd (ha x hx.1 hx.2) hn
variable (F d : Nat)
section
variable {l : Sl Mach} {r : Sl Bool} {f : Int} (h4 : RunOk l r f) (hF : 2000 < F) {s : Span} (hs : RatioOk s) (a x : Int) (q16 : (E F (d + 42)).pf 16 [] = some (.ret (.bool true)))
include h4 hF hs q16
end
end Go.Sim.Pl


namespace Go.Sim.Pl
open Go.Proofs
theorem play_fine {l : Sl Mach} {hs : Nat → Hour} {sc : Nat → Sl Int} : ∀ (j t : Nat) (lo hi n : Int), (playR l hs sc j t lo hi n).rule = 1 → ∀ k, t ≤ k → k < t + j → (faultS l (stAt l sc k) (sc k) (hs k)).1 = 1 := by
  intro j
  induction j with
  | zero => intro t lo hi n _ k h1 h2; omega
  | succ j ih =>
    intro t lo hi n h k h1 h2
    simp only [playR] at h
    by_cases hr : (faultS l (stAt l sc t) (sc t) (hs t)).1 = 1
    · rw [if_neg (fun hh => hh hr)] at h
      rcases Nat.eq_or_lt_of_le h1 with h3 | h3
      · subst h3; exact hr
      · exact ih (t + 1) _ _ _ h k (by omega) (by omega)
    · rw [if_pos hr] at h
      exact absurd h hr
theorem playS_fine {l : Sl Mach} {hs : Sl Hour} {sc : Sl (Sl Int)} (h : (playS l hs sc).rule = 1) {k : Nat} (hk : k < hs.len) : (faultS l (stAt l sc.el k) (sc.el k) (hs.el k)).1 = 1 :=
  play_fine hs.len 0 0 0 0 h k (by omega) (by omega)
variable (F d : Nat)
section
variable {l : Sl Mach} (hl : PlantOk l) {hs : Sl Hour} (hh : HoursOk hs) (h24 : hs.len ≤ 24) {sc : Sl (Sl Int)} (hsc : SchedOk l hs.len sc) (hF : 2000 < F) (hfine : ∀ k, k < hs.len → (faultS l (stAt l sc.el k) (sc.el k) (hs.el k)).1 = 1)
include hl hh h24 hsc hF hfine
end
end Go.Sim.Pl


namespace Go.Sim.Pl
open Go.Proofs
theorem foldl_same {α β : Type} {f g : β → α → β} : ∀ (L : List α) (s : β), (∀ z ∈ L, ∀ s, f s z = g s z) → L.foldl f s = L.foldl g s
  | [], _, _ => rfl
  | z :: L, s, h => by
    simp only [List.foldl_cons]
    rw [h z (by simp) s]
    exact foldl_same L _ fun y hy => h y (by simp [hy])
section
variable {l : Sl Mach} {r : Nat → Bool} {f x y : Int} (h : ∀ i, i < l.len → rowAt (l.el i) x = rowAt (l.el i) y)
include h
theorem mineE_same (k : Int) : mineE l r x k = mineE l r y k := by
  refine ord_uniq (keyE l x) _ _ (mineE_ord l r x k) ?_ fun z => by rw [mineE_mem, mineE_mem]
  refine (mineE_ord l r y k).imp_of_mem fun {a b} ha hb hab => ?_
  have ka : keyE l x a = keyE l y a := by unfold keyE; rw [h a (mineE_mem.1 ha).1]
  have kb : keyE l x b = keyE l y b := by unfold keyE; rw [h b (mineE_mem.1 hb).1]
  unfold Bef at hab ⊢
  rw [ka, kb]
  exact hab
theorem kindF_same (s : Shr) (k : Int) : kindF l r f x s k = kindF l r f y s k := by
  unfold kindF
  rw [mineE_same h k, foldl_same (f := leastF l x) (g := leastF l y) (mine l r k) _ (fun z hz s => by unfold leastF; rw [h z (mine_mem.1 hz).1])]
  exact foldl_same _ _ (fun z hz s => by unfold moreF; rw [h z (mineE_mem.1 hz).1])
theorem shareS_same : shareS l r f x = shareS l r f y := by
  unfold shareS
  simp only [shK, kindF_same h]
theorem enS_same : enS l r f x = enS l r f y := by
  unfold enS
  rw [shareS_same h]
end
theorem costF_lo (e : Int → Int) : ∀ (xs : List Int) (p : Int × Int), (costF e p xs).1 ≤ p.1 ∧ (∀ x ∈ xs, (costF e p xs).1 ≤ e x) ∧ ((costF e p xs).1 = p.1 ∨ ∃ x ∈ xs, (costF e p xs).1 = e x)
  | [], p => ⟨Int.le_refl _, by simp, .inl rfl⟩
  | x :: xs, p => by
    obtain ⟨h1, h2, h3⟩ := costF_lo e xs (min p.1 (e x), max p.2 (e x))
    have e0 : costF e p (x :: xs) = costF e (min p.1 (e x), max p.2 (e x)) xs := rfl
    rw [e0]
    refine ⟨by omega, fun z hz => ?_, ?_⟩
    · rcases List.mem_cons.1 hz with h4 | h4
      · subst h4; omega
      · exact h2 z h4
    · rcases h3 with h3 | ⟨z, hz, h3⟩
      · by_cases h4 : p.1 ≤ e x
        · exact .inl (by omega)
        · exact .inr ⟨x, by simp, by omega⟩
      · exact .inr ⟨z, by simp [hz], h3⟩
theorem costF_hi (e : Int → Int) : ∀ (xs : List Int) (p : Int × Int), p.2 ≤ (costF e p xs).2 ∧ (∀ x ∈ xs, e x ≤ (costF e p xs).2) ∧ ((costF e p xs).2 = p.2 ∨ ∃ x ∈ xs, (costF e p xs).2 = e x)
  | [], p => ⟨Int.le_refl _, by simp, .inl rfl⟩
  | x :: xs, p => by
    obtain ⟨h1, h2, h3⟩ := costF_hi e xs (min p.1 (e x), max p.2 (e x))
    have e0 : costF e p (x :: xs) = costF e (min p.1 (e x), max p.2 (e x)) xs := rfl
    rw [e0]
    refine ⟨by omega, fun z hz => ?_, ?_⟩
    · rcases List.mem_cons.1 hz with h4 | h4
      · subst h4; omega
      · exact h2 z h4
    · rcases h3 with h3 | ⟨z, hz, h3⟩
      · by_cases h4 : e x ≤ p.2
        · exact .inl (by omega)
        · exact .inr ⟨x, by simp, by omega⟩
      · exact .inr ⟨z, by simp [hz], h3⟩
theorem costF_sub {e : Int → Int} {a b : Int} {xs ys : List Int} (h : ∀ x ∈ a :: xs, ∃ y ∈ b :: ys, e x = e y) : (costF e (e b, e b) ys).1 ≤ (costF e (e a, e a) xs).1 ∧ (costF e (e a, e a) xs).2 ≤ (costF e (e b, e b) ys).2 := by
  have l1 := costF_lo e xs (e a, e a)
  have l2 := costF_lo e ys (e b, e b)
  have h1 := costF_hi e xs (e a, e a)
  have h2 := costF_hi e ys (e b, e b)
  have hy : ∀ y ∈ b :: ys, (costF e (e b, e b) ys).1 ≤ e y ∧ e y ≤ (costF e (e b, e b) ys).2 := fun y hy => by
    rcases List.mem_cons.1 hy with h4 | h4
    · subst h4; exact ⟨l2.1, h2.1⟩
    · exact ⟨l2.2.1 y h4, h2.2.1 y h4⟩
  have hx : ∀ x ∈ a :: xs, (costF e (e b, e b) ys).1 ≤ e x ∧ e x ≤ (costF e (e b, e b) ys).2 := fun x hx => by
    obtain ⟨y, hy', he⟩ := h x hx
    rw [he]
    exact hy y hy'
  constructor
  · rcases l1.2.2 with h3 | ⟨x, hx', h3⟩
    · rw [h3]; exact (hx a (by simp)).1
    · rw [h3]; exact (hx x (by simp [hx'])).1
  · rcases h1.2.2 with h3 | ⟨x, hx', h3⟩
    · rw [h3]; exact (hx a (by simp)).2
    · rw [h3]; exact (hx x (by simp [hx'])).2
theorem hourE_at {l : Sl Mach} {w : Sl Int} {h : Hour} {x : Int} (hx : h.ratio.lo ≤ x ∧ x ≤ h.ratio.hi) : (hourE l w h).1 ≤ enS l (runsS w).el h.flow x ∧ enS l (runsS w).el h.flow x ≤ (hourE l w h).2 := by
  obtain ⟨y, hy, he⟩ := rat_cover (l := l) hx
  rw [enS_same he]
  unfold hourE
  unfold ratL at hy
  rcases List.mem_cons.1 hy with h4 | h4
  · rw [h4]; exact ⟨(costF_lo _ _ _).1, (costF_hi _ _ _).1⟩
  · exact ⟨(costF_lo _ _ _).2.1 y h4, (costF_hi _ _ _).2.1 y h4⟩
def upL (lo : Int) (k : Nat) : List Int := (List.range k).map fun i : Nat => lo + 1 + (i : Int)
theorem upL_S (lo : Int) (k : Nat) : upL lo (k + 1) = upL lo k ++ [lo + 1 + (k : Int)] := by
  unfold upL; rw [List.range_succ, List.map_append]; rfl
theorem upL_mem {lo : Int} {k : Nat} {x : Int} : x ∈ upL lo k ↔ lo < x ∧ x ≤ lo + k := by
  unfold upL
  rw [List.mem_map]
  constructor
  · rintro ⟨i, hi, rfl⟩
    rw [List.mem_range] at hi
    omega
  · rintro ⟨h1, h2⟩
    exact ⟨(x - lo - 1).toNat, List.mem_range.2 (by omega), by omega⟩
def allE (e : Int → Int) (lo : Int) (k : Nat) : Int × Int := costF e (e lo, e lo) (upL lo k)
theorem allE_S (e : Int → Int) (lo : Int) (k : Nat) : allE e lo (k + 1) = (min (allE e lo k).1 (e (lo + 1 + k)), max (allE e lo k).2 (e (lo + 1 + k))) := by
  unfold allE costF
  rw [upL_S, List.foldl_append]
  rfl
theorem allE_hour {l : Sl Mach} {w : Sl Int} {h : Hour} (hs : RatioOk h.ratio) : allE (enS l (runsS w).el h.flow) h.ratio.lo (h.ratio.hi - h.ratio.lo).toNat = hourE l w h := by
  have h1 := costF_sub (e := enS l (runsS w).el h.flow) (a := h.ratio.lo) (b := h.ratio.lo) (xs := upL h.ratio.lo (h.ratio.hi - h.ratio.lo).toNat) (ys := ratM l h.ratio l.len 0) (fun x hx => by
    have hx' : h.ratio.lo ≤ x ∧ x ≤ h.ratio.hi := by
      rcases List.mem_cons.1 hx with h4 | h4
      · omega
      · have := upL_mem.1 h4; omega
    obtain ⟨y, hy, he⟩ := rat_cover (l := l) hx'
    exact ⟨y, hy, enS_same he⟩)
  have h2 := costF_sub (e := enS l (runsS w).el h.flow) (a := h.ratio.lo) (b := h.ratio.lo) (xs := ratM l h.ratio l.len 0) (ys := upL h.ratio.lo (h.ratio.hi - h.ratio.lo).toNat) (fun x hx => by
    have hx' := ratL_in hs x hx
    refine ⟨x, ?_, rfl⟩
    by_cases h4 : x = h.ratio.lo
    · subst h4; simp
    · exact List.mem_cons_of_mem _ (upL_mem.2 (by omega)))
  unfold allE hourE
  exact Prod.ext (by omega) (by omega)
theorem ratR_one (m : Mach) (x : Int) : ∀ j i, ratR m ⟨x, x⟩ j i = []
  | 0, _ => rfl
  | j + 1, i => by
    simp only [ratR, ratR_one m x j (i + 1), List.append_nil]
    rw [if_neg (by omega)]
theorem ratM_one (l : Sl Mach) (x : Int) : ∀ j i, ratM l ⟨x, x⟩ j i = []
  | 0, _ => rfl
  | j + 1, i => by simp only [ratM, ratM_one l x j (i + 1), ratR_one, List.append_nil]
theorem hourE_one (l : Sl Mach) (w : Sl Int) (f x : Int) : hourE l w ⟨f, ⟨x, x⟩⟩ = (enS l (runsS w).el f x, enS l (runsS w).el f x) := by
  unfold hourE
  simp only [ratM_one]
  rfl
theorem fault_other {l : Sl Mach} {st : Nat → Sta} {w : Sl Int} {h h' : Hour} (e : (faultS l st w h).1 = 1) (hs : shortest l (runsS w).el h'.flow h'.ratio = 0) : (faultS l st w h').1 = 1 := by
  unfold faultS at e ⊢
  split at e
  · simp at e
  · split at e
    · simp at e
    · split at e
      · simp at e
      · split at e
        · simp at e
        · split at e
          · simp at e
          · rw [hs]; rfl
theorem play_of {l : Sl Mach} {hs : Nat → Hour} {sc : Nat → Sl Int} : ∀ (j t : Nat) (lo hi n : Int), (∀ k, t ≤ k → k < t + j → (faultS l (stAt l sc k) (sc k) (hs k)).1 = 1) → (playR l hs sc j t lo hi n).rule = 1 := by
  intro j
  induction j with
  | zero => intro t lo hi n _; rfl
  | succ j ih =>
    intro t lo hi n h
    simp only [playR]
    rw [if_neg (fun hh => hh (h t (by omega) (by omega)))]
    exact ih _ _ _ _ fun k h1 h2 => h k (by omega) (by omega)
variable (F d : Nat)
theorem s370 {l : Sl Mach} (hl : PlantOk l) (hF : 1000 < F) {sc : Sl (Sl Int)} (h0 : sc.len = 0) : (E F (d + 12)).pf 37 [sl eMach 10 l, .row true 0 0 (fun _ => []), sl eIL 1 sc] = some (.ret (.tup [.agg [.int .i64 0, .int .i64 0], .int .i64 0, .int .i64 0])) := by
  have hl2 := hl.2
  have hlB : l.len < Big := by show l.len < 4611686018427387904; omega
  have q95 : (E F (d + 9)).pf 95 [.row true 0 0 (fun _ => []), .fn (.func 96) [] []] = some (.ret (.bool true)) := by
    obtain ⟨G, rfl⟩ : ∃ k, F = k + 1 := ⟨F - 1, by omega⟩
    rw [E_pf, t950, L950x0s]
  have q80 := s80 F (d + 2) l hlB (by omega) (rowsB F hl hF)
  have q69 : (E F (d + 10)).pf 69 [sl eMach 10 l, .row true 0 0 (fun _ => [])] = some (.ret (.int .i64 0)) := by
    rw [E_pf, t690]
    simp only [q80, decide_eq_true hl, q95, tkOut_ret, tkBool_b, Bool.not_true, pF]
  have q91 : (E F (d + 10)).pf 91 [sl eIL 1 sc, .fn (.func 92) [] [.rptr 1 1 (fun _ => [sl eMach 10 l]) 0 0]] = some (.ret (.bool true)) := by
    have e := l91 F (d + 6) sc l (by rw [h0]; decide) (fun i hi => by omega) 0 0 F (by omega) (by omega)
    rw [E_pf, t91]
    exact e
  have q60 : (E F (d + 11)).pf 60 [sl eMach 10 l, .row true 0 0 (fun _ => []), sl eIL 1 sc] = some (.ret (.int .i64 0)) := by
    rw [E_pf, t600]
    simp only [q69, q91, h0, tkOut_ret, tkInt_i, tkBool_b, decide_true, pT, pF, Bool.not_true, show ((0 : Int) != 0) = false from rfl, show (((0 : Nat) : Int) != ((0 : Nat) : Int)) = false from rfl]
  have q76 := s76 F (d + 8) l (by omega) hF (by omega)
  have q61 : (E F (d + 11)).pf 61 [sl eMach 10 l, .row true 0 0 (fun _ => []), sl eIL 1 sc] = some (.ret (.tup [.agg [.int .i64 0, .int .i64 1, .int .i64 0], .agg [.int .i64 0, .int .i64 0], .int .i64 0])) := by
    obtain ⟨G, rfl⟩ : ∃ k, F = k + 1 := ⟨F - 1, by omega⟩
    rw [E_pf, t610]
    simp only [q76, tkOut_ret, tkRow_r]
    rw [L610x0s, h0]
    rfl
  rw [E_pf, t370]
  simp only [q60, q61, tkOut_ret, tkTup_t, tkCons_c, tkAgg_a, tkInt_i, tkNil_n, decide_true, pT, pF, show ((0 : Int) != 0) = false from rfl, show ((1 : Int) != 1) = false from rfl]
end Go.Sim.Pl


namespace Go.Sim.Pl
open Go.Proofs
def xH (hs : Sl Hour) (w : Sl Int) (t : Nat) : Hour := ⟨(hs.el t).flow, ⟨w.el t, w.el t⟩⟩
def hour0 : Hour := ⟨0, ⟨0, 0⟩⟩
def exact (hs : Sl Hour) (w : Sl Int) : Sl Hour := ⟨false, hs.len, fun j => (tabL (xH hs w) hs.len).getD j ((tabL (xH hs w) hs.len).getLastD hour0)⟩
theorem exact_el {hs : Sl Hour} {w : Sl Int} {t : Nat} (h : t < hs.len) : (exact hs w).el t = xH hs w t := tabL_get _ h _
variable (F d : Nat)
section
variable {l : Sl Mach} (hl : PlantOk l) {hs : Sl Hour} (hh : HoursOk hs) (h24 : hs.len ≤ 24) {sc : Sl (Sl Int)} (hsc : SchedOk l hs.len sc) (hF : 140737488355330 < F) (hfine : ∀ k, k < hs.len → (faultS l (stAt l sc.el k) (sc.el k) (hs.el k)).1 = 1) (w : Sl Int) (hwl : w.len = hs.len)
include hl hh h24 hsc hfine
theorem exact_cost (hw : ∀ t, t < hs.len → (hs.el t).ratio.lo ≤ w.el t ∧ w.el t ≤ (hs.el t).ratio.hi) : HoursOk (exact hs w) ∧ (playS l (exact hs w) sc).rule = 1 ∧ ∀ t, t ≤ hs.len → sumLo l (exact hs w).el sc.el t = sumHi l (exact hs w).el sc.el t ∧ sumLo l hs.el sc.el t ≤ sumLo l (exact hs w).el sc.el t ∧ sumHi l (exact hs w).el sc.el t ≤ sumHi l hs.el sc.el t := by
  have hx : ∀ t, t < hs.len → RatioOk (xH hs w t).ratio := fun t ht => by
    have := hh t ht
    have := hw t ht
    exact ⟨show 1000 ≤ w.el t by omega, Int.le_refl _, show w.el t ≤ 5000 by omega⟩
  refine ⟨fun t ht => ?_, ?_, ?_⟩
  · have ht : t < hs.len := ht
    rw [exact_el ht]
    exact ⟨(hh t ht).1, hx t ht⟩
  · refine play_of hs.len 0 0 0 0 fun k _ hk => ?_
    rw [exact_el (by omega)]
    refine fault_other (hfine k (by omega)) ?_
    rw [short_0 (hx k (by omega))]
    intro x h1 h2
    have h1' : w.el k ≤ x := h1
    have h2' : x ≤ w.el k := h2
    have := hw k (by omega)
    exact (short_0 (hh k (by omega)).2).1 (fault_fine (hfine k (by omega))).2 x (by omega) (by omega)
  · intro t
    induction t with
    | zero => intro _; simp [sumLo, sumHi]
    | succ t ih =>
      intro ht
      have e := ih (by omega)
      have ha := hourE_at (l := l) (w := sc.el t) (h := hs.el t) (hw t (by omega))
      have h1 := hourE_one l (sc.el t) (hs.el t).flow (w.el t)
      simp only [sumLo, sumHi]
      rw [exact_el (by omega)]
      unfold xH
      rw [h1]
      simp only
      omega
include hF in
theorem l10x2 (m0 t : Nat) (ht : t < hs.len) (low high : Int) (hlow : 0 ≤ low ∧ low ≤ 1000000000000) (hhigh : 0 ≤ high ∧ high ≤ 1000000000000) (b3 : Bool) (k0 k14 : Nat) (g15 : Nat → List V) (slo shi : Int) (R : Option Out)
    (K : L10x1 (E F (d + 42)) F l hs sc w m0 k0 (low + (hourE l (sc.el t) (hs.el t)).1) (high + (hourE l (sc.el t) (hs.el t)).2) b3 ((t + 1 : Nat) : Int) .i64 slo .i64 shi k14 g15 = R) :
    ∀ (j k fu : Nat), (hs.el t).ratio.lo + k + j = (hs.el t).ratio.hi → j < fu → L10x2 (E F (d + 42)) F l hs sc w m0 fu k0 low high b3 t .i64 (allE (enS l (runsS (sc.el t)).el (hs.el t).flow) (hs.el t).ratio.lo k).1 .i64 (allE (enS l (runsS (sc.el t)).el (hs.el t).flow) (hs.el t).ratio.lo k).2 ((hs.el t).ratio.lo + k + 1) .i64 slo .i64 shi k14 g15 (hs.el t).ratio.lo (hs.el t).ratio.hi = R := by
  have hho := hh t ht
  have hw := (hsc.1 t (by have := hsc.2; omega)).1
  have hscl := hsc.2
  have hl2 := hl.2
  have hT : IntKind.i64.wrap ((t : Int) + 1) = ((t + 1 : Nat) : Int) := wrS (by omega)
  have hE := hourE_in hl (w := sc.el t) hho
  intro j
  induction j with
  | zero =>
    intro k fu h hf
    obtain ⟨fu, rfl⟩ : ∃ k, fu = k + 1 := ⟨fu - 1, by omega⟩
    have hk : k = ((hs.el t).ratio.hi - (hs.el t).ratio.lo).toNat := by omega
    rw [hk, allE_hour hho.2]
    rw [L10x2s, decide_eq_false (by omega), pF]
    simp only [decide_true, pT, hT]
    rw [wr (by omega), wr (by omega)]
    exact K
  | succ j ih =>
    intro k fu h hf
    obtain ⟨fu, rfl⟩ : ∃ k, fu = k + 1 := ⟨fu - 1, by omega⟩
    have q35 := s35 F (d + 41) (sc.el t) (by omega) (by omega) (by omega)
    have hk := (short_0 hho.2).1 (fault_fine (hfine t ht)).2 ((hs.el t).ratio.lo + k + 1) (by omega) (by omega)
    have hro : RunOk l (runsS (sc.el t)) (hs.el t).flow := ⟨hl, hw, hho.1⟩
    have q17 := s17xok F (d + 32) (r := runsS (sc.el t)) hro (by omega) (x := (hs.el t).ratio.lo + k + 1) (by omega) hk
    have e := ih (k + 1) fu (by omega) (by omega)
    rw [allE_S] at e
    rw [L10x2s]
    simp (disch := omega) only [decide_eq_true, decide_true, pT, Int.toNat_natCast, q35, q17, tkOut_ret, tkRow_r, tkTup_t, tkCons_c, tkInt_i, tkNil_n, pF, show ((0 : Int) != 0) = false from rfl, wr]
    rw [show ((hs.el t).ratio.lo + (k : Int) + 1 == (hs.el t).ratio.lo) = false by rw [beq_eq_false_iff_ne]; omega, pF, mnE, mxE]
    rw [show (hs.el t).ratio.lo + 1 + (k : Int) = (hs.el t).ratio.lo + k + 1 by omega, show (hs.el t).ratio.lo + ((k + 1 : Nat) : Int) + 1 = (hs.el t).ratio.lo + k + 1 + 1 by omega] at e
    exact e
include hF in
theorem l10x2' (m0 t : Nat) (ht : t < hs.len) (low high : Int) (hlow : 0 ≤ low ∧ low ≤ 1000000000000) (hhigh : 0 ≤ high ∧ high ≤ 1000000000000) (b3 : Bool) (k0 k14 : Nat) (g15 : Nat → List V) (slo shi : Int) (R : Option Out)
    (K : L10x1 (E F (d + 42)) F l hs sc w m0 k0 (low + (hourE l (sc.el t) (hs.el t)).1) (high + (hourE l (sc.el t) (hs.el t)).2) b3 ((t + 1 : Nat) : Int) .i64 slo .i64 shi k14 g15 = R) :
    L10x2 (E F (d + 42)) F l hs sc w m0 F k0 low high b3 t .i64 0 .i64 0 (hs.el t).ratio.lo .i64 slo .i64 shi k14 g15 (hs.el t).ratio.lo (hs.el t).ratio.hi = R := by
  have hho := hh t ht
  have hw := (hsc.1 t (by have := hsc.2; omega)).1
  have hscl := hsc.2
  have hl2 := hl.2
  obtain ⟨G, hG⟩ : ∃ k, F = k + 1 := ⟨F - 1, by omega⟩
  have q35 := s35 F (d + 41) (sc.el t) (by omega) (by omega) (by omega)
  have hk := (short_0 hho.2).1 (fault_fine (hfine t ht)).2 (hs.el t).ratio.lo (by omega) (by omega)
  have hro : RunOk l (runsS (sc.el t)) (hs.el t).flow := ⟨hl, hw, hho.1⟩
  have q17 := s17xok F (d + 32) (r := runsS (sc.el t)) hro (by omega) (x := (hs.el t).ratio.lo) (by omega) hk
  have e := l10x2 F d hl hh h24 hsc hF hfine w m0 t ht low high hlow hhigh b3 k0 k14 g15 slo shi R K ((hs.el t).ratio.hi - (hs.el t).ratio.lo).toNat 0 G (by omega) (by omega)
  have e0 : L10x2 (E F (d + 42)) F l hs sc w m0 (G + 1) k0 low high b3 t .i64 0 .i64 0 (hs.el t).ratio.lo .i64 slo .i64 shi k14 g15 (hs.el t).ratio.lo (hs.el t).ratio.hi = R := by
    rw [L10x2s]
    simp (disch := omega) only [decide_eq_true, decide_true, pT, Int.toNat_natCast, q35, q17, tkOut_ret, tkRow_r, tkTup_t, tkCons_c, tkInt_i, tkNil_n, pF, show ((0 : Int) != 0) = false from rfl, wr, beq_self_eq_true, ite_self]
    rw [show allE (enS l (runsS (sc.el t)).el (hs.el t).flow) (hs.el t).ratio.lo 0 = (enS l (runsS (sc.el t)).el (hs.el t).flow (hs.el t).ratio.lo, enS l (runsS (sc.el t)).el (hs.el t).flow (hs.el t).ratio.lo) from rfl, show (hs.el t).ratio.lo + ((0 : Nat) : Int) + 1 = (hs.el t).ratio.lo + 1 by omega] at e
    exact e
  rw [hG] at e0 ⊢
  exact e0
omit hl hh h24 hsc hfine in
theorem xH_get (t : Nat) : appGet t (gl eHour hour0 (tabL (xH hs w) t)) (fun _ => [.int .i64 (hs.el t).flow, .int .i64 (w.el t), .int .i64 (w.el t)]) = gl eHour hour0 (tabL (xH hs w) (t + 1)) := by
  rw [tabL_S]
  exact gl_snoc (tabL_len _ _) rfl
include hF hwl in
theorem l10x1 (hr : (playS l hs sc).rule = 1) (q16 : (E F (d + 42)).pf 16 [] = some (.ret (.bool true))) (S T : Int) (hS : S = sumE l sc.el hs.len + sumLo l hs.el sc.el hs.len) (hT : T = sumE l sc.el hs.len + sumHi l hs.el sc.el hs.len) : ∀ (j t fu : Nat) (low high : Int) (b3 : Bool) (cap : Nat), t + j = hs.len → j < fu → 0 < t → (b3 = true → low = sumLo l hs.el sc.el t ∧ high = sumHi l hs.el sc.el t) → (∀ k, k < t → (hs.el k).ratio.lo ≤ w.el k ∧ w.el k ≤ (hs.el k).ratio.hi) →
    L10x1 (E F (d + 42)) F l hs sc w fu t low high b3 t .i64 S .i64 T cap (gl eHour hour0 (tabL (xH hs w) t)) = some (.ret (.bool true)) := by
  have hl2 := hl.2
  have hscl := hsc.2
  intro j
  induction j with
  | zero =>
    intro t fu low high b3 cap h hf ht hb hin
    obtain ⟨fu, rfl⟩ : ∃ k, fu = k + 1 := ⟨fu - 1, by omega⟩
    obtain rfl : t = hs.len := by omega
    obtain ⟨x1, x2, x3⟩ := exact_cost hl hh h24 hsc hfine w hin
    have hB : InB l (exact hs w) F := ⟨⟨by show l.len < 4611686018427387904; omega, by omega⟩, rowsB F hl (by omega), show hs.len < 4611686018427387904 by omega, show hs.len < F by omega⟩
    have hSB : SchB sc F := ⟨⟨by show sc.len < 4611686018427387904; omega, by omega⟩, fun i hi => by
      have := (hsc.1 i (by omega)).1
      exact ⟨by show (sc.el i).len < 4611686018427387904; omega, by omega⟩⟩
    have he : errS l (exact hs w) sc = 0 := by
      unfold errS
      rw [if_neg (show ¬ (exact hs w).len > 24 from show ¬ hs.len > 24 by omega), if_pos ⟨hl, x1, hsc⟩]
    have q37 := s37 F (d + 30) l (exact hs w) sc (by omega) hB hSB
    obtain ⟨p1, p2, _⟩ := playS_sum x2
    have x4 := x3 hs.len (Nat.le_refl _)
    have p1' : (playS l (exact hs w) sc).lo = sumE l sc.el hs.len + sumLo l (exact hs w).el sc.el hs.len := p1
    have p2' : (playS l (exact hs w) sc).hi = sumE l sc.el hs.len + sumLo l (exact hs w).el sc.el hs.len := by rw [p2, x4.1]; rfl
    rw [if_pos he, if_pos x2, p1', p2'] at q37
    have q37' : (E F (d + 42)).pf 37 [sl eMach 10 l, .row false hs.len 3 (gl eHour hour0 (tabL (xH hs w) hs.len)), sl eIL 1 sc] = _ := q37
    generalize hX : sumE l sc.el hs.len + sumLo l (exact hs w).el sc.el hs.len = X at q37'
    have hlt : ¬ X < S := by omega
    have hgt : ¬ X > T := by omega
    rw [L10x1s, decide_eq_false (by omega), pF]
    simp only [q37', q16, tkOut_ret, tkTup_t, tkCons_c, tkAgg_a, tkInt_i, tkBool_b, tkNil_n, decide_true, pT, pF, show ((0 : Int) != 0) = false from rfl, bne_self_eq_false, decide_eq_false hlt, decide_eq_false hgt]
    cases b3 with
    | false => rfl
    | true =>
      obtain ⟨h1, h2⟩ := hb rfl
      rw [show T - S = high - low by omega, beq_self_eq_true]
      rfl
  | succ j ih =>
    intro t fu low high b3 cap h hf ht hb hin
    obtain ⟨fu, rfl⟩ : ∃ k, fu = k + 1 := ⟨fu - 1, by omega⟩
    have hSt : IntKind.i64.wrap ((t : Int) + 1) = ((t + 1 : Nat) : Int) := wrS (by omega)
    have hho := hh t (by omega)
    have hg := xH_get (hs := hs) w t
    rw [L10x1s]
    simp (disch := omega) only [decide_eq_true, pT, Int.toNat_natCast, hSt]
    by_cases h1 : w.el t < (hs.el t).ratio.lo
    · simp only [decide_eq_true h1, pT, q16, tkOut_ret, tkBool_b]
    rw [decide_eq_false h1, pF]
    by_cases h2 : w.el t > (hs.el t).ratio.hi
    · simp only [decide_eq_true h2, pT, q16, tkOut_ret, tkBool_b]
    rw [decide_eq_false h2, pF]
    have hin' : ∀ k, k < t + 1 → (hs.el k).ratio.lo ≤ w.el k ∧ w.el k ≤ (hs.el k).ratio.hi := fun k hk => by
      rcases Nat.lt_or_eq_of_le (Nat.le_of_lt_succ hk) with h3 | h3
      · exact hin k h3
      · subst h3; omega
    rw [hg]
    cases b3 with
    | false =>
      rw [pF]
      exact ih (t + 1) fu low high false (t + 1) (by omega) (by omega) (by omega) (fun h => absurd h (by decide)) hin'
    | true =>
      obtain ⟨e1, e2⟩ := hb rfl
      rw [pT]
      cases hn : decide (IntKind.i64.wrap ((hs.el t).ratio.hi - (hs.el t).ratio.lo) ≤ 60) with
      | false =>
        rw [Bool.not_false, pT]
        exact ih (t + 1) fu low high false (t + 1) (by omega) (by omega) (by omega) (fun h => absurd h (by decide)) hin'
      | true =>
        rw [Bool.not_true, pF]
        have hs0 := sums_in F hl hh h24 hsc (by omega) t (by omega)
        have e3 := ih (t + 1) fu (low + (hourE l (sc.el t) (hs.el t)).1) (high + (hourE l (sc.el t) (hs.el t)).2) true (t + 1) (by omega) (by omega) (by omega) (fun _ => by simp only [sumLo, sumHi]; omega) hin'
        exact l10x2' F d hl hh h24 hsc hF hfine w fu t (by omega) low high (by omega) (by omega) true (t + 1) (t + 1) _ S T _ e3
end
theorem law10 (hF : 140737488355330 < F) (l : Sl Mach) (hs : Sl Hour) (sc : Sl (Sl Int)) (w : Sl Int) (hl : l.len ≤ 140737488355328) (hR : ∀ i, (l.el i).rows.len ≤ 140737488355328) (hh : hs.len ≤ 140737488355328) (hsc : sc.len ≤ 140737488355328) (hw : ∀ i, (sc.el i).len ≤ 140737488355328) :
    (E F (d + 43)).pf 10 [sl eMach 10 l, sl eHour 3 hs, sl eIL 1 sc, sl eInt 1 w] = some (.ret (.bool true)) := by
  have q16 := s16 F d (by omega)
  have q15 := s15 F (d + 41) l (lenB hl) (by omega)
  have hB := inB_of F hF hl hR hh
  have hS := schB_of F hF hsc hw
  have q31 := s31 F (d + 41) hs sc hS.1.1 hS.1.2
  have q37 := s37 F (d + 30) l hs sc (by omega) hB hS
  have q33 := s33 F (d + 38) l hs sc hB hS
  rw [E_pf, t10]
  simp only [q15, q16, q31, q33, tkOut_ret, tkBool_b]
  by_cases h1 : ShortP l
  case neg => rw [decide_eq_false h1, Bool.not_false, pT]
  rw [decide_eq_true h1, Bool.not_true, pF]
  by_cases h2 : BriefP hs sc
  case neg => rw [decide_eq_false h2, Bool.not_false, pT]
  rw [decide_eq_true h2, Bool.not_true, pF]
  by_cases h4 : (w.len : Int) > 40
  · rw [decide_eq_true h4, pT]
  rw [decide_eq_false h4, pF]
  simp only [tkInt_i, dd, decide_true, pT]
  by_cases h3 : errS l hs sc = 0
  case neg => rw [show (errS l hs sc != 0) = true by simp [h3], pT]
  rw [h3, show ((0 : Int) != 0) = false from rfl, pF]
  by_cases h5 : w.len = hs.len
  case neg => rw [show ((w.len : Int) != (hs.len : Int)) = true by rw [bne_iff_ne]; omega, pT]
  rw [h5, bne_self_eq_false, pF]
  rw [if_pos h3] at q37
  obtain ⟨a1, a2, a3, a4⟩ := errS_0 h3
  by_cases hr : (playS l hs sc).rule = 1
  case neg =>
    rw [if_neg hr] at q37
    simp only [q37, tkOut_ret, tkTup_t, tkCons_c, tkAgg_a, tkInt_i, tkNil_n, dd, decide_true, pT, pF, show ((7 : Int) != 0) = true from rfl, beq_self_eq_true]
  obtain ⟨e1, e2, _⟩ := playS_sum hr
  rw [if_pos hr, e1, e2] at q37
  simp only [q37, tkOut_ret, tkTup_t, tkCons_c, tkAgg_a, tkInt_i, tkNil_n, dd, decide_true, pT, pF, show ((0 : Int) != 0) = false from rfl]
  have hfine : ∀ k, k < hs.len → (faultS l (stAt l sc.el k) (sc.el k) (hs.el k)).1 = 1 := fun k hk => playS_fine hr hk
  obtain ⟨G, hG⟩ : ∃ k, F = k + 1 := ⟨F - 1, by omega⟩
  have hl2 := a1.2
  have hscl := a4.2
  rcases Nat.eq_zero_or_pos hs.len with h0 | h0
  · have q := s370 F (d + 30) a1 (by omega) (sc := sc) (by omega)
    have e : L10x0 (E F (d + 42)) F l hs sc w (G + 1) .i64 (sumE l sc.el hs.len + sumLo l hs.el sc.el hs.len) .i64 (sumE l sc.el hs.len + sumHi l hs.el sc.el hs.len) = some (.ret (.bool true)) := by
      rw [L10x0s, decide_eq_false (by omega), pF]
      rw [h0]
      simp only [sumE, sumLo, sumHi, Int.add_zero]
      simp only [q, q16, tkOut_ret, tkTup_t, tkCons_c, tkAgg_a, tkInt_i, tkBool_b, tkNil_n, dd, decide_true, pT, pF, show ((0 : Int) != 0) = false from rfl, show decide ((0 : Int) < 0) = false from rfl, show decide ((0 : Int) > 0) = false from rfl, beq_self_eq_true]
    rw [← hG] at e
    exact e
  · have hho := a2 0 h0
    have e : L10x0 (E F (d + 42)) F l hs sc w (G + 1) .i64 (sumE l sc.el hs.len + sumLo l hs.el sc.el hs.len) .i64 (sumE l sc.el hs.len + sumHi l hs.el sc.el hs.len) = some (.ret (.bool true)) := by
      rw [L10x0s]
      simp (disch := omega) only [decide_eq_true, pT]
      by_cases g1 : w.el 0 < (hs.el 0).ratio.lo
      · simp only [decide_eq_true g1, pT, q16, tkOut_ret, tkBool_b]
      rw [decide_eq_false g1, pF]
      by_cases g2 : w.el 0 > (hs.el 0).ratio.hi
      · simp only [decide_eq_true g2, pT, q16, tkOut_ret, tkBool_b]
      rw [decide_eq_false g2, pF]
      have hin' : ∀ k, k < 1 → (hs.el k).ratio.lo ≤ w.el k ∧ w.el k ≤ (hs.el k).ratio.hi := fun k hk => by
        obtain rfl : k = 0 := by omega
        omega
      have hg : (fun _ : Nat => [V.int .i64 (hs.el 0).flow, .int .i64 (w.el 0), .int .i64 (w.el 0)]) = gl eHour hour0 (tabL (xH hs w) 1) := gl_one (m := xH hs w 0) rfl
      have hS1 : IntKind.i64.wrap (0 + 1) = ((1 : Nat) : Int) := by decide
      have hS0 := sums_in F a1 a2 a3 a4 (by omega) 0 (by omega)
      rw [hg, hS1]
      cases hn : decide (IntKind.i64.wrap ((hs.el 0).ratio.hi - (hs.el 0).ratio.lo) ≤ 60) with
      | false =>
        rw [Bool.not_false, pT]
        exact l10x1 F d a1 a2 a3 a4 hF hfine w h5 hr q16 _ _ rfl rfl (hs.len - 1) 1 G 0 0 false 1 (by omega) (by omega) (by omega) (fun h => absurd h (by decide)) hin'
      | true =>
        rw [Bool.not_true, pF]
        have e3 := l10x1 F d a1 a2 a3 a4 hF hfine w h5 hr q16 _ _ rfl rfl (hs.len - 1) 1 G (0 + (hourE l (sc.el 0) (hs.el 0)).1) (0 + (hourE l (sc.el 0) (hs.el 0)).2) true 1 (by omega) (by omega) (by omega) (fun _ => ⟨rfl, rfl⟩) hin'
        exact l10x2' F d a1 a2 a3 a4 hF hfine w G 0 h0 0 0 (by omega) (by omega) true 1 1 _ _ _ _ e3
    rw [← hG] at e
    exact e
end Go.Sim.Pl
