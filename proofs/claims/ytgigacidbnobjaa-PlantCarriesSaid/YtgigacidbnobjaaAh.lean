import Derived.Test.YtgigacidbnobjaaAg
import Derived.KernelRfl
import Derived.Test.YtgigacidbnobjaaRows
set_option linter.unusedVariables false
set_option linter.unusedSimpArgs false
set_option linter.unusedSectionVars false
set_option maxRecDepth 100000
namespace Go.Sim.Pl
open Go.Proofs
noncomputable def L36x0 (env : Env) (F : Nat) (m : Mach) (a : Int) (sc : Sl (Sl Int)) (fu : Nat) (b0 : Bool) (i1 : Int) (i2 : Int) (i3 : Int) (i4 : Int) : Option Out := atLoop Try.prog (cfg F) env 36 [.r, .r, .l, .r, .d] [] fu { tm := tmL 85 0 [(1, (i64 a)), (2, (sl eIL 1 sc)), (3, (.optr 0 0 0)), (7, (.bool b0)), (8, (i64 i1)), (9, (i64 i2)), (10, (i64 i3)), (11, (i64 i4))], hp := [(.box 45 (eMach m) true)] }
theorem t36 (env : Env) (F : Nat) (m : Mach) (a : Int) (sc : Sl (Sl Int)) : (evFun Try.prog (cfg F) env 36 [(.agg (eMach m)), (i64 a), (sl eIL 1 sc)]) = (L36x0 env F m a sc F (Mach.runs m) (Mach.since m) (Mach.left m) (0 : Int) (0 : Int)) := by kernel_rfl
theorem L36x0s (env : Env) (F : Nat) (m : Mach) (a : Int) (sc : Sl (Sl Int)) (fu : Nat) (b0 : Bool) (i1 : Int) (i2 : Int) (i3 : Int) (i4 : Int) : L36x0 env F m a sc (fu + 1) b0 i1 i2 i3 i4 = (bif (decide (i4 < (((Sl.len sc) : Nat) : Int))) then (bif (decide ((0 : Int) ≤ i4)) then (bif (decide (i4 < (((Sl.len sc) : Nat) : Int))) then (bif (decide ((0 : Int) ≤ a)) then (bif (decide (a < (((Sl.len (Sl.el sc (Int.toNat i4))) : Nat) : Int))) then (bif (!(((Sl.el (Sl.el sc (Int.toNat i4)) (Int.toNat a)) == (1 : Int)) == b0)) then (bif b0 then (bif (decide (i1 < (Mach.up m))) then some (.ret (.bool false)) else (bif (!b0) then (bif (decide (i1 < (Mach.down m))) then some (.ret (.bool false)) else (bif ((Sl.el (Sl.el sc (Int.toNat i4)) (Int.toNat a)) == (2 : Int)) then (bif (decide ((IntKind.wrap .i64 (i3 + (1 : Int))) > (Mach.service m))) then some (.ret (.bool false)) else (bif ((IntKind.wrap .i64 (i3 + (1 : Int))) == (Mach.service m)) then (L36x0 env F m a sc fu ((Sl.el (Sl.el sc (Int.toNat i4)) (Int.toNat a)) == (1 : Int)) (IntKind.wrap .i64 ((0 : Int) + (1 : Int))) (Mach.life m) (IntKind.wrap .i64 (i3 + (1 : Int))) (IntKind.wrap .i64 (i4 + (1 : Int)))) else (L36x0 env F m a sc fu ((Sl.el (Sl.el sc (Int.toNat i4)) (Int.toNat a)) == (1 : Int)) (IntKind.wrap .i64 ((0 : Int) + (1 : Int))) i2 (IntKind.wrap .i64 (i3 + (1 : Int))) (IntKind.wrap .i64 (i4 + (1 : Int)))))) else (bif (decide (i3 > (0 : Int))) then (bif (decide (i3 < (Mach.service m))) then some (.ret (.bool false)) else (bif ((Sl.el (Sl.el sc (Int.toNat i4)) (Int.toNat a)) == (1 : Int)) then (bif (decide ((IntKind.wrap .i64 (i2 - (1 : Int))) < (0 : Int))) then some (.ret (.bool false)) else (L36x0 env F m a sc fu ((Sl.el (Sl.el sc (Int.toNat i4)) (Int.toNat a)) == (1 : Int)) (IntKind.wrap .i64 ((0 : Int) + (1 : Int))) (IntKind.wrap .i64 (i2 - (1 : Int))) (0 : Int) (IntKind.wrap .i64 (i4 + (1 : Int))))) else (L36x0 env F m a sc fu ((Sl.el (Sl.el sc (Int.toNat i4)) (Int.toNat a)) == (1 : Int)) (IntKind.wrap .i64 ((0 : Int) + (1 : Int))) i2 (0 : Int) (IntKind.wrap .i64 (i4 + (1 : Int)))))) else (bif ((Sl.el (Sl.el sc (Int.toNat i4)) (Int.toNat a)) == (1 : Int)) then (bif (decide ((IntKind.wrap .i64 (i2 - (1 : Int))) < (0 : Int))) then some (.ret (.bool false)) else (L36x0 env F m a sc fu ((Sl.el (Sl.el sc (Int.toNat i4)) (Int.toNat a)) == (1 : Int)) (IntKind.wrap .i64 ((0 : Int) + (1 : Int))) (IntKind.wrap .i64 (i2 - (1 : Int))) (0 : Int) (IntKind.wrap .i64 (i4 + (1 : Int))))) else (L36x0 env F m a sc fu ((Sl.el (Sl.el sc (Int.toNat i4)) (Int.toNat a)) == (1 : Int)) (IntKind.wrap .i64 ((0 : Int) + (1 : Int))) i2 (0 : Int) (IntKind.wrap .i64 (i4 + (1 : Int)))))))) else (bif ((Sl.el (Sl.el sc (Int.toNat i4)) (Int.toNat a)) == (2 : Int)) then (bif (decide ((IntKind.wrap .i64 (i3 + (1 : Int))) > (Mach.service m))) then some (.ret (.bool false)) else (bif ((IntKind.wrap .i64 (i3 + (1 : Int))) == (Mach.service m)) then (L36x0 env F m a sc fu ((Sl.el (Sl.el sc (Int.toNat i4)) (Int.toNat a)) == (1 : Int)) (IntKind.wrap .i64 ((0 : Int) + (1 : Int))) (Mach.life m) (IntKind.wrap .i64 (i3 + (1 : Int))) (IntKind.wrap .i64 (i4 + (1 : Int)))) else (L36x0 env F m a sc fu ((Sl.el (Sl.el sc (Int.toNat i4)) (Int.toNat a)) == (1 : Int)) (IntKind.wrap .i64 ((0 : Int) + (1 : Int))) i2 (IntKind.wrap .i64 (i3 + (1 : Int))) (IntKind.wrap .i64 (i4 + (1 : Int)))))) else (bif (decide (i3 > (0 : Int))) then (bif (decide (i3 < (Mach.service m))) then some (.ret (.bool false)) else (bif ((Sl.el (Sl.el sc (Int.toNat i4)) (Int.toNat a)) == (1 : Int)) then (bif (decide ((IntKind.wrap .i64 (i2 - (1 : Int))) < (0 : Int))) then some (.ret (.bool false)) else (L36x0 env F m a sc fu ((Sl.el (Sl.el sc (Int.toNat i4)) (Int.toNat a)) == (1 : Int)) (IntKind.wrap .i64 ((0 : Int) + (1 : Int))) (IntKind.wrap .i64 (i2 - (1 : Int))) (0 : Int) (IntKind.wrap .i64 (i4 + (1 : Int))))) else (L36x0 env F m a sc fu ((Sl.el (Sl.el sc (Int.toNat i4)) (Int.toNat a)) == (1 : Int)) (IntKind.wrap .i64 ((0 : Int) + (1 : Int))) i2 (0 : Int) (IntKind.wrap .i64 (i4 + (1 : Int)))))) else (bif ((Sl.el (Sl.el sc (Int.toNat i4)) (Int.toNat a)) == (1 : Int)) then (bif (decide ((IntKind.wrap .i64 (i2 - (1 : Int))) < (0 : Int))) then some (.ret (.bool false)) else (L36x0 env F m a sc fu ((Sl.el (Sl.el sc (Int.toNat i4)) (Int.toNat a)) == (1 : Int)) (IntKind.wrap .i64 ((0 : Int) + (1 : Int))) (IntKind.wrap .i64 (i2 - (1 : Int))) (0 : Int) (IntKind.wrap .i64 (i4 + (1 : Int))))) else (L36x0 env F m a sc fu ((Sl.el (Sl.el sc (Int.toNat i4)) (Int.toNat a)) == (1 : Int)) (IntKind.wrap .i64 ((0 : Int) + (1 : Int))) i2 (0 : Int) (IntKind.wrap .i64 (i4 + (1 : Int))))))))) else (bif (!b0) then (bif (decide (i1 < (Mach.down m))) then some (.ret (.bool false)) else (bif ((Sl.el (Sl.el sc (Int.toNat i4)) (Int.toNat a)) == (2 : Int)) then (bif (decide ((IntKind.wrap .i64 (i3 + (1 : Int))) > (Mach.service m))) then some (.ret (.bool false)) else (bif ((IntKind.wrap .i64 (i3 + (1 : Int))) == (Mach.service m)) then (L36x0 env F m a sc fu ((Sl.el (Sl.el sc (Int.toNat i4)) (Int.toNat a)) == (1 : Int)) (IntKind.wrap .i64 ((0 : Int) + (1 : Int))) (Mach.life m) (IntKind.wrap .i64 (i3 + (1 : Int))) (IntKind.wrap .i64 (i4 + (1 : Int)))) else (L36x0 env F m a sc fu ((Sl.el (Sl.el sc (Int.toNat i4)) (Int.toNat a)) == (1 : Int)) (IntKind.wrap .i64 ((0 : Int) + (1 : Int))) i2 (IntKind.wrap .i64 (i3 + (1 : Int))) (IntKind.wrap .i64 (i4 + (1 : Int)))))) else (bif (decide (i3 > (0 : Int))) then (bif (decide (i3 < (Mach.service m))) then some (.ret (.bool false)) else (bif ((Sl.el (Sl.el sc (Int.toNat i4)) (Int.toNat a)) == (1 : Int)) then (bif (decide ((IntKind.wrap .i64 (i2 - (1 : Int))) < (0 : Int))) then some (.ret (.bool false)) else (L36x0 env F m a sc fu ((Sl.el (Sl.el sc (Int.toNat i4)) (Int.toNat a)) == (1 : Int)) (IntKind.wrap .i64 ((0 : Int) + (1 : Int))) (IntKind.wrap .i64 (i2 - (1 : Int))) (0 : Int) (IntKind.wrap .i64 (i4 + (1 : Int))))) else (L36x0 env F m a sc fu ((Sl.el (Sl.el sc (Int.toNat i4)) (Int.toNat a)) == (1 : Int)) (IntKind.wrap .i64 ((0 : Int) + (1 : Int))) i2 (0 : Int) (IntKind.wrap .i64 (i4 + (1 : Int)))))) else (bif ((Sl.el (Sl.el sc (Int.toNat i4)) (Int.toNat a)) == (1 : Int)) then (bif (decide ((IntKind.wrap .i64 (i2 - (1 : Int))) < (0 : Int))) then some (.ret (.bool false)) else (L36x0 env F m a sc fu ((Sl.el (Sl.el sc (Int.toNat i4)) (Int.toNat a)) == (1 : Int)) (IntKind.wrap .i64 ((0 : Int) + (1 : Int))) (IntKind.wrap .i64 (i2 - (1 : Int))) (0 : Int) (IntKind.wrap .i64 (i4 + (1 : Int))))) else (L36x0 env F m a sc fu ((Sl.el (Sl.el sc (Int.toNat i4)) (Int.toNat a)) == (1 : Int)) (IntKind.wrap .i64 ((0 : Int) + (1 : Int))) i2 (0 : Int) (IntKind.wrap .i64 (i4 + (1 : Int)))))))) else (bif ((Sl.el (Sl.el sc (Int.toNat i4)) (Int.toNat a)) == (2 : Int)) then (bif (decide ((IntKind.wrap .i64 (i3 + (1 : Int))) > (Mach.service m))) then some (.ret (.bool false)) else (bif ((IntKind.wrap .i64 (i3 + (1 : Int))) == (Mach.service m)) then (L36x0 env F m a sc fu ((Sl.el (Sl.el sc (Int.toNat i4)) (Int.toNat a)) == (1 : Int)) (IntKind.wrap .i64 ((0 : Int) + (1 : Int))) (Mach.life m) (IntKind.wrap .i64 (i3 + (1 : Int))) (IntKind.wrap .i64 (i4 + (1 : Int)))) else (L36x0 env F m a sc fu ((Sl.el (Sl.el sc (Int.toNat i4)) (Int.toNat a)) == (1 : Int)) (IntKind.wrap .i64 ((0 : Int) + (1 : Int))) i2 (IntKind.wrap .i64 (i3 + (1 : Int))) (IntKind.wrap .i64 (i4 + (1 : Int)))))) else (bif (decide (i3 > (0 : Int))) then (bif (decide (i3 < (Mach.service m))) then some (.ret (.bool false)) else (bif ((Sl.el (Sl.el sc (Int.toNat i4)) (Int.toNat a)) == (1 : Int)) then (bif (decide ((IntKind.wrap .i64 (i2 - (1 : Int))) < (0 : Int))) then some (.ret (.bool false)) else (L36x0 env F m a sc fu ((Sl.el (Sl.el sc (Int.toNat i4)) (Int.toNat a)) == (1 : Int)) (IntKind.wrap .i64 ((0 : Int) + (1 : Int))) (IntKind.wrap .i64 (i2 - (1 : Int))) (0 : Int) (IntKind.wrap .i64 (i4 + (1 : Int))))) else (L36x0 env F m a sc fu ((Sl.el (Sl.el sc (Int.toNat i4)) (Int.toNat a)) == (1 : Int)) (IntKind.wrap .i64 ((0 : Int) + (1 : Int))) i2 (0 : Int) (IntKind.wrap .i64 (i4 + (1 : Int)))))) else (bif ((Sl.el (Sl.el sc (Int.toNat i4)) (Int.toNat a)) == (1 : Int)) then (bif (decide ((IntKind.wrap .i64 (i2 - (1 : Int))) < (0 : Int))) then some (.ret (.bool false)) else (L36x0 env F m a sc fu ((Sl.el (Sl.el sc (Int.toNat i4)) (Int.toNat a)) == (1 : Int)) (IntKind.wrap .i64 ((0 : Int) + (1 : Int))) (IntKind.wrap .i64 (i2 - (1 : Int))) (0 : Int) (IntKind.wrap .i64 (i4 + (1 : Int))))) else (L36x0 env F m a sc fu ((Sl.el (Sl.el sc (Int.toNat i4)) (Int.toNat a)) == (1 : Int)) (IntKind.wrap .i64 ((0 : Int) + (1 : Int))) i2 (0 : Int) (IntKind.wrap .i64 (i4 + (1 : Int))))))))) else (bif ((Sl.el (Sl.el sc (Int.toNat i4)) (Int.toNat a)) == (2 : Int)) then (bif (decide ((IntKind.wrap .i64 (i3 + (1 : Int))) > (Mach.service m))) then some (.ret (.bool false)) else (bif ((IntKind.wrap .i64 (i3 + (1 : Int))) == (Mach.service m)) then (L36x0 env F m a sc fu b0 (IntKind.wrap .i64 (i1 + (1 : Int))) (Mach.life m) (IntKind.wrap .i64 (i3 + (1 : Int))) (IntKind.wrap .i64 (i4 + (1 : Int)))) else (L36x0 env F m a sc fu b0 (IntKind.wrap .i64 (i1 + (1 : Int))) i2 (IntKind.wrap .i64 (i3 + (1 : Int))) (IntKind.wrap .i64 (i4 + (1 : Int)))))) else (bif (decide (i3 > (0 : Int))) then (bif (decide (i3 < (Mach.service m))) then some (.ret (.bool false)) else (bif ((Sl.el (Sl.el sc (Int.toNat i4)) (Int.toNat a)) == (1 : Int)) then (bif (decide ((IntKind.wrap .i64 (i2 - (1 : Int))) < (0 : Int))) then some (.ret (.bool false)) else (L36x0 env F m a sc fu b0 (IntKind.wrap .i64 (i1 + (1 : Int))) (IntKind.wrap .i64 (i2 - (1 : Int))) (0 : Int) (IntKind.wrap .i64 (i4 + (1 : Int))))) else (L36x0 env F m a sc fu b0 (IntKind.wrap .i64 (i1 + (1 : Int))) i2 (0 : Int) (IntKind.wrap .i64 (i4 + (1 : Int)))))) else (bif ((Sl.el (Sl.el sc (Int.toNat i4)) (Int.toNat a)) == (1 : Int)) then (bif (decide ((IntKind.wrap .i64 (i2 - (1 : Int))) < (0 : Int))) then some (.ret (.bool false)) else (L36x0 env F m a sc fu b0 (IntKind.wrap .i64 (i1 + (1 : Int))) (IntKind.wrap .i64 (i2 - (1 : Int))) (0 : Int) (IntKind.wrap .i64 (i4 + (1 : Int))))) else (L36x0 env F m a sc fu b0 (IntKind.wrap .i64 (i1 + (1 : Int))) i2 (0 : Int) (IntKind.wrap .i64 (i4 + (1 : Int)))))))) else none) else none) else none) else none) else some (.ret (.bool true))) := by kernel_rfl
noncomputable def L8x0 (env : Env) (F : Nat) (l : Sl Mach) (hs : Sl Hour) (sc : Sl (Sl Int)) (w : Sl Int) (fu : Nat) (i0 : Int) : Option Out := atLoop Try.prog (cfg F) env 8 [.r, .r, .r, .r, .r, .l, .r, .d] [] fu { tm := tmL 155 0 [(0, (sl eMach 10 l)), (1, (sl eHour 3 hs)), (2, (sl eIL 1 sc)), (3, (sl eInt 1 w)), (11, (i64 i0))], hp := [] }
noncomputable def L8x1 (env : Env) (F : Nat) (l : Sl Mach) (hs : Sl Hour) (sc : Sl (Sl Int)) (w : Sl Int) (fu : Nat) (i0 : Int) : Option Out := atLoop Try.prog (cfg F) env 8 [.r, .r, .r, .r, .r, .r, .l, .r, .d] [] fu { tm := tmL 155 0 [(0, (sl eMach 10 l)), (1, (sl eHour 3 hs)), (2, (sl eIL 1 sc)), (16, (i64 i0))], hp := [] }
noncomputable def L8x2 (env : Env) (F : Nat) (l : Sl Mach) (hs : Sl Hour) (sc : Sl (Sl Int)) (w : Sl Int) (m0 : Nat) (fu : Nat) (i0 : Int) (i1 : Int) (i2 : Int) : Option Out := atLoop Try.prog (cfg F) env 8 [.r, .r, .r, .r, .r, .r, .l, .r, .d, .d, .r, .l, .d, .r, .l, .r, .d] [m0] fu { tm := tmL 155 0 [(0, (sl eMach 10 l)), (1, (sl eHour 3 hs)), (2, (sl eIL 1 sc)), (16, (i64 i0)), (17, (i64 i1)), (18, (i64 i2))], hp := [] }
noncomputable def L8x3 (env : Env) (F : Nat) (l : Sl Mach) (hs : Sl Hour) (sc : Sl (Sl Int)) (w : Sl Int) (fu : Nat) (i0 : Int) : Option Out := atLoop Try.prog (cfg F) env 8 [.r, .r, .r, .r, .r, .r, .r, .l, .r, .d] [] fu { tm := tmL 155 0 [(0, (sl eMach 10 l)), (2, (sl eIL 1 sc)), (19, (i64 i0))], hp := [] }
theorem t8 (env : Env) (F : Nat) (l : Sl Mach) (hs : Sl Hour) (sc : Sl (Sl Int)) (w : Sl Int) : (evFun Try.prog (cfg F) env 8 [(sl eMach 10 l), (sl eHour 3 hs), (sl eIL 1 sc), (sl eInt 1 w)]) = (tkOut (env.pf 15 [(sl eMach 10 l)]) none (fun v6 => (tkBool v6 none fun b7 => (bif (!b7) then (tkOut (env.pf 16 []) none (fun v8 => (tkBool v8 none fun b9 => some (.ret (.bool b9)))) (fun p8 => (tkIfc p8 none fun t9 x10 => (bif (flatP (.iface t9 x10)) then some (.pan (.iface t9 x10)) else none)))) else (tkOut (env.pf 31 [(sl eHour 3 hs), (sl eIL 1 sc)]) none (fun v8 => (tkBool v8 none fun b9 => (bif (!b9) then (tkOut (env.pf 16 []) none (fun v10 => (tkBool v10 none fun b11 => some (.ret (.bool b11)))) (fun p10 => (tkIfc p10 none fun t11 x12 => (bif (flatP (.iface t11 x12)) then some (.pan (.iface t11 x12)) else none)))) else (bif (decide ((((Sl.len w) : Nat) : Int) > (40 : Int))) then (tkOut (env.pf 16 []) none (fun v10 => (tkBool v10 none fun b11 => some (.ret (.bool b11)))) (fun p10 => (tkIfc p10 none fun t11 x12 => (bif (flatP (.iface t11 x12)) then some (.pan (.iface t11 x12)) else none)))) else (tkOut (env.pf 33 [(sl eMach 10 l), (sl eHour 3 hs), (sl eIL 1 sc)]) none (fun v10 => (tkInt v10 none fun q11 n12 => (bif (decide (q11 = .i64)) then (bif (n12 != (0 : Int)) then (tkOut (env.pf 16 []) none (fun v13 => (tkBool v13 none fun b14 => some (.ret (.bool b14)))) (fun p13 => (tkIfc p13 none fun t14 x15 => (bif (flatP (.iface t14 x15)) then some (.pan (.iface t14 x15)) else none)))) else (bif ((((Sl.len w) : Nat) : Int) != (((Sl.len hs) : Nat) : Int)) then (tkOut (env.pf 16 []) none (fun v13 => (tkBool v13 none fun b14 => some (.ret (.bool b14)))) (fun p13 => (tkIfc p13 none fun t14 x15 => (bif (flatP (.iface t14 x15)) then some (.pan (.iface t14 x15)) else none)))) else (tkOut (env.pf 32 [(sl eMach 10 l), (sl eHour 3 hs), (sl eIL 1 sc)]) none (fun v13 => (tkTup v13 none fun l14 => (tkCons l14 none fun v15 r16 => (tkAgg v15 none fun l17 => (tkCons l17 none fun v18 r19 => (tkInt v18 none fun q20 n21 => (tkCons r19 none fun v22 r23 => (tkInt v22 none fun q24 n25 => (tkCons r23 none fun v26 r27 => (tkInt v26 none fun q28 n29 => (tkNil r27 none ((tkCons r16 none fun v30 r31 => (tkInt v30 none fun q32 n33 => (tkNil r31 none ((bif (decide (q32 = .i64)) then (bif (n33 != (0 : Int)) then some (.ret (.bool false)) else (bif (decide (q24 = .i64)) then (bif (n25 != (1 : Int)) then (tkOut (env.pf 16 []) none (fun v34 => (tkBool v34 none fun b35 => some (.ret (.bool b35)))) (fun p34 => (tkIfc p34 none fun t35 x36 => (bif (flatP (.iface t35 x36)) then some (.pan (.iface t35 x36)) else none)))) else (L8x0 env F l hs sc w F (0 : Int))) else none)) else none))))))))))))))))) (fun p13 => (tkIfc p13 none fun t14 x15 => (bif (flatP (.iface t14 x15)) then some (.pan (.iface t14 x15)) else none)))))) else none))) (fun p10 => (tkIfc p10 none fun t11 x12 => (bif (flatP (.iface t11 x12)) then some (.pan (.iface t11 x12)) else none)))))))) (fun p8 => (tkIfc p8 none fun t9 x10 => (bif (flatP (.iface t9 x10)) then some (.pan (.iface t9 x10)) else none))))))) (fun p6 => (tkIfc p6 none fun t7 x8 => (bif (flatP (.iface t7 x8)) then some (.pan (.iface t7 x8)) else none)))) := by kernel_rfl
theorem L8x0s (env : Env) (F : Nat) (l : Sl Mach) (hs : Sl Hour) (sc : Sl (Sl Int)) (w : Sl Int) (fu : Nat) (i0 : Int) : L8x0 env F l hs sc w (fu + 1) i0 = (bif (decide (i0 < (((Sl.len hs) : Nat) : Int))) then (bif (decide ((0 : Int) ≤ i0)) then (bif (decide (i0 < (((Sl.len w) : Nat) : Int))) then (bif (decide ((0 : Int) ≤ i0)) then (bif (decide (i0 < (((Sl.len hs) : Nat) : Int))) then (bif (decide ((Sl.el w (Int.toNat i0)) < (Span.lo (Hour.ratio (Sl.el hs (Int.toNat i0)))))) then (tkOut (env.pf 16 []) none (fun v8 => (tkBool v8 none fun b9 => some (.ret (.bool b9)))) (fun p8 => (tkIfc p8 none fun t9 x10 => (bif (flatP (.iface t9 x10)) then some (.pan (.iface t9 x10)) else none)))) else (bif (decide ((0 : Int) ≤ i0)) then (bif (decide (i0 < (((Sl.len w) : Nat) : Int))) then (bif (decide ((0 : Int) ≤ i0)) then (bif (decide (i0 < (((Sl.len hs) : Nat) : Int))) then (bif (decide ((Sl.el w (Int.toNat i0)) > (Span.hi (Hour.ratio (Sl.el hs (Int.toNat i0)))))) then (tkOut (env.pf 16 []) none (fun v8 => (tkBool v8 none fun b9 => some (.ret (.bool b9)))) (fun p8 => (tkIfc p8 none fun t9 x10 => (bif (flatP (.iface t9 x10)) then some (.pan (.iface t9 x10)) else none)))) else (bif (decide ((0 : Int) ≤ i0)) then (bif (decide (i0 < (((Sl.len sc) : Nat) : Int))) then (tkOut (env.pf 35 [(sl eInt 1 (Sl.el sc (Int.toNat i0)))]) none (fun v8 => (tkRow v8 none fun nl9 n10 wd11 g12 => (bif (decide ((0 : Int) ≤ i0)) then (bif (decide (i0 < (((Sl.len hs) : Nat) : Int))) then (bif (decide ((0 : Int) ≤ i0)) then (bif (decide (i0 < (((Sl.len w) : Nat) : Int))) then (tkOut (env.pf 17 [(sl eMach 10 l), (.row nl9 n10 wd11 g12), (i64 (Hour.flow (Sl.el hs (Int.toNat i0)))), (i64 (Sl.el w (Int.toNat i0)))]) none (fun v13 => (tkTup v13 none fun l14 => (tkCons l14 none fun v15 r16 => (tkRow v15 none fun nl17 n18 wd19 g20 => (tkCons r16 none fun v21 r22 => (tkRow v21 none fun nl23 n24 wd25 g26 => (tkCons r22 none fun v27 r28 => (tkInt v27 none fun q29 n30 => (tkCons r28 none fun v31 r32 => (tkInt v31 none fun q33 n34 => (tkNil r32 none ((bif (decide (q33 = .i64)) then (bif (n34 != (0 : Int)) then some (.ret (.bool false)) else (L8x0 env F l hs sc w fu (IntKind.wrap .i64 (i0 + (1 : Int))))) else none))))))))))))) (fun p13 => (tkIfc p13 none fun t14 x15 => (bif (flatP (.iface t14 x15)) then some (.pan (.iface t14 x15)) else none)))) else none) else none) else none) else none))) (fun p8 => (tkIfc p8 none fun t9 x10 => (bif (flatP (.iface t9 x10)) then none else none)))) else none) else none)) else none) else none) else none) else none)) else none) else none) else none) else none) else (L8x1 env F l hs sc w F (0 : Int))) := by kernel_rfl
theorem L8x1s (env : Env) (F : Nat) (l : Sl Mach) (hs : Sl Hour) (sc : Sl (Sl Int)) (w : Sl Int) (fu : Nat) (i0 : Int) : L8x1 env F l hs sc w (fu + 1) i0 = (bif (decide (i0 < (((Sl.len hs) : Nat) : Int))) then (L8x2 env F l hs sc w fu F i0 (0 : Int) (0 : Int)) else (L8x3 env F l hs sc w F (0 : Int))) := by kernel_rfl
theorem L8x2s (env : Env) (F : Nat) (l : Sl Mach) (hs : Sl Hour) (sc : Sl (Sl Int)) (w : Sl Int) (m0 : Nat) (fu : Nat) (i0 : Int) (i1 : Int) (i2 : Int) : L8x2 env F l hs sc w m0 (fu + 1) i0 i1 i2 = (bif (decide (i2 < (((Sl.len l) : Nat) : Int))) then (bif (decide ((0 : Int) ≤ i0)) then (bif (decide (i0 < (((Sl.len sc) : Nat) : Int))) then (bif (decide ((0 : Int) ≤ i2)) then (bif (decide (i2 < (((Sl.len (Sl.el sc (Int.toNat i0))) : Nat) : Int))) then (bif ((Sl.el (Sl.el sc (Int.toNat i0)) (Int.toNat i2)) == (2 : Int)) then (L8x2 env F l hs sc w m0 fu i0 (IntKind.wrap .i64 (i1 + (1 : Int))) (IntKind.wrap .i64 (i2 + (1 : Int)))) else (L8x2 env F l hs sc w m0 fu i0 i1 (IntKind.wrap .i64 (i2 + (1 : Int))))) else none) else none) else none) else none) else (bif (decide (i1 > (1 : Int))) then some (.ret (.bool false)) else (L8x1 env F l hs sc w m0 (IntKind.wrap .i64 (i0 + (1 : Int)))))) := by kernel_rfl
theorem L8x3s (env : Env) (F : Nat) (l : Sl Mach) (hs : Sl Hour) (sc : Sl (Sl Int)) (w : Sl Int) (fu : Nat) (i0 : Int) : L8x3 env F l hs sc w (fu + 1) i0 = (bif (decide (i0 < (((Sl.len l) : Nat) : Int))) then (bif (decide ((0 : Int) ≤ i0)) then (bif (decide (i0 < (((Sl.len l) : Nat) : Int))) then (tkOut (env.pf 36 [(.agg (eMach (Sl.el l (Int.toNat i0)))), (i64 i0), (sl eIL 1 sc)]) none (fun v8 => (tkBool v8 none fun b9 => (bif (!b9) then some (.ret (.bool false)) else (L8x3 env F l hs sc w fu (IntKind.wrap .i64 (i0 + (1 : Int))))))) (fun p8 => (tkIfc p8 none fun t9 x10 => (bif (flatP (.iface t9 x10)) then some (.pan (.iface t9 x10)) else none)))) else none) else none) else (tkOut (env.pf 16 []) none (fun v8 => (tkBool v8 none fun b9 => some (.ret (.bool b9)))) (fun p8 => (tkIfc p8 none fun t9 x10 => (bif (flatP (.iface t9 x10)) then some (.pan (.iface t9 x10)) else none))))) := by kernel_rfl
end Go.Sim.Pl


namespace Go.Sim.Pl
open Go.Proofs
theorem fitInt {k : IntKind} {c : V} (h : Fit (.int k) c) : ∃ n, c = .int k n ∧ k.min ≤ n ∧ n ≤ k.max := by
  cases h with
  | int h => exact ⟨_, rfl, h⟩
theorem fitL_nil {cs : List V} (h : FitL [] cs) : cs = [] := by
  have := h.1
  exact List.eq_nil_of_length_eq_zero this
theorem fitL_cons {s : Sh} {l : List Sh} {cs : List V} (h : FitL (s :: l) cs) : ∃ c cs', cs = c :: cs' ∧ Fit s c ∧ FitL l cs' := by
  obtain ⟨h1, h2⟩ := h
  cases cs with
  | nil => simp at h1
  | cons c cs' => exact ⟨c, cs', rfl, h2 0 s c rfl rfl, by simpa using h1, fun j s' c' g1 g2 => h2 (j + 1) s' c' (by simpa using g1) (by simpa using g2)⟩
theorem fitL_int {k : IntKind} {l : List Sh} {cs : List V} (h : FitL (.int k :: l) cs) : ∃ n cs', cs = .int k n :: cs' ∧ FitL l cs' := by
  obtain ⟨c, cs', rfl, h1, h2⟩ := fitL_cons h
  obtain ⟨n, rfl, _⟩ := fitInt h1
  exact ⟨n, cs', rfl, h2⟩
abbrev SlOk {α : Type} (s : Sl α) : Prop := s.len ≤ 140737488355328 ∧ (s.nl = true → s.len = 0)
theorem fitRow {α : Type} {e : α → List V} {P : α → Prop} {l : List Sh} (dec : ∀ cs, FitL l cs → ∃ a : α, cs = e a ∧ P a) {c : V} (h : Fit (.row l) c) : ∃ s : Sl α, c = sl e l.length s ∧ SlOk s ∧ ∀ i, P (s.el i) := by
  cases h with
  | row h hn hl hf =>
    rename_i nl len get
    have hx : ∀ i, ∃ a : α, get i = e a ∧ P a := fun i => dec _ ⟨hl i, hf i⟩
    refine ⟨⟨nl, len, fun i => (hx i).choose⟩, ?_, ⟨h, hn⟩, fun i => (hx i).choose_spec.2⟩
    show V.row nl len l.length get = V.row nl len l.length fun i => e (hx i).choose
    congr 1
    funext i
    exact (hx i).choose_spec.1
theorem fitL_row {α : Type} {e : α → List V} {P : α → Prop} {l r : List Sh} (dec : ∀ cs, FitL l cs → ∃ a : α, cs = e a ∧ P a) {cs : List V} (h : FitL (.row l :: r) cs) : ∃ (s : Sl α) (cs' : List V), cs = sl e l.length s :: cs' ∧ SlOk s ∧ (∀ i, P (s.el i)) ∧ FitL r cs' := by
  obtain ⟨c, cs', rfl, h1, h2⟩ := fitL_cons h
  obtain ⟨s, rfl, h3, h4⟩ := fitRow dec h1
  exact ⟨s, cs', rfl, h3, h4, h2⟩
theorem fitL_bool {l : List Sh} {cs : List V} (h : FitL (.bool :: l) cs) : ∃ n cs', cs = .bool n :: cs' ∧ FitL l cs' := by
  obtain ⟨c, cs', rfl, h1, h2⟩ := fitL_cons h
  cases h1 with
  | bool => exact ⟨_, cs', rfl, h2⟩
abbrev i8 : Sh := .int .i64
abbrev shRow : List Sh := [i8, i8, i8, i8]
abbrev shMach : List Sh := [i8, .row shRow, i8, i8, i8, i8, i8, i8, .bool, i8]
abbrev shHour : List Sh := [i8, i8, i8]
abbrev shSpan : List Sh := [i8, i8]
abbrev I64 (n : Int) : Prop := IntKind.i64.min ≤ n ∧ n ≤ IntKind.i64.max
theorem decInt (cs : List V) (h : FitL [i8] cs) : ∃ n : Int, cs = eInt n ∧ I64 n := by
  obtain ⟨c, cs', rfl, h1, h2⟩ := fitL_cons h
  obtain ⟨n, rfl, m1, m2⟩ := fitInt h1
  obtain rfl := fitL_nil h2
  refine ⟨n, rfl, ?_⟩
  exact ⟨m1, m2⟩
theorem decIL (cs : List V) (h : FitL [.row [i8]] cs) : ∃ s : Sl Int, cs = eIL s ∧ SlOk s := by
  obtain ⟨s, _, rfl, h1, _, h2⟩ := fitL_row decInt h
  obtain rfl := fitL_nil h2
  exact ⟨s, rfl, h1⟩
theorem decRow (cs : List V) (h : FitL shRow cs) : ∃ c : Row, cs = eRow c ∧ True := by
  obtain ⟨a0, _, rfl, h1⟩ := fitL_int h
  obtain ⟨a1, _, rfl, h2⟩ := fitL_int h1
  obtain ⟨a2, _, rfl, h3⟩ := fitL_int h2
  obtain ⟨a3, _, rfl, h4⟩ := fitL_int h3
  obtain rfl := fitL_nil h4
  exact ⟨⟨a0, a1, a2, a3⟩, rfl, trivial⟩
theorem decHour (cs : List V) (h : FitL shHour cs) : ∃ c : Hour, cs = eHour c ∧ True := by
  obtain ⟨a0, _, rfl, h1⟩ := fitL_int h
  obtain ⟨a1, _, rfl, h2⟩ := fitL_int h1
  obtain ⟨a2, _, rfl, h3⟩ := fitL_int h2
  obtain rfl := fitL_nil h3
  exact ⟨⟨a0, ⟨a1, a2⟩⟩, rfl, trivial⟩
theorem dcMach (cs : List V) (h : FitL shMach cs) : ∃ c : Mach, cs = eMach c ∧ SlOk c.rows := by
  obtain ⟨a0, _, rfl, h1⟩ := fitL_int h
  obtain ⟨rw, _, rfl, h0, _, h2⟩ := fitL_row decRow h1
  obtain ⟨a2, _, rfl, h3⟩ := fitL_int h2
  obtain ⟨a3, _, rfl, h4⟩ := fitL_int h3
  obtain ⟨a4, _, rfl, h5⟩ := fitL_int h4
  obtain ⟨a5, _, rfl, h6⟩ := fitL_int h5
  obtain ⟨a6, _, rfl, h7⟩ := fitL_int h6
  obtain ⟨a7, _, rfl, h8⟩ := fitL_int h7
  obtain ⟨a8, _, rfl, h9⟩ := fitL_bool h8
  obtain ⟨a9, _, rfl, h10⟩ := fitL_int h9
  obtain rfl := fitL_nil h10
  exact ⟨⟨a0, rw, a2, a3, a4, a5, a6, a7, a8, a9⟩, rfl, h0⟩
theorem own : ownKnob Try.prog.godebug = none := by kernel_rfl
end Go.Sim.Pl


namespace Go.Sim.Pl
open Go.Proofs
variable (F d : Nat)
end Go.Sim.Pl


namespace Go.Sim.Pl
open Go.Proofs
theorem dd {α : Type} [DecidableEq α] (a : α) : decide (a = a) = true := decide_eq_true rfl
variable (F d : Nat)
theorem inB_of {l : Sl Mach} {hs : Sl Hour} (hF : 140737488355330 < F) (hl : l.len ≤ 140737488355328) (hR : ∀ i, (l.el i).rows.len ≤ 140737488355328) (hh : hs.len ≤ 140737488355328) : InB l hs F :=
  ⟨⟨lenB hl, by omega⟩, fun i _ => ⟨lenB (hR i), by have := hR i; omega⟩, lenB hh, by omega⟩
theorem schB_of {sc : Sl (Sl Int)} (hF : 140737488355330 < F) (hs : sc.len ≤ 140737488355328) (hw : ∀ i, (sc.el i).len ≤ 140737488355328) : SchB sc F :=
  ⟨⟨lenB hs, by omega⟩, fun i _ => ⟨lenB (hw i), by have := hw i; omega⟩⟩
end Go.Sim.Pl


namespace Go.Sim.Pl
open Go.Proofs
def sumN (l : Sl Mach) (sc : Nat → Sl Int) : Nat → Int
  | 0 => 0
  | t + 1 => sumN l sc t + startN (sc t) (stAt l sc t) l.len
def sumE (l : Sl Mach) (sc : Nat → Sl Int) : Nat → Int
  | 0 => 0
  | t + 1 => sumE l sc t + startE l (sc t) (stAt l sc t) l.len
def sumLo (l : Sl Mach) (hs : Nat → Hour) (sc : Nat → Sl Int) : Nat → Int
  | 0 => 0
  | t + 1 => sumLo l hs sc t + (hourE l (sc t) (hs t)).1
def sumHi (l : Sl Mach) (hs : Nat → Hour) (sc : Nat → Sl Int) : Nat → Int
  | 0 => 0
  | t + 1 => sumHi l hs sc t + (hourE l (sc t) (hs t)).2
variable (F d : Nat)
section
variable {l : Sl Mach} (hl : PlantOk l) {hs : Sl Hour} (hh : HoursOk hs) (h24 : hs.len ≤ 24) {sc : Sl (Sl Int)} (hsc : SchedOk l hs.len sc) (hF : 1000 < F)
include hl hh h24 hsc hF
end
section
variable {l : Sl Mach} (hl : PlantOk l) {hs : Sl Hour} (hh : HoursOk hs) (h24 : hs.len ≤ 24) {sc : Sl (Sl Int)} (hsc : SchedOk l hs.len sc) (hF : 2000 < F)
include hl hF
include hh h24 hsc
end
end Go.Sim.Pl


namespace Go.Sim.Pl
open Go.Proofs
variable (F d : Nat)
end Go.Sim.Pl


namespace Go.Sim.Pl
open Go.Proofs
abbrev mst (l : Sl Mach) (x : Int) (z : Nat) : Int := (rowAt (l.el z) x).most
abbrev inK (l : Sl Mach) (r : Nat → Bool) (k : Int) (i : Nat) : Prop := (l.el i).kind = k ∧ r i = true
structure KindOk (l : Sl Mach) (r : Nat → Bool) (f x k : Int) (w : Nat → Int) : Prop where
  lim : ∀ i, i < l.len → inK l r k i → 0 ≤ w i ∧ w i ≤ mst l x i
  all : sumP (inK l r k) w l.len = f ∨ (sumP (inK l r k) w l.len < f ∧ ∀ i, i < l.len → inK l r k i → w i = mst l x i)
  low : (∃ m, m < l.len ∧ inK l r k m ∧ (rowAt (l.el m) x).least < w m) → ∀ i, i < l.len → inK l r k i → (rowAt (l.el i) x).least ≤ w i
  full : ∀ i m, i < l.len → m < l.len → inK l r k i → inK l r k m → (rowAt (l.el i) x).energy < (rowAt (l.el m) x).energy → (rowAt (l.el m) x).least < w m → w i = mst l x i
abbrev CarOk (l : Sl Mach) (r : Nat → Bool) (f x : Int) (w : Nat → Int) : Prop := (∀ i, i < l.len → (0 ≤ w i ∧ w i ≤ mst l x i) ∧ (r i = false → w i ≤ 0)) ∧ ∀ k : Int, 1 ≤ k ∧ k ≤ 3 → thereS l.el k l.len = true → sumP (fun i => (l.el i).kind = k) w l.len = f
abbrev prcS (l : Sl Mach) (r : Nat → Bool) (x k : Int) (w : Nat → Int) : Int := maxP (fun i => (l.el i).kind = k ∧ r i = true ∧ w i > (rowAt (l.el i) x).least) (fun i => (rowAt (l.el i) x).energy) l.len
end Go.Sim.Pl


namespace Go.Sim.Pl
open Go.Proofs
theorem rowR_congr {m : Mach} {x y : Int} : ∀ j i, (∀ k, i ≤ k → k < i + j → ((m.rows.el k).ratio ≥ x ↔ (m.rows.el k).ratio ≥ y)) → rowR m x j i = rowR m y j i
  | 0, _, _ => rfl
  | j + 1, i, h => by
    have ih := rowR_congr (m := m) (x := x) (y := y) j (i + 1) (fun k h1 h2 => h k (by omega) (by omega))
    have h0 := h i (by omega) (by omega)
    simp only [rowR, ih]
    by_cases h1 : (m.rows.el i).ratio ≥ x
    · rw [if_pos h1, if_pos (h0.1 h1)]
    · rw [if_neg h1, if_neg (fun h => h1 (h0.2 h))]
theorem ratR_mem {m : Mach} {s : Span} {k : Nat} (h : s.lo < (m.rows.el k).ratio + 1 ∧ (m.rows.el k).ratio + 1 ≤ s.hi) : ∀ j i, i ≤ k → k < i + j → (m.rows.el k).ratio + 1 ∈ ratR m s j i
  | 0, i, h1, h2 => by omega
  | j + 1, i, h1, h2 => by
    simp only [ratR, List.mem_append]
    rcases Nat.eq_or_lt_of_le h1 with h3 | h3
    · subst h3
      exact .inl (by rw [if_pos h]; simp)
    · exact .inr (ratR_mem h j (i + 1) (by omega) (by omega))
theorem ratM_mem {l : Sl Mach} {s : Span} {a : Nat} {x : Int} (h : x ∈ ratR (l.el a) s (l.el a).rows.len 0) : ∀ j i, i ≤ a → a < i + j → x ∈ ratM l s j i
  | 0, i, h1, h2 => by omega
  | j + 1, i, h1, h2 => by
    simp only [ratM, List.mem_append]
    rcases Nat.eq_or_lt_of_le h1 with h3 | h3
    · subst h3
      exact .inl h
    · exact .inr (ratM_mem h j (i + 1) (by omega) (by omega))
theorem last_le {x : Int} : ∀ (L : List Int), (∃ z ∈ L, z ≤ x) → ∃ y ∈ L, y ≤ x ∧ ∀ z ∈ L, z ≤ x → z ≤ y
  | [], h => by obtain ⟨z, hz, _⟩ := h; simp at hz
  | a :: L, h => by
    by_cases h1 : ∃ z ∈ L, z ≤ x
    · obtain ⟨y, hy, hyx, hm⟩ := last_le L h1
      by_cases h2 : a ≤ x ∧ y ≤ a
      · refine ⟨a, by simp, h2.1, fun z hz hzx => ?_⟩
        rcases List.mem_cons.1 hz with h3 | h3
        · omega
        · have := hm z h3 hzx; omega
      · refine ⟨y, by simp [hy], hyx, fun z hz hzx => ?_⟩
        rcases List.mem_cons.1 hz with h3 | h3
        · subst h3; omega
        · exact hm z h3 hzx
    · obtain ⟨z, hz, hzx⟩ := h
      rcases List.mem_cons.1 hz with h3 | h3
      · refine ⟨a, by simp, by omega, fun w hw hwx => ?_⟩
        rcases List.mem_cons.1 hw with h4 | h4
        · omega
        · exact absurd ⟨w, h4, hwx⟩ h1
      · exact absurd ⟨z, h3, hzx⟩ h1
theorem rat_cover {l : Sl Mach} {s : Span} {x : Int} (hx : s.lo ≤ x ∧ x ≤ s.hi) : ∃ y ∈ ratL l s, ∀ i, i < l.len → rowAt (l.el i) x = rowAt (l.el i) y := by
  obtain ⟨y, hy, hyx, hm⟩ := last_le (x := x) (ratL l s) ⟨s.lo, by simp [ratL], hx.1⟩
  have hlo := hm s.lo (by simp [ratL]) hx.1
  refine ⟨y, hy, fun i hi => rowR_congr _ _ fun k _ hk => ⟨fun h => by omega, fun h => ?_⟩⟩
  by_cases h1 : ((l.el i).rows.el k).ratio ≥ x
  · exact h1
  · exfalso
    have hin : ((l.el i).rows.el k).ratio + 1 ∈ ratL l s := by
      unfold ratL
      refine List.mem_cons_of_mem _ (ratM_mem (a := i) (ratR_mem (k := k) ⟨by omega, by omega⟩ _ 0 (by omega) (by omega)) _ 0 (by omega) (by omega))
    have := hm _ hin (by omega)
    omega
theorem mostS_congr {l : Sl Mach} {r : Nat → Bool} {x y k : Int} : ∀ n, (∀ i, i < n → rowAt (l.el i) x = rowAt (l.el i) y) → mostS l.el r x k n = mostS l.el r y k n
  | 0, _ => rfl
  | n + 1, h => by
    have ih := mostS_congr (l := l) (r := r) (x := x) (y := y) (k := k) n (fun i hi => h i (by omega))
    simp only [mostS, ih, h n (by omega)]
theorem lacks_congr {l : Sl Mach} {r : Nat → Bool} {f x y : Int} (h : ∀ i, i < l.len → rowAt (l.el i) x = rowAt (l.el i) y) : lacks l r f x = lacks l r f y := by
  have hk : ∀ k, shortK l.el r f x k l.len = shortK l.el r f y k l.len := fun k => by
    unfold shortK
    rw [mostS_congr l.len h]
  unfold lacks
  simp only [lackK, hk]
theorem fails_iff {l : Sl Mach} {r : Nat → Bool} {f : Int} {s : Span} (hs : RatioOk s) : failsB l r f (ratL l s) = true ↔ ∃ x, (s.lo ≤ x ∧ x ≤ s.hi) ∧ lacks l r f x ≠ 0 := by
  unfold failsB
  rw [List.any_eq_true]
  constructor
  · rintro ⟨x, hx, h⟩
    rw [decide_eq_true_iff] at h
    exact ⟨x, ratL_in hs x hx, by omega⟩
  · rintro ⟨x, hx, h⟩
    obtain ⟨y, hy, he⟩ := rat_cover (l := l) hx
    refine ⟨y, hy, ?_⟩
    rw [decide_eq_true_iff, ← lacks_congr he]
    have := lacks_in l r f x
    omega
theorem short_0 {l : Sl Mach} {r : Nat → Bool} {f : Int} {s : Span} (hs : RatioOk s) : shortest l r f s = 0 ↔ ∀ x, s.lo ≤ x → x ≤ s.hi → lacks l r f x = 0 := by
  have h := shortest_0 l r f s
  rw [fails_iff hs] at h
  constructor
  · intro h0 x h1 h2
    by_cases hk : lacks l r f x = 0
    · exact hk
    · exact absurd h0 (h.2 ⟨x, ⟨h1, h2⟩, hk⟩)
  · intro ha
    by_cases hk : shortest l r f s = 0
    · exact hk
    · obtain ⟨x, hx, hn⟩ := h.1 hk
      exact absurd (ha x hx.1 hx.2) hn
variable (F d : Nat)
section
variable {l : Sl Mach} {r : Sl Bool} {f : Int} (h4 : RunOk l r f) (hF : 2000 < F) {s : Span} (hs : RatioOk s) (a x : Int) (q16 : (E F (d + 42)).pf 16 [] = some (.ret (.bool true)))
include h4 hF hs q16
end
end Go.Sim.Pl


namespace Go.Sim.Pl
open Go.Proofs
theorem play_fine {l : Sl Mach} {hs : Nat → Hour} {sc : Nat → Sl Int} : ∀ (j t : Nat) (lo hi n : Int), (playR l hs sc j t lo hi n).rule = 1 → ∀ k, t ≤ k → k < t + j → (faultS l (stAt l sc k) (sc k) (hs k)).1 = 1 := by
  intro j
  induction j with
  | zero => intro t lo hi n _ k h1 h2; omega
  | succ j ih =>
    intro t lo hi n h k h1 h2
    simp only [playR] at h
    by_cases hr : (faultS l (stAt l sc t) (sc t) (hs t)).1 = 1
    · rw [if_neg (fun hh => hh hr)] at h
      rcases Nat.eq_or_lt_of_le h1 with h3 | h3
      · subst h3; exact hr
      · exact ih (t + 1) _ _ _ h k (by omega) (by omega)
    · rw [if_pos hr] at h
      exact absurd h hr
theorem playS_fine {l : Sl Mach} {hs : Sl Hour} {sc : Sl (Sl Int)} (h : (playS l hs sc).rule = 1) {k : Nat} (hk : k < hs.len) : (faultS l (stAt l sc.el k) (sc.el k) (hs.el k)).1 = 1 :=
  play_fine hs.len 0 0 0 0 h k (by omega) (by omega)
theorem serv_all {l : Sl Mach} (hl : PlantOk l) {hs : Nat → Hour} {sc : Nat → Sl Int} {n : Nat} (h : ∀ k, k < n → (faultS l (stAt l sc k) (sc k) (hs k)).1 = 1) : ∀ t, t ≤ n → ServOk l (stAt l sc t)
  | 0, _ => serv_0 hl sc
  | t + 1, ht => serv_next hl (serv_all hl h t (by omega)) fun i hi => ((fault_fine (h t (by omega))).1 i hi).2.2.1
variable (F d : Nat)
section
variable {l : Sl Mach} (hl : PlantOk l) {hs : Sl Hour} (hh : HoursOk hs) (h24 : hs.len ≤ 24) {sc : Sl (Sl Int)} (hsc : SchedOk l hs.len sc) (hF : 2000 < F) (hfine : ∀ k, k < hs.len → (faultS l (stAt l sc.el k) (sc.el k) (hs.el k)).1 = 1)
include hl hh h24 hsc hF hfine
theorem l36 {a : Nat} (ha : a < l.len) : ∀ j t fu, t + j = hs.len → j < fu → L36x0 (E F d) F (l.el a) a sc fu (stAt l sc.el t a).runs (stAt l sc.el t a).since (stAt l sc.el t a).left (stAt l sc.el t a).served t = some (.ret (.bool true)) := by
  have hscl := hsc.2
  intro j
  induction j with
  | zero =>
    intro t fu h hf
    obtain ⟨fu, rfl⟩ : ∃ k, fu = k + 1 := ⟨fu - 1, by omega⟩
    rw [L36x0s, decide_eq_false (by omega), pF]
  | succ j ih =>
    intro t fu h hf
    obtain ⟨fu, rfl⟩ : ∃ k, fu = k + 1 := ⟨fu - 1, by omega⟩
    have hS : IntKind.i64.wrap ((t : Int) + 1) = ((t + 1 : Nat) : Int) := wrS (by omega)
    have hb := stAt_in hl sc.el ha t
    obtain ⟨u1, u2, u3, _, u5⟩ := (fault_fine (hfine t (by omega))).1 a ha
    have hv := serv_all hl hfine t (by omega) a ha
    have hm := hl.1 a ha
    have hw := (hsc.1 t (by omega)).1
    have e := ih (t + 1) fu (by omega) (by omega)
    simp only [stAt, afterS] at e
    rw [L36x0s]
    simp (disch := omega) only [decide_eq_true, pT, Int.toNat_natCast, hS]
    generalize stAt l sc.el t a = s at *
    generalize (sc.el t).el a = x at *
    have w1 : IntKind.i64.wrap (0 + 1) = 1 := by decide
    have w2 : IntKind.i64.wrap (s.since + 1) = s.since + 1 := wr (by omega)
    have w3 : IntKind.i64.wrap (s.served + 1) = s.served + 1 := wr (by omega)
    have w4 : IntKind.i64.wrap (s.left - 1) = s.left - 1 := wr (by omega)
    have w5 : IntKind.i64.wrap 1 = 1 := by decide
    simp only [w1, w2, w3, w4, w5]
    unfold upB at u1
    unfold downB at u2
    unfold cutB at u3
    unfold wornB at u5
    by_cases x1 : x = 1
    · subst x1
      simp only [show ((1 : Int) == 1) = true from rfl, show ((1 : Int) == 2) = false from rfl, show ((1 : Int) != 1) = false from rfl, cond_true, cond_false, pT, pF, Bool.false_and, Bool.true_and, Bool.and_false] at u1 u2 u3 u5 e ⊢
      rw [decide_eq_false_iff_not] at u5
      have k1 : decide (s.left - 1 < 0) = false := decide_eq_false (by omega)
      have k2 : s.served > 0 → decide (s.served < (l.el a).service) = false := fun hp => by
        rw [decide_eq_true hp, Bool.true_and] at u3
        have := hv.2.2.1 (by simpa using u3)
        exact decide_eq_false (by omega)
      cases hr : s.runs with
      | true =>
        simp only [hr, beq_self_eq_true, Bool.not_true, cond_true, cond_false, pT, pF, k1] at e ⊢
        by_cases hp : s.served > 0
        · rw [decide_eq_true hp, pT, k2 hp, pF]; exact e
        · rw [decide_eq_false hp, pF]; exact e
      | false =>
        simp only [hr, show (true == false) = false from rfl, Bool.not_false, Bool.true_and, cond_true, cond_false, pT, pF, k1] at u2 e ⊢
        rw [u2]
        simp only [pF]
        by_cases hp : s.served > 0
        · rw [decide_eq_true hp, pT, k2 hp, pF]; exact e
        · rw [decide_eq_false hp, pF]; exact e
    · have x1' : (x == 1) = false := by simp [x1]
      have x1'' : (x != 1) = true := by simp [x1]
      by_cases x2 : x = 2
      · subst x2
        simp only [x1', x1'', show ((2 : Int) == 2) = true from rfl, cond_true, cond_false, pT, pF, Bool.false_and, Bool.true_and, Bool.and_false] at u1 u2 u3 u5 e ⊢
        have k3 : decide (s.served + 1 > (l.el a).service) = false := decide_eq_false (by
          have : ¬ s.served = (l.el a).service := fun hq => by rw [hv.2.2.2 hq] at u3; exact absurd u3 (by decide)
          omega)
        simp only [k3, pF]
        cases hr : s.runs with
        | true =>
          simp only [hr, show (false == true) = false from rfl, Bool.not_false, Bool.true_and, cond_true, cond_false, pT, pF] at u1 e ⊢
          rw [u1]
          simp only [pF, Bool.not_true]
          cases hc : (s.served + 1 == (l.el a).service) with
          | true => rw [hc, cond_true] at e; rw [pT]; exact e
          | false => rw [hc, cond_false] at e; rw [pF]; exact e
        | false =>
          simp only [hr, beq_self_eq_true, Bool.not_true, cond_true, cond_false, pT, pF] at e ⊢
          cases hc : (s.served + 1 == (l.el a).service) with
          | true => rw [hc, cond_true] at e; rw [pT]; exact e
          | false => rw [hc, cond_false] at e; rw [pF]; exact e
      · have x2' : (x == 2) = false := by simp [x2]
        simp only [x1', x1'', x2', cond_true, cond_false, pT, pF, Bool.false_and, Bool.true_and, Bool.and_false] at u1 u2 u3 u5 e ⊢
        have k2 : s.served > 0 → decide (s.served < (l.el a).service) = false := fun hp => by
          rw [decide_eq_true hp, Bool.true_and] at u3
          have := hv.2.2.1 (by simpa using u3)
          exact decide_eq_false (by omega)
        cases hr : s.runs with
        | true =>
          simp only [hr, show (false == true) = false from rfl, Bool.not_false, Bool.true_and, cond_true, cond_false, pT, pF] at u1 e ⊢
          rw [u1]
          simp only [pF, Bool.not_true]
          by_cases hp : s.served > 0
          · rw [decide_eq_true hp, pT, k2 hp, pF]; exact e
          · rw [decide_eq_false hp, pF]; exact e
        | false =>
          simp only [hr, beq_self_eq_true, Bool.not_true, cond_true, cond_false, pT, pF] at e ⊢
          by_cases hp : s.served > 0
          · rw [decide_eq_true hp, pT, k2 hp, pF]; exact e
          · rw [decide_eq_false hp, pF]; exact e
theorem s36 {a : Nat} (ha : a < l.len) : (E F (d + 1)).pf 36 [.agg (eMach (l.el a)), .int .i64 a, sl eIL 1 sc] = some (.ret (.bool true)) := by
  rw [E_pf, t36]
  exact l36 F d hl hh h24 hsc hF hfine ha hs.len 0 F (by omega) (by omega)
theorem l8x3 (w : Sl Int) (q16 : (E F (d + 42)).pf 16 [] = some (.ret (.bool true))) : ∀ j i fu, i + j = l.len → j < fu → L8x3 (E F (d + 42)) F l hs sc w fu i = some (.ret (.bool true)) := by
  have hl2 := hl.2
  intro j
  induction j with
  | zero =>
    intro i fu h hf
    obtain ⟨fu, rfl⟩ : ∃ k, fu = k + 1 := ⟨fu - 1, by omega⟩
    rw [L8x3s, decide_eq_false (by omega), pF]
    simp only [q16, tkOut_ret, tkBool_b]
  | succ j ih =>
    intro i fu h hf
    obtain ⟨fu, rfl⟩ : ∃ k, fu = k + 1 := ⟨fu - 1, by omega⟩
    have hS : IntKind.i64.wrap ((i : Int) + 1) = ((i + 1 : Nat) : Int) := wrS (by omega)
    have q36 := s36 F (d + 41) hl hh h24 hsc hF hfine (a := i) (by omega)
    rw [L8x3s]
    simp (disch := omega) only [decide_eq_true, pT, pF, Int.toNat_natCast, hS, q36, tkOut_ret, tkBool_b, Bool.not_true]
    exact ih (i + 1) fu (by omega) (by omega)
theorem l8x2 (w : Sl Int) (m0 t : Nat) (ht : t < hs.len) (K : L8x1 (E F (d + 42)) F l hs sc w m0 ((t + 1 : Nat) : Int) = some (.ret (.bool true))) : ∀ j i fu, i + j = l.len → j < fu → L8x2 (E F (d + 42)) F l hs sc w m0 fu t (bif busyB (sc.el t).el i then 1 else 0) i = some (.ret (.bool true)) := by
  have hl2 := hl.2
  have hscl := hsc.2
  have hw := (hsc.1 t (by omega)).1
  have hT : IntKind.i64.wrap ((t : Int) + 1) = ((t + 1 : Nat) : Int) := wrS (by omega)
  have hf := (fault_fine (hfine t ht)).1
  intro j
  induction j with
  | zero =>
    intro i fu h hf
    obtain ⟨fu, rfl⟩ : ∃ k, fu = k + 1 := ⟨fu - 1, by omega⟩
    rw [L8x2s, decide_eq_false (by omega), pF, hT]
    cases busyB (sc.el t).el i with
    | true => rw [cond_true, show decide ((1 : Int) > 1) = false from rfl, pF]; exact K
    | false => rw [cond_false, show decide ((0 : Int) > 1) = false from rfl, pF]; exact K
  | succ j ih =>
    intro i fu h hf'
    obtain ⟨fu, rfl⟩ : ∃ k, fu = k + 1 := ⟨fu - 1, by omega⟩
    have hS : IntKind.i64.wrap ((i : Int) + 1) = ((i + 1 : Nat) : Int) := wrS (by omega)
    have hc := (hf i (by omega)).2.2.2.1
    have e := ih (i + 1) fu (by omega) (by omega)
    unfold crewB at hc
    simp only [busyB] at e
    rw [L8x2s]
    simp (disch := omega) only [decide_eq_true, pT, Int.toNat_natCast, hS]
    cases h2 : ((sc.el t).el i == 2) with
    | true =>
      rw [h2, Bool.and_true] at hc
      rw [hc, h2] at e
      rw [pT, hc]
      exact e
    | false =>
      rw [h2, Bool.or_false] at e
      rw [pF]
      exact e
theorem l8x1 (w : Sl Int) (q16 : (E F (d + 42)).pf 16 [] = some (.ret (.bool true))) : ∀ j t fu, t + j = hs.len → j < fu → L8x1 (E F (d + 42)) F l hs sc w fu t = some (.ret (.bool true)) := by
  have hl2 := hl.2
  intro j
  induction j with
  | zero =>
    intro t fu h hf
    obtain ⟨fu, rfl⟩ : ∃ k, fu = k + 1 := ⟨fu - 1, by omega⟩
    rw [L8x1s, decide_eq_false (by omega), pF]
    exact l8x3 F d hl hh h24 hsc hF hfine w q16 l.len 0 F (by omega) (by omega)
  | succ j ih =>
    intro t fu h hf
    obtain ⟨fu, rfl⟩ : ∃ k, fu = k + 1 := ⟨fu - 1, by omega⟩
    rw [L8x1s, decide_eq_true (by omega), pT]
    exact l8x2 F d hl hh h24 hsc hF hfine w fu t (by omega) (ih (t + 1) fu (by omega) (by omega)) l.len 0 F (by omega) (by omega)
theorem l8x0 (w : Sl Int) (hwl : w.len = hs.len) (q16 : (E F (d + 42)).pf 16 [] = some (.ret (.bool true))) : ∀ j t fu, t + j = hs.len → j < fu → L8x0 (E F (d + 42)) F l hs sc w fu t = some (.ret (.bool true)) := by
  have hl2 := hl.2
  have hscl := hsc.2
  intro j
  induction j with
  | zero =>
    intro t fu h hf
    obtain ⟨fu, rfl⟩ : ∃ k, fu = k + 1 := ⟨fu - 1, by omega⟩
    rw [L8x0s, decide_eq_false (by omega), pF]
    exact l8x1 F d hl hh h24 hsc hF hfine w q16 hs.len 0 F (by omega) (by omega)
  | succ j ih =>
    intro t fu h hf
    obtain ⟨fu, rfl⟩ : ∃ k, fu = k + 1 := ⟨fu - 1, by omega⟩
    have hS : IntKind.i64.wrap ((t : Int) + 1) = ((t + 1 : Nat) : Int) := wrS (by omega)
    have hw := (hsc.1 t (by omega)).1
    have hho := hh t (by omega)
    have e := ih (t + 1) fu (by omega) (by omega)
    rw [L8x0s]
    simp (disch := omega) only [decide_eq_true, pT, Int.toNat_natCast]
    by_cases h1 : w.el t < (hs.el t).ratio.lo
    · simp only [decide_eq_true h1, pT, q16, tkOut_ret, tkBool_b]
    rw [decide_eq_false h1, pF]
    by_cases h2 : w.el t > (hs.el t).ratio.hi
    · simp only [decide_eq_true h2, pT, q16, tkOut_ret, tkBool_b]
    rw [decide_eq_false h2, pF]
    have q35 := s35 F (d + 41) (sc.el t) (by omega) (by omega) (by omega)
    have hk := (short_0 hho.2).1 (fault_fine (hfine t (by omega))).2 (w.el t) (by omega) (by omega)
    have hro : RunOk l (runsS (sc.el t)) (hs.el t).flow := ⟨hl, hw, hho.1⟩
    have q17 := s17xok F (d + 32) (r := runsS (sc.el t)) hro hF (x := w.el t) (by omega) hk
    simp only [q35, q17, tkOut_ret, tkRow_r, tkTup_t, tkCons_c, tkInt_i, tkNil_n, dd, decide_true, pT, pF, show ((0 : Int) != 0) = false from rfl, hS]
    exact e
end
theorem law8 (hF : 140737488355330 < F) (l : Sl Mach) (hs : Sl Hour) (sc : Sl (Sl Int)) (w : Sl Int) (hl : l.len ≤ 140737488355328) (hR : ∀ i, (l.el i).rows.len ≤ 140737488355328) (hh : hs.len ≤ 140737488355328) (hsc : sc.len ≤ 140737488355328) (hw : ∀ i, (sc.el i).len ≤ 140737488355328) :
    (E F (d + 43)).pf 8 [sl eMach 10 l, sl eHour 3 hs, sl eIL 1 sc, sl eInt 1 w] = some (.ret (.bool true)) := by
  have q16 := s16 F d (by omega)
  have q15 := s15 F (d + 41) l (lenB hl) (by omega)
  have hB := inB_of F hF hl hR hh
  have hS := schB_of F hF hsc hw
  have q31 := s31 F (d + 41) hs sc hS.1.1 hS.1.2
  have q32 := s32 F (d + 30) l hs sc (by omega) hB hS
  have q33 := s33 F (d + 38) l hs sc hB hS
  rw [E_pf, t8]
  simp only [q15, q16, q31, q33, tkOut_ret, tkBool_b]
  by_cases h1 : ShortP l
  case neg => rw [decide_eq_false h1, Bool.not_false, pT]
  rw [decide_eq_true h1, Bool.not_true, pF]
  by_cases h2 : BriefP hs sc
  case neg => rw [decide_eq_false h2, Bool.not_false, pT]
  rw [decide_eq_true h2, Bool.not_true, pF]
  by_cases h4 : (w.len : Int) > 40
  · rw [decide_eq_true h4, pT]
  rw [decide_eq_false h4, pF]
  simp only [tkInt_i, dd, decide_true, pT]
  by_cases h3 : errS l hs sc = 0
  case neg => rw [show (errS l hs sc != 0) = true by simp [h3], pT]
  rw [h3, show ((0 : Int) != 0) = false from rfl, pF]
  by_cases h5 : w.len = hs.len
  case neg => rw [show ((w.len : Int) != (hs.len : Int)) = true by rw [bne_iff_ne]; omega, pT]
  rw [h5, bne_self_eq_false, pF]
  rw [if_pos h3] at q32
  obtain ⟨a1, a2, a3, a4⟩ := errS_0 h3
  simp only [q32, tkOut_ret, tkTup_t, tkCons_c, tkAgg_a, tkInt_i, tkNil_n, dd, decide_true, pT, pF, show ((0 : Int) != 0) = false from rfl]
  by_cases hr : (playS l hs sc).rule = 1
  · rw [hr, show ((1 : Int) != 1) = false from rfl, pF]
    exact l8x0 F d a1 a2 a3 a4 (by omega) (fun k hk => playS_fine hr hk) w h5 q16 hs.len 0 F (by omega) (by omega)
  · rw [show ((playS l hs sc).rule != 1) = true by simp [hr], pT]
end Go.Sim.Pl
