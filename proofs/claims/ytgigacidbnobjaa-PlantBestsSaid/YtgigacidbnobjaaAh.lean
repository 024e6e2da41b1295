import Derived.Test.YtgigacidbnobjaaAg
import Derived.KernelRfl
import Derived.Test.YtgigacidbnobjaaRows
set_option linter.unusedVariables false
set_option linter.unusedSimpArgs false
set_option linter.unusedSectionVars false
set_option maxRecDepth 100000
namespace Go.Sim.Pl
open Go.Proofs
theorem t45 (env : Env) (F : Nat) (a : Sl (Sl Int)) (x : Int) (n : Int) (b : Sl (Sl Int)) (y : Int) (k : Int) : (evFun Try.prog (cfg F) env 45 [(sl eIL 1 a), (i64 x), (i64 n), (sl eIL 1 b), (i64 y), (i64 k)]) = (bif (x != y) then some (.ret (.bool (decide (x < y)))) else (bif (n != k) then some (.ret (.bool (decide (n < k)))) else (tkOut (env.pf 79 [(sl eIL 1 a), (sl eIL 1 b)]) none (fun v8 => (tkBool v8 none fun b9 => some (.ret (.bool b9)))) pK))) := by kernel_rfl
noncomputable def L67x0 (env : Env) (F : Nat) (l : Sl Mach) (sc : Sl (Sl Int)) (fu : Nat) (i0 : Int) (i1 : Int) (i2 : Int) : Option Out := atLoop Try.prog (cfg F) env 67 [.r, .r, .l, .r, .d] [] fu { tm := tmL 53 0 [(0, (sl eMach 10 l)), (1, (sl eIL 1 sc)), (6, (i64 i0)), (7, (i64 i1)), (8, (i64 i2))], hp := [] }
noncomputable def L67x1 (env : Env) (F : Nat) (l : Sl Mach) (sc : Sl (Sl Int)) (m0 : Nat) (fu : Nat) (i0 : Int) (i1 : Int) (i2 : Int) (i3 : Int) : Option Out := atLoop Try.prog (cfg F) env 67 [.r, .r, .l, .r, .d, .d, .r, .l, .d, .r, .d] [m0] fu { tm := tmL 53 0 [(0, (sl eMach 10 l)), (1, (sl eIL 1 sc)), (6, (i64 i0)), (7, (i64 i1)), (8, (i64 i2)), (9, (i64 i3))], hp := [] }
theorem t67 (env : Env) (F : Nat) (l : Sl Mach) (sc : Sl (Sl Int)) : (evFun Try.prog (cfg F) env 67 [(sl eMach 10 l), (sl eIL 1 sc)]) = (L67x0 env F l sc F (0 : Int) (0 : Int) (0 : Int)) := by kernel_rfl
theorem L67x0s (env : Env) (F : Nat) (l : Sl Mach) (sc : Sl (Sl Int)) (fu : Nat) (i0 : Int) (i1 : Int) (i2 : Int) : L67x0 env F l sc (fu + 1) i0 i1 i2 = (bif (decide (i2 < (((Sl.len sc) : Nat) : Int))) then (L67x1 env F l sc fu F i0 i1 i2 (0 : Int)) else some (.ret (.tup [(i64 i0), (i64 i1)]))) := by kernel_rfl
theorem L67x1s (env : Env) (F : Nat) (l : Sl Mach) (sc : Sl (Sl Int)) (m0 : Nat) (fu : Nat) (i0 : Int) (i1 : Int) (i2 : Int) (i3 : Int) : L67x1 env F l sc m0 (fu + 1) i0 i1 i2 i3 = (bif (decide (i3 < ((l.len : Nat) : Int))) then (bif (decide ((0 : Int) ≤ i2)) then (bif (decide (i2 < (((Sl.len sc) : Nat) : Int))) then (bif (decide ((0 : Int) ≤ i3)) then (bif (decide (i3 < (((Sl.len (Sl.el sc i2.toNat)) : Nat) : Int))) then (bif ((Sl.el (Sl.el sc i2.toNat) i3.toNat) == (1 : Int)) then (bif (decide ((0 : Int) ≤ i3)) then (bif (decide (i3 < ((l.len : Nat) : Int))) then (tkOut (env.pf 62 [(.agg (eMach (Sl.el l i3.toNat))), (i64 i3), (sl eIL 1 sc), (i64 (IntKind.wrap .i64 (i2 - (1 : Int))))]) none (fun v10 => (tkBool v10 none fun b11 => (bif (!b11) then (bif (decide ((0 : Int) ≤ i3)) then (bif (decide (i3 < ((l.len : Nat) : Int))) then (L67x1 env F l sc m0 fu (IntKind.wrap .i64 (i0 + (1 : Int))) (IntKind.wrap .i64 (i1 + (Mach.start (Sl.el l i3.toNat)))) i2 (IntKind.wrap .i64 (i3 + (1 : Int)))) else none) else none) else (L67x1 env F l sc m0 fu i0 i1 i2 (IntKind.wrap .i64 (i3 + (1 : Int))))))) pK) else none) else none) else (L67x1 env F l sc m0 fu i0 i1 i2 (IntKind.wrap .i64 (i3 + (1 : Int))))) else none) else none) else none) else none) else (L67x0 env F l sc m0 i0 i1 (IntKind.wrap .i64 (i2 + (1 : Int))))) := by kernel_rfl
noncomputable def L79x0 (env : Env) (F : Nat) (a : Sl (Sl Int)) (b : Sl (Sl Int)) (fu : Nat) (i0 : Int) : Option Out := atLoop Try.prog (cfg F) env 79 [.r, .l, .r, .d] [] fu { tm := tmL 67 0 [(0, (sl eIL 1 a)), (1, (sl eIL 1 b)), (5, (i64 i0))], hp := [] }
noncomputable def L79x1 (env : Env) (F : Nat) (a : Sl (Sl Int)) (b : Sl (Sl Int)) (m0 : Nat) (fu : Nat) (i0 : Int) (i1 : Int) : Option Out := atLoop Try.prog (cfg F) env 79 [.r, .l, .r, .d, .d, .r, .l, .d, .r, .d] [m0] fu { tm := tmL 67 0 [(0, (sl eIL 1 a)), (1, (sl eIL 1 b)), (5, (i64 i0)), (6, (i64 i1))], hp := [] }
theorem t79 (env : Env) (F : Nat) (a : Sl (Sl Int)) (b : Sl (Sl Int)) : (evFun Try.prog (cfg F) env 79 [(sl eIL 1 a), (sl eIL 1 b)]) = (L79x0 env F a b F (0 : Int)) := by kernel_rfl
theorem L79x0s (env : Env) (F : Nat) (a : Sl (Sl Int)) (b : Sl (Sl Int)) (fu : Nat) (i0 : Int) : L79x0 env F a b (fu + 1) i0 = (bif (decide (i0 < (((Sl.len a) : Nat) : Int))) then (bif (decide (i0 < (((Sl.len b) : Nat) : Int))) then (L79x1 env F a b fu F i0 (0 : Int)) else some (.ret (.bool false))) else some (.ret (.bool false))) := by kernel_rfl
theorem L79x1s (env : Env) (F : Nat) (a : Sl (Sl Int)) (b : Sl (Sl Int)) (m0 : Nat) (fu : Nat) (i0 : Int) (i1 : Int) : L79x1 env F a b m0 (fu + 1) i0 i1 = (bif (decide ((0 : Int) ≤ i0)) then (bif (decide (i0 < (((Sl.len a) : Nat) : Int))) then (bif (decide (i1 < (((Sl.len (Sl.el a i0.toNat)) : Nat) : Int))) then (bif (decide ((0 : Int) ≤ i0)) then (bif (decide (i0 < (((Sl.len b) : Nat) : Int))) then (bif (decide (i1 < (((Sl.len (Sl.el b i0.toNat)) : Nat) : Int))) then (bif (decide ((0 : Int) ≤ i0)) then (bif (decide (i0 < (((Sl.len a) : Nat) : Int))) then (bif (decide ((0 : Int) ≤ i1)) then (bif (decide (i1 < (((Sl.len (Sl.el a i0.toNat)) : Nat) : Int))) then (bif (decide ((0 : Int) ≤ i0)) then (bif (decide (i0 < (((Sl.len b) : Nat) : Int))) then (bif (decide ((0 : Int) ≤ i1)) then (bif (decide (i1 < (((Sl.len (Sl.el b i0.toNat)) : Nat) : Int))) then (bif ((Sl.el (Sl.el a i0.toNat) i1.toNat) != (Sl.el (Sl.el b i0.toNat) i1.toNat)) then (bif (decide ((0 : Int) ≤ i0)) then (bif (decide (i0 < (((Sl.len a) : Nat) : Int))) then (bif (decide ((0 : Int) ≤ i1)) then (bif (decide (i1 < (((Sl.len (Sl.el a i0.toNat)) : Nat) : Int))) then (bif (decide ((0 : Int) ≤ i0)) then (bif (decide (i0 < (((Sl.len b) : Nat) : Int))) then (bif (decide ((0 : Int) ≤ i1)) then (bif (decide (i1 < (((Sl.len (Sl.el b i0.toNat)) : Nat) : Int))) then some (.ret (.bool (decide ((Sl.el (Sl.el a i0.toNat) i1.toNat) < (Sl.el (Sl.el b i0.toNat) i1.toNat))))) else none) else none) else none) else none) else none) else none) else none) else none) else (L79x1 env F a b m0 fu i0 (IntKind.wrap .i64 (i1 + (1 : Int))))) else none) else none) else none) else none) else none) else none) else none) else none) else (L79x0 env F a b m0 (IntKind.wrap .i64 (i0 + (1 : Int))))) else none) else none) else (L79x0 env F a b m0 (IntKind.wrap .i64 (i0 + (1 : Int))))) else none) else none) := by kernel_rfl
noncomputable def L78x0 (env : Env) (F : Nat) (a : Int) (n : Int) (fu : Nat) (i0 : Int) (i1 : Int) : Option Out := atLoop Try.prog (cfg F) env 78 [.r, .r, .l, .r, .d] [] fu { tm := tmL 61 0 [(0, (i64 a)), (1, (i64 n)), (5, (i64 i0)), (6, (i64 i1))], hp := [] }
noncomputable def L78x1 (env : Env) (F : Nat) (a : Int) (n : Int) (fu : Nat) (i0 : Int) : Option Out := atLoop Try.prog (cfg F) env 78 [.r, .r, .r, .r, .l, .r, .d] [] fu { tm := tmL 61 0 [(0, (i64 a)), (1, (i64 n)), (5, (i64 i0)), (7, (.row true 0 0 (fun u6 => []))), (8, (i64 (0 : Int)))], hp := [] }
noncomputable def L78x2 (env : Env) (F : Nat) (a : Int) (n : Int) (m0 : Nat) (fu : Nat) (i0 : Int) (i1 : Int) : Option Out := atLoop Try.prog (cfg F) env 78 [.r, .r, .r, .r, .l, .r, .d, .d, .r, .l, .d, .r, .r, .l, .r, .d] [m0] fu { tm := tmL 61 0 [(0, (i64 a)), (1, (i64 n)), (5, (i64 i0)), (7, (.row true 0 0 (fun u8 => []))), (8, (i64 (0 : Int))), (9, (i64 (0 : Int))), (10, (i64 i1)), (11, (.row true 0 0 (fun u8 => []))), (12, (i64 (0 : Int)))], hp := [] }
noncomputable def L78x3 (env : Env) (F : Nat) (a : Int) (n : Int) (m0 : Nat) (m1 : Nat) (fu : Nat) (i0 : Int) (i1 : Int) : Option Out := atLoop Try.prog (cfg F) env 78 [.r, .r, .r, .r, .l, .r, .d, .d, .r, .l, .d, .r, .r, .l, .r, .d, .d, .r, .l, .d, .r, .l, .r, .d] [m0, m1] fu { tm := tmL 61 0 [(0, (i64 a)), (1, (i64 n)), (5, (i64 i0)), (7, (.row true 0 0 (fun u9 => []))), (8, (i64 (0 : Int))), (9, (i64 (0 : Int))), (10, (i64 i1)), (11, (.row true 0 0 (fun u9 => []))), (12, (i64 (0 : Int))), (13, (.row true 0 0 (fun u9 => []))), (14, (i64 (0 : Int)))], hp := [] }
noncomputable def L78x4 (env : Env) (F : Nat) (a : Int) (n : Int) (fu : Nat) (i0 : Int) (k1 : Nat) (i2 : Int) (k3 : Nat) (g4 : Nat → List V) : Option Out := atLoop Try.prog (cfg F) env 78 [.r, .r, .r, .r, .l, .r, .d] [] fu { tm := tmL 61 0 [(0, (i64 a)), (1, (i64 n)), (5, (i64 i0)), (7, (.osl 0 0 k1)), (8, (i64 i2))], hp := [(.arr 57 1 k3 g4 true)] }
noncomputable def L78x5 (env : Env) (F : Nat) (a : Int) (n : Int) (m0 : Nat) (fu : Nat) (i0 : Int) (i1 : Int) (i2 : Int) (k3 : Nat) (i4 : Int) (k5 : Nat) (g6 : Nat → List V) : Option Out := atLoop Try.prog (cfg F) env 78 [.r, .r, .r, .r, .l, .r, .d, .d, .r, .l, .d, .r, .r, .l, .r, .d] [m0] fu { tm := tmL 61 0 [(0, (i64 a)), (1, (i64 n)), (5, (i64 i0)), (7, (.row true 0 0 (fun u13 => []))), (8, (i64 (0 : Int))), (9, (i64 i1)), (10, (i64 i2)), (11, (.osl 0 0 k3)), (12, (i64 i4))], hp := [(.arr 70 1 k5 g6 true)] }
noncomputable def L78x6 (env : Env) (F : Nat) (a : Int) (n : Int) (m0 : Nat) (m1 : Nat) (fu : Nat) (i0 : Int) (i1 : Int) (i2 : Int) (k3 : Nat) (i4 : Int) (k5 : Nat) (g6 : Nat → List V) : Option Out := atLoop Try.prog (cfg F) env 78 [.r, .r, .r, .r, .l, .r, .d, .d, .r, .l, .d, .r, .r, .l, .r, .d, .d, .r, .l, .d, .r, .l, .r, .d] [m0, m1] fu { tm := tmL 61 0 [(0, (i64 a)), (1, (i64 n)), (5, (i64 i0)), (7, (.row true 0 0 (fun u14 => []))), (8, (i64 (0 : Int))), (9, (i64 i1)), (10, (i64 i2)), (11, (.osl 0 0 k3)), (12, (i64 i4)), (13, (.row true 0 0 (fun u14 => []))), (14, (i64 (0 : Int)))], hp := [(.arr 70 1 k5 g6 true)] }
noncomputable def L78x7 (env : Env) (F : Nat) (a : Int) (n : Int) (m0 : Nat) (m1 : Nat) (fu : Nat) (i0 : Int) (i1 : Int) (i2 : Int) (k3 : Nat) (i4 : Int) (k5 : Nat) (g6 : Nat → List V) : Option Out := atLoop Try.prog (cfg F) env 78 [.r, .r, .r, .r, .l, .r, .d, .d, .r, .l, .d, .r, .r, .l, .r, .d, .d, .r, .l, .d, .r, .l, .r, .d] [m0, m1] fu { tm := tmL 61 0 [(0, (i64 a)), (1, (i64 n)), (5, (i64 i0)), (7, (.row true 0 0 (fun u14 => []))), (8, (i64 (0 : Int))), (9, (i64 i1)), (10, (i64 i2)), (11, (.row true 0 0 (fun u14 => []))), (12, (i64 (0 : Int))), (13, (.osl 0 0 k3)), (14, (i64 i4))], hp := [(.arr 71 1 k5 g6 true)] }
noncomputable def L78x8 (env : Env) (F : Nat) (a : Int) (n : Int) (m0 : Nat) (fu : Nat) (i0 : Int) (k1 : Nat) (i2 : Int) (i3 : Int) (i4 : Int) (k5 : Nat) (g6 : Nat → List V) : Option Out := atLoop Try.prog (cfg F) env 78 [.r, .r, .r, .r, .l, .r, .d, .d, .r, .l, .d, .r, .r, .l, .r, .d] [m0] fu { tm := tmL 61 0 [(0, (i64 a)), (1, (i64 n)), (5, (i64 i0)), (7, (.osl 0 0 k1)), (8, (i64 i2)), (9, (i64 i3)), (10, (i64 i4)), (11, (.row true 0 0 (fun u13 => []))), (12, (i64 (0 : Int)))], hp := [(.arr 57 1 k5 g6 true)] }
noncomputable def L78x9 (env : Env) (F : Nat) (a : Int) (n : Int) (m0 : Nat) (m1 : Nat) (fu : Nat) (i0 : Int) (i1 : Int) (i2 : Int) (k3 : Nat) (i4 : Int) (k5 : Nat) (i6 : Int) (k7 : Nat) (g8 : Nat → List V) (k9 : Nat) (g10 : Nat → List V) : Option Out := atLoop Try.prog (cfg F) env 78 [.r, .r, .r, .r, .l, .r, .d, .d, .r, .l, .d, .r, .r, .l, .r, .d, .d, .r, .l, .d, .r, .l, .r, .d] [m0, m1] fu { tm := tmL 61 0 [(0, (i64 a)), (1, (i64 n)), (5, (i64 i0)), (7, (.row true 0 0 (fun u18 => []))), (8, (i64 (0 : Int))), (9, (i64 i1)), (10, (i64 i2)), (11, (.osl 0 0 k3)), (12, (i64 i4)), (13, (.osl 1 0 k5)), (14, (i64 i6))], hp := [(.arr 70 1 k7 g8 true), (.arr 71 1 k9 g10 true)] }
noncomputable def L78x10 (env : Env) (F : Nat) (a : Int) (n : Int) (m0 : Nat) (m1 : Nat) (fu : Nat) (i0 : Int) (k1 : Nat) (i2 : Int) (i3 : Int) (i4 : Int) (k5 : Nat) (g6 : Nat → List V) : Option Out := atLoop Try.prog (cfg F) env 78 [.r, .r, .r, .r, .l, .r, .d, .d, .r, .l, .d, .r, .r, .l, .r, .d, .d, .r, .l, .d, .r, .l, .r, .d] [m0, m1] fu { tm := tmL 61 0 [(0, (i64 a)), (1, (i64 n)), (5, (i64 i0)), (7, (.osl 0 0 k1)), (8, (i64 i2)), (9, (i64 i3)), (10, (i64 i4)), (11, (.row true 0 0 (fun u14 => []))), (12, (i64 (0 : Int))), (13, (.row true 0 0 (fun u14 => []))), (14, (i64 (0 : Int)))], hp := [(.arr 57 1 k5 g6 true)] }
noncomputable def L78x11 (env : Env) (F : Nat) (a : Int) (n : Int) (m0 : Nat) (m1 : Nat) (fu : Nat) (i0 : Int) (k1 : Nat) (i2 : Int) (i3 : Int) (i4 : Int) (k5 : Nat) (i6 : Int) (k7 : Nat) (g8 : Nat → List V) (k9 : Nat) (g10 : Nat → List V) : Option Out := atLoop Try.prog (cfg F) env 78 [.r, .r, .r, .r, .l, .r, .d, .d, .r, .l, .d, .r, .r, .l, .r, .d, .d, .r, .l, .d, .r, .l, .r, .d] [m0, m1] fu { tm := tmL 61 0 [(0, (i64 a)), (1, (i64 n)), (5, (i64 i0)), (7, (.osl 0 0 k1)), (8, (i64 i2)), (9, (i64 i3)), (10, (i64 i4)), (11, (.row true 0 0 (fun u18 => []))), (12, (i64 (0 : Int))), (13, (.osl 1 0 k5)), (14, (i64 i6))], hp := [(.arr 57 1 k7 g8 true), (.arr 71 1 k9 g10 true)] }
noncomputable def L78x12 (env : Env) (F : Nat) (a : Int) (n : Int) (m0 : Nat) (fu : Nat) (i0 : Int) (k1 : Nat) (i2 : Int) (i3 : Int) (i4 : Int) (k5 : Nat) (i6 : Int) (k7 : Nat) (g8 : Nat → List V) (k9 : Nat) (g10 : Nat → List V) : Option Out := atLoop Try.prog (cfg F) env 78 [.r, .r, .r, .r, .l, .r, .d, .d, .r, .l, .d, .r, .r, .l, .r, .d] [m0] fu { tm := tmL 61 0 [(0, (i64 a)), (1, (i64 n)), (5, (i64 i0)), (7, (.osl 0 0 k1)), (8, (i64 i2)), (9, (i64 i3)), (10, (i64 i4)), (11, (.osl 1 0 k5)), (12, (i64 i6))], hp := [(.arr 57 1 k7 g8 true), (.arr 70 1 k9 g10 true)] }
noncomputable def L78x13 (env : Env) (F : Nat) (a : Int) (n : Int) (m0 : Nat) (m1 : Nat) (fu : Nat) (i0 : Int) (k1 : Nat) (i2 : Int) (i3 : Int) (i4 : Int) (k5 : Nat) (i6 : Int) (k7 : Nat) (g8 : Nat → List V) (k9 : Nat) (g10 : Nat → List V) : Option Out := atLoop Try.prog (cfg F) env 78 [.r, .r, .r, .r, .l, .r, .d, .d, .r, .l, .d, .r, .r, .l, .r, .d, .d, .r, .l, .d, .r, .l, .r, .d] [m0, m1] fu { tm := tmL 61 0 [(0, (i64 a)), (1, (i64 n)), (5, (i64 i0)), (7, (.osl 0 0 k1)), (8, (i64 i2)), (9, (i64 i3)), (10, (i64 i4)), (11, (.osl 1 0 k5)), (12, (i64 i6)), (13, (.row true 0 0 (fun u18 => []))), (14, (i64 (0 : Int)))], hp := [(.arr 57 1 k7 g8 true), (.arr 70 1 k9 g10 true)] }
noncomputable def L78x14 (env : Env) (F : Nat) (a : Int) (n : Int) (m0 : Nat) (m1 : Nat) (fu : Nat) (i0 : Int) (k1 : Nat) (i2 : Int) (i3 : Int) (i4 : Int) (k5 : Nat) (i6 : Int) (k7 : Nat) (i8 : Int) (k9 : Nat) (g10 : Nat → List V) (k11 : Nat) (g12 : Nat → List V) (k13 : Nat) (g14 : Nat → List V) : Option Out := atLoop Try.prog (cfg F) env 78 [.r, .r, .r, .r, .l, .r, .d, .d, .r, .l, .d, .r, .r, .l, .r, .d, .d, .r, .l, .d, .r, .l, .r, .d] [m0, m1] fu { tm := tmL 61 0 [(0, (i64 a)), (1, (i64 n)), (5, (i64 i0)), (7, (.osl 0 0 k1)), (8, (i64 i2)), (9, (i64 i3)), (10, (i64 i4)), (11, (.osl 1 0 k5)), (12, (i64 i6)), (13, (.osl 2 0 k7)), (14, (i64 i8))], hp := [(.arr 57 1 k9 g10 true), (.arr 70 1 k11 g12 true), (.arr 71 1 k13 g14 true)] }
theorem t78 (env : Env) (F : Nat) (a : Int) (n : Int) : (evFun Try.prog (cfg F) env 78 [(i64 a), (i64 n)]) = (L78x0 env F a n F (1 : Int) (0 : Int)) := by kernel_rfl
theorem L78x0s (env : Env) (F : Nat) (a : Int) (n : Int) (fu : Nat) (i0 : Int) (i1 : Int) : L78x0 env F a n (fu + 1) i0 i1 = (bif (decide (i1 < (IntKind.wrap .i64 (a * n)))) then (L78x0 env F a n fu (IntKind.wrap .i64 ((3 : Int) * i0)) (IntKind.wrap .i64 (i1 + (1 : Int)))) else (L78x1 env F a n F i0)) := by kernel_rfl
theorem L78x1s (env : Env) (F : Nat) (a : Int) (n : Int) (fu : Nat) (i0 : Int) : L78x1 env F a n (fu + 1) i0 = (bif (decide ((0 : Int) < i0)) then (L78x2 env F a n fu F i0 i0) else some (.ret (.row true 0 0 (fun u6 => [])))) := by kernel_rfl
theorem L78x2s (env : Env) (F : Nat) (a : Int) (n : Int) (m0 : Nat) (fu : Nat) (i0 : Int) (i1 : Int) : L78x2 env F a n m0 (fu + 1) i0 i1 = (bif (decide ((0 : Int) < n)) then (L78x3 env F a n m0 fu F i0 i1) else (L78x4 env F a n m0 i0 1 (IntKind.wrap .i64 ((0 : Int) + (1 : Int))) 1 (fun u8 => [(.row true 0 0 (fun u9 => []))]))) := by kernel_rfl
theorem L78x3s (env : Env) (F : Nat) (a : Int) (n : Int) (m0 : Nat) (m1 : Nat) (fu : Nat) (i0 : Int) (i1 : Int) : L78x3 env F a n m0 m1 (fu + 1) i0 i1 = (bif (decide ((0 : Int) < a)) then (bif (decide ((IntKind.wrap .i64 (Int.tdiv i1 (3 : Int))) = (0 : Int))) then none else (bif (decide ((IntKind.wrap .i64 (Int.tdiv i1 (3 : Int))) = (0 : Int))) then none else (L78x7 env F a n m0 m1 fu i0 (Int.tmod (0 : Int) (IntKind.wrap .i64 (Int.tdiv i1 (3 : Int)))) (IntKind.wrap .i64 (Int.tdiv i1 (3 : Int))) 1 (IntKind.wrap .i64 ((0 : Int) + (1 : Int))) 1 (fun u9 => [(i64 (IntKind.wrap .i64 (Int.tdiv (0 : Int) (IntKind.wrap .i64 (Int.tdiv i1 (3 : Int))))))])))) else (L78x5 env F a n m0 m1 i0 (0 : Int) i1 1 (IntKind.wrap .i64 ((0 : Int) + (1 : Int))) 1 (fun u9 => [(.row true 0 0 (fun u10 => []))]))) := by kernel_rfl
theorem L78x4s (env : Env) (F : Nat) (a : Int) (n : Int) (fu : Nat) (i0 : Int) (k1 : Nat) (i2 : Int) (k3 : Nat) (g4 : Nat → List V) : L78x4 env F a n (fu + 1) i0 k1 i2 k3 g4 = (bif (decide (i2 < i0)) then (L78x8 env F a n fu F i0 k1 i2 i2 i0 k3 g4) else some (.ret (.row false k1 1 (fun u10 => (g4 u10))))) := by kernel_rfl
theorem L78x5s (env : Env) (F : Nat) (a : Int) (n : Int) (m0 : Nat) (fu : Nat) (i0 : Int) (i1 : Int) (i2 : Int) (k3 : Nat) (i4 : Int) (k5 : Nat) (g6 : Nat → List V) : L78x5 env F a n m0 (fu + 1) i0 i1 i2 k3 i4 k5 g6 = (bif (decide (i4 < n)) then (L78x6 env F a n m0 fu F i0 i1 i2 k3 i4 k5 g6) else (L78x4 env F a n m0 i0 1 (IntKind.wrap .i64 ((0 : Int) + (1 : Int))) 1 (fun u13 => [(.row false k3 1 (fun u14 => (g6 u14)))]))) := by kernel_rfl
theorem L78x6s (env : Env) (F : Nat) (a : Int) (n : Int) (m0 : Nat) (m1 : Nat) (fu : Nat) (i0 : Int) (i1 : Int) (i2 : Int) (k3 : Nat) (i4 : Int) (k5 : Nat) (g6 : Nat → List V) : L78x6 env F a n m0 m1 (fu + 1) i0 i1 i2 k3 i4 k5 g6 = (bif (decide ((0 : Int) < a)) then (bif (decide ((IntKind.wrap .i64 (Int.tdiv i2 (3 : Int))) = (0 : Int))) then none else (bif (decide ((IntKind.wrap .i64 (Int.tdiv i2 (3 : Int))) = (0 : Int))) then none else (L78x9 env F a n m0 m1 fu i0 (Int.tmod i1 (IntKind.wrap .i64 (Int.tdiv i2 (3 : Int)))) (IntKind.wrap .i64 (Int.tdiv i2 (3 : Int))) k3 i4 1 (IntKind.wrap .i64 ((0 : Int) + (1 : Int))) k5 g6 1 (fun u14 => [(i64 (IntKind.wrap .i64 (Int.tdiv i1 (IntKind.wrap .i64 (Int.tdiv i2 (3 : Int))))))])))) else (bif (decide (((k3 + 1) * 24) ≤ 140737488355328)) then (L78x5 env F a n m0 m1 i0 i1 i2 (k3 + 1) (IntKind.wrap .i64 (i4 + (1 : Int))) (k3 + 1) (appGet k3 g6 (fun u14 => [(.row true 0 0 (fun u15 => []))]))) else none)) := by kernel_rfl
theorem L78x7s (env : Env) (F : Nat) (a : Int) (n : Int) (m0 : Nat) (m1 : Nat) (fu : Nat) (i0 : Int) (i1 : Int) (i2 : Int) (k3 : Nat) (i4 : Int) (k5 : Nat) (g6 : Nat → List V) : L78x7 env F a n m0 m1 (fu + 1) i0 i1 i2 k3 i4 k5 g6 = (bif (decide (i4 < a)) then (bif (decide ((IntKind.wrap .i64 (Int.tdiv i2 (3 : Int))) = (0 : Int))) then none else (bif (decide (((k3 + 1) * 8) ≤ 140737488355328)) then (bif (decide ((IntKind.wrap .i64 (Int.tdiv i2 (3 : Int))) = (0 : Int))) then none else (L78x7 env F a n m0 m1 fu i0 (Int.tmod i1 (IntKind.wrap .i64 (Int.tdiv i2 (3 : Int)))) (IntKind.wrap .i64 (Int.tdiv i2 (3 : Int))) (k3 + 1) (IntKind.wrap .i64 (i4 + (1 : Int))) (k3 + 1) (appGet k3 g6 (fun u14 => [(i64 (IntKind.wrap .i64 (Int.tdiv i1 (IntKind.wrap .i64 (Int.tdiv i2 (3 : Int))))))])))) else none)) else (L78x5 env F a n m0 m1 i0 i1 i2 1 (IntKind.wrap .i64 ((0 : Int) + (1 : Int))) 1 (fun u14 => [(.row false k3 1 (fun u15 => (g6 u15)))]))) := by kernel_rfl
theorem L78x8s (env : Env) (F : Nat) (a : Int) (n : Int) (m0 : Nat) (fu : Nat) (i0 : Int) (k1 : Nat) (i2 : Int) (i3 : Int) (i4 : Int) (k5 : Nat) (g6 : Nat → List V) : L78x8 env F a n m0 (fu + 1) i0 k1 i2 i3 i4 k5 g6 = (bif (decide ((0 : Int) < n)) then (L78x10 env F a n m0 fu F i0 k1 i2 i3 i4 k5 g6) else (bif (decide (((k1 + 1) * 24) ≤ 140737488355328)) then (L78x4 env F a n m0 i0 (k1 + 1) (IntKind.wrap .i64 (i2 + (1 : Int))) (k1 + 1) (appGet k1 g6 (fun u13 => [(.row true 0 0 (fun u14 => []))]))) else none)) := by kernel_rfl
theorem L78x9s (env : Env) (F : Nat) (a : Int) (n : Int) (m0 : Nat) (m1 : Nat) (fu : Nat) (i0 : Int) (i1 : Int) (i2 : Int) (k3 : Nat) (i4 : Int) (k5 : Nat) (i6 : Int) (k7 : Nat) (g8 : Nat → List V) (k9 : Nat) (g10 : Nat → List V) : L78x9 env F a n m0 m1 (fu + 1) i0 i1 i2 k3 i4 k5 i6 k7 g8 k9 g10 = (bif (decide (i6 < a)) then (bif (decide ((IntKind.wrap .i64 (Int.tdiv i2 (3 : Int))) = (0 : Int))) then none else (bif (decide (((k5 + 1) * 8) ≤ 140737488355328)) then (bif (decide ((IntKind.wrap .i64 (Int.tdiv i2 (3 : Int))) = (0 : Int))) then none else (L78x9 env F a n m0 m1 fu i0 (Int.tmod i1 (IntKind.wrap .i64 (Int.tdiv i2 (3 : Int)))) (IntKind.wrap .i64 (Int.tdiv i2 (3 : Int))) k3 i4 (k5 + 1) (IntKind.wrap .i64 (i6 + (1 : Int))) k7 g8 (k5 + 1) (appGet k5 g10 (fun u18 => [(i64 (IntKind.wrap .i64 (Int.tdiv i1 (IntKind.wrap .i64 (Int.tdiv i2 (3 : Int))))))])))) else none)) else (bif (decide (((k3 + 1) * 24) ≤ 140737488355328)) then (L78x5 env F a n m0 m1 i0 i1 i2 (k3 + 1) (IntKind.wrap .i64 (i4 + (1 : Int))) (k3 + 1) (appGet k3 g8 (fun u18 => [(.row false k5 1 (fun u19 => (g10 u19)))]))) else none)) := by kernel_rfl
theorem L78x10s (env : Env) (F : Nat) (a : Int) (n : Int) (m0 : Nat) (m1 : Nat) (fu : Nat) (i0 : Int) (k1 : Nat) (i2 : Int) (i3 : Int) (i4 : Int) (k5 : Nat) (g6 : Nat → List V) : L78x10 env F a n m0 m1 (fu + 1) i0 k1 i2 i3 i4 k5 g6 = (bif (decide ((0 : Int) < a)) then (bif (decide ((IntKind.wrap .i64 (Int.tdiv i4 (3 : Int))) = (0 : Int))) then none else (bif (decide ((IntKind.wrap .i64 (Int.tdiv i4 (3 : Int))) = (0 : Int))) then none else (L78x11 env F a n m0 m1 fu i0 k1 i2 (Int.tmod i3 (IntKind.wrap .i64 (Int.tdiv i4 (3 : Int)))) (IntKind.wrap .i64 (Int.tdiv i4 (3 : Int))) 1 (IntKind.wrap .i64 ((0 : Int) + (1 : Int))) k5 g6 1 (fun u14 => [(i64 (IntKind.wrap .i64 (Int.tdiv i3 (IntKind.wrap .i64 (Int.tdiv i4 (3 : Int))))))])))) else (L78x12 env F a n m0 m1 i0 k1 i2 i3 i4 1 (IntKind.wrap .i64 ((0 : Int) + (1 : Int))) k5 g6 1 (fun u14 => [(.row true 0 0 (fun u15 => []))]))) := by kernel_rfl
theorem L78x11s (env : Env) (F : Nat) (a : Int) (n : Int) (m0 : Nat) (m1 : Nat) (fu : Nat) (i0 : Int) (k1 : Nat) (i2 : Int) (i3 : Int) (i4 : Int) (k5 : Nat) (i6 : Int) (k7 : Nat) (g8 : Nat → List V) (k9 : Nat) (g10 : Nat → List V) : L78x11 env F a n m0 m1 (fu + 1) i0 k1 i2 i3 i4 k5 i6 k7 g8 k9 g10 = (bif (decide (i6 < a)) then (bif (decide ((IntKind.wrap .i64 (Int.tdiv i4 (3 : Int))) = (0 : Int))) then none else (bif (decide (((k5 + 1) * 8) ≤ 140737488355328)) then (bif (decide ((IntKind.wrap .i64 (Int.tdiv i4 (3 : Int))) = (0 : Int))) then none else (L78x11 env F a n m0 m1 fu i0 k1 i2 (Int.tmod i3 (IntKind.wrap .i64 (Int.tdiv i4 (3 : Int)))) (IntKind.wrap .i64 (Int.tdiv i4 (3 : Int))) (k5 + 1) (IntKind.wrap .i64 (i6 + (1 : Int))) k7 g8 (k5 + 1) (appGet k5 g10 (fun u18 => [(i64 (IntKind.wrap .i64 (Int.tdiv i3 (IntKind.wrap .i64 (Int.tdiv i4 (3 : Int))))))])))) else none)) else (L78x12 env F a n m0 m1 i0 k1 i2 i3 i4 1 (IntKind.wrap .i64 ((0 : Int) + (1 : Int))) k7 g8 1 (fun u18 => [(.row false k5 1 (fun u19 => (g10 u19)))]))) := by kernel_rfl
theorem L78x12s (env : Env) (F : Nat) (a : Int) (n : Int) (m0 : Nat) (fu : Nat) (i0 : Int) (k1 : Nat) (i2 : Int) (i3 : Int) (i4 : Int) (k5 : Nat) (i6 : Int) (k7 : Nat) (g8 : Nat → List V) (k9 : Nat) (g10 : Nat → List V) : L78x12 env F a n m0 (fu + 1) i0 k1 i2 i3 i4 k5 i6 k7 g8 k9 g10 = (bif (decide (i6 < n)) then (L78x13 env F a n m0 fu F i0 k1 i2 i3 i4 k5 i6 k7 g8 k9 g10) else (bif (decide (((k1 + 1) * 24) ≤ 140737488355328)) then (L78x4 env F a n m0 i0 (k1 + 1) (IntKind.wrap .i64 (i2 + (1 : Int))) (k1 + 1) (appGet k1 g8 (fun u17 => [(.row false k5 1 (fun u18 => (g10 u18)))]))) else none)) := by kernel_rfl
theorem L78x13s (env : Env) (F : Nat) (a : Int) (n : Int) (m0 : Nat) (m1 : Nat) (fu : Nat) (i0 : Int) (k1 : Nat) (i2 : Int) (i3 : Int) (i4 : Int) (k5 : Nat) (i6 : Int) (k7 : Nat) (g8 : Nat → List V) (k9 : Nat) (g10 : Nat → List V) : L78x13 env F a n m0 m1 (fu + 1) i0 k1 i2 i3 i4 k5 i6 k7 g8 k9 g10 = (bif (decide ((0 : Int) < a)) then (bif (decide ((IntKind.wrap .i64 (Int.tdiv i4 (3 : Int))) = (0 : Int))) then none else (bif (decide ((IntKind.wrap .i64 (Int.tdiv i4 (3 : Int))) = (0 : Int))) then none else (L78x14 env F a n m0 m1 fu i0 k1 i2 (Int.tmod i3 (IntKind.wrap .i64 (Int.tdiv i4 (3 : Int)))) (IntKind.wrap .i64 (Int.tdiv i4 (3 : Int))) k5 i6 1 (IntKind.wrap .i64 ((0 : Int) + (1 : Int))) k7 g8 k9 g10 1 (fun u18 => [(i64 (IntKind.wrap .i64 (Int.tdiv i3 (IntKind.wrap .i64 (Int.tdiv i4 (3 : Int))))))])))) else (bif (decide (((k5 + 1) * 24) ≤ 140737488355328)) then (L78x12 env F a n m0 m1 i0 k1 i2 i3 i4 (k5 + 1) (IntKind.wrap .i64 (i6 + (1 : Int))) k7 g8 (k5 + 1) (appGet k5 g10 (fun u18 => [(.row true 0 0 (fun u19 => []))]))) else none)) := by kernel_rfl
theorem L78x14s (env : Env) (F : Nat) (a : Int) (n : Int) (m0 : Nat) (m1 : Nat) (fu : Nat) (i0 : Int) (k1 : Nat) (i2 : Int) (i3 : Int) (i4 : Int) (k5 : Nat) (i6 : Int) (k7 : Nat) (i8 : Int) (k9 : Nat) (g10 : Nat → List V) (k11 : Nat) (g12 : Nat → List V) (k13 : Nat) (g14 : Nat → List V) : L78x14 env F a n m0 m1 (fu + 1) i0 k1 i2 i3 i4 k5 i6 k7 i8 k9 g10 k11 g12 k13 g14 = (bif (decide (i8 < a)) then (bif (decide ((IntKind.wrap .i64 (Int.tdiv i4 (3 : Int))) = (0 : Int))) then none else (bif (decide (((k7 + 1) * 8) ≤ 140737488355328)) then (bif (decide ((IntKind.wrap .i64 (Int.tdiv i4 (3 : Int))) = (0 : Int))) then none else (L78x14 env F a n m0 m1 fu i0 k1 i2 (Int.tmod i3 (IntKind.wrap .i64 (Int.tdiv i4 (3 : Int)))) (IntKind.wrap .i64 (Int.tdiv i4 (3 : Int))) k5 i6 (k7 + 1) (IntKind.wrap .i64 (i8 + (1 : Int))) k9 g10 k11 g12 (k7 + 1) (appGet k7 g14 (fun u22 => [(i64 (IntKind.wrap .i64 (Int.tdiv i3 (IntKind.wrap .i64 (Int.tdiv i4 (3 : Int))))))])))) else none)) else (bif (decide (((k5 + 1) * 24) ≤ 140737488355328)) then (L78x12 env F a n m0 m1 i0 k1 i2 i3 i4 (k5 + 1) (IntKind.wrap .i64 (i6 + (1 : Int))) k9 g10 (k5 + 1) (appGet k5 g12 (fun u22 => [(.row false k7 1 (fun u23 => (g14 u23)))]))) else none)) := by kernel_rfl
noncomputable def L38x0 (env : Env) (F : Nat) (l : Sl Mach) (hs : Sl Hour) (sc : Sl (Sl Int)) (fu : Nat) (q0 : IntKind) (i1 : Int) (i2 : Int) (q3 : IntKind) (i4 : Int) (q5 : IntKind) (i6 : Int) : Option Out := atLoop Try.prog (cfg F) env 38 [.r, .r, .r, .l, .r, .d] [] fu { tm := tmL 91 0 [(0, (sl eMach 10 l)), (1, (sl eHour 3 hs)), (2, (sl eIL 1 sc)), (6, (.optr 0 0 0)), (8, (.int q0 i1)), (10, (.optr 1 0 0)), (11, (i64 i2))], hp := [(.box 48 [(i64 (0 : Int)), (i64 (0 : Int))] true), (.box 48 [(.int q3 i4), (.int q5 i6)] true)] }
noncomputable def L38x1 (env : Env) (F : Nat) (l : Sl Mach) (hs : Sl Hour) (sc : Sl (Sl Int)) (m0 : Nat) (fu : Nat) (q0 : IntKind) (i1 : Int) (i2 : Int) (b3 : Bool) (k4 : Nat) (k5 : Nat) (g6 : Nat → List V) (q7 : IntKind) (i8 : Int) (q9 : IntKind) (i10 : Int) (b11 : Bool) (k12 : Nat) (k13 : Nat) (g14 : Nat → List V) (i15 : Int) (q16 : IntKind) (i17 : Int) (q18 : IntKind) (i19 : Int) : Option Out := atLoop Try.prog (cfg F) env 38 [.r, .r, .r, .l, .r, .d, .d, .r, .l, .d, .r, .r, .r, .l, .r, .d] [m0] fu { tm := tmL 91 0 [(0, (sl eMach 10 l)), (1, (sl eHour 3 hs)), (2, (sl eIL 1 sc)), (6, (.optr 0 0 0)), (8, (.int q0 i1)), (10, (.optr 1 0 0)), (11, (i64 i2)), (12, (.row b3 k4 k5 g6)), (13, (.int q7 i8)), (14, (.int q9 i10)), (15, (.row b11 k12 k13 g14)), (16, (i64 i15))], hp := [(.box 48 [(i64 (0 : Int)), (i64 (0 : Int))] true), (.box 48 [(.int q16 i17), (.int q18 i19)] true)] }
theorem t38 (env : Env) (F : Nat) (l : Sl Mach) (hs : Sl Hour) (sc : Sl (Sl Int)) : (evFun Try.prog (cfg F) env 38 [(sl eMach 10 l), (sl eHour 3 hs), (sl eIL 1 sc)]) = (tkOut (env.pf 67 [(sl eMach 10 l), (sl eIL 1 sc)]) none (fun v5 => (tkTup v5 none fun l6 => (tkCons l6 none fun v7 r8 => (tkInt v7 none fun q9 n10 => (tkCons r8 none fun v11 r12 => (tkInt v11 none fun q13 n14 => (tkNil r12 none ((L38x0 env F l hs sc F q9 n10 (0 : Int) q13 n14 q13 n14))))))))) pK) := by kernel_rfl
theorem L38x0s (env : Env) (F : Nat) (l : Sl Mach) (hs : Sl Hour) (sc : Sl (Sl Int)) (fu : Nat) (q0 : IntKind) (i1 : Int) (i2 : Int) (q3 : IntKind) (i4 : Int) (q5 : IntKind) (i6 : Int) : L38x0 env F l hs sc (fu + 1) q0 i1 i2 q3 i4 q5 i6 = (bif (decide (i2 < (((Sl.len hs) : Nat) : Int))) then (bif (decide ((0 : Int) ≤ i2)) then (bif (decide (i2 < (((Sl.len sc) : Nat) : Int))) then (tkOut (env.pf 35 [(sl eInt 1 (Sl.el sc i2.toNat))]) none (fun v13 => (tkRow v13 none fun nl14 n15 wd16 g17 => (bif (decide ((0 : Int) ≤ i2)) then (bif (decide (i2 < (((Sl.len hs) : Nat) : Int))) then (tkOut (env.pf 59 [(sl eMach 10 l), (.agg (eSpan (Hour.ratio (Sl.el hs i2.toNat))))]) none (fun v18 => (tkRow v18 none fun nl19 n20 wd21 g22 => (L38x1 env F l hs sc fu F q0 i1 i2 nl14 n15 wd16 g17 .i64 (0 : Int) .i64 (0 : Int) nl19 n20 wd21 g22 (0 : Int) q3 i4 q5 i6))) pK) else none) else none))) pK) else none) else none) else some (.ret (.tup [(.agg [(.int q3 i4), (.int q5 i6)]), (.int q0 i1)]))) := by kernel_rfl
theorem L38x1s (env : Env) (F : Nat) (l : Sl Mach) (hs : Sl Hour) (sc : Sl (Sl Int)) (m0 : Nat) (fu : Nat) (q0 : IntKind) (i1 : Int) (i2 : Int) (b3 : Bool) (k4 : Nat) (k5 : Nat) (g6 : Nat → List V) (q7 : IntKind) (i8 : Int) (q9 : IntKind) (i10 : Int) (b11 : Bool) (k12 : Nat) (k13 : Nat) (g14 : Nat → List V) (i15 : Int) (q16 : IntKind) (i17 : Int) (q18 : IntKind) (i19 : Int) : L38x1 env F l hs sc m0 (fu + 1) q0 i1 i2 b3 k4 k5 g6 q7 i8 q9 i10 b11 k12 k13 g14 i15 q16 i17 q18 i19 = (bif (decide (i15 < ((k12 : Nat) : Int))) then (bif (decide ((0 : Int) ≤ i2)) then (bif (decide (i2 < (((Sl.len hs) : Nat) : Int))) then (bif (k13 == 1) then (bif (decide ((0 : Int) ≤ i15)) then (bif (decide (i15 < ((k12 : Nat) : Int))) then (tkCons (g14 i15.toNat) none fun v27 r28 => (tkInt v27 none fun q29 n30 => (tkOut (env.pf 20 [(sl eMach 10 l), (.row b3 k4 k5 g6), (i64 (Hour.flow (Sl.el hs i2.toNat))), (.int q29 n30)]) none (fun v31 => (tkRow v31 none fun nl32 n33 wd34 g35 => (bif (k13 == 1) then (bif (decide ((0 : Int) ≤ i15)) then (bif (decide (i15 < ((k12 : Nat) : Int))) then (tkCons (g14 i15.toNat) none fun v36 r37 => (tkInt v36 none fun q38 n39 => (tkOut (env.pf 23 [(sl eMach 10 l), (.row b3 k4 k5 g6), (.row nl32 n33 wd34 g35), (.int q38 n39)]) none (fun v40 => (tkInt v40 none fun q41 n42 => (bif (i15 == (0 : Int)) then (L38x1 env F l hs sc m0 fu q0 i1 i2 b3 k4 k5 g6 q41 (if n42 < n42 then n42 else n42) q41 (if n42 < n42 then n42 else n42) b11 k12 k13 g14 (IntKind.wrap .i64 (i15 + (1 : Int))) q16 i17 q18 i19) else (L38x1 env F l hs sc m0 fu q0 i1 i2 b3 k4 k5 g6 q7 (if n42 < i8 then n42 else i8) q9 (if i10 < n42 then n42 else i10) b11 k12 k13 g14 (IntKind.wrap .i64 (i15 + (1 : Int))) q16 i17 q18 i19)))) pK))) else none) else none) else none))) nK))) else none) else none) else none) else none) else none) else (bif (decide (q16 = q7)) then (bif (decide (q18 = q9)) then (L38x0 env F l hs sc m0 q0 i1 (IntKind.wrap .i64 (i2 + (1 : Int))) q16 (IntKind.wrap q16 (i17 + i8)) q18 (IntKind.wrap q18 (i19 + i10))) else none) else none)) := by kernel_rfl
noncomputable def L42x0 (env : Env) (F : Nat) (l : Sl Mach) (hs : Sl Hour) (fu : Nat) (b0 : Bool) (k1 : Nat) (k2 : Nat) (g3 : Nat → List V) (b4 : Bool) (k5 : Nat) (k6 : Nat) (g7 : Nat → List V) (q8 : IntKind) (i9 : Int) (q10 : IntKind) (i11 : Int) (b12 : Bool) (i13 : Int) : Option Out := atLoop Try.prog (cfg F) env 42 [.r, .r, .r, .r, .l, .r, .d] [] fu { tm := tmL 70 0 [(0, (sl eMach 10 l)), (1, (sl eHour 3 hs)), (7, (.row b0 k1 k2 g3)), (8, (.row b4 k5 k6 g7)), (9, (.int q8 i9)), (10, (.int q10 i11)), (11, (.bool b12)), (12, (i64 i13))], hp := [] }
theorem t42 (env : Env) (F : Nat) (l : Sl Mach) (hs : Sl Hour) : (evFun Try.prog (cfg F) env 42 [(sl eMach 10 l), (sl eHour 3 hs)]) = (tkOut (env.pf 78 [(i64 ((l.len : Nat) : Int)), (i64 (((Sl.len hs) : Nat) : Int))]) none (fun v4 => (tkRow v4 none fun nl5 n6 wd7 g8 => (L42x0 env F l hs F nl5 n6 wd7 g8 true 0 0 (fun u9 => []) .i64 (0 : Int) .i64 (0 : Int) false (0 : Int)))) pK) := by kernel_rfl
theorem L42x0s (env : Env) (F : Nat) (l : Sl Mach) (hs : Sl Hour) (fu : Nat) (b0 : Bool) (k1 : Nat) (k2 : Nat) (g3 : Nat → List V) (b4 : Bool) (k5 : Nat) (k6 : Nat) (g7 : Nat → List V) (q8 : IntKind) (i9 : Int) (q10 : IntKind) (i11 : Int) (b12 : Bool) (i13 : Int) : L42x0 env F l hs (fu + 1) b0 k1 k2 g3 b4 k5 k6 g7 q8 i9 q10 i11 b12 i13 = (bif (decide (i13 < ((k1 : Nat) : Int))) then (bif (k2 == 1) then (bif (decide ((0 : Int) ≤ i13)) then (bif (decide (i13 < ((k1 : Nat) : Int))) then (tkCons (g3 i13.toNat) none fun v19 r20 => (tkRow v19 none fun nl21 n22 wd23 g24 => (tkOut (env.pf 34 [(sl eMach 10 l), (sl eHour 3 hs), (.row nl21 n22 wd23 g24)]) none (fun v25 => (tkAgg v25 none fun l26 => (tkCons l26 none fun v27 r28 => (tkInt v27 none fun q29 n30 => (tkCons r28 none fun v31 r32 => (tkInt v31 none fun q33 n34 => (tkCons r32 none fun v35 r36 => (tkInt v35 none fun q37 n38 => (tkNil r36 none ((bif (decide (q33 = .i64)) then (bif (n34 != (1 : Int)) then (L42x0 env F l hs fu b0 k1 k2 g3 b4 k5 k6 g7 q8 i9 q10 i11 b12 (IntKind.wrap .i64 (i13 + (1 : Int)))) else (bif (k2 == 1) then (bif (decide ((0 : Int) ≤ i13)) then (bif (decide (i13 < ((k1 : Nat) : Int))) then (tkCons (g3 i13.toNat) none fun v39 r40 => (tkRow v39 none fun nl41 n42 wd43 g44 => (tkOut (env.pf 38 [(sl eMach 10 l), (sl eHour 3 hs), (.row nl41 n42 wd43 g44)]) none (fun v45 => (tkTup v45 none fun l46 => (tkCons l46 none fun v47 r48 => (tkAgg v47 none fun l49 => (tkCons l49 none fun v50 r51 => (tkInt v50 none fun q52 n53 => (tkCons r51 none fun v54 r55 => (tkInt v54 none fun q56 n57 => (tkNil r55 none ((tkCons r48 none fun v58 r59 => (tkInt v58 none fun q60 n61 => (tkNil r59 none ((bif (!b12) then (bif (k2 == 1) then (bif (decide ((0 : Int) ≤ i13)) then (bif (decide (i13 < ((k1 : Nat) : Int))) then (tkCons (g3 i13.toNat) none fun v62 r63 => (tkRow v62 none fun nl64 n65 wd66 g67 => (L42x0 env F l hs fu b0 k1 k2 g3 nl64 n65 wd66 g67 q56 n57 q60 n61 true (IntKind.wrap .i64 (i13 + (1 : Int)))))) else none) else none) else none) else (bif (k2 == 1) then (bif (decide ((0 : Int) ≤ i13)) then (bif (decide (i13 < ((k1 : Nat) : Int))) then (tkCons (g3 i13.toNat) none fun v62 r63 => (tkRow v62 none fun nl64 n65 wd66 g67 => (tkOut (env.pf 45 [(.row nl64 n65 wd66 g67), (.int q56 n57), (.int q60 n61), (.row b4 k5 k6 g7), (.int q8 i9), (.int q10 i11)]) none (fun v68 => (tkBool v68 none fun b69 => (bif b69 then (bif (k2 == 1) then (bif (decide ((0 : Int) ≤ i13)) then (bif (decide (i13 < ((k1 : Nat) : Int))) then (tkCons (g3 i13.toNat) none fun v70 r71 => (tkRow v70 none fun nl72 n73 wd74 g75 => (L42x0 env F l hs fu b0 k1 k2 g3 nl72 n73 wd74 g75 q56 n57 q60 n61 true (IntKind.wrap .i64 (i13 + (1 : Int)))))) else none) else none) else none) else (L42x0 env F l hs fu b0 k1 k2 g3 b4 k5 k6 g7 q8 i9 q10 i11 b12 (IntKind.wrap .i64 (i13 + (1 : Int))))))) pK))) else none) else none) else none)))))))))))))))) pK))) else none) else none) else none)) else none))))))))))) pK))) else none) else none) else none) else some (.ret (.tup [(.row b4 k5 k6 g7), (.int q8 i9), (.bool b12)]))) := by kernel_rfl
noncomputable def L430x0 (env : Env) (F : Nat) (fu : Nat) : Option Out := atLoop Try.prog (cfg F) env 43 [.r, .r, .l, .r, .d] [] fu { tm := tmL 53 0 [(0, (.row true 0 0 (fun u3 => []))), (1, (.row true 0 0 (fun u3 => []))), (5, (i64 (0 : Int)))], hp := [] }
theorem t430 (env : Env) (F : Nat) : (evFun Try.prog (cfg F) env 43 [(.row true 0 0 (fun u2 => [])), (.row true 0 0 (fun u2 => []))]) = (L430x0 env F F) := by kernel_rfl
theorem L430x0s (env : Env) (F : Nat) (fu : Nat) : L430x0 env F (fu + 1) = some (.ret (.bool true)) := by kernel_rfl
noncomputable def L340x0 (env : Env) (F : Nat) (l : Sl Mach) (hs : Sl Hour) (fu : Nat) (i0 : Int) : Option Out := atLoop Try.prog (cfg F) env 34 [.r, .l, .r, .d] [] fu { tm := tmL 219 0 [(0, (sl eMach 10 l)), (1, (sl eHour 3 hs)), (2, (.row true 0 0 (fun u6 => []))), (6, (.optr 0 0 0)), (7, (i64 i0))], hp := [(.box 61 [(i64 (0 : Int)), (i64 (0 : Int)), (i64 (0 : Int))] true)] }
noncomputable def L340x1 (env : Env) (F : Nat) (l : Sl Mach) (hs : Sl Hour) (m0 : Nat) (fu : Nat) (i0 : Int) : Option Out := atLoop Try.prog (cfg F) env 34 [.r, .l, .r, .d, .d, .r, .l, .d, .r, .r, .l, .r, .d] [m0] fu { tm := tmL 219 0 [(0, (sl eMach 10 l)), (1, (sl eHour 3 hs)), (2, (.row true 0 0 (fun u7 => []))), (6, (.optr 0 0 0)), (7, (i64 i0)), (8, (.row true 0 0 (fun u7 => []))), (9, (.row true 0 0 (fun u7 => []))), (10, (.row true 0 0 (fun u7 => []))), (11, (.row true 0 0 (fun u7 => []))), (12, (.row true 0 0 (fun u7 => []))), (13, (.bool false)), (14, (i64 (0 : Int)))], hp := [(.box 61 [(i64 (0 : Int)), (i64 (0 : Int)), (i64 (0 : Int))] true)] }
noncomputable def L340x2 (env : Env) (F : Nat) (l : Sl Mach) (hs : Sl Hour) (m0 : Nat) (fu : Nat) (i0 : Int) (i1 : Int) : Option Out := atLoop Try.prog (cfg F) env 34 [.r, .l, .r, .d, .d, .r, .l, .d, .r, .r, .r, .r, .l, .r, .d] [m0] fu { tm := tmL 219 0 [(0, (sl eMach 10 l)), (1, (sl eHour 3 hs)), (2, (.row true 0 0 (fun u8 => []))), (6, (.optr 0 0 0)), (7, (i64 i0)), (20, (.osl 1 0 5)), (21, (i64 i1))], hp := [(.box 61 [(i64 (0 : Int)), (i64 (0 : Int)), (i64 (0 : Int))] true), (.arr 23 1 5 (fun u8 => (List.take 1 (List.drop ((Min.min u8 4) * 1) [(.row true 0 0 (fun u9 => [])), (.row true 0 0 (fun u9 => [])), (.row true 0 0 (fun u9 => [])), (.row true 0 0 (fun u9 => [])), (.row true 0 0 (fun u9 => []))]))) true)] }
noncomputable def L340x3 (env : Env) (F : Nat) (l : Sl Mach) (hs : Sl Hour) (m0 : Nat) (fu : Nat) (i0 : Int) (b1 : Bool) (k2 : Nat) (k3 : Nat) (g4 : Nat → List V) : Option Out := atLoop Try.prog (cfg F) env 34 [.r, .l, .r, .d, .d, .r, .l, .d, .r, .r, .r, .r, .r, .r, .r, .l, .r, .d] [m0] fu { tm := tmL 219 0 [(0, (sl eMach 10 l)), (1, (sl eHour 3 hs)), (2, (.row true 0 0 (fun u11 => []))), (6, (.optr 0 0 0)), (7, (i64 i0)), (23, (i64 (0 : Int))), (24, (.row b1 k2 k3 g4)), (25, (i64 (0 : Int)))], hp := [(.box 61 [(i64 (0 : Int)), (i64 (0 : Int)), (i64 (0 : Int))] true)] }
theorem t340 (env : Env) (F : Nat) (l : Sl Mach) (hs : Sl Hour) : (evFun Try.prog (cfg F) env 34 [(sl eMach 10 l), (sl eHour 3 hs), (.row true 0 0 (fun u4 => []))]) = (L340x0 env F l hs F (0 : Int)) := by kernel_rfl
theorem L340x0s (env : Env) (F : Nat) (l : Sl Mach) (hs : Sl Hour) (fu : Nat) (i0 : Int) : L340x0 env F l hs (fu + 1) i0 = (bif (decide (i0 < (((Sl.len hs) : Nat) : Int))) then (L340x1 env F l hs fu F i0) else some (.ret (.agg [(i64 (0 : Int)), (i64 (1 : Int)), (i64 (0 : Int))]))) := by kernel_rfl
theorem L340x1s (env : Env) (F : Nat) (l : Sl Mach) (hs : Sl Hour) (m0 : Nat) (fu : Nat) (i0 : Int) : L340x1 env F l hs m0 (fu + 1) i0 = (bif (decide ((0 : Int) < ((l.len : Nat) : Int))) then (bif (decide ((0 : Int) < ((l.len : Nat) : Int))) then none else none) else (L340x2 env F l hs m0 F i0 (0 : Int))) := by kernel_rfl
theorem L340x2s (env : Env) (F : Nat) (l : Sl Mach) (hs : Sl Hour) (m0 : Nat) (fu : Nat) (i0 : Int) (i1 : Int) : L340x2 env F l hs m0 (fu + 1) i0 i1 = (bif (decide (i1 < ((5 : Nat) : Int))) then (bif (decide ((0 : Int) ≤ i1)) then (bif (decide (i1 < ((5 : Nat) : Int))) then (tkCons (List.take 1 (List.drop ((Min.min i1.toNat 4) * 1) [(.row true 0 0 (fun u8 => [])), (.row true 0 0 (fun u8 => [])), (.row true 0 0 (fun u8 => [])), (.row true 0 0 (fun u8 => [])), (.row true 0 0 (fun u8 => []))])) none fun v8 r9 => (tkRow v8 none fun nl10 n11 wd12 g13 => (tkOut (env.pf 66 [(.row nl10 n11 wd12 g13)]) none (fun v14 => (tkInt v14 none fun q15 n16 => (bif (decide (q15 = .i64)) then (bif (decide (n16 ≥ (0 : Int))) then some (.ret (.agg [(i64 i0), (i64 (IntKind.wrap .i64 ((2 : Int) + i1))), (.int q15 n16)])) else (L340x2 env F l hs m0 fu i0 (IntKind.wrap .i64 (i1 + (1 : Int))))) else none))) pK))) else none) else none) else (bif (decide ((0 : Int) ≤ i0)) then (bif (decide (i0 < (((Sl.len hs) : Nat) : Int))) then (tkOut (env.pf 59 [(sl eMach 10 l), (.agg (eSpan (Hour.ratio (Sl.el hs i0.toNat))))]) none (fun v8 => (tkRow v8 none fun nl9 n10 wd11 g12 => (L340x3 env F l hs m0 F i0 nl9 n10 wd11 g12))) pK) else none) else none)) := by kernel_rfl
theorem L340x3s (env : Env) (F : Nat) (l : Sl Mach) (hs : Sl Hour) (m0 : Nat) (fu : Nat) (i0 : Int) (b1 : Bool) (k2 : Nat) (k3 : Nat) (g4 : Nat → List V) : L340x3 env F l hs m0 (fu + 1) i0 b1 k2 k3 g4 = (bif (decide ((0 : Int) < ((k2 : Nat) : Int))) then none else (L340x0 env F l hs m0 (IntKind.wrap .i64 (i0 + (1 : Int))))) := by kernel_rfl
noncomputable def L380x0 (env : Env) (F : Nat) (l : Sl Mach) (hs : Sl Hour) (fu : Nat) (q0 : IntKind) (i1 : Int) (q2 : IntKind) (i3 : Int) (q4 : IntKind) (i5 : Int) : Option Out := atLoop Try.prog (cfg F) env 38 [.r, .r, .r, .l, .r, .d] [] fu { tm := tmL 91 0 [(0, (sl eMach 10 l)), (1, (sl eHour 3 hs)), (2, (.row true 0 0 (fun u11 => []))), (6, (.optr 0 0 0)), (8, (.int q0 i1)), (10, (.optr 1 0 0)), (11, (i64 (0 : Int)))], hp := [(.box 48 [(i64 (0 : Int)), (i64 (0 : Int))] true), (.box 48 [(.int q2 i3), (.int q4 i5)] true)] }
theorem t380 (env : Env) (F : Nat) (l : Sl Mach) (hs : Sl Hour) : (evFun Try.prog (cfg F) env 38 [(sl eMach 10 l), (sl eHour 3 hs), (.row true 0 0 (fun u4 => []))]) = (tkOut (env.pf 67 [(sl eMach 10 l), (.row true 0 0 (fun u4 => []))]) none (fun v4 => (tkTup v4 none fun l5 => (tkCons l5 none fun v6 r7 => (tkInt v6 none fun q8 n9 => (tkCons r7 none fun v10 r11 => (tkInt v10 none fun q12 n13 => (tkNil r11 none ((L380x0 env F l hs F q8 n9 q12 n13 q12 n13))))))))) pK) := by kernel_rfl
theorem L380x0s (env : Env) (F : Nat) (l : Sl Mach) (hs : Sl Hour) (fu : Nat) (q0 : IntKind) (i1 : Int) (q2 : IntKind) (i3 : Int) (q4 : IntKind) (i5 : Int) : L380x0 env F l hs (fu + 1) q0 i1 q2 i3 q4 i5 = (bif (decide ((0 : Int) < (((Sl.len hs) : Nat) : Int))) then none else some (.ret (.tup [(.agg [(.int q2 i3), (.int q4 i5)]), (.int q0 i1)]))) := by kernel_rfl
noncomputable def L670x0 (env : Env) (F : Nat) (l : Sl Mach) (fu : Nat) : Option Out := atLoop Try.prog (cfg F) env 67 [.r, .r, .l, .r, .d] [] fu { tm := tmL 53 0 [(0, (sl eMach 10 l)), (1, (.row true 0 0 (fun u4 => []))), (6, (i64 (0 : Int))), (7, (i64 (0 : Int))), (8, (i64 (0 : Int)))], hp := [] }
theorem t670 (env : Env) (F : Nat) (l : Sl Mach) : (evFun Try.prog (cfg F) env 67 [(sl eMach 10 l), (.row true 0 0 (fun u3 => []))]) = (L670x0 env F l F) := by kernel_rfl
theorem L670x0s (env : Env) (F : Nat) (l : Sl Mach) (fu : Nat) : L670x0 env F l (fu + 1) = some (.ret (.tup [(i64 (0 : Int)), (i64 (0 : Int))])) := by kernel_rfl
theorem t11 (env : Env) (F : Nat) (l : Sl Mach) (hs : Sl Hour) : (evFun Try.prog (cfg F) env 11 [(sl eMach 10 l), (sl eHour 3 hs)]) = (tkOut (env.pf 15 [(sl eMach 10 l)]) none (fun v4 => (tkBool v4 none fun b5 => (bif (!b5) then (tkOut (env.pf 16 []) none (fun v6 => (tkBool v6 none fun b7 => some (.ret (.bool b7)))) pK) else (bif (decide ((((Sl.len hs) : Nat) : Int) > (34 : Int))) then (tkOut (env.pf 16 []) none (fun v6 => (tkBool v6 none fun b7 => some (.ret (.bool b7)))) pK) else (bif (decide ((((Sl.len hs) : Nat) : Int) > (24 : Int))) then (tkOut (env.pf 41 [(sl eMach 10 l), (sl eHour 3 hs)]) none (fun v6 => (tkTup v6 none fun l7 => (tkCons l7 none fun v8 r9 => (tkRow v8 none fun nl10 n11 wd12 g13 => (tkCons r9 none fun v14 r15 => (tkInt v14 none fun q16 n17 => (tkCons r15 none fun v18 r19 => (tkInt v18 none fun q20 n21 => (tkNil r19 none ((bif (decide (q20 = .i64)) then (bif (n21 == (3 : Int)) then (bif (((n11 : Nat) : Int) == (0 : Int)) then (bif (decide (q16 = .i64)) then (bif (n17 == (0 : Int)) then (tkOut (env.pf 16 []) none (fun v22 => (tkBool v22 none fun b23 => some (.ret (.bool b23)))) pK) else some (.ret (.bool false))) else none) else some (.ret (.bool false))) else some (.ret (.bool false))) else none))))))))))) pK) else (tkOut (env.pf 39 [(sl eMach 10 l)]) none (fun v6 => (tkBool v6 none fun b7 => (bif (!b7) then (tkOut (env.pf 41 [(sl eMach 10 l), (sl eHour 3 hs)]) none (fun v8 => (tkTup v8 none fun l9 => (tkCons l9 none fun v10 r11 => (tkRow v10 none fun nl12 n13 wd14 g15 => (tkCons r11 none fun v16 r17 => (tkInt v16 none fun q18 n19 => (tkCons r17 none fun v20 r21 => (tkInt v20 none fun q22 n23 => (tkNil r21 none ((bif (decide (q22 = .i64)) then (bif (n23 == (2 : Int)) then (bif (((n13 : Nat) : Int) == (0 : Int)) then (bif (decide (q18 = .i64)) then (bif (n19 == (0 : Int)) then (tkOut (env.pf 16 []) none (fun v24 => (tkBool v24 none fun b25 => some (.ret (.bool b25)))) pK) else some (.ret (.bool false))) else none) else some (.ret (.bool false))) else some (.ret (.bool false))) else none))))))))))) pK) else (tkOut (env.pf 40 [(sl eHour 3 hs)]) none (fun v8 => (tkBool v8 none fun b9 => (bif (!b9) then (tkOut (env.pf 41 [(sl eMach 10 l), (sl eHour 3 hs)]) none (fun v10 => (tkTup v10 none fun l11 => (tkCons l11 none fun v12 r13 => (tkRow v12 none fun nl14 n15 wd16 g17 => (tkCons r13 none fun v18 r19 => (tkInt v18 none fun q20 n21 => (tkCons r19 none fun v22 r23 => (tkInt v22 none fun q24 n25 => (tkNil r23 none ((bif (decide (q24 = .i64)) then (bif (n25 == (2 : Int)) then (bif (((n15 : Nat) : Int) == (0 : Int)) then (bif (decide (q20 = .i64)) then (bif (n21 == (0 : Int)) then (tkOut (env.pf 16 []) none (fun v26 => (tkBool v26 none fun b27 => some (.ret (.bool b27)))) pK) else some (.ret (.bool false))) else none) else some (.ret (.bool false))) else some (.ret (.bool false))) else none))))))))))) pK) else (bif (decide ((IntKind.wrap .i64 (((l.len : Nat) : Int) * (((Sl.len hs) : Nat) : Int))) > (6 : Int))) then (tkOut (env.pf 16 []) none (fun v10 => (tkBool v10 none fun b11 => some (.ret (.bool b11)))) pK) else (tkOut (env.pf 41 [(sl eMach 10 l), (sl eHour 3 hs)]) none (fun v10 => (tkTup v10 none fun l11 => (tkCons l11 none fun v12 r13 => (tkRow v12 none fun nl14 n15 wd16 g17 => (tkCons r13 none fun v18 r19 => (tkInt v18 none fun q20 n21 => (tkCons r19 none fun v22 r23 => (tkInt v22 none fun q24 n25 => (tkNil r23 none ((tkOut (env.pf 42 [(sl eMach 10 l), (sl eHour 3 hs)]) none (fun v26 => (tkTup v26 none fun l27 => (tkCons l27 none fun v28 r29 => (tkRow v28 none fun nl30 n31 wd32 g33 => (tkCons r29 none fun v34 r35 => (tkInt v34 none fun q36 n37 => (tkCons r35 none fun v38 r39 => (tkBool v38 none fun b40 => (tkNil r39 none ((bif (!b40) then (bif (decide (q24 = .i64)) then (bif (n25 == (5 : Int)) then (bif (((n15 : Nat) : Int) == (0 : Int)) then (bif (decide (q20 = .i64)) then (bif (n21 == (0 : Int)) then (tkOut (env.pf 16 []) none (fun v41 => (tkBool v41 none fun b42 => some (.ret (.bool b42)))) pK) else some (.ret (.bool false))) else none) else some (.ret (.bool false))) else some (.ret (.bool false))) else none) else (bif (decide (q24 = .i64)) then (bif (n25 == (0 : Int)) then (tkOut (env.pf 43 [(.row nl14 n15 wd16 g17), (.row nl30 n31 wd32 g33)]) none (fun v41 => (tkBool v41 none fun b42 => (bif b42 then (bif (decide (q20 = q36)) then (bif (n21 == n37) then (tkOut (env.pf 16 []) none (fun v43 => (tkBool v43 none fun b44 => some (.ret (.bool b44)))) pK) else some (.ret (.bool false))) else none) else some (.ret (.bool false))))) pK) else some (.ret (.bool false))) else none)))))))))))) pK))))))))))) pK))))) pK)))) pK)))))) pK) := by kernel_rfl
end Go.Sim.Pl


namespace Go.Sim.Pl
open Go.Proofs
theorem fitInt {k : IntKind} {c : V} (h : Fit (.int k) c) : ∃ n, c = .int k n ∧ k.min ≤ n ∧ n ≤ k.max := by
  cases h with
  | int h => exact ⟨_, rfl, h⟩
theorem fitL_nil {cs : List V} (h : FitL [] cs) : cs = [] := by
  have := h.1
  exact List.eq_nil_of_length_eq_zero this
theorem fitL_cons {s : Sh} {l : List Sh} {cs : List V} (h : FitL (s :: l) cs) : ∃ c cs', cs = c :: cs' ∧ Fit s c ∧ FitL l cs' := by
  obtain ⟨h1, h2⟩ := h
  cases cs with
  | nil => simp at h1
  | cons c cs' => exact ⟨c, cs', rfl, h2 0 s c rfl rfl, by simpa using h1, fun j s' c' g1 g2 => h2 (j + 1) s' c' (by simpa using g1) (by simpa using g2)⟩
theorem fitL_int {k : IntKind} {l : List Sh} {cs : List V} (h : FitL (.int k :: l) cs) : ∃ n cs', cs = .int k n :: cs' ∧ FitL l cs' := by
  obtain ⟨c, cs', rfl, h1, h2⟩ := fitL_cons h
  obtain ⟨n, rfl, _⟩ := fitInt h1
  exact ⟨n, cs', rfl, h2⟩
abbrev SlOk {α : Type} (s : Sl α) : Prop := s.len ≤ 140737488355328 ∧ (s.nl = true → s.len = 0)
theorem fitRow {α : Type} {e : α → List V} {P : α → Prop} {l : List Sh} (dec : ∀ cs, FitL l cs → ∃ a : α, cs = e a ∧ P a) {c : V} (h : Fit (.row l) c) : ∃ s : Sl α, c = sl e l.length s ∧ SlOk s ∧ ∀ i, P (s.el i) := by
  cases h with
  | row h hn hl hf =>
    rename_i nl len get
    have hx : ∀ i, ∃ a : α, get i = e a ∧ P a := fun i => dec _ ⟨hl i, hf i⟩
    refine ⟨⟨nl, len, fun i => (hx i).choose⟩, ?_, ⟨h, hn⟩, fun i => (hx i).choose_spec.2⟩
    show V.row nl len l.length get = V.row nl len l.length fun i => e (hx i).choose
    congr 1
    funext i
    exact (hx i).choose_spec.1
theorem fitL_row {α : Type} {e : α → List V} {P : α → Prop} {l r : List Sh} (dec : ∀ cs, FitL l cs → ∃ a : α, cs = e a ∧ P a) {cs : List V} (h : FitL (.row l :: r) cs) : ∃ (s : Sl α) (cs' : List V), cs = sl e l.length s :: cs' ∧ SlOk s ∧ (∀ i, P (s.el i)) ∧ FitL r cs' := by
  obtain ⟨c, cs', rfl, h1, h2⟩ := fitL_cons h
  obtain ⟨s, rfl, h3, h4⟩ := fitRow dec h1
  exact ⟨s, cs', rfl, h3, h4, h2⟩
theorem fitL_bool {l : List Sh} {cs : List V} (h : FitL (.bool :: l) cs) : ∃ n cs', cs = .bool n :: cs' ∧ FitL l cs' := by
  obtain ⟨c, cs', rfl, h1, h2⟩ := fitL_cons h
  cases h1 with
  | bool => exact ⟨_, cs', rfl, h2⟩
abbrev i8 : Sh := .int .i64
abbrev shRow : List Sh := [i8, i8, i8, i8]
abbrev shMach : List Sh := [i8, .row shRow, i8, i8, i8, i8, i8, i8, .bool, i8]
abbrev shHour : List Sh := [i8, i8, i8]
abbrev shSpan : List Sh := [i8, i8]
abbrev I64 (n : Int) : Prop := IntKind.i64.min ≤ n ∧ n ≤ IntKind.i64.max
theorem decRow (cs : List V) (h : FitL shRow cs) : ∃ c : Row, cs = eRow c ∧ True := by
  obtain ⟨a0, _, rfl, h1⟩ := fitL_int h
  obtain ⟨a1, _, rfl, h2⟩ := fitL_int h1
  obtain ⟨a2, _, rfl, h3⟩ := fitL_int h2
  obtain ⟨a3, _, rfl, h4⟩ := fitL_int h3
  obtain rfl := fitL_nil h4
  exact ⟨⟨a0, a1, a2, a3⟩, rfl, trivial⟩
theorem decHour (cs : List V) (h : FitL shHour cs) : ∃ c : Hour, cs = eHour c ∧ True := by
  obtain ⟨a0, _, rfl, h1⟩ := fitL_int h
  obtain ⟨a1, _, rfl, h2⟩ := fitL_int h1
  obtain ⟨a2, _, rfl, h3⟩ := fitL_int h2
  obtain rfl := fitL_nil h3
  exact ⟨⟨a0, ⟨a1, a2⟩⟩, rfl, trivial⟩
theorem dcMach (cs : List V) (h : FitL shMach cs) : ∃ c : Mach, cs = eMach c ∧ SlOk c.rows := by
  obtain ⟨a0, _, rfl, h1⟩ := fitL_int h
  obtain ⟨rw, _, rfl, h0, _, h2⟩ := fitL_row decRow h1
  obtain ⟨a2, _, rfl, h3⟩ := fitL_int h2
  obtain ⟨a3, _, rfl, h4⟩ := fitL_int h3
  obtain ⟨a4, _, rfl, h5⟩ := fitL_int h4
  obtain ⟨a5, _, rfl, h6⟩ := fitL_int h5
  obtain ⟨a6, _, rfl, h7⟩ := fitL_int h6
  obtain ⟨a7, _, rfl, h8⟩ := fitL_int h7
  obtain ⟨a8, _, rfl, h9⟩ := fitL_bool h8
  obtain ⟨a9, _, rfl, h10⟩ := fitL_int h9
  obtain rfl := fitL_nil h10
  exact ⟨⟨a0, rw, a2, a3, a4, a5, a6, a7, a8, a9⟩, rfl, h0⟩
theorem own : ownKnob Try.prog.godebug = none := by kernel_rfl
end Go.Sim.Pl


namespace Go.Sim.Pl
open Go.Proofs
variable (F d : Nat)
end Go.Sim.Pl


namespace Go.Sim.Pl
open Go.Proofs
theorem dd {α : Type} [DecidableEq α] (a : α) : decide (a = a) = true := decide_eq_true rfl
variable (F d : Nat)
theorem inB_of {l : Sl Mach} {hs : Sl Hour} (hF : 140737488355330 < F) (hl : l.len ≤ 140737488355328) (hR : ∀ i, (l.el i).rows.len ≤ 140737488355328) (hh : hs.len ≤ 140737488355328) : InB l hs F :=
  ⟨⟨lenB hl, by omega⟩, fun i _ => ⟨lenB (hR i), by have := hR i; omega⟩, lenB hh, by omega⟩
end Go.Sim.Pl


namespace Go.Sim.Pl
open Go.Proofs
def sumN (l : Sl Mach) (sc : Nat → Sl Int) : Nat → Int
  | 0 => 0
  | t + 1 => sumN l sc t + startN (sc t) (stAt l sc t) l.len
def sumE (l : Sl Mach) (sc : Nat → Sl Int) : Nat → Int
  | 0 => 0
  | t + 1 => sumE l sc t + startE l (sc t) (stAt l sc t) l.len
def sumLo (l : Sl Mach) (hs : Nat → Hour) (sc : Nat → Sl Int) : Nat → Int
  | 0 => 0
  | t + 1 => sumLo l hs sc t + (hourE l (sc t) (hs t)).1
def sumHi (l : Sl Mach) (hs : Nat → Hour) (sc : Nat → Sl Int) : Nat → Int
  | 0 => 0
  | t + 1 => sumHi l hs sc t + (hourE l (sc t) (hs t)).2
theorem play_sum {l : Sl Mach} (hs : Nat → Hour) (sc : Nat → Sl Int) : ∀ (j t : Nat) (lo hi n : Int), (playR l hs sc j t lo hi n).rule = 1 →
    (playR l hs sc j t lo hi n).lo = lo + (sumLo l hs sc (t + j) - sumLo l hs sc t) + (sumE l sc (t + j) - sumE l sc t) ∧
    (playR l hs sc j t lo hi n).hi = hi + (sumHi l hs sc (t + j) - sumHi l hs sc t) + (sumE l sc (t + j) - sumE l sc t) ∧
    (playR l hs sc j t lo hi n).many = n + (sumN l sc (t + j) - sumN l sc t) := by
  intro j
  induction j with
  | zero => intro t lo hi n h; simp only [playR, Nat.add_zero]; omega
  | succ j ih =>
    intro t lo hi n h
    simp only [playR] at h ⊢
    by_cases hr : (faultS l (stAt l sc t) (sc t) (hs t)).1 = 1
    · rw [if_neg (fun hh => hh hr)] at h ⊢
      have e := ih (t + 1) _ _ _ h
      rw [show t + (j + 1) = t + 1 + j by omega]
      simp only [sumLo, sumHi, sumE, sumN] at e ⊢
      omega
    · rw [if_pos hr] at h
      exact absurd h hr
variable (F d : Nat)
section
variable {l : Sl Mach} (hl : PlantOk l) {hs : Sl Hour} (hh : HoursOk hs) (h24 : hs.len ≤ 24) {sc : Sl (Sl Int)} (hsc : SchedOk l hs.len sc) (hF : 1000 < F)
include hl hh h24 hsc hF
theorem sums_in : ∀ t, t ≤ hs.len → (0 ≤ sumN l sc.el t ∧ sumN l sc.el t ≤ 1000 * t) ∧ (0 ≤ sumE l sc.el t ∧ sumE l sc.el t ≤ 10000000000 * t) ∧ (0 ≤ sumLo l hs.el sc.el t ∧ sumLo l hs.el sc.el t ≤ 18000000000 * t) ∧ (0 ≤ sumHi l hs.el sc.el t ∧ sumHi l hs.el sc.el t ≤ 18000000000 * t)
  | 0, _ => by simp [sumN, sumE, sumLo, sumHi]
  | t + 1, h => by
    have ih := sums_in t (by omega)
    have hho := hh t (by omega)
    have hw := (hsc.1 t (by have := hsc.2; omega)).1
    have hN := startE_in F hl (st := rowS (stAt l sc.el t) l.len) hF rfl hw hho (stAt l sc.el t) l.len (by omega)
    have hE := hourE_in hl (w := sc.el t) hho
    have := hl.2
    simp only [sumN, sumE, sumLo, sumHi]
    omega
theorem l67x1 (m0 t : Nat) (ht : t < hs.len) (A B : Int) (hA : 0 ≤ A ∧ A ≤ 1000000) (hB : 0 ≤ B ∧ B ≤ 1000000000000) (R : Option Out) (K : L67x0 (E F (d + 1)) F l sc m0 (A + startN (sc.el t) (stAt l sc.el t) l.len) (B + startE l (sc.el t) (stAt l sc.el t) l.len) ((t + 1 : Nat) : Int) = R) : ∀ j i fu, i + j = l.len → j < fu →
    L67x1 (E F (d + 1)) F l sc m0 fu (A + startN (sc.el t) (stAt l sc.el t) i) (B + startE l (sc.el t) (stAt l sc.el t) i) t i = R := by
  have hl2 := hl.2
  have hscl := hsc.2
  have hho := hh t (by omega)
  have hw := (hsc.1 t (by omega)).1
  have hT : IntKind.i64.wrap ((t : Int) + 1) = ((t + 1 : Nat) : Int) := wrS (by omega)
  have hT' : IntKind.i64.wrap ((t : Int) - 1) = (t : Int) - 1 := wr (by omega)
  intro j
  induction j with
  | zero =>
    intro i fu h hf
    obtain ⟨fu, rfl⟩ : ∃ k, fu = k + 1 := ⟨fu - 1, by omega⟩
    obtain rfl : i = l.len := by omega
    rw [L67x1s, decide_eq_false (by omega), pF, hT]
    exact K
  | succ j ih =>
    intro i fu h hf
    obtain ⟨fu, rfl⟩ : ∃ k, fu = k + 1 := ⟨fu - 1, by omega⟩
    have hS : IntKind.i64.wrap ((i : Int) + 1) = ((i + 1 : Nat) : Int) := wrS (by omega)
    have q62 := s62 F d hl h24 hsc hF (a := i) (by omega) (t := t) (by omega)
    have hN := startE_in F hl (st := rowS (stAt l sc.el t) l.len) hF rfl hw hho (stAt l sc.el t) i (by omega)
    have e := ih (i + 1) fu (by omega) (by omega)
    simp only [startN, startE] at e
    have hel : (runsS (sc.el t)).el i = ((sc.el t).el i == 1) := rowT_el (by omega)
    have hst := (hl.1 i (by omega)).2.2.2.1
    rw [L67x1s]
    simp (disch := omega) only [decide_eq_true, pT, Int.toNat_natCast, hS, hT', q62, tkOut_ret, tkBool_b]
    unfold startB at e
    rw [hel] at e
    cases h1 : ((sc.el t).el i == 1) with
    | false =>
      rw [h1] at e
      rw [pF]
      simpa using e
    | true =>
      rw [h1] at e
      rw [pT]
      cases h2 : (stAt l sc.el t i).runs with
      | true => rw [h2] at e; simpa using e
      | false =>
        rw [h2] at e
        rw [Bool.not_false, pT]
        rw [wr (by omega), wr (by omega)]
        simp only [Bool.not_false, Bool.and_self, if_true] at e
        rw [show A + startN (sc.el t) (stAt l sc.el t) i + 1 = A + (startN (sc.el t) (stAt l sc.el t) i + 1) by omega, show B + startE l (sc.el t) (stAt l sc.el t) i + (l.el i).start = B + (startE l (sc.el t) (stAt l sc.el t) i + (l.el i).start) by omega]
        exact e
theorem l67x0 : ∀ j t fu, t + j = hs.len → j < fu → L67x0 (E F (d + 1)) F l sc fu (sumN l sc.el t) (sumE l sc.el t) t = some (.ret (.tup [.int .i64 (sumN l sc.el hs.len), .int .i64 (sumE l sc.el hs.len)])) := by
  have hscl := hsc.2
  have hl2 := hl.2
  intro j
  induction j with
  | zero =>
    intro t fu h hf
    obtain ⟨fu, rfl⟩ : ∃ k, fu = k + 1 := ⟨fu - 1, by omega⟩
    obtain rfl : t = hs.len := by omega
    rw [L67x0s, decide_eq_false (by omega), pF]
  | succ j ih =>
    intro t fu h hf
    obtain ⟨fu, rfl⟩ : ∃ k, fu = k + 1 := ⟨fu - 1, by omega⟩
    have hb := sums_in F hl hh h24 hsc hF t (by omega)
    have e := l67x1 F d hl hh h24 hsc hF fu t (by omega) (sumN l sc.el t) (sumE l sc.el t) (by omega) (by omega) _ (ih (t + 1) fu (by omega) (by omega)) l.len 0 F (by omega) (by omega)
    simp only [startN, startE, Int.add_zero] at e
    rw [L67x0s, decide_eq_true (by omega), pT]
    exact e
theorem s67 : (E F (d + 2)).pf 67 [sl eMach 10 l, sl eIL 1 sc] = some (.ret (.tup [.int .i64 (sumN l sc.el hs.len), .int .i64 (sumE l sc.el hs.len)])) := by
  rw [E_pf, t67]
  exact l67x0 F d hl hh h24 hsc hF hs.len 0 F (by omega) (by omega)
end
section
variable {l : Sl Mach} (hl : PlantOk l) {hs : Sl Hour} (hh : HoursOk hs) (h24 : hs.len ≤ 24) {sc : Sl (Sl Int)} (hsc : SchedOk l hs.len sc) (hF : 2000 < F)
include hl hF
theorem ref_en {r : Sl Bool} (hr : r.len = l.len) {f : Int} (hf : FlowOk f) (x : Int) : (E F (d + 2)).pf 20 [sl eMach 10 l, sl eBool 1 r, .int .i64 f, .int .i64 x] = some (.ret (.row false l.len 1 (fun i => eInt ((shareS l r.el f x).sh i)))) ∧ (E F (d + 2)).pf 23 [sl eMach 10 l, sl eBool 1 r, .row false l.len 1 (fun i => eInt ((shareS l r.el f x).sh i)), .int .i64 x] = some (.ret (.int .i64 (enS l r.el f x))) := by
  have hF1 : 1000 < F := by omega
  have hi : ShInv l x (shareS l r.el f x) := shK_inv F hl hF1 hf 3 1 shr0 (shr0xinv F hl hF1 r hr f x hf)
  refine ⟨s20 F d hl hF r hr f x hf, ?_⟩
  have q23 := s23 F d hl hF1 r hr ⟨false, l.len, (shareS l r.el f x).sh⟩ rfl x (fun i hi' => by
      have a := (hi.sh i hi').2
      have b := (row_in (hl.1 i hi') x).2.1
      show (shareS l r.el f x).sh i ≤ 1000000
      omega)
  unfold enS
  rw [energy_eq hl r.el f x]
  exact q23
include hh h24 hsc
theorem l38x1 (m0 : Nat) (t : Nat) (ht : t < hs.len) (many lo hi : Int) (L : List Int) (hL : L.length ≤ 1000) (q : Int × Int) (R : Option Out) (K : L38x0 (E F (d + 2)) F l hs sc m0 .i64 many ((t + 1 : Nat) : Int) .i64 (IntKind.i64.wrap (lo + q.1)) .i64 (IntKind.i64.wrap (hi + q.2)) = R) : ∀ j i fu (p : Int × Int), i + j = L.length → j < fu → 0 < i → costF (enS l (runsS (sc.el t)).el (hs.el t).flow) p (L.drop i) = q →
    L38x1 (E F (d + 2)) F l hs sc m0 fu .i64 many t false (runsS (sc.el t)).len 1 (fun i => eBool ((runsS (sc.el t)).el i)) .i64 p.1 .i64 p.2 false L.length 1 (gl eInt 0 L) i .i64 lo .i64 hi = R := by
  have hscl := hsc.2
  have hho := hh t (by omega)
  have hw := (hsc.1 t (by omega)).1
  have hT : IntKind.i64.wrap ((t : Int) + 1) = ((t + 1 : Nat) : Int) := wrS (by omega)
  intro j
  induction j with
  | zero =>
    intro i fu p h hf h0 hq
    obtain ⟨fu, rfl⟩ : ∃ k, fu = k + 1 := ⟨fu - 1, by omega⟩
    rw [List.drop_eq_nil_of_le (by omega)] at hq
    have hq : p = q := hq
    subst hq
    rw [L38x1s, decide_eq_false (by omega), pF]
    simp only [decide_true, pT, hT]
    exact K
  | succ j ih =>
    intro i fu p h hf h0 hq
    obtain ⟨fu, rfl⟩ : ∃ k, fu = k + 1 := ⟨fu - 1, by omega⟩
    have hi : i < L.length := by omega
    have hg : gl eInt 0 L i = [.int .i64 L[i]] := by
      unfold gl
      rw [List.getD_eq_getElem?_getD, List.getElem?_eq_getElem hi]; rfl
    have hS : IntKind.i64.wrap ((i : Int) + 1) = ((i + 1 : Nat) : Int) := wrS (by omega)
    have hdr : L.drop i = L[i] :: L.drop (i + 1) := List.drop_eq_getElem_cons hi
    obtain ⟨q20, q23⟩ := ref_en F d hl hF (r := runsS (sc.el t)) hw hho.1 L[i]
    rw [hdr] at hq
    have e := ih (i + 1) fu (min p.1 (enS l (runsS (sc.el t)).el (hs.el t).flow L[i]), max p.2 (enS l (runsS (sc.el t)).el (hs.el t).flow L[i])) (by omega) (by omega) (by omega) hq
    rw [L38x1s]
    have q20' : (E F (d + 2)).pf 20 [sl eMach 10 l, .row false (runsS (sc.el t)).len 1 (fun i => eBool ((runsS (sc.el t)).el i)), .int .i64 (hs.el t).flow, .int .i64 L[i]] = _ := q20
    have q23' : (E F (d + 2)).pf 23 [sl eMach 10 l, .row false (runsS (sc.el t)).len 1 (fun i => eBool ((runsS (sc.el t)).el i)), .row false l.len 1 (fun j => eInt ((shareS l (runsS (sc.el t)).el (hs.el t).flow L[i]).sh j)), .int .i64 L[i]] = _ := q23
    simp (disch := omega) only [decide_eq_true, decide_true, pT, Int.toNat_natCast, show ((1 : Nat) == 1) = true from rfl, hg, tkCons_c, tkInt_i, tkRow_r, q20', q23', tkOut_ret, hS]
    rw [show ((i : Int) == 0) = false by rw [beq_eq_false_iff_ne]; omega, pF, mnE, mxE]
    exact e
theorem l38x0 (many A : Int) (hA : 0 ≤ A ∧ A ≤ 1000000000000) : ∀ j t fu, t + j = hs.len → j < fu → L38x0 (E F (d + 2)) F l hs sc fu .i64 many t .i64 (A + sumLo l hs.el sc.el t) .i64 (A + sumHi l hs.el sc.el t) = some (.ret (.tup [.agg [.int .i64 (A + sumLo l hs.el sc.el hs.len), .int .i64 (A + sumHi l hs.el sc.el hs.len)], .int .i64 many])) := by
  have hscl := hsc.2
  have hl2 := hl.2
  have hF1 : 1000 < F := by omega
  intro j
  induction j with
  | zero =>
    intro t fu h hf
    obtain ⟨fu, rfl⟩ : ∃ k, fu = k + 1 := ⟨fu - 1, by omega⟩
    obtain rfl : t = hs.len := by omega
    rw [L38x0s, decide_eq_false (by omega), pF]
  | succ j ih =>
    intro t fu h hf
    obtain ⟨fu, rfl⟩ : ∃ k, fu = k + 1 := ⟨fu - 1, by omega⟩
    have hb := sums_in F hl hh h24 hsc hF1 t (by omega)
    have hb' := sums_in F hl hh h24 hsc hF1 (t + 1) (by omega)
    simp only [sumLo, sumHi] at hb'
    have hho := hh t (by omega)
    have hw := (hsc.1 t (by omega)).1
    have q35 := s35 F (d + 1) (sc.el t) (by omega) hF1 (by omega)
    have q59 := s59 F (d + 1) hl hF1 hho.2
    have hlen := ratL_len F hl hF1 hho.2 (runsS (sc.el t)) hw
    have e0 := ih (t + 1) fu (by omega) (by omega)
    simp only [sumLo, sumHi] at e0
    have K : L38x0 (E F (d + 2)) F l hs sc fu .i64 many ((t + 1 : Nat) : Int) .i64 (IntKind.i64.wrap (A + sumLo l hs.el sc.el t + (hourE l (sc.el t) (hs.el t)).1)) .i64 (IntKind.i64.wrap (A + sumHi l hs.el sc.el t + (hourE l (sc.el t) (hs.el t)).2)) = some (.ret (.tup [.agg [.int .i64 (A + sumLo l hs.el sc.el hs.len), .int .i64 (A + sumHi l hs.el sc.el hs.len)], .int .i64 many])) := by
      rw [wr (by omega), wr (by omega), show A + sumLo l hs.el sc.el t + (hourE l (sc.el t) (hs.el t)).1 = A + (sumLo l hs.el sc.el t + (hourE l (sc.el t) (hs.el t)).1) by omega, show A + sumHi l hs.el sc.el t + (hourE l (sc.el t) (hs.el t)).2 = A + (sumHi l hs.el sc.el t + (hourE l (sc.el t) (hs.el t)).2) by omega]
      exact e0
    have e1 := l38x1 F d hl hh h24 hsc hF fu t (by omega) many (A + sumLo l hs.el sc.el t) (A + sumHi l hs.el sc.el t) (ratL l (hs.el t).ratio) (by omega) (hourE l (sc.el t) (hs.el t)) _ K
    have q59' : (E F (d + 2)).pf 59 [sl eMach 10 l, .agg [.int .i64 (hs.el t).ratio.lo, .int .i64 (hs.el t).ratio.hi]] = _ := q59
    rw [L38x0s]
    simp (disch := omega) only [decide_eq_true, decide_true, pT, Int.toNat_natCast, q35, q59', tkOut_ret, tkRow_r]
    obtain ⟨F', rfl⟩ : ∃ k, F = k + 1 := ⟨F - 1, by omega⟩
    have hg : gl eInt 0 (ratL l (hs.el t).ratio) 0 = [.int .i64 (hs.el t).ratio.lo] := rfl
    obtain ⟨q20, q23⟩ := ref_en (F' + 1) d hl hF (r := runsS (sc.el t)) hw hho.1 (hs.el t).ratio.lo
    have hp : 0 < (ratL l (hs.el t).ratio).length := by simp [ratL]
    have hS : IntKind.i64.wrap ((0 : Int) + 1) = ((1 : Nat) : Int) := by decide
    have e2 := e1 ((ratL l (hs.el t).ratio).length - 1) 1 F' (enS l (runsS (sc.el t)).el (hs.el t).flow (hs.el t).ratio.lo, enS l (runsS (sc.el t)).el (hs.el t).flow (hs.el t).ratio.lo) (by omega) (by omega) (by omega) rfl
    rw [L38x1s]
    simp (disch := omega) only [decide_eq_true, decide_true, pT, Int.toNat_natCast, Int.toNat_zero, show ((1 : Nat) == 1) = true from rfl, hg, tkCons_c, tkInt_i, tkRow_r, q20, q23, tkOut_ret, hS, beq_self_eq_true, ite_self]
    exact e2
theorem s38 : (E F (d + 3)).pf 38 [sl eMach 10 l, sl eHour 3 hs, sl eIL 1 sc] = some (.ret (.tup [.agg [.int .i64 (sumE l sc.el hs.len + sumLo l hs.el sc.el hs.len), .int .i64 (sumE l sc.el hs.len + sumHi l hs.el sc.el hs.len)], .int .i64 (sumN l sc.el hs.len)])) := by
  have hF1 : 1000 < F := by omega
  have q67 := s67 F d hl hh h24 hsc hF1
  have hb := sums_in F hl hh h24 hsc hF1 hs.len (by omega)
  have e := l38x0 F d hl hh h24 hsc hF (sumN l sc.el hs.len) (sumE l sc.el hs.len) (by omega) hs.len 0 F (by omega) (by omega)
  simp only [sumLo, sumHi, Int.add_zero] at e
  rw [E_pf, t38]
  simp only [q67, tkOut_ret, tkTup_t, tkCons_c, tkInt_i, tkNil_n]
  exact e
end
end Go.Sim.Pl


namespace Go.Sim.Pl
open Go.Proofs
theorem playS_sum {l : Sl Mach} {hs : Sl Hour} {sc : Sl (Sl Int)} (h : (playS l hs sc).rule = 1) :
    (playS l hs sc).lo = sumE l sc.el hs.len + sumLo l hs.el sc.el hs.len ∧ (playS l hs sc).hi = sumE l sc.el hs.len + sumHi l hs.el sc.el hs.len ∧ (playS l hs sc).many = sumN l sc.el hs.len := by
  have e := play_sum hs.el sc.el hs.len 0 0 0 0 h
  unfold playS
  simp only [Nat.zero_add, sumE, sumLo, sumHi, sumN] at e
  omega
variable (F d : Nat)
end Go.Sim.Pl


namespace Go.Sim.Pl
open Go.Proofs
abbrev mst (l : Sl Mach) (x : Int) (z : Nat) : Int := (rowAt (l.el z) x).most
abbrev inK (l : Sl Mach) (r : Nat → Bool) (k : Int) (i : Nat) : Prop := (l.el i).kind = k ∧ r i = true
structure KindOk (l : Sl Mach) (r : Nat → Bool) (f x k : Int) (w : Nat → Int) : Prop where
  lim : ∀ i, i < l.len → inK l r k i → 0 ≤ w i ∧ w i ≤ mst l x i
  all : sumP (inK l r k) w l.len = f ∨ (sumP (inK l r k) w l.len < f ∧ ∀ i, i < l.len → inK l r k i → w i = mst l x i)
  low : (∃ m, m < l.len ∧ inK l r k m ∧ (rowAt (l.el m) x).least < w m) → ∀ i, i < l.len → inK l r k i → (rowAt (l.el i) x).least ≤ w i
  full : ∀ i m, i < l.len → m < l.len → inK l r k i → inK l r k m → (rowAt (l.el i) x).energy < (rowAt (l.el m) x).energy → (rowAt (l.el m) x).least < w m → w i = mst l x i
abbrev CarOk (l : Sl Mach) (r : Nat → Bool) (f x : Int) (w : Nat → Int) : Prop := (∀ i, i < l.len → (0 ≤ w i ∧ w i ≤ mst l x i) ∧ (r i = false → w i ≤ 0)) ∧ ∀ k : Int, 1 ≤ k ∧ k ≤ 3 → thereS l.el k l.len = true → sumP (fun i => (l.el i).kind = k) w l.len = f
abbrev prcS (l : Sl Mach) (r : Nat → Bool) (x k : Int) (w : Nat → Int) : Int := maxP (fun i => (l.el i).kind = k ∧ r i = true ∧ w i > (rowAt (l.el i) x).least) (fun i => (rowAt (l.el i) x).energy) l.len
end Go.Sim.Pl


namespace Go.Sim.Pl
open Go.Proofs
variable (F d : Nat)
section
variable {l : Sl Mach} {r : Sl Bool} {f : Int} (h4 : RunOk l r f) (hF : 2000 < F) {s : Span} (hs : RatioOk s) (a x : Int) (q16 : (E F (d + 42)).pf 16 [] = some (.ret (.bool true)))
include h4 hF hs q16
end
end Go.Sim.Pl


namespace Go.Sim.Pl
open Go.Proofs
def okL (l : Sl Mach) (hs : Nat → Hour) : Nat → (Nat → Sta) → List Int → Prop
  | _, _, [] => True
  | t, st, a :: p => (faultS l st (wayS l.len a) (hs t)).1 = 1 ∧ okL l hs (t + 1) (nextS l st (wayS l.len a)) p
def enL (l : Sl Mach) (hs : Nat → Hour) : Nat → (Nat → Sta) → List Int → Int
  | _, _, [] => 0
  | t, st, a :: p => (hourE l (wayS l.len a) (hs t)).2 + startE l (wayS l.len a) st l.len + enL l hs (t + 1) (nextS l st (wayS l.len a)) p
def stL (l : Sl Mach) : (Nat → Sta) → List Int → Int
  | _, [] => 0
  | st, a :: p => startN (wayS l.len a) st l.len + stL l (nextS l st (wayS l.len a)) p
def lexL : List Int → List Int → Prop
  | a :: p, b :: q => a < b ∨ a = b ∧ lexL p q
  | _, _ => True
def Vld (l : Sl Mach) (h : Hour) (st : Nat → Sta) (rest : (Nat → Sta) → Bst) (a : Nat) : Prop := (faultS l st (wayS l.len a) h).1 = 1 ∧ (rest (nextS l st (wayS l.len a))).right = true
abbrev adB (l : Sl Mach) (h : Hour) (st : Nat → Sta) (rest : (Nat → Sta) → Bst) (a : Nat) : Bst := addB l h st (rest (nextS l st (wayS l.len a))) a
def Pick (l : Sl Mach) (h : Hour) (st : Nat → Sta) (rest : (Nat → Sta) → Bst) (m : Nat) (o : Bst) : Prop :=
  (o.right = false ∧ ∀ a, a < m → ¬ Vld l h st rest a) ∨ ∃ a, a < m ∧ Vld l h st rest a ∧ o = adB l h st rest a ∧ ∀ b, b < m → Vld l h st rest b → (adB l h st rest a).energy < (adB l h st rest b).energy ∨ (adB l h st rest a).energy = (adB l h st rest b).energy ∧ ((adB l h st rest a).starts < (adB l h st rest b).starts ∨ (adB l h st rest a).starts = (adB l h st rest b).starts ∧ a ≤ b)
theorem pick_step {l : Sl Mach} {h : Hour} {st : Nat → Sta} {rest : (Nat → Sta) → Bst} {m : Nat} {o : Bst} (ho : Pick l h st rest m o) : Pick l h st rest (m + 1) (stepB l h st rest o m) := by
  unfold stepB
  by_cases h1 : (faultS l st (wayS l.len m) h).1 = 1
  case neg =>
    rw [if_pos h1]
    have hn : ¬ Vld l h st rest m := fun hv => h1 hv.1
    rcases ho with ⟨h2, h3⟩ | ⟨a, h2, h3, h4, h5⟩
    · refine .inl ⟨h2, fun b hb hv => ?_⟩
      rcases Nat.lt_or_eq_of_le (Nat.le_of_lt_succ hb) with h6 | h6
      · exact h3 b h6 hv
      · subst h6; exact hn hv
    · refine .inr ⟨a, by omega, h3, h4, fun b hb hv => ?_⟩
      rcases Nat.lt_or_eq_of_le (Nat.le_of_lt_succ hb) with h6 | h6
      · exact h5 b h6 hv
      · subst h6; exact absurd hv hn
  rw [if_neg (fun hh => hh h1)]
  by_cases h2 : (rest (nextS l st (wayS l.len m))).right = false
  · rw [if_pos h2]
    have hn : ¬ Vld l h st rest m := fun hv => by rw [hv.2] at h2; exact absurd h2 (by decide)
    rcases ho with ⟨h3, h4⟩ | ⟨a, h3, h4, h5, h6⟩
    · refine .inl ⟨h3, fun b hb hv => ?_⟩
      rcases Nat.lt_or_eq_of_le (Nat.le_of_lt_succ hb) with h7 | h7
      · exact h4 b h7 hv
      · subst h7; exact hn hv
    · refine .inr ⟨a, by omega, h4, h5, fun b hb hv => ?_⟩
      rcases Nat.lt_or_eq_of_le (Nat.le_of_lt_succ hb) with h7 | h7
      · exact h6 b h7 hv
      · subst h7; exact absurd hv hn
  rw [if_neg h2]
  have hv : Vld l h st rest m := ⟨h1, by simpa using h2⟩
  unfold takeB
  by_cases hc : o.right = false ∨ (adB l h st rest m).energy < o.energy ∨ (adB l h st rest m).energy = o.energy ∧ (adB l h st rest m).starts < o.starts
  · rw [if_pos hc]
    refine .inr ⟨m, by omega, hv, rfl, fun b hb hvb => ?_⟩
    rcases Nat.lt_or_eq_of_le (Nat.le_of_lt_succ hb) with h7 | h7
    · rcases ho with ⟨h3, h4⟩ | ⟨a, h3, h4, h5, h6⟩
      · exact absurd hvb (h4 b h7)
      · have h8 := h6 b h7 hvb
        rw [h5] at hc
        rcases hc with hc | hc
        · exact absurd hc (by simp [adB, addB])
        · omega
    · subst h7; exact .inr ⟨rfl, .inr ⟨rfl, Nat.le_refl _⟩⟩
  · rw [if_neg hc]
    rcases ho with ⟨h3, h4⟩ | ⟨a, h3, h4, h5, h6⟩
    · exact absurd (.inl h3) hc
    · refine .inr ⟨a, by omega, h4, h5, fun b hb hvb => ?_⟩
      rcases Nat.lt_or_eq_of_le (Nat.le_of_lt_succ hb) with h7 | h7
      · exact h6 b h7 hvb
      · subst h7
        rw [h5] at hc
        have h8 : ¬ ((adB l h st rest b).energy < (adB l h st rest a).energy ∨ (adB l h st rest b).energy = (adB l h st rest a).energy ∧ (adB l h st rest b).starts < (adB l h st rest a).starts) := fun hh => hc (.inr hh)
        omega
theorem pick_ways {l : Sl Mach} {h : Hour} {st : Nat → Sta} {rest : (Nat → Sta) → Bst} : ∀ (k m : Nat) (o : Bst), Pick l h st rest m o → Pick l h st rest (m + k) (waysB l h st rest k m o)
  | 0, _, _, ho => ho
  | k + 1, m, o, ho => by
    have e := pick_ways k (m + 1) _ (pick_step ho)
    rw [show m + (k + 1) = m + 1 + k by omega]
    exact e
theorem pick_bst {l : Sl Mach} (hs : Nat → Hour) (j t : Nat) (st : Nat → Sta) : Pick l (hs t) st (bst l hs j (t + 1)) (3 ^ l.len) (bst l hs (j + 1) t st) := by
  have e := pick_ways (l := l) (h := hs t) (st := st) (rest := bst l hs j (t + 1)) (3 ^ l.len) 0 bNo (.inl ⟨rfl, fun a ha => by omega⟩)
  rw [Nat.zero_add] at e
  exact e
theorem planW_len (l : Sl Mach) (hs : Nat → Hour) : ∀ (j t : Nat) (st : Nat → Sta), (planW l hs j t st).length = j
  | 0, _, _ => rfl
  | j + 1, t, st => by simp only [planW, List.length_cons, planW_len l hs j]
theorem planW_cons {l : Sl Mach} {hs : Nat → Hour} {j t : Nat} {st : Nat → Sta} {a : Nat} (e : bst l hs (j + 1) t st = adB l (hs t) st (bst l hs j (t + 1)) a) : planW l hs (j + 1) t st = (a : Int) :: planW l hs j (t + 1) (nextS l st (wayS l.len a)) := by
  have ew : (bst l hs (j + 1) t st).way = some (a : Int) := by rw [e]; rfl
  simp only [planW, ew, Option.getD]
theorem bst_att (l : Sl Mach) (hs : Nat → Hour) : ∀ (j t : Nat) (st : Nat → Sta), (bst l hs j t st).right = true → okL l hs t st (planW l hs j t st) ∧ enL l hs t st (planW l hs j t st) = (bst l hs j t st).energy ∧ stL l st (planW l hs j t st) = (bst l hs j t st).starts ∧ ∀ a ∈ planW l hs j t st, 0 ≤ a ∧ a < ((3 ^ l.len : Nat) : Int)
  | 0, _, _, _ => ⟨trivial, rfl, rfl, by simp [planW]⟩
  | j + 1, t, st, h => by
    rcases pick_bst (l := l) hs j t st with ⟨h1, _⟩ | ⟨a, h1, h2, h3, _⟩
    · rw [h1] at h; exact absurd h (by decide)
    · obtain ⟨i1, i2, i3, i4⟩ := bst_att l hs j (t + 1) _ h2.2
      rw [planW_cons h3, h3]
      refine ⟨⟨h2.1, i1⟩, ?_, ?_, ?_⟩
      · show _ + enL l hs (t + 1) _ _ = _ + _
        rw [i2]
      · show _ + stL l _ _ = _ + _
        rw [i3]
      · intro b hb
        rcases List.mem_cons.1 hb with h5 | h5
        · omega
        · exact i4 b h5
theorem bst_opt (l : Sl Mach) (hs : Nat → Hour) : ∀ (p : List Int) (t : Nat) (st : Nat → Sta), (∀ a ∈ p, 0 ≤ a ∧ a < ((3 ^ l.len : Nat) : Int)) → okL l hs t st p → (bst l hs p.length t st).right = true ∧ ((bst l hs p.length t st).energy < enL l hs t st p ∨ (bst l hs p.length t st).energy = enL l hs t st p ∧ ((bst l hs p.length t st).starts < stL l st p ∨ (bst l hs p.length t st).starts = stL l st p ∧ lexL (planW l hs p.length t st) p))
  | [], _, _, _, _ => ⟨rfl, .inr ⟨rfl, .inr ⟨rfl, trivial⟩⟩⟩
  | c :: p, t, st, hb, h => by
    obtain ⟨b, rfl⟩ : ∃ b : Nat, c = b := ⟨c.toNat, by have := hb c (by simp); omega⟩
    have hb0 := hb b (by simp)
    obtain ⟨i1, i2⟩ := bst_opt l hs p (t + 1) (nextS l st (wayS l.len b)) (fun a ha => hb a (by simp [ha])) h.2
    have hv : Vld l (hs t) st (bst l hs p.length (t + 1)) b := ⟨h.1, i1⟩
    rw [List.length_cons]
    rcases pick_bst (l := l) hs p.length t st with ⟨h1, h2⟩ | ⟨a, h1, h2, h3, h4⟩
    · exact absurd hv (h2 b (by omega))
    · have h5 := h4 b (by omega) hv
      refine ⟨by rw [h3]; rfl, ?_⟩
      rw [planW_cons h3, h3]
      have e1 : (adB l (hs t) st (bst l hs p.length (t + 1)) b).energy = (hourE l (wayS l.len b) (hs t)).2 + startE l (wayS l.len b) st l.len + (bst l hs p.length (t + 1) (nextS l st (wayS l.len b))).energy := rfl
      have e2 : (adB l (hs t) st (bst l hs p.length (t + 1)) b).starts = startN (wayS l.len b) st l.len + (bst l hs p.length (t + 1) (nextS l st (wayS l.len b))).starts := rfl
      have e3 : enL l hs t st ((b : Int) :: p) = (hourE l (wayS l.len b) (hs t)).2 + startE l (wayS l.len b) st l.len + enL l hs (t + 1) (nextS l st (wayS l.len b)) p := rfl
      have e4 : stL l st ((b : Int) :: p) = startN (wayS l.len b) st l.len + stL l (nextS l st (wayS l.len b)) p := rfl
      rw [e1, e2] at h5
      rw [e3, e4]
      show _ ∨ _ ∧ (_ ∨ _ ∧ ((a : Int) < b ∨ (a : Int) = b ∧ lexL _ p))
      by_cases hab : a = b
      · subst hab
        rw [e1, e2]
        rcases i2 with i2 | ⟨i2, i3 | ⟨i3, i4⟩⟩
        · exact .inl (by omega)
        · exact .inr ⟨by omega, .inl (by omega)⟩
        · exact .inr ⟨by omega, .inr ⟨by omega, .inr ⟨rfl, i4⟩⟩⟩
      · generalize (adB l (hs t) st (bst l hs p.length (t + 1)) a).energy = x at *
        generalize (adB l (hs t) st (bst l hs p.length (t + 1)) a).starts = y at *
        have i2' : (bst l hs p.length (t + 1) (nextS l st (wayS l.len b))).energy < enL l hs (t + 1) (nextS l st (wayS l.len b)) p ∨ (bst l hs p.length (t + 1) (nextS l st (wayS l.len b))).energy = enL l hs (t + 1) (nextS l st (wayS l.len b)) p ∧ (bst l hs p.length (t + 1) (nextS l st (wayS l.len b))).starts ≤ stL l (nextS l st (wayS l.len b)) p := by
          rcases i2 with i2 | ⟨i2, i3 | ⟨i3, _⟩⟩
          · exact .inl i2
          · exact .inr ⟨i2, by omega⟩
          · exact .inr ⟨i2, by omega⟩
        by_cases k1 : x < (hourE l (wayS l.len b) (hs t)).2 + startE l (wayS l.len b) st l.len + enL l hs (t + 1) (nextS l st (wayS l.len b)) p
        · exact .inl k1
        · refine .inr ⟨by omega, ?_⟩
          by_cases k2 : y < startN (wayS l.len b) st l.len + stL l (nextS l st (wayS l.len b)) p
          · exact .inl k2
          · exact .inr ⟨by omega, .inl (by omega)⟩
def numF (w : Nat → Int) : Nat → Int
  | 0 => 0
  | i + 1 => 3 * numF w i + w i
theorem numF_in {w : Nat → Int} : ∀ n, (∀ i, i < n → 0 ≤ w i ∧ w i ≤ 2) → 0 ≤ numF w n ∧ numF w n < ((3 ^ n : Nat) : Int)
  | 0, _ => by simp [numF]
  | n + 1, h => by
    have ih := numF_in n fun i hi => h i (by omega)
    have h0 := h n (by omega)
    simp only [numF]
    rw [Nat.pow_succ]
    generalize 3 ^ n = p at *
    omega
theorem digG_eq {w : Nat → Int} : ∀ n, (∀ i, i < n → 0 ≤ w i ∧ w i ≤ 2) → ∀ (g : Nat → Int) i, digG n (numF w n) g i = if i < n then w i else g i
  | 0, _, g, i => by simp [digG]
  | n + 1, h, g, i => by
    have ih := digG_eq n (fun i hi => h i (by omega))
    have h0 := h n (by omega)
    have hb := numF_in n fun i hi => h i (by omega)
    simp only [digG, numF]
    have e1 : (3 * numF w n + w n).tdiv 3 = numF w n := by
      rw [Int.tdiv_eq_ediv_of_nonneg (by omega)]; omega
    have e2 : (3 * numF w n + w n).tmod 3 = w n := by
      rw [Int.tmod_eq_emod_of_nonneg (by omega)]; omega
    rw [e1, e2, ih]
    by_cases h1 : i < n
    · rw [if_pos h1, if_pos (by omega)]
    · rw [if_neg h1]
      by_cases h2 : i = n
      · rw [if_pos h2, if_pos (by omega), h2]
      · rw [if_neg h2, if_neg (by omega)]
abbrev WEq (n : Nat) (w w' : Sl Int) : Prop := w.len = n ∧ w'.len = n ∧ ∀ i, i < n → w.el i = w'.el i
theorem way_num {n : Nat} {w : Sl Int} (h : DoesOk n w) : WEq n w (wayS n (numF w.el n)) :=
  ⟨h.1, rfl, fun i hi => by
    show w.el i = digG n (numF w.el n) (fun _ => 0) i
    rw [digG_eq n h.2, if_pos hi]⟩
theorem digG_in : ∀ (n : Nat) (a : Int) (g : Nat → Int) i, 0 ≤ a → i < n → 0 ≤ digG n a g i ∧ digG n a g i ≤ 2
  | 0, _, _, i, _, h => by omega
  | n + 1, a, g, i, ha, h => by
    simp only [digG]
    have e1 : a.tdiv 3 = a / 3 := Int.tdiv_eq_ediv_of_nonneg ha
    have e2 : a.tmod 3 = a % 3 := Int.tmod_eq_emod_of_nonneg ha
    by_cases h1 : i < n
    · exact digG_in n _ _ i (by rw [e1]; omega) h1
    · have h2 : i = n := by omega
      subst h2
      have : ∀ (m : Nat) (b : Int) (g : Nat → Int) k, m ≤ k → digG m b g k = g k := by
        intro m
        induction m with
        | zero => intro b g k _; rfl
        | succ m ih =>
          intro b g k hk
          simp only [digG]
          rw [ih _ _ k (by omega), if_neg (by omega)]
      rw [this i _ _ i (Nat.le_refl _), if_pos rfl, e2]
      omega
section
variable {l : Sl Mach} {w w' : Sl Int} (h : WEq l.len w w')
include h
theorem runs_weq : runsS w = runsS w' := by
  unfold runsS
  rw [h.1, h.2.1]
  exact rowT_congr fun j hj => by rw [h.2.2 j hj]
theorem busy_weq : ∀ i, i ≤ l.len → busyB w.el i = busyB w'.el i
  | 0, _ => rfl
  | i + 1, hi => by simp only [busyB, busy_weq i (by omega), h.2.2 i (by omega)]
theorem fault_weq {st st' : Nat → Sta} (e : ∀ i, i < l.len → st i = st' i) (ho : Hour) : faultS l st w ho = faultS l st' w' ho := by
  rw [faultS_congr e]
  unfold faultS
  rw [firstP_congr (p := fun i => upB (l.el i) (st' i) (w.el i)) (q := fun i => upB (l.el i) (st' i) (w'.el i)) l.len 0 (fun k _ h2 => by rw [h.2.2 k (by omega)])]
  rw [firstP_congr (p := fun i => downB (l.el i) (st' i) (w.el i)) (q := fun i => downB (l.el i) (st' i) (w'.el i)) l.len 0 (fun k _ h2 => by rw [h.2.2 k (by omega)])]
  rw [firstP_congr (p := fun i => cutB (l.el i) (st' i) (w.el i)) (q := fun i => cutB (l.el i) (st' i) (w'.el i)) l.len 0 (fun k _ h2 => by rw [h.2.2 k (by omega)])]
  rw [firstP_congr (p := crewB w.el) (q := crewB w'.el) l.len 0 (fun k _ h2 => by unfold crewB; rw [busy_weq h k (by omega), h.2.2 k (by omega)])]
  rw [firstP_congr (p := fun i => wornB (l.el i) (st' i) (w.el i)) (q := fun i => wornB (l.el i) (st' i) (w'.el i)) l.len 0 (fun k _ h2 => by rw [h.2.2 k (by omega)])]
  rw [runs_weq h]
theorem hourE_weq (ho : Hour) : hourE l w ho = hourE l w' ho := by
  unfold hourE
  rw [runs_weq h]
theorem start_weq {st st' : Nat → Sta} (e : ∀ i, i < l.len → st i = st' i) : startE l w st l.len = startE l w' st' l.len ∧ startN w st l.len = startN w' st' l.len := by
  have e1 := start_congr (l := l) (w := w) l.len e
  rw [e1.1, e1.2]
  have hb : ∀ i, startB w st' i = startB w' st' i := fun i => by unfold startB; rw [runs_weq h]
  have : ∀ n, startE l w st' n = startE l w' st' n ∧ startN w st' n = startN w' st' n := by
    intro n
    induction n with
    | zero => exact ⟨rfl, rfl⟩
    | succ n ih => simp only [startE, startN, hb, ih.1, ih.2]; exact ⟨trivial, trivial⟩
  exact this _
end
theorem play_L {l : Sl Mach} {hs : Nat → Hour} {sc : Nat → Sl Int} : ∀ (p : List Int) (t : Nat) (st : Nat → Sta) (lo hi n : Int), (∀ i, i < l.len → stAt l sc t i = st i) → (∀ k (hk : k < p.length), WEq l.len (sc (t + k)) (wayS l.len p[k])) →
    ((playR l hs sc p.length t lo hi n).rule = 1 ↔ okL l hs t st p) ∧ (okL l hs t st p → (playR l hs sc p.length t lo hi n).hi = hi + enL l hs t st p ∧ (playR l hs sc p.length t lo hi n).many = n + stL l st p)
  | [], t, st, lo, hi, n, _, _ => by simp [playR, okL, enL, stL]
  | a :: p, t, st, lo, hi, n, e, hw => by
    have hw0 : WEq l.len (sc t) (wayS l.len a) := hw 0 (by simp)
    have e' : ∀ i, i < l.len → stAt l sc (t + 1) i = nextS l st (wayS l.len a) i := fun i hi => by
      show afterS (stAt l sc t i) (l.el i) ((sc t).el i) = afterS (st i) (l.el i) ((wayS l.len a).el i)
      rw [e i hi, hw0.2.2 i hi]
    have ih := play_L (l := l) (hs := hs) (sc := sc) p (t + 1) (nextS l st (wayS l.len a)) (lo + ((hourE l (sc t) (hs t)).1 + startE l (sc t) (stAt l sc t) l.len)) (hi + ((hourE l (sc t) (hs t)).2 + startE l (sc t) (stAt l sc t) l.len)) (n + startN (sc t) (stAt l sc t) l.len) e' (fun k hk => by
      have := hw (k + 1) (by simp; omega)
      rw [show t + 1 + k = t + (k + 1) by omega]
      exact this)
    rw [List.length_cons]
    simp only [playR]
    rw [fault_weq hw0 e (hs t)]
    by_cases h1 : (faultS l st (wayS l.len a) (hs t)).1 = 1
    · rw [if_neg (fun hh => hh h1)]
      refine ⟨⟨fun h => ⟨h1, ih.1.1 h⟩, fun h => ih.1.2 h.2⟩, fun h => ?_⟩
      obtain ⟨i1, i2⟩ := ih.2 h.2
      rw [i1, i2, hourE_weq hw0, (start_weq hw0 e).1, (start_weq hw0 e).2]
      simp only [enL, stL]
      omega
    · rw [if_pos h1]
      exact ⟨⟨fun h => absurd h h1, fun h => absurd h.1 h1⟩, fun h => absurd h.1 h1⟩
def codes (n : Nat) (sc : Nat → Sl Int) (h : Nat) : List Int := (List.range h).map fun t => numF (sc t).el n
theorem codes_len (n : Nat) (sc : Nat → Sl Int) (h : Nat) : (codes n sc h).length = h := by simp [codes]
theorem codes_at {n : Nat} {sc : Nat → Sl Int} {h k : Nat} (hk : k < (codes n sc h).length) : (codes n sc h)[k] = numF (sc k).el n := by simp [codes]
section
variable {l : Sl Mach} {hs : Sl Hour} {sc : Sl (Sl Int)}
theorem codes_in (hsc : SchedOk l hs.len sc) : ∀ a ∈ codes l.len sc.el hs.len, 0 ≤ a ∧ a < ((3 ^ l.len : Nat) : Int) := by
  intro a ha
  unfold codes at ha
  rw [List.mem_map] at ha
  obtain ⟨t, ht, rfl⟩ := ha
  rw [List.mem_range] at ht
  exact numF_in l.len (hsc.1 t (by have := hsc.2; omega)).2
theorem play_codes (hsc : SchedOk l hs.len sc) : ((playS l hs sc).rule = 1 ↔ okL l hs.el 0 (beginF l) (codes l.len sc.el hs.len)) ∧ (okL l hs.el 0 (beginF l) (codes l.len sc.el hs.len) → (playS l hs sc).hi = enL l hs.el 0 (beginF l) (codes l.len sc.el hs.len) ∧ (playS l hs sc).many = stL l (beginF l) (codes l.len sc.el hs.len)) := by
  have e := play_L (l := l) (hs := hs.el) (sc := sc.el) (codes l.len sc.el hs.len) 0 (beginF l) 0 0 0 (fun i _ => rfl) (fun k hk => by
    rw [codes_at hk, Nat.zero_add]
    rw [codes_len] at hk
    exact way_num (hsc.1 k (by have := hsc.2; omega)))
  rw [codes_len] at e
  unfold playS
  simp only [Int.zero_add] at e
  exact e
def planQ (l : Sl Mach) (hs : Sl Hour) : Sl (Sl Int) := ⟨false, hs.len, fun j => wayS l.len ((planS l hs).getD j ((planS l hs).getLastD 0))⟩
theorem planS_len : (planS l hs).length = hs.len := planW_len _ _ _ _ _
theorem planS_at {k : Nat} (hk : k < (planS l hs).length) : (planS l hs).getD k ((planS l hs).getLastD 0) = (planS l hs)[k] := by
  rw [List.getD_eq_getElem?_getD, List.getElem?_eq_getElem hk]; rfl
end
end Go.Sim.Pl


namespace Go.Sim.Pl
open Go.Proofs
def lessW (a b : Nat → Int) : Nat → Nat → Option Bool
  | 0, _ => none
  | j + 1, i => if a i ≠ b i then some (decide (a i < b i)) else lessW a b j (i + 1)
def lessS (a b : Nat → Sl Int) (m : Nat) : Nat → Nat → Bool
  | 0, _ => false
  | j + 1, t => match lessW (a t).el (b t).el m 0 with
    | some v => v
    | none => lessS a b m j (t + 1)
variable (F d : Nat)
section
variable {a b : Sl (Sl Int)} {m : Nat} (hm : m ≤ 1000) (hab : a.len = b.len) (hn : a.len ≤ 1000) (ha : ∀ t, t < a.len → (a.el t).len = m) (hb : ∀ t, t < a.len → (b.el t).len = m) (hF : 2000 < F)
include hm hab hn ha hb hF
theorem l79x1 (m0 t : Nat) (ht : t < a.len) (R : Bool) (K : L79x0 (E F d) F a b m0 ((t + 1 : Nat) : Int) = some (.ret (.bool R))) : ∀ j i fu, i + j = m → j < fu → L79x1 (E F d) F a b m0 fu t i = some (.ret (.bool (match lessW (a.el t).el (b.el t).el j i with
    | some v => v
    | none => R))) := by
  have hla := ha t ht
  have hlb := hb t ht
  have hT : IntKind.i64.wrap ((t : Int) + 1) = ((t + 1 : Nat) : Int) := wrS (by omega)
  intro j
  induction j with
  | zero =>
    intro i fu h hf
    obtain ⟨fu, rfl⟩ : ∃ k, fu = k + 1 := ⟨fu - 1, by omega⟩
    rw [L79x1s]
    simp (disch := omega) only [decide_eq_true, decide_eq_false, pT, pF, Int.toNat_natCast, hT]
    exact K
  | succ j ih =>
    intro i fu h hf
    obtain ⟨fu, rfl⟩ : ∃ k, fu = k + 1 := ⟨fu - 1, by omega⟩
    have hS : IntKind.i64.wrap ((i : Int) + 1) = ((i + 1 : Nat) : Int) := wrS (by omega)
    rw [L79x1s]
    simp (disch := omega) only [decide_eq_true, pT, Int.toNat_natCast, hS]
    simp only [lessW]
    by_cases h1 : (a.el t).el i = (b.el t).el i
    · rw [if_neg (fun hh => hh h1), show ((a.el t).el i != (b.el t).el i) = false by simp [h1], pF]
      exact ih (i + 1) fu (by omega) (by omega)
    · rw [if_pos h1, show ((a.el t).el i != (b.el t).el i) = true by rw [bne_iff_ne]; exact h1, pT]
theorem l79x0 : ∀ j t fu, t + j = a.len → j < fu → L79x0 (E F d) F a b fu t = some (.ret (.bool (lessS a.el b.el m j t))) := by
  intro j
  induction j with
  | zero =>
    intro t fu h hf
    obtain ⟨fu, rfl⟩ : ∃ k, fu = k + 1 := ⟨fu - 1, by omega⟩
    rw [L79x0s, decide_eq_false (by omega), pF]
    rfl
  | succ j ih =>
    intro t fu h hf
    obtain ⟨fu, rfl⟩ : ∃ k, fu = k + 1 := ⟨fu - 1, by omega⟩
    rw [L79x0s]
    simp (disch := omega) only [decide_eq_true, pT]
    exact l79x1 F d hm hab hn ha hb hF fu t (by omega) _ (ih (t + 1) fu (by omega) (by omega)) m 0 F (by omega) (by omega)
theorem s79 : (E F (d + 1)).pf 79 [sl eIL 1 a, sl eIL 1 b] = some (.ret (.bool (lessS a.el b.el m a.len 0))) := by
  rw [E_pf, t79]
  exact l79x0 F d hm hab hn ha hb hF a.len 0 F (by omega) (by omega)
theorem s45 (x n y k : Int) : (E F (d + 2)).pf 45 [sl eIL 1 a, .int .i64 x, .int .i64 n, sl eIL 1 b, .int .i64 y, .int .i64 k] = some (.ret (.bool (if x ≠ y then decide (x < y) else if n ≠ k then decide (n < k) else lessS a.el b.el m a.len 0))) := by
  have q := s79 F d hm hab hn ha hb hF
  rw [E_pf, t45]
  simp only [q, tkOut_ret, tkBool_b]
  by_cases h1 : x = y
  · rw [if_neg (fun hh => hh h1), h1, bne_self_eq_false, pF]
    by_cases h2 : n = k
    · rw [if_neg (fun hh => hh h2), h2, bne_self_eq_false, pF]
    · rw [if_pos h2, show (n != k) = true by rw [bne_iff_ne]; exact h2, pT]
  · rw [if_pos h1, show (x != y) = true by rw [bne_iff_ne]; exact h1, pT]
end
theorem numF_congr {w w' : Nat → Int} : ∀ n, (∀ i, i < n → w i = w' i) → numF w n = numF w' n
  | 0, _ => rfl
  | n + 1, h => by simp only [numF, numF_congr n (fun i hi => h i (by omega)), h n (by omega)]
theorem numF_lt {w w' : Nat → Int} {i : Nat} (he : ∀ k, k < i → w k = w' k) (hl : w i < w' i) : ∀ n, i < n → (∀ k, k < n → 0 ≤ w k ∧ w k ≤ 2) → (∀ k, k < n → 0 ≤ w' k ∧ w' k ≤ 2) → numF w n < numF w' n
  | 0, h, _, _ => by omega
  | n + 1, h, h1, h2 => by
    simp only [numF]
    have a1 := h1 n (by omega)
    have a2 := h2 n (by omega)
    rcases Nat.lt_or_eq_of_le (Nat.le_of_lt_succ h) with h3 | h3
    · have := numF_lt he hl n h3 (fun k hk => h1 k (by omega)) (fun k hk => h2 k (by omega))
      omega
    · subst h3
      rw [numF_congr i he]
      omega
theorem lessW_num {w w' : Nat → Int} {n : Nat} (h1 : ∀ k, k < n → 0 ≤ w k ∧ w k ≤ 2) (h2 : ∀ k, k < n → 0 ≤ w' k ∧ w' k ≤ 2) : ∀ j i, i + j = n → (∀ k, k < i → w k = w' k) → (lessW w w' j i = none ∧ numF w n = numF w' n) ∨ (lessW w w' j i = some true ∧ numF w n < numF w' n) ∨ (lessW w w' j i = some false ∧ numF w' n < numF w n)
  | 0, i, h, he => .inl ⟨rfl, numF_congr n fun k hk => he k (by omega)⟩
  | j + 1, i, h, he => by
    simp only [lessW]
    by_cases h3 : w i = w' i
    · rw [if_neg (fun hh => hh h3)]
      refine lessW_num h1 h2 j (i + 1) (by omega) fun k hk => ?_
      rcases Nat.lt_or_eq_of_le (Nat.le_of_lt_succ hk) with h4 | h4
      · exact he k h4
      · subst h4; exact h3
    · rw [if_pos h3]
      by_cases h4 : w i < w' i
      · rw [decide_eq_true h4]
        exact .inr (.inl ⟨rfl, numF_lt he h4 n (by omega) h1 h2⟩)
      · rw [decide_eq_false h4]
        exact .inr (.inr ⟨rfl, numF_lt (fun k hk => (he k hk).symm) (by omega) n (by omega) h2 h1⟩)
theorem numF_dig : ∀ (n : Nat) (a : Int) (g : Nat → Int), 0 ≤ a → a < ((3 ^ n : Nat) : Int) → numF (digG n a g) n = a
  | 0, a, g, h1, h2 => by simp [numF]; simp at h2; omega
  | n + 1, a, g, h1, h2 => by
    have e1 : a.tdiv 3 = a / 3 := Int.tdiv_eq_ediv_of_nonneg h1
    have e2 : a.tmod 3 = a % 3 := Int.tmod_eq_emod_of_nonneg h1
    rw [Nat.pow_succ] at h2
    have ih := fun g' => numF_dig n (a.tdiv 3) g' (by rw [e1]; omega) (by rw [e1]; generalize 3 ^ n = p at *; omega)
    have hk : ∀ (m : Nat) (b : Int) (g : Nat → Int) k, m ≤ k → digG m b g k = g k := by
      intro m
      induction m with
      | zero => intro b g k _; rfl
      | succ m ihm =>
        intro b g k hk
        simp only [digG]
        rw [ihm _ _ k (by omega), if_neg (by omega)]
    simp only [numF, digG]
    rw [ih, hk n _ _ n (Nat.le_refl _), if_pos rfl, e1, e2]
    omega
theorem codes_range (n : Nat) (sc : Nat → Sl Int) (h : Nat) : codes n sc h = (List.range' 0 h).map fun k => numF (sc k).el n := by
  unfold codes
  rw [List.range_eq_range']
section
variable {l : Sl Mach} (hl : PlantOk l) {hs : Sl Hour} (hh : HoursOk hs) (h24 : hs.len ≤ 24) (hF : 140737488355330 < F) (hr : (bestS l hs).right = true)
include hl hh h24 hF hr
end
end Go.Sim.Pl


namespace Go.Sim.Pl
open Go.Proofs
variable (F d : Nat)
section
variable {l : Sl Mach} (hl : PlantOk l) {hs : Sl Hour} (hh : HoursOk hs) (h24 : hs.len ≤ 24) {sc : Sl (Sl Int)} (hsc : SchedOk l hs.len sc) (hF : 2000 < F) (hfine : ∀ k, k < hs.len → (faultS l (stAt l sc.el k) (sc.el k) (hs.el k)).1 = 1)
include hl hh h24 hsc hF hfine
end
end Go.Sim.Pl


namespace Go.Sim.Pl
open Go.Proofs
section
variable {l : Sl Mach} {r : Nat → Bool} {f x y : Int} (h : ∀ i, i < l.len → rowAt (l.el i) x = rowAt (l.el i) y)
include h
end
def upL (lo : Int) (k : Nat) : List Int := (List.range k).map fun i : Nat => lo + 1 + (i : Int)
def allE (e : Int → Int) (lo : Int) (k : Nat) : Int × Int := costF e (e lo, e lo) (upL lo k)
variable (F d : Nat)
end Go.Sim.Pl


namespace Go.Sim.Pl
open Go.Proofs
def Easy (l : Sl Mach) (h h' : Hour) : Prop := ∀ (w : Sl Int) (st : Nat → Sta), (faultS l st w h).1 = 1 → (faultS l st w h').1 = 1 ∧ (hourE l w h').2 ≤ (hourE l w h).2
variable (F d : Nat)
end Go.Sim.Pl


namespace Go.Sim.Pl
open Go.Proofs
variable (F d : Nat)
abbrev hsLo (hs : Sl Hour) (b : Nat) (v : Int) : Sl Hour := ⟨false, hs.len, fun j => if j = b then ⟨(hs.el b).flow, ⟨v, (hs.el b).ratio.hi⟩⟩ else hs.el j⟩
abbrev hsFl (hs : Sl Hour) (b : Nat) (v : Int) : Sl Hour := ⟨false, hs.len, fun j => if j = b then ⟨v, (hs.el b).ratio⟩ else hs.el j⟩
end Go.Sim.Pl


namespace Go.Sim.Pl
open Go.Proofs
def dgt (M x k : Nat) : Int := ((x / 3 ^ (M - 1 - k) % 3 : Nat) : Int)
def rowL (M x o i : Nat) : List Int := tabL (fun j => dgt M x (o + j)) i
def rowX (c M x t : Nat) : Sl Int := ⟨false, c, fun j => (rowL M x (t * c) c).getD j ((rowL M x (t * c) c).getLastD 0)⟩
def zI : Sl Int := ⟨true, 0, fun _ => 0⟩
def zS : Sl (Sl Int) := ⟨true, 0, fun _ => zI⟩
def schX (c n x : Nat) : Sl (Sl Int) := rowT zI (rowX c (c * n) x) n
abbrev eSc (s : Sl (Sl Int)) : List V := [sl eIL 1 s]
abbrev rst (M k : Nat) : Int := ((3 ^ (M - k) : Nat) : Int)
abbrev xst (M x k : Nat) : Int := ((x % 3 ^ (M - k) : Nat) : Int)
theorem pow_ne : ∀ k : Nat, 0 < 3 ^ k
  | 0 => by decide
  | k + 1 => by rw [Nat.pow_succ]; have := pow_ne k; omega
theorem pow_b {M k : Nat} (hM : M ≤ 6) : 3 ^ (M - k) ≤ 729 := Nat.le_trans (Nat.pow_le_pow_right (by omega) (show M - k ≤ 6 by omega)) (by decide)
section
variable {M k x : Nat} (hM : M ≤ 6) (hk : k < M)
include hM hk
theorem st1 : IntKind.i64.wrap (Int.tdiv (rst M k) 3) = rst M (k + 1) := by
  have e : 3 ^ (M - k) = 3 ^ (M - (k + 1)) * 3 := by rw [← Nat.pow_succ]; congr 1; omega
  have hb := pow_b (k := k + 1) hM
  show IntKind.i64.wrap (Int.tdiv ((3 ^ (M - k) : Nat) : Int) 3) = ((3 ^ (M - (k + 1)) : Nat) : Int)
  rw [e]
  generalize 3 ^ (M - (k + 1)) = p at *
  rw [Int.tdiv_eq_ediv_of_nonneg (by omega), wr (by omega)]
  omega
theorem st2 : Int.tmod (xst M x k) (rst M (k + 1)) = xst M x (k + 1) := by
  have e : 3 ^ (M - k) = 3 ^ (M - (k + 1)) * 3 := by rw [← Nat.pow_succ]; congr 1; omega
  show Int.tmod ((x % 3 ^ (M - k) : Nat) : Int) ((3 ^ (M - (k + 1)) : Nat) : Int) = ((x % 3 ^ (M - (k + 1)) : Nat) : Int)
  rw [← Int.ofNat_tmod, e, Nat.mod_mul_right_mod]
theorem st3 : IntKind.i64.wrap (Int.tdiv (xst M x k) (rst M (k + 1))) = dgt M x k := by
  have e : 3 ^ (M - k) = 3 ^ (M - (k + 1)) * 3 := by rw [← Nat.pow_succ]; congr 1; omega
  show IntKind.i64.wrap (Int.tdiv ((x % 3 ^ (M - k) : Nat) : Int) ((3 ^ (M - (k + 1)) : Nat) : Int)) = ((x / 3 ^ (M - 1 - k) % 3 : Nat) : Int)
  rw [← Int.ofNat_tdiv, e, Nat.mod_mul_right_div_self, show M - 1 - k = M - (k + 1) by omega]
  have : x / 3 ^ (M - (k + 1)) % 3 < 3 := Nat.mod_lt _ (by omega)
  rw [wr (by omega)]
omit hM hk in
theorem st0 : decide (rst M k = 0) = false := decide_eq_false (by have := pow_ne (M - k); show ((3 ^ (M - k) : Nat) : Int) ≠ 0; omega)
end
theorem rowL_S (M x o i : Nat) : appGet i (gl eInt 0 (rowL M x o i)) (fun _ => [V.int .i64 (dgt M x (o + i))]) = gl eInt 0 (rowL M x o (i + 1)) := by
  unfold rowL
  rw [tabL_S]
  exact gl_snoc (tabL_len _ _) rfl
theorem rowL_1 (M x o : Nat) : (fun _ : Nat => [V.int .i64 (dgt M x o)]) = gl eInt 0 (rowL M x o 1) := gl_one (m := dgt M x o) rfl
theorem hrs_1 (c M x : Nat) : (fun _ : Nat => [V.row false c 1 (gl eInt 0 (rowL M x 0 c))]) = gl eIL zI (tabL (rowX c M x) 1) := gl_one (m := rowX c M x 0) (by unfold rowX; rw [Nat.zero_mul]; rfl)
theorem hrs_S (c M x t : Nat) : appGet t (gl eIL zI (tabL (rowX c M x) t)) (fun _ => [V.row false c 1 (gl eInt 0 (rowL M x (t * c) c))]) = gl eIL zI (tabL (rowX c M x) (t + 1)) := by
  rw [tabL_S]
  exact gl_snoc (tabL_len _ _) rfl
theorem sch_1 (c n : Nat) : (fun _ : Nat => [V.row false n 1 (gl eIL zI (tabL (rowX c (c * n) 0) n))]) = gl eSc zS (tabL (schX c n) 1) := gl_one (m := schX c n 0) rfl
theorem sch_S (c n x : Nat) : appGet x (gl eSc zS (tabL (schX c n) x)) (fun _ => [V.row false n 1 (gl eIL zI (tabL (rowX c (c * n) x) n))]) = gl eSc zS (tabL (schX c n) (x + 1)) := by
  rw [tabL_S]
  exact gl_snoc (tabL_len _ _) rfl
variable (F d : Nat)
section
variable {c n : Nat} (hc : 0 < c) (hM : c * n ≤ 6) (hF : 2000 < F)
include hc hM hF
theorem hcn (hn : 0 < n) : c ≤ 6 := Nat.le_trans (Nat.le_mul_of_pos_right c hn) hM
theorem h01 : IntKind.i64.wrap ((0 : Int) + 1) = ((1 : Nat) : Int) := by decide
theorem l78x7 (m0 m1 : Nat) (many : Int) (x o : Nat) (ho : o + c ≤ c * n) (R : Option Out) (K : L78x5 (E F d) F c n m0 m1 many (xst (c * n) x (o + c)) (rst (c * n) (o + c)) 1 ((1 : Nat) : Int) 1 (fun _ => [V.row false c 1 (gl eInt 0 (rowL (c * n) x o c))]) = R) : ∀ j i fu cap, i + j = c → j < fu → 0 < i →
    L78x7 (E F d) F c n m0 m1 fu many (xst (c * n) x (o + i)) (rst (c * n) (o + i))  i i  cap (gl eInt 0 (rowL (c * n) x o i)) = R := by
  intro j
  induction j with
  | zero =>
    intro i fu cap h hf h0
    obtain ⟨fu, rfl⟩ : ∃ k, fu = k + 1 := ⟨fu - 1, by omega⟩
    obtain rfl : i = c := by omega
    rw [L78x7s, decide_eq_false (by omega), pF]
    rw [h01 F hc hM hF]
    exact K
  | succ j ih =>
    intro i fu cap h hf h0
    obtain ⟨fu, rfl⟩ : ∃ k, fu = k + 1 := ⟨fu - 1, by omega⟩
    have hS : IntKind.i64.wrap ((i : Int) + 1) = ((i + 1 : Nat) : Int) := wrS (by omega)
    have a1 := st1 (k := o + i) hM (by omega)
    have a2 := st2 (k := o + i) (x := x) hM (by omega)
    have a3 := st3 (k := o + i) (x := x) hM (by omega)
    rw [L78x7s, a1, st0, decide_eq_true (show (i : Int) < (c : Int) by omega), decide_eq_true (show (i + 1) * 8 ≤ 140737488355328 by omega)]
    simp only [pT, pF]
    rw [a2, a3, hS, rowL_S]
    exact ih (i + 1) fu (i + 1) (by omega) (by omega) (by omega)
theorem l78x9 (m0 m1 : Nat) (many : Int) (t : Nat) (ht : t ≤ 6) (k7 : Nat) (g8 : Nat → List V) (x o : Nat) (ho : o + c ≤ c * n) (R : Option Out) (K : L78x5 (E F d) F c n m0 m1 many (xst (c * n) x (o + c)) (rst (c * n) (o + c)) (t + 1) ((t + 1 : Nat) : Int) (t + 1) (appGet t g8 (fun _ => [V.row false c 1 (gl eInt 0 (rowL (c * n) x o c))])) = R) : ∀ j i fu cap, i + j = c → j < fu → 0 < i →
    L78x9 (E F d) F c n m0 m1 fu many (xst (c * n) x (o + i)) (rst (c * n) (o + i)) t (t : Int) i i k7 g8 cap (gl eInt 0 (rowL (c * n) x o i)) = R := by
  intro j
  induction j with
  | zero =>
    intro i fu cap h hf h0
    obtain ⟨fu, rfl⟩ : ∃ k, fu = k + 1 := ⟨fu - 1, by omega⟩
    obtain rfl : i = c := by omega
    rw [L78x9s, decide_eq_false (by omega), pF]
    rw [wrS (show t < 4611686018427387904 by omega), decide_eq_true (show (t + 1) * 24 ≤ 140737488355328 by omega), pT]
    exact K
  | succ j ih =>
    intro i fu cap h hf h0
    obtain ⟨fu, rfl⟩ : ∃ k, fu = k + 1 := ⟨fu - 1, by omega⟩
    have hS : IntKind.i64.wrap ((i : Int) + 1) = ((i + 1 : Nat) : Int) := wrS (by omega)
    have a1 := st1 (k := o + i) hM (by omega)
    have a2 := st2 (k := o + i) (x := x) hM (by omega)
    have a3 := st3 (k := o + i) (x := x) hM (by omega)
    rw [L78x9s, a1, st0, decide_eq_true (show (i : Int) < (c : Int) by omega), decide_eq_true (show (i + 1) * 8 ≤ 140737488355328 by omega)]
    simp only [pT, pF]
    rw [a2, a3, hS, rowL_S]
    exact ih (i + 1) fu (i + 1) (by omega) (by omega) (by omega)
theorem l78x11 (m0 m1 : Nat) (many : Int) (k1 : Nat) (i2 : Int) (k7 : Nat) (g8 : Nat → List V) (x o : Nat) (ho : o + c ≤ c * n) (R : Option Out) (K : L78x12 (E F d) F c n m0 m1 many k1 i2 (xst (c * n) x (o + c)) (rst (c * n) (o + c)) 1 ((1 : Nat) : Int) k7 g8 1 (fun _ => [V.row false c 1 (gl eInt 0 (rowL (c * n) x o c))]) = R) : ∀ j i fu cap, i + j = c → j < fu → 0 < i →
    L78x11 (E F d) F c n m0 m1 fu many k1 i2 (xst (c * n) x (o + i)) (rst (c * n) (o + i))  i i k7 g8 cap (gl eInt 0 (rowL (c * n) x o i)) = R := by
  intro j
  induction j with
  | zero =>
    intro i fu cap h hf h0
    obtain ⟨fu, rfl⟩ : ∃ k, fu = k + 1 := ⟨fu - 1, by omega⟩
    obtain rfl : i = c := by omega
    rw [L78x11s, decide_eq_false (by omega), pF]
    rw [h01 F hc hM hF]
    exact K
  | succ j ih =>
    intro i fu cap h hf h0
    obtain ⟨fu, rfl⟩ : ∃ k, fu = k + 1 := ⟨fu - 1, by omega⟩
    have hS : IntKind.i64.wrap ((i : Int) + 1) = ((i + 1 : Nat) : Int) := wrS (by omega)
    have a1 := st1 (k := o + i) hM (by omega)
    have a2 := st2 (k := o + i) (x := x) hM (by omega)
    have a3 := st3 (k := o + i) (x := x) hM (by omega)
    rw [L78x11s, a1, st0, decide_eq_true (show (i : Int) < (c : Int) by omega), decide_eq_true (show (i + 1) * 8 ≤ 140737488355328 by omega)]
    simp only [pT, pF]
    rw [a2, a3, hS, rowL_S]
    exact ih (i + 1) fu (i + 1) (by omega) (by omega) (by omega)
theorem l78x14 (m0 m1 : Nat) (many : Int) (k1 : Nat) (i2 : Int) (t : Nat) (ht : t ≤ 6) (k9 : Nat) (g10 : Nat → List V) (k11 : Nat) (g12 : Nat → List V) (x o : Nat) (ho : o + c ≤ c * n) (R : Option Out) (K : L78x12 (E F d) F c n m0 m1 many k1 i2 (xst (c * n) x (o + c)) (rst (c * n) (o + c)) (t + 1) ((t + 1 : Nat) : Int) k9 g10 (t + 1) (appGet t g12 (fun _ => [V.row false c 1 (gl eInt 0 (rowL (c * n) x o c))])) = R) : ∀ j i fu cap, i + j = c → j < fu → 0 < i →
    L78x14 (E F d) F c n m0 m1 fu many k1 i2 (xst (c * n) x (o + i)) (rst (c * n) (o + i)) t (t : Int) i i k9 g10 k11 g12 cap (gl eInt 0 (rowL (c * n) x o i)) = R := by
  intro j
  induction j with
  | zero =>
    intro i fu cap h hf h0
    obtain ⟨fu, rfl⟩ : ∃ k, fu = k + 1 := ⟨fu - 1, by omega⟩
    obtain rfl : i = c := by omega
    rw [L78x14s, decide_eq_false (by omega), pF]
    rw [wrS (show t < 4611686018427387904 by omega), decide_eq_true (show (t + 1) * 24 ≤ 140737488355328 by omega), pT]
    exact K
  | succ j ih =>
    intro i fu cap h hf h0
    obtain ⟨fu, rfl⟩ : ∃ k, fu = k + 1 := ⟨fu - 1, by omega⟩
    have hS : IntKind.i64.wrap ((i : Int) + 1) = ((i + 1 : Nat) : Int) := wrS (by omega)
    have a1 := st1 (k := o + i) hM (by omega)
    have a2 := st2 (k := o + i) (x := x) hM (by omega)
    have a3 := st3 (k := o + i) (x := x) hM (by omega)
    rw [L78x14s, a1, st0, decide_eq_true (show (i : Int) < (c : Int) by omega), decide_eq_true (show (i + 1) * 8 ≤ 140737488355328 by omega)]
    simp only [pT, pF]
    rw [a2, a3, hS, rowL_S]
    exact ih (i + 1) fu (i + 1) (by omega) (by omega) (by omega)
theorem l78x5 (m0 : Nat) (many : Int) (hn : 0 < n) (x : Nat) (R : Option Out) (K : L78x4 (E F d) F c n m0 many 1 ((1 : Nat) : Int) 1 (fun _ => [V.row false n 1 (gl eIL zI (tabL (rowX c (c * n) x) n))]) = R) : ∀ j t fu cap, t + j = n → j < fu → 0 < t →
    L78x5 (E F d) F c n m0 fu many (xst (c * n) x (t * c)) (rst (c * n) (t * c)) t t cap (gl eIL zI (tabL (rowX c (c * n) x) t)) = R := by
  have hc6 := hcn F hc hM hF hn
  have hn6 : n ≤ 6 := Nat.le_trans (Nat.le_mul_of_pos_left n hc) hM
  intro j
  induction j with
  | zero =>
    intro t fu cap h hf h0
    obtain ⟨fu, rfl⟩ : ∃ k, fu = k + 1 := ⟨fu - 1, by omega⟩
    obtain rfl : t = n := by omega
    rw [L78x5s, decide_eq_false (by omega), pF, h01 F hc hM hF]
    exact K
  | succ j ih =>
    intro t fu cap h hf h0
    obtain ⟨fu, rfl⟩ : ∃ k, fu = k + 1 := ⟨fu - 1, by omega⟩
    have ho : t * c + c ≤ c * n := by
      have := Nat.mul_le_mul_right c (show t + 1 ≤ n by omega)
      rw [Nat.succ_mul, Nat.mul_comm n c] at this
      exact this
    have e := ih (t + 1) fu (t + 1) (by omega) (by omega) (by omega)
    rw [Nat.succ_mul] at e
    have a1 := st1 (k := t * c) hM (by omega)
    have a2 := st2 (k := t * c) (x := x) hM (by omega)
    have a3 := st3 (k := t * c) (x := x) hM (by omega)
    rw [L78x5s, decide_eq_true (show (t : Int) < (n : Int) by omega), pT]
    obtain ⟨G, rfl⟩ : ∃ k, F = k + 1 := ⟨F - 1, by omega⟩
    rw [L78x6s, a1, st0, decide_eq_true (show (0 : Int) < (c : Int) by omega)]
    simp only [pT, pF]
    rw [a2, a3, h01 (G + 1) hc hM hF, rowL_1]
    exact l78x9 (G + 1) d hc hM hF m0 fu many t (by omega) cap _ x (t * c) ho R (by rw [hrs_S]; exact e) (c - 1) 1 G 1 (by omega) (by omega) (by omega)
theorem l78x12 (m0 : Nat) (many : Int) (hn : 0 < n) (k1 x : Nat) (hk1 : k1 ≤ 1000) (k7 : Nat) (g8 : Nat → List V) (R : Option Out) (K : L78x4 (E F d) F c n m0 many (k1 + 1) ((k1 + 1 : Nat) : Int) (k1 + 1) (appGet k1 g8 (fun _ => [V.row false n 1 (gl eIL zI (tabL (rowX c (c * n) x) n))])) = R) : ∀ j t fu cap, t + j = n → j < fu → 0 < t →
    L78x12 (E F d) F c n m0 fu many k1 k1 (xst (c * n) x (t * c)) (rst (c * n) (t * c)) t t k7 g8 cap (gl eIL zI (tabL (rowX c (c * n) x) t)) = R := by
  have hc6 := hcn F hc hM hF hn
  have hn6 : n ≤ 6 := Nat.le_trans (Nat.le_mul_of_pos_left n hc) hM
  intro j
  induction j with
  | zero =>
    intro t fu cap h hf h0
    obtain ⟨fu, rfl⟩ : ∃ k, fu = k + 1 := ⟨fu - 1, by omega⟩
    obtain rfl : t = n := by omega
    rw [L78x12s, decide_eq_false (by omega), pF, decide_eq_true (show (k1 + 1) * 24 ≤ 140737488355328 by omega), pT, wrS (show k1 < 4611686018427387904 by omega)]
    exact K
  | succ j ih =>
    intro t fu cap h hf h0
    obtain ⟨fu, rfl⟩ : ∃ k, fu = k + 1 := ⟨fu - 1, by omega⟩
    have ho : t * c + c ≤ c * n := by
      have := Nat.mul_le_mul_right c (show t + 1 ≤ n by omega)
      rw [Nat.succ_mul, Nat.mul_comm n c] at this
      exact this
    have e := ih (t + 1) fu (t + 1) (by omega) (by omega) (by omega)
    rw [Nat.succ_mul] at e
    have a1 := st1 (k := t * c) hM (by omega)
    have a2 := st2 (k := t * c) (x := x) hM (by omega)
    have a3 := st3 (k := t * c) (x := x) hM (by omega)
    rw [L78x12s, decide_eq_true (show (t : Int) < (n : Int) by omega), pT]
    obtain ⟨G, rfl⟩ : ∃ k, F = k + 1 := ⟨F - 1, by omega⟩
    rw [L78x13s, a1, st0, decide_eq_true (show (0 : Int) < (c : Int) by omega)]
    simp only [pT, pF]
    rw [a2, a3, h01 (G + 1) hc hM hF, rowL_1]
    exact l78x14 (G + 1) d hc hM hF m0 fu many k1 k1 t (by omega) k7 g8 cap _ x (t * c) ho R (by rw [hrs_S]; exact e) (c - 1) 1 G 1 (by omega) (by omega) (by omega)
theorem l78x4 (hn : 0 < n) : ∀ j k fu cap, k + j = 3 ^ (c * n) → j < fu → 0 < k →
    L78x4 (E F d) F c n fu ((3 ^ (c * n) : Nat) : Int) k k cap (gl eSc zS (tabL (schX c n) k)) = some (.ret (.row false (3 ^ (c * n)) 1 (gl eSc zS (tabL (schX c n) (3 ^ (c * n)))))) := by
  have hc6 := hcn F hc hM hF hn
  have hn6 : n ≤ 6 := Nat.le_trans (Nat.le_mul_of_pos_left n hc) hM
  have hb : 3 ^ (c * n) ≤ 729 := pow_b (k := 0) hM
  intro j
  induction j with
  | zero =>
    intro k fu cap h hf h0
    obtain ⟨fu, rfl⟩ : ∃ k, fu = k + 1 := ⟨fu - 1, by omega⟩
    obtain rfl : k = 3 ^ (c * n) := by omega
    rw [L78x4s, decide_eq_false (by omega), pF]
  | succ j ih =>
    intro k fu cap h hf h0
    obtain ⟨fu, rfl⟩ : ∃ k, fu = k + 1 := ⟨fu - 1, by omega⟩
    have e := ih (k + 1) fu (k + 1) (by omega) (by omega) (by omega)
    have hcn' : 0 < c * n := Nat.mul_pos hc hn
    have hcc : 0 + c ≤ c * n := by rw [Nat.zero_add]; exact Nat.le_mul_of_pos_right c hn
    have a1 := st1 (k := 0) hM hcn'
    have a2 := st2 (k := 0) (x := k) hM hcn'
    have a3 := st3 (k := 0) (x := k) hM hcn'
    have x0 : ((k : Nat) : Int) = xst (c * n) k 0 := by show (k : Int) = ((k % 3 ^ (c * n - 0) : Nat) : Int); rw [Nat.sub_zero, Nat.mod_eq_of_lt (by omega)]
    have r0 : ((3 ^ (c * n) : Nat) : Int) = rst (c * n) 0 := rfl
    have h12 := l78x12 F d hc hM hF fu ((3 ^ (c * n) : Nat) : Int) hn k k (by omega) cap (gl eSc zS (tabL (schX c n) k)) (some (.ret (.row false (3 ^ (c * n)) 1 (gl eSc zS (tabL (schX c n) (3 ^ (c * n))))))) (by rw [sch_S]; exact e) (n - 1) 1
    rw [L78x4s, decide_eq_true (show (k : Int) < ((3 ^ (c * n) : Nat) : Int) by omega), pT]
    obtain ⟨G, rfl⟩ : ∃ k, F = k + 1 := ⟨F - 1, by omega⟩
    have h11 := l78x11 (G + 1) d hc hM hF fu G ((3 ^ (c * n) : Nat) : Int) k k cap (gl eSc zS (tabL (schX c n) k)) k 0 hcc (some (.ret (.row false (3 ^ (c * n)) 1 (gl eSc zS (tabL (schX c n) (3 ^ (c * n))))))) (by
      rw [hrs_1, Nat.zero_add]
      have := h12 G 1 (by omega) (by omega) (by omega)
      rw [Nat.one_mul] at this
      exact this) (c - 1) 1 G 1 (by omega) (by omega) (by omega)
    rw [L78x8s, decide_eq_true (show (0 : Int) < (n : Int) by omega), pT]
    rw [L78x10s, decide_eq_true (show (0 : Int) < (c : Int) by omega), pT]
    have a1' : IntKind.i64.wrap (Int.tdiv ((3 ^ (c * n) : Nat) : Int) 3) = rst (c * n) (0 + 1) := a1
    have a2' : Int.tmod ((k : Nat) : Int) (rst (c * n) (0 + 1)) = xst (c * n) k (0 + 1) := by rw [x0]; exact a2
    have a3' : IntKind.i64.wrap (Int.tdiv ((k : Nat) : Int) (rst (c * n) (0 + 1))) = dgt (c * n) k 0 := by rw [x0]; exact a3
    rw [a1', st0]
    simp only [pT, pF]
    rw [a2', a3', h01 (G + 1) hc hM hF, rowL_1]
    exact h11
theorem l78x0 : ∀ (j i fu : Nat), i + j = c * n → j < fu → L78x0 (E F d) F c n fu ((3 ^ i : Nat) : Int) i = L78x1 (E F d) F c n F ((3 ^ (c * n) : Nat) : Int) := by
  have hw : IntKind.i64.wrap ((c : Int) * (n : Int)) = ((c * n : Nat) : Int) := by rw [← Int.natCast_mul, wr (by omega)]
  intro j
  induction j with
  | zero =>
    intro i fu h hf
    obtain ⟨fu, rfl⟩ : ∃ k, fu = k + 1 := ⟨fu - 1, by omega⟩
    obtain rfl : i = c * n := by omega
    rw [L78x0s, hw, decide_eq_false (by omega), pF]
  | succ j ih =>
    intro i fu h hf
    obtain ⟨fu, rfl⟩ : ∃ k, fu = k + 1 := ⟨fu - 1, by omega⟩
    have e := ih (i + 1) fu (by omega) (by omega)
    have hb : 3 ^ i ≤ 729 := Nat.le_trans (Nat.pow_le_pow_right (by omega) (show i ≤ 6 by omega)) (by decide)
    have hS : IntKind.i64.wrap ((i : Int) + 1) = ((i + 1 : Nat) : Int) := wrS (by omega)
    have hm : IntKind.i64.wrap ((3 : Int) * ((3 ^ i : Nat) : Int)) = ((3 ^ (i + 1) : Nat) : Int) := by
      rw [Nat.pow_succ]
      generalize 3 ^ i = p at *
      rw [wr (by omega)]
      omega
    rw [L78x0s, hw, decide_eq_true (by omega), pT, hS, hm]
    exact e
theorem s78 (hn : 0 < n) : (E F (d + 1)).pf 78 [.int .i64 c, .int .i64 n] = some (.ret (.row false (3 ^ (c * n)) 1 (gl eSc zS (tabL (schX c n) (3 ^ (c * n)))))) := by
  have hc6 := hcn F hc hM hF hn
  have hn6 : n ≤ 6 := Nat.le_trans (Nat.le_mul_of_pos_left n hc) hM
  have e0 := l78x0 F d hc hM hF (c * n) 0 F (by omega) (by omega)
  rw [E_pf, t78]
  rw [Nat.pow_zero] at e0
  refine Eq.trans e0 ?_
  have hb : 3 ^ (c * n) ≤ 729 := pow_b (k := 0) hM
  have hp := pow_ne (c * n)
  have hcn' : 0 < c * n := Nat.mul_pos hc hn
  have hcc : 0 + c ≤ c * n := by rw [Nat.zero_add]; exact Nat.le_mul_of_pos_right c hn
  have a1 : IntKind.i64.wrap (Int.tdiv ((3 ^ (c * n) : Nat) : Int) 3) = rst (c * n) (0 + 1) := st1 (k := 0) hM hcn'
  have x0 : (0 : Int) = xst (c * n) 0 0 := by show (0 : Int) = ((0 % 3 ^ (c * n - 0) : Nat) : Int); rw [Nat.zero_mod]; rfl
  have a2 : Int.tmod 0 (rst (c * n) (0 + 1)) = xst (c * n) 0 (0 + 1) := by have := st2 (k := 0) (x := 0) hM hcn'; rw [← x0] at this; exact this
  have a3 : IntKind.i64.wrap (Int.tdiv 0 (rst (c * n) (0 + 1))) = dgt (c * n) 0 0 := by have := st3 (k := 0) (x := 0) hM hcn'; rw [← x0] at this; exact this
  obtain ⟨G, rfl⟩ : ∃ k, F = k + 1 := ⟨F - 1, by omega⟩
  have h4 := l78x4 (G + 1) d hc hM hF hn (3 ^ (c * n) - 1) 1 G 1 (by omega) (by omega) (by omega)
  have h5 := l78x5 (G + 1) d hc hM hF G ((3 ^ (c * n) : Nat) : Int) hn 0 (some (.ret (.row false (3 ^ (c * n)) 1 (gl eSc zS (tabL (schX c n) (3 ^ (c * n))))))) (by rw [sch_1]; exact h4) (n - 1) 1 G 1 (by omega) (by omega) (by omega)
  rw [Nat.one_mul] at h5
  have h7 := l78x7 (G + 1) d hc hM hF G G ((3 ^ (c * n) : Nat) : Int) 0 0 hcc (some (.ret (.row false (3 ^ (c * n)) 1 (gl eSc zS (tabL (schX c n) (3 ^ (c * n))))))) (by rw [hrs_1, Nat.zero_add]; exact h5) (c - 1) 1 G 1 (by omega) (by omega) (by omega)
  rw [L78x1s, decide_eq_true (by omega), pT, L78x2s, decide_eq_true (show (0 : Int) < (n : Int) by omega), pT, L78x3s, decide_eq_true (show (0 : Int) < (c : Int) by omega), pT]
  rw [a1, st0]
  simp only [pT, pF]
  rw [a2, a3, h01 (G + 1) hc hM hF, rowL_1]
  exact h7
end
theorem s78x0 {c : Nat} (hc : c ≤ 6) (hF : 2000 < F) : (E F (d + 1)).pf 78 [.int .i64 c, .int .i64 (0 : Nat)] = some (.ret (.row false 1 1 (fun _ => [.row true 0 0 (fun _ => [])]))) := by
  obtain ⟨G, rfl⟩ : ∃ k, F = k + 1 := ⟨F - 1, by omega⟩
  have hw : IntKind.i64.wrap ((c : Int) * ((0 : Nat) : Int)) = 0 := by rw [Int.natCast_zero, Int.mul_zero]; decide
  rw [E_pf, t78, L78x0s, hw, show decide ((0 : Int) < 0) = false from rfl, pF, L78x1s, show decide ((0 : Int) < 1) = true from rfl, pT, L78x2s, show decide ((0 : Int) < ((0 : Nat) : Int)) = false from rfl, pF]
  obtain ⟨H, rfl⟩ : ∃ k, G = k + 1 := ⟨G - 1, by omega⟩
  rw [L78x4s, show decide (IntKind.i64.wrap ((0 : Int) + 1) < 1) = false from by decide, pF]
end Go.Sim.Pl


namespace Go.Sim.Pl
open Go.Proofs
theorem dgt_dig : ∀ (M : Nat) (x : Nat) (g : Nat → Int) (k : Nat), k < M → digG M (x : Int) g k = dgt M x k
  | 0, _, _, k, h => by omega
  | M + 1, x, g, k, h => by
    simp only [digG]
    have e1 : (x : Int).tdiv 3 = ((x / 3 : Nat) : Int) := (Int.ofNat_tdiv x 3).symm
    have e2 : (x : Int).tmod 3 = ((x % 3 : Nat) : Int) := (Int.ofNat_tmod x 3).symm
    rw [e1, e2]
    have hk : ∀ (m : Nat) (b : Int) (g : Nat → Int) k, m ≤ k → digG m b g k = g k := by
      intro m
      induction m with
      | zero => intro b g k _; rfl
      | succ m ihm =>
        intro b g k hk
        simp only [digG]
        rw [ihm _ _ k (by omega), if_neg (by omega)]
    by_cases h1 : k < M
    · rw [dgt_dig M (x / 3) _ k h1]
      unfold dgt
      rw [Nat.div_div_eq_div_mul, show M + 1 - 1 - k = (M - 1 - k) + 1 by omega, Nat.pow_succ, Nat.mul_comm 3]
    · have h2 : k = M := by omega
      subst h2
      rw [hk k _ _ k (Nat.le_refl _), if_pos rfl]
      unfold dgt
      rw [show k + 1 - 1 - k = 0 by omega, Nat.pow_zero, Nat.div_one]
theorem dgt_in (M x k : Nat) : 0 ≤ dgt M x k ∧ dgt M x k ≤ 2 := by
  unfold dgt
  have : x / 3 ^ (M - 1 - k) % 3 < 3 := Nat.mod_lt _ (by omega)
  omega
theorem rowX_el {c M x t j : Nat} (h : j < c) : (rowX c M x t).el j = dgt M x (t * c + j) := tabL_get _ h _
theorem schX_el {c n x t : Nat} (h : t < n) : (schX c n x).el t = rowX c (c * n) x t := rowT_el h
theorem schX_ok (c n x : Nat) (l : Sl Mach) (hl : l.len = c) : SchedOk l n (schX c n x) := by
  refine ⟨fun t ht => ?_, rfl⟩
  have ht : t < n := ht
  rw [schX_el ht, hl]
  exact ⟨rfl, fun j hj => by rw [rowX_el hj]; exact dgt_in _ _ _⟩
theorem sch_all {c n : Nat} (hc : 0 < c) (p : List Int) (hp : p.length = n) (hb : ∀ a ∈ p, 0 ≤ a ∧ a < ((3 ^ c : Nat) : Int)) : ∃ x, x < 3 ^ (c * n) ∧ codes c (schX c n x).el n = p := by
  have hpb : ∀ k, 0 ≤ p.getD k 0 ∧ p.getD k 0 < ((3 ^ c : Nat) : Int) := fun k => by
    rw [List.getD_eq_getElem?_getD]
    by_cases h : k < p.length
    · rw [List.getElem?_eq_getElem h]; exact hb _ (List.getElem_mem h)
    · rw [List.getElem?_eq_none (by omega)]; exact ⟨Int.le_refl _, show (0 : Int) < ((3 ^ c : Nat) : Int) from Int.ofNat_lt.2 (pow_ne c)⟩
  have hd : ∀ k, k < c * n → 0 ≤ digF (p.getD (k / c) 0) c (k % c) ∧ digF (p.getD (k / c) 0) c (k % c) ≤ 2 := fun k _ => digG_in c _ _ (k % c) (hpb _).1 (Nat.mod_lt _ hc)
  have hx := numF_in (w := fun k => digF (p.getD (k / c) 0) c (k % c)) (c * n) hd
  obtain ⟨x, hx1⟩ : ∃ x : Nat, numF (fun k => digF (p.getD (k / c) 0) c (k % c)) (c * n) = x := ⟨_, (Int.toNat_of_nonneg hx.1).symm⟩
  refine ⟨x, by omega, ?_⟩
  refine List.ext_getElem (by rw [codes_len, hp]) fun t h1 h2 => ?_
  rw [codes_at h1]
  have ht : t < n := by omega
  have ho : t * c + c ≤ c * n := by
    have := Nat.mul_le_mul_right c (show t + 1 ≤ n by omega)
    rw [Nat.succ_mul, Nat.mul_comm n c] at this
    exact this
  rw [schX_el ht]
  have e : numF (rowX c (c * n) x t).el c = numF (digG c (p.getD t 0) fun _ => 0) c := numF_congr c fun j hj => by
    rw [rowX_el hj, ← dgt_dig (c * n) x (fun _ => 0) (t * c + j) (by omega), ← hx1, digG_eq (c * n) hd, if_pos (by omega)]
    have e1 : (t * c + j) / c = t := by rw [Nat.mul_comm t c, Nat.mul_add_div hc, Nat.div_eq_of_lt hj, Nat.add_zero]
    have e2 : (t * c + j) % c = j := by rw [Nat.mul_comm t c, Nat.mul_add_mod, Nat.mod_eq_of_lt hj]
    rw [e1, e2]
    rfl
  rw [e, numF_dig c _ _ (hpb t).1 (hpb t).2, List.getD_eq_getElem?_getD, List.getElem?_eq_getElem h2]
  rfl
theorem lexL_refl : ∀ p : List Int, lexL p p
  | [] => trivial
  | a :: p => .inr ⟨rfl, lexL_refl p⟩
theorem lexL_trans : ∀ {p q r : List Int}, p.length = q.length → q.length = r.length → lexL p q → lexL q r → lexL p r
  | [], _, _, _, _, _, _ => by simp [lexL]
  | a :: p, [], _, h, _, _, _ => by simp at h
  | a :: p, b :: q, [], _, h, _, _ => by simp at h
  | a :: p, b :: q, c :: r, h1, h2, h3, h4 => by
    have h3' : a < b ∨ a = b ∧ lexL p q := h3
    have h4' : b < c ∨ b = c ∧ lexL q r := h4
    show a < c ∨ a = c ∧ lexL p r
    rcases h3' with h3 | ⟨h3, h5⟩
    · rcases h4' with h4 | ⟨h4, _⟩
      · exact .inl (by omega)
      · exact .inl (by omega)
    · rcases h4' with h4 | ⟨h4, h6⟩
      · exact .inl (by omega)
      · exact .inr ⟨by omega, lexL_trans (by simpa using h1) (by simpa using h2) h5 h6⟩
theorem lexL_anti : ∀ {p q : List Int}, p.length = q.length → lexL p q → lexL q p → p = q
  | [], [], _, _, _ => rfl
  | [], b :: q, h, _, _ => by simp at h
  | a :: p, [], h, _, _ => by simp at h
  | a :: p, b :: q, h, h1, h2 => by
    have h1' : a < b ∨ a = b ∧ lexL p q := h1
    have h2' : b < a ∨ b = a ∧ lexL q p := h2
    rcases h1' with h3 | ⟨h3, h4⟩
    · rcases h2' with h5 | ⟨h5, _⟩ <;> omega
    · rcases h2' with h5 | ⟨_, h6⟩
      · omega
      · rw [h3, lexL_anti (by simpa using h) h4 h6]
theorem less_lex {a b : Nat → Sl Int} {m : Nat} : ∀ (j t : Nat), (∀ k, t ≤ k → k < t + j → DoesOk m (a k) ∧ DoesOk m (b k)) →
    (lessS a b m j t = true → lexL ((List.range' t j).map fun k => numF (a k).el m) ((List.range' t j).map fun k => numF (b k).el m)) ∧ (lessS a b m j t = false → lexL ((List.range' t j).map fun k => numF (b k).el m) ((List.range' t j).map fun k => numF (a k).el m))
  | 0, _, _ => ⟨fun _ => trivial, fun _ => trivial⟩
  | j + 1, t, h => by
    have h0 := h t (Nat.le_refl _) (by omega)
    have ih := less_lex (a := a) (b := b) (m := m) j (t + 1) (fun k h1 h2 => h k (by omega) (by omega))
    simp only [lessS, List.range'_succ, List.map_cons]
    rcases lessW_num h0.1.2 h0.2.2 m 0 (by omega) (fun k hk => by omega) with ⟨e1, e2⟩ | ⟨e1, e2⟩ | ⟨e1, e2⟩
    · rw [e1]
      exact ⟨fun hh => .inr ⟨e2, ih.1 hh⟩, fun hh => .inr ⟨e2.symm, ih.2 hh⟩⟩
    · rw [e1]
      exact ⟨fun _ => .inl e2, fun hh => absurd (show true = false from hh) (by decide)⟩
    · rw [e1]
      exact ⟨fun hh => absurd (show false = true from hh) (by decide), fun _ => .inl e2⟩
section
variable (l : Sl Mach) (hs : Sl Hour)
abbrev scX (x : Nat) : Sl (Sl Int) := schX l.len hs.len x
abbrev fineX (x : Nat) : Prop := (playS l hs (scX l hs x)).rule = 1
abbrev enX (x : Nat) : Int := (playS l hs (scX l hs x)).hi
abbrev stX (x : Nat) : Int := (playS l hs (scX l hs x)).many
abbrev cdX (x : Nat) : List Int := codes l.len (scX l hs x).el hs.len
def betX (x c : Nat) : Bool := if enX l hs x ≠ enX l hs c then decide (enX l hs x < enX l hs c) else if stX l hs x ≠ stX l hs c then decide (stX l hs x < stX l hs c) else lessS (scX l hs x).el (scX l hs c).el l.len hs.len 0
def le3 (c x : Nat) : Prop := enX l hs c < enX l hs x ∨ enX l hs c = enX l hs x ∧ (stX l hs c < stX l hs x ∨ stX l hs c = stX l hs x ∧ lexL (cdX l hs c) (cdX l hs x))
def nextC (cur : Option Nat) (x : Nat) : Option Nat := if fineX l hs x then (match cur with
  | none => some x
  | some c => if betX l hs x c = true then some x else some c) else cur
def bestC : Nat → Option Nat
  | 0 => none
  | k + 1 => nextC l hs (bestC k) k
variable {l hs}
theorem bet_le (x c : Nat) : (betX l hs x c = true → le3 l hs x c) ∧ (betX l hs x c = false → le3 l hs c x) := by
  have hll := less_lex (a := (scX l hs x).el) (b := (scX l hs c).el) (m := l.len) hs.len 0 (fun k _ hk => ⟨(schX_ok l.len hs.len x l rfl).1 k (by show k < hs.len; omega), (schX_ok l.len hs.len c l rfl).1 k (by show k < hs.len; omega)⟩)
  rw [← codes_range, ← codes_range] at hll
  unfold betX le3
  by_cases h1 : enX l hs x = enX l hs c
  · rw [if_neg (fun h => h h1)]
    by_cases h2 : stX l hs x = stX l hs c
    · rw [if_neg (fun h => h h2)]
      exact ⟨fun h => .inr ⟨h1, .inr ⟨h2, hll.1 h⟩⟩, fun h => .inr ⟨h1.symm, .inr ⟨h2.symm, hll.2 h⟩⟩⟩
    · rw [if_pos h2, decide_eq_true_iff, decide_eq_false_iff_not]
      exact ⟨fun h => .inr ⟨h1, .inl h⟩, fun h => .inr ⟨h1.symm, .inl (by omega)⟩⟩
  · rw [if_pos h1, decide_eq_true_iff, decide_eq_false_iff_not]
    exact ⟨fun h => .inl h, fun h => .inl (by omega)⟩
theorem le3xrefl (c : Nat) : le3 l hs c c := .inr ⟨rfl, .inr ⟨rfl, lexL_refl _⟩⟩
theorem le3xtrans {a b c : Nat} (h1 : le3 l hs a b) (h2 : le3 l hs b c) : le3 l hs a c := by
  have hl : ∀ x y, (cdX l hs x).length = (cdX l hs y).length := fun x y => by rw [codes_len, codes_len]
  rcases h1 with h1 | ⟨h1, h3 | ⟨h3, h5⟩⟩
  · rcases h2 with h2 | ⟨h2, _⟩
    · exact .inl (by omega)
    · exact .inl (by omega)
  · rcases h2 with h2 | ⟨h2, h4 | ⟨h4, _⟩⟩
    · exact .inl (by omega)
    · exact .inr ⟨by omega, .inl (by omega)⟩
    · exact .inr ⟨by omega, .inl (by omega)⟩
  · rcases h2 with h2 | ⟨h2, h4 | ⟨h4, h6⟩⟩
    · exact .inl (by omega)
    · exact .inr ⟨by omega, .inl (by omega)⟩
    · exact .inr ⟨by omega, .inr ⟨by omega, lexL_trans (hl _ _) (hl _ _) h5 h6⟩⟩
theorem bestC_ok : ∀ k, (bestC l hs k = none ∧ ∀ x, x < k → ¬ fineX l hs x) ∨ ∃ c, bestC l hs k = some c ∧ c < k ∧ fineX l hs c ∧ ∀ x, x < k → fineX l hs x → le3 l hs c x
  | 0 => .inl ⟨rfl, fun x hx => by omega⟩
  | k + 1 => by
    simp only [bestC, nextC]
    by_cases hf : fineX l hs k
    · rw [if_pos hf]
      rcases bestC_ok k with ⟨e, h⟩ | ⟨c, e, h1, h2, h3⟩
      · rw [e]
        refine .inr ⟨k, rfl, by omega, hf, fun x hx hfx => ?_⟩
        rcases Nat.lt_or_eq_of_le (Nat.le_of_lt_succ hx) with h4 | h4
        · exact absurd hfx (h x h4)
        · rw [h4]; exact le3xrefl _
      · rw [e]
        simp only
        by_cases hb : betX l hs k c = true
        · rw [if_pos hb]
          have hkc := (bet_le k c).1 hb
          refine .inr ⟨k, rfl, by omega, hf, fun x hx hfx => ?_⟩
          rcases Nat.lt_or_eq_of_le (Nat.le_of_lt_succ hx) with h4 | h4
          · exact le3xtrans hkc (h3 x h4 hfx)
          · rw [h4]; exact le3xrefl _
        · rw [if_neg hb]
          have hck := (bet_le k c).2 (by simpa using hb)
          refine .inr ⟨c, rfl, by omega, h2, fun x hx hfx => ?_⟩
          rcases Nat.lt_or_eq_of_le (Nat.le_of_lt_succ hx) with h4 | h4
          · exact h3 x h4 hfx
          · rw [h4]; exact hck
    · rw [if_neg hf]
      rcases bestC_ok k with ⟨e, h⟩ | ⟨c, e, h1, h2, h3⟩
      · refine .inl ⟨e, fun x hx hfx => ?_⟩
        rcases Nat.lt_or_eq_of_le (Nat.le_of_lt_succ hx) with h4 | h4
        · exact h x h4 hfx
        · subst h4; exact hf hfx
      · refine .inr ⟨c, e, by omega, h2, fun x hx hfx => ?_⟩
        rcases Nat.lt_or_eq_of_le (Nat.le_of_lt_succ hx) with h4 | h4
        · exact h3 x h4 hfx
        · subst h4; exact absurd hfx hf
theorem best_same (hl : PlantOk l) : (bestC l hs (3 ^ (l.len * hs.len)) = none ∧ (bestS l hs).right = false) ∨ ∃ c, bestC l hs (3 ^ (l.len * hs.len)) = some c ∧ (bestS l hs).right = true ∧ enX l hs c = (bestS l hs).energy ∧ SameSc (planQ l hs) (scX l hs c) := by
  have hplan : (bestS l hs).right = true → ∃ x, x < 3 ^ (l.len * hs.len) ∧ cdX l hs x = planS l hs ∧ fineX l hs x ∧ enX l hs x = (bestS l hs).energy ∧ stX l hs x = (bestS l hs).starts := fun hr => by
    obtain ⟨h1, h2, h3, h4⟩ := bst_att l hs.el hs.len 0 (beginF l) hr
    obtain ⟨x, hx, hc⟩ := sch_all (c := l.len) (n := hs.len) (by have := hl.2; omega) (planS l hs) planS_len h4
    have hp := play_codes (l := l) (hs := hs) (sc := scX l hs x) (schX_ok l.len hs.len x l rfl)
    rw [hc] at hp
    have h5 := hp.2 h1
    exact ⟨x, hx, hc, hp.1.2 h1, h5.1.trans h2, h5.2.trans h3⟩
  rcases bestC_ok (l := l) (hs := hs) (3 ^ (l.len * hs.len)) with ⟨e, h⟩ | ⟨c, e, h1, h2, h3⟩
  · refine .inl ⟨e, ?_⟩
    cases hr : (bestS l hs).right with
    | false => rfl
    | true =>
      obtain ⟨x, hx, _, hf, _⟩ := hplan hr
      exact absurd hf (h x hx)
  · have hok := schX_ok l.len hs.len c l rfl
    have hp := play_codes (l := l) (hs := hs) (sc := scX l hs c) hok
    have hb := bst_opt l hs.el (cdX l hs c) 0 (beginF l) (codes_in hok) (hp.1.1 h2)
    have hp2 := hp.2 (hp.1.1 h2)
    rw [codes_len, ← hp2.1, ← hp2.2] at hb
    have hr : (bestS l hs).right = true := hb.1
    obtain ⟨x, hx, hcx, hfx, hex, hsx⟩ := hplan hr
    have hle := h3 x hx hfx
    have hb2 : (bestS l hs).energy < enX l hs c ∨ (bestS l hs).energy = enX l hs c ∧ ((bestS l hs).starts < stX l hs c ∨ (bestS l hs).starts = stX l hs c ∧ lexL (planS l hs) (cdX l hs c)) := hb.2
    unfold le3 at hle
    rw [hex, hsx, hcx] at hle
    have key : enX l hs c = (bestS l hs).energy ∧ lexL (planS l hs) (cdX l hs c) ∧ lexL (cdX l hs c) (planS l hs) := by
      rcases hle with a | ⟨a, b | ⟨b, d⟩⟩
      · rcases hb2 with a' | ⟨a', _⟩ <;> omega
      · rcases hb2 with a' | ⟨a', b' | ⟨b', _⟩⟩
        · omega
        · omega
        · omega
      · rcases hb2 with a' | ⟨a', b' | ⟨b', d'⟩⟩
        · omega
        · omega
        · exact ⟨a, d', d⟩
    have heq : cdX l hs c = planS l hs := lexL_anti (by rw [codes_len, planS_len]) key.2.2 key.2.1
    refine .inr ⟨c, e, hr, key.1, rfl, fun t ht => ?_⟩
    have ht : t < hs.len := ht
    have htp : t < (planS l hs).length := by rw [planS_len]; exact ht
    have hw := way_num (hok.1 t ht)
    have hcd : (planS l hs)[t] = numF ((scX l hs c).el t).el l.len := by
      have : ∀ (p : List Int) (h : p = cdX l hs c) (hk : t < p.length), p[t] = numF ((scX l hs c).el t).el l.len := fun p h hk => by
        subst h; exact codes_at hk
      exact this _ heq.symm htp
    refine ⟨hw.1.symm, fun k hk => ?_⟩
    have hk : k < l.len := hk
    show (wayS l.len ((planS l hs).getD t ((planS l hs).getLastD 0))).el k = _
    rw [planS_at htp, hcd]
    exact (hw.2.2 k hk).symm
end
end Go.Sim.Pl


namespace Go.Sim.Pl
open Go.Proofs
section
variable (l : Sl Mach) (hs : Sl Hour)
def qNl : Option Nat → Bool
  | none => true
  | some _ => false
def qLn : Option Nat → Nat
  | none => 0
  | some _ => hs.len
def qWd : Option Nat → Nat
  | none => 0
  | some _ => 1
def qG : Option Nat → Nat → List V
  | none => fun _ => []
  | some c => fun t => [sl eInt 1 ((scX l hs c).el t)]
def qEn : Option Nat → Int
  | none => 0
  | some c => enX l hs c
def qSt : Option Nat → Int
  | none => 0
  | some c => stX l hs c
def qB : Option Nat → Bool
  | none => false
  | some _ => true
end
variable (F d : Nat)
section
variable {l : Sl Mach} (hl : PlantOk l) {hs : Sl Hour} (hh : HoursOk hs) (h24 : hs.len ≤ 24) (hF : 140737488355330 < F)
include hl hh h24 hF
theorem l42x0 : ∀ (j i fu : Nat), i + j = 3 ^ (l.len * hs.len) → j < fu → 3 ^ (l.len * hs.len) ≤ 1000 →
    L42x0 (E F (d + 42)) F l hs fu false (3 ^ (l.len * hs.len)) 1 (gl eSc zS (tabL (schX l.len hs.len) (3 ^ (l.len * hs.len)))) (qNl (bestC l hs i)) (qLn hs (bestC l hs i)) (qWd (bestC l hs i)) (qG l hs (bestC l hs i)) .i64 (qEn l hs (bestC l hs i)) .i64 (qSt l hs (bestC l hs i)) (qB (bestC l hs i)) i =
    some (.ret (.tup [.row (qNl (bestC l hs (3 ^ (l.len * hs.len)))) (qLn hs (bestC l hs (3 ^ (l.len * hs.len)))) (qWd (bestC l hs (3 ^ (l.len * hs.len)))) (qG l hs (bestC l hs (3 ^ (l.len * hs.len)))), .int .i64 (qEn l hs (bestC l hs (3 ^ (l.len * hs.len)))), .bool (qB (bestC l hs (3 ^ (l.len * hs.len))))])) := by
  have hl2 := hl.2
  intro j
  induction j with
  | zero =>
    intro i fu h hf hN
    obtain ⟨fu, rfl⟩ : ∃ k, fu = k + 1 := ⟨fu - 1, by omega⟩
    obtain rfl : i = 3 ^ (l.len * hs.len) := by omega
    rw [L42x0s, decide_eq_false (by omega), pF]
  | succ j ih =>
    intro i fu h hf hN
    obtain ⟨fu, rfl⟩ : ∃ k, fu = k + 1 := ⟨fu - 1, by omega⟩
    have hS : IntKind.i64.wrap ((i : Int) + 1) = ((i + 1 : Nat) : Int) := wrS (by omega)
    have hi : i < 3 ^ (l.len * hs.len) := by omega
    have e := ih (i + 1) fu (by omega) (by omega) hN
    have hg : gl eSc zS (tabL (schX l.len hs.len) (3 ^ (l.len * hs.len))) i = [sl eIL 1 (scX l hs i)] := by
      unfold gl
      rw [tabL_get _ hi]
    have hsc := schX_ok l.len hs.len i l rfl
    have q34 := s34 F (d + 39) hl hh h24 hsc (by omega)
    rw [ref_playS hl hs (scX l hs i)] at q34
    have q38 := s38 F (d + 39) hl hh h24 hsc (by omega)
    rw [L42x0s]
    generalize hN2 : 3 ^ (l.len * hs.len) = N at *
    simp (disch := omega) only [decide_eq_true, decide_true, pT, Int.toNat_natCast, hS, show ((1 : Nat) == 1) = true from rfl, hg, tkCons_c, tkRow_r, q34, tkOut_ret, tkAgg_a, tkInt_i, tkNil_n]
    simp only [bestC, nextC] at e
    by_cases hr : (playS l hs (scX l hs i)).rule = 1
    case neg =>
      rw [show ((playS l hs (scX l hs i)).rule != 1) = true by simp [hr], pT]
      rw [if_neg hr] at e
      exact e
    rw [show ((playS l hs (scX l hs i)).rule != 1) = false by simp [hr], pF]
    rw [if_pos hr] at e
    obtain ⟨_, p2, p3⟩ := playS_sum hr
    rw [← p2, ← p3] at q38
    simp only [q38, tkOut_ret, tkTup_t, tkCons_c, tkAgg_a, tkInt_i, tkNil_n]
    cases hc : bestC l hs i with
    | none =>
      rw [hc] at e
      show (bif !(qB none) then _ else _) = _
      rw [show qB none = false from rfl, Bool.not_false, pT]
      exact e
    | some c =>
      rw [hc] at e
      rw [show qB (some c) = true from rfl, Bool.not_true, pF]
      have q45 := s45 F (d + 40) (a := scX l hs i) (b := scX l hs c) (m := l.len) (by omega) rfl (show hs.len ≤ 1000 by omega) (fun t ht => (hsc.1 t ht).1) (fun t ht => ((schX_ok l.len hs.len c l rfl).1 t ht).1) (by omega) (enX l hs i) (stX l hs i) (enX l hs c) (stX l hs c)
      have q45' : (E F (d + 42)).pf 45 [sl eIL 1 (scX l hs i), .int .i64 (playS l hs (scX l hs i)).hi, .int .i64 (playS l hs (scX l hs i)).many, .row (qNl (some c)) (qLn hs (some c)) (qWd (some c)) (qG l hs (some c)), .int .i64 (qEn l hs (some c)), .int .i64 (qSt l hs (some c))] = some (.ret (.bool (betX l hs i c))) := q45
      simp only [q45', tkOut_ret, tkBool_b]
      simp only at e
      cases hb : betX l hs i c with
      | true =>
        rw [hb, if_pos rfl] at e
        rw [pT]
        exact e
      | false =>
        rw [hb, if_neg (by decide)] at e
        rw [pF]
        exact e
theorem s42 (h0 : 0 < hs.len) (h6 : l.len * hs.len ≤ 6) : (E F (d + 43)).pf 42 [sl eMach 10 l, sl eHour 3 hs] = some (.ret (.tup [.row (qNl (bestC l hs (3 ^ (l.len * hs.len)))) (qLn hs (bestC l hs (3 ^ (l.len * hs.len)))) (qWd (bestC l hs (3 ^ (l.len * hs.len)))) (qG l hs (bestC l hs (3 ^ (l.len * hs.len)))), .int .i64 (qEn l hs (bestC l hs (3 ^ (l.len * hs.len)))), .bool (qB (bestC l hs (3 ^ (l.len * hs.len))))])) := by
  have hl2 := hl.2
  have q78 := s78 F (d + 41) (c := l.len) (n := hs.len) (by omega) h6 (by omega) h0
  have hb : 3 ^ (l.len * hs.len) ≤ 729 := pow_b (k := 0) h6
  have e := l42x0 F d hl hh h24 hF (3 ^ (l.len * hs.len)) 0 F (by omega) (by omega) (by omega)
  rw [E_pf, t42]
  simp only [q78, tkOut_ret, tkRow_r]
  exact e
theorem s42x0 (h0 : hs.len = 0) : (E F (d + 43)).pf 42 [sl eMach 10 l, sl eHour 3 hs] = some (.ret (.tup [.row true 0 0 (fun _ => []), .int .i64 0, .bool true])) := by
  have hl2 := hl.2
  have q78 : (E F (d + 42)).pf 78 [.int .i64 l.len, .int .i64 hs.len] = some (.ret (.row false 1 1 (fun _ => [.row true 0 0 (fun _ => [])]))) := by
    rw [h0]
    exact s78x0 F (d + 41) (c := l.len) (by omega) (by omega)
  obtain ⟨G, rfl⟩ : ∃ k, F = k + 1 := ⟨F - 1, by omega⟩
  obtain ⟨H, rfl⟩ : ∃ k, G = k + 1 := ⟨G - 1, by omega⟩
  have q34 : (E (H + 1 + 1) (d + 42)).pf 34 [sl eMach 10 l, sl eHour 3 hs, .row true 0 0 (fun _ => [])] = some (.ret (.agg [.int .i64 0, .int .i64 1, .int .i64 0])) := by
    rw [E_pf, t340, L340x0s, decide_eq_false (by omega), pF]
  have q67 : (E (H + 1 + 1) (d + 41)).pf 67 [sl eMach 10 l, .row true 0 0 (fun _ => [])] = some (.ret (.tup [.int .i64 0, .int .i64 0])) := by
    rw [E_pf, t670, L670x0s]
  have q38 : (E (H + 1 + 1) (d + 42)).pf 38 [sl eMach 10 l, sl eHour 3 hs, .row true 0 0 (fun _ => [])] = some (.ret (.tup [.agg [.int .i64 0, .int .i64 0], .int .i64 0])) := by
    rw [E_pf, t380]
    simp only [q67, tkOut_ret, tkTup_t, tkCons_c, tkInt_i, tkNil_n]
    rw [L380x0s, decide_eq_false (by omega), pF]
  have w1 : IntKind.i64.wrap (0 + 1) = 1 := by decide
  rw [E_pf, t42]
  simp only [q78, tkOut_ret, tkRow_r]
  rw [L42x0s]
  simp only [show decide ((0 : Int) < ((1 : Nat) : Int)) = true from rfl, show decide ((0 : Int) ≤ 0) = true from rfl, pT, pF, show ((1 : Nat) == 1) = true from rfl, tkCons_c, tkRow_r, q34, q38, tkOut_ret, tkTup_t, tkAgg_a, tkInt_i, tkNil_n, decide_true, show ((1 : Int) != 1) = false from rfl, Bool.not_false, w1]
  rw [L42x0s, show decide ((1 : Int) < ((1 : Nat) : Int)) = false from rfl, pF]
end
theorem cnt_six {l : Sl Mach} {hs : Sl Hour} (h0 : 1 ≤ l.len ∧ l.len ≤ 6) (h6 : l.len * hs.len ≤ 6) : 30 * cntS (3 ^ l.len) hs.len < 1000000000000 := by
  have h7 : hs.len ≤ 6 := Nat.le_trans (Nat.le_mul_of_pos_left hs.len h0.1) h6
  have a : l.len = 1 ∨ l.len = 2 ∨ l.len = 3 ∨ l.len = 4 ∨ l.len = 5 ∨ l.len = 6 := by omega
  have b : hs.len = 0 ∨ hs.len = 1 ∨ hs.len = 2 ∨ hs.len = 3 ∨ hs.len = 4 ∨ hs.len = 5 ∨ hs.len = 6 := by omega
  revert h6
  generalize l.len = x at *
  generalize hs.len = y at *
  rcases a with a | a | a | a | a | a <;> rcases b with b | b | b | b | b | b | b <;> subst a <;> subst b <;> decide
theorem law11 (hF : 140737488355330 < F) (l : Sl Mach) (hs : Sl Hour) (hl : l.len ≤ 140737488355328) (hR : ∀ i, (l.el i).rows.len ≤ 140737488355328) (hh : hs.len ≤ 140737488355328) :
    (E F (d + 44)).pf 11 [sl eMach 10 l, sl eHour 3 hs] = some (.ret (.bool true)) := by
  have q16 := s16 F (d + 1) (by omega)
  have q15 := s15 F (d + 42) l (lenB hl) (by omega)
  have hB := inB_of F hF hl hR hh
  have q39 := s39 F (d + 40) l (lenB hl) (by omega) hB.2.1
  have q40 := s40 F (d + 40) hs (lenB hh) (by omega)
  rw [E_pf, t11]
  simp only [q15, q16, q39, q40, tkOut_ret, tkBool_b]
  by_cases h1 : ShortP l
  case neg => rw [decide_eq_false h1, Bool.not_false, pT]
  rw [decide_eq_true h1, Bool.not_true, pF]
  by_cases g1 : (hs.len : Int) > 34
  · rw [decide_eq_true g1, pT]
  rw [decide_eq_false g1, pF]
  by_cases g2 : (hs.len : Int) > 24
  · have he : errA l hs = 3 := by unfold errA; rw [if_pos (by omega)]
    have q41 := s41 F (d + 2) l hs (by omega) hB (fun h => by omega)
    rw [if_neg (by omega), he] at q41
    simp only [decide_eq_true g2, q41, tkOut_ret, tkTup_t, tkCons_c, tkRow_r, tkInt_i, tkNil_n, dd, decide_true, pT, show ((3 : Int) == 3) = true from rfl, show (((0 : Nat) : Int) == 0) = true from rfl, show ((0 : Int) == 0) = true from rfl]
  rw [decide_eq_false g2, pF]
  by_cases h2 : PlantOk l
  case neg =>
    have he : errA l hs = 2 := by unfold errA; rw [if_neg (by omega), if_neg (fun h => h2 h.1)]
    have q41 := s41 F (d + 2) l hs (by omega) hB (fun h => by omega)
    rw [if_neg (by omega), he] at q41
    simp only [decide_eq_false h2, Bool.not_false, q41, tkOut_ret, tkTup_t, tkCons_c, tkRow_r, tkInt_i, tkNil_n, dd, decide_true, pT, show ((2 : Int) == 2) = true from rfl, show (((0 : Nat) : Int) == 0) = true from rfl, show ((0 : Int) == 0) = true from rfl]
  rw [decide_eq_true h2, Bool.not_true, pF]
  by_cases h3 : HoursOk hs
  case neg =>
    have he : errA l hs = 2 := by unfold errA; rw [if_neg (by omega), if_neg (fun h => h3 h.2)]
    have q41 := s41 F (d + 2) l hs (by omega) hB (fun h => by omega)
    rw [if_neg (by omega), he] at q41
    simp only [decide_eq_false h3, Bool.not_false, q41, tkOut_ret, tkTup_t, tkCons_c, tkRow_r, tkInt_i, tkNil_n, dd, decide_true, pT, show ((2 : Int) == 2) = true from rfl, show (((0 : Nat) : Int) == 0) = true from rfl, show ((0 : Int) == 0) = true from rfl]
  rw [decide_eq_true h3, Bool.not_true, pF]
  have hl2 := h2.2
  have hm : IntKind.i64.wrap ((l.len : Int) * (hs.len : Int)) = ((l.len * hs.len : Nat) : Int) := by
    have : l.len * hs.len ≤ 6 * 24 := Nat.mul_le_mul (by omega) (by omega)
    rw [← Int.natCast_mul, wr (by omega)]
  rw [hm]
  by_cases g3 : ((l.len * hs.len : Nat) : Int) > 6
  · rw [decide_eq_true g3, pT]
  rw [decide_eq_false g3, pF]
  have h6 : l.len * hs.len ≤ 6 := by omega
  have he : errA l hs = 0 := by unfold errA; rw [if_neg (by omega), if_pos ⟨h2, h3⟩]
  have q41 := s41 F (d + 2) l hs (by omega) hB (fun _ => cnt_six hl2 h6)
  rw [if_pos he] at q41
  by_cases h0 : hs.len = 0
  · have hb : bestS l hs = bYes := by unfold bestS; rw [h0]; rfl
    have ho : outR l hs = .row true 0 0 (fun _ => []) := by unfold outR; rw [if_pos h0]
    have q42 := s42x0 F d h2 h3 (by omega) hF h0
    have q43 : (E F (d + 43)).pf 43 [.row true 0 0 (fun _ => []), .row true 0 0 (fun _ => [])] = some (.ret (.bool true)) := by
      obtain ⟨G, rfl⟩ : ∃ k, F = k + 1 := ⟨F - 1, by omega⟩
      rw [E_pf, t430, L430x0s]
    rw [if_pos (by rw [hb]; rfl), ho, hb, show bYes.energy = 0 from rfl] at q41
    simp only [q41, q42, q43, tkOut_ret, tkTup_t, tkCons_c, tkRow_r, tkInt_i, tkBool_b, tkNil_n, dd, decide_true, pT, pF, Bool.not_true, show ((0 : Int) == 0) = true from rfl]
  · have q42 := s42 F d h2 h3 (by omega) hF (by omega) h6
    rcases best_same (hs := hs) h2 with ⟨e, hr⟩ | ⟨c, e, hr, hen, hsame⟩
    · rw [e] at q42
      rw [hr, if_neg (by decide)] at q41
      simp only [q41, q42, tkOut_ret, tkTup_t, tkCons_c, tkRow_r, tkInt_i, tkBool_b, tkNil_n, dd, decide_true, pT, pF, show qB none = false from rfl, Bool.not_false, show ((5 : Int) == 5) = true from rfl, show (((0 : Nat) : Int) == 0) = true from rfl, show ((0 : Int) == 0) = true from rfl]
    · rw [e] at q42
      rw [hr, if_pos rfl] at q41
      have ho : outR l hs = .row false hs.len 1 (gl (eW l) 0 (planS l hs)) := by unfold outR; rw [if_neg h0]
      rw [ho] at q41
      have hSB : SchB (planQ l hs) F := ⟨⟨show hs.len < 4611686018427387904 by omega, show hs.len < F by omega⟩, fun i hi => ⟨show l.len < 4611686018427387904 by omega, show l.len < F by omega⟩⟩
      have q43 := s43 F (d + 42) (planQ l hs) (scX l hs c) hSB
      rw [decide_eq_true hsame] at q43
      have q43' : (E F (d + 43)).pf 43 [.row false hs.len 1 (gl (eW l) 0 (planS l hs)), .row (qNl (some c)) (qLn hs (some c)) (qWd (some c)) (qG l hs (some c))] = some (.ret (.bool true)) := q43
      have hq : qEn l hs (some c) = (bestS l hs).energy := hen
      simp only [q41, q42, q43', hq, tkOut_ret, tkTup_t, tkCons_c, tkRow_r, tkInt_i, tkBool_b, tkNil_n, dd, decide_true, pT, pF, show qB (some c) = true from rfl, Bool.not_true, show ((0 : Int) == 0) = true from rfl, beq_self_eq_true]
end Go.Sim.Pl
