import Derived.Test.YtgigacidbnobjaaAg
import Derived.KernelRfl
import Derived.Test.YtgigacidbnobjaaRows
set_option linter.unusedVariables false
set_option linter.unusedSimpArgs false
set_option linter.unusedSectionVars false
set_option maxRecDepth 100000
namespace Go.Sim.Pl
open Go.Proofs
theorem t13 (env : Env) (F : Nat) (l : Sl Mach) (hs : Sl Hour) (sc : Sl (Sl Int)) (a : Int) (x : Int) : (evFun Try.prog (cfg F) env 13 [(sl eMach 10 l), (sl eHour 3 hs), (sl eIL 1 sc), (i64 a), (i64 x)]) = (tkOut (env.pf 15 [(sl eMach 10 l)]) none (fun v7 => (tkBool v7 none fun b8 => (bif (!b8) then (tkOut (env.pf 16 []) none (fun v9 => (tkBool v9 none fun b10 => some (.ret (.bool b10)))) (fun p9 => (tkIfc p9 none fun t10 x11 => (bif (flatP (.iface t10 x11)) then some (.pan (.iface t10 x11)) else none)))) else (bif (decide ((((Sl.len l) : Nat) : Int) > (2 : Int))) then (tkOut (env.pf 16 []) none (fun v9 => (tkBool v9 none fun b10 => some (.ret (.bool b10)))) (fun p9 => (tkIfc p9 none fun t10 x11 => (bif (flatP (.iface t10 x11)) then some (.pan (.iface t10 x11)) else none)))) else (bif (decide ((((Sl.len hs) : Nat) : Int) > (5 : Int))) then (tkOut (env.pf 16 []) none (fun v9 => (tkBool v9 none fun b10 => some (.ret (.bool b10)))) (fun p9 => (tkIfc p9 none fun t10 x11 => (bif (flatP (.iface t10 x11)) then some (.pan (.iface t10 x11)) else none)))) else (tkOut (env.pf 31 [(sl eHour 3 hs), (sl eIL 1 sc)]) none (fun v9 => (tkBool v9 none fun b10 => (bif (!b10) then (tkOut (env.pf 16 []) none (fun v11 => (tkBool v11 none fun b12 => some (.ret (.bool b12)))) (fun p11 => (tkIfc p11 none fun t12 x13 => (bif (flatP (.iface t12 x13)) then some (.pan (.iface t12 x13)) else none)))) else (tkOut (env.pf 33 [(sl eMach 10 l), (sl eHour 3 hs), (sl eIL 1 sc)]) none (fun v11 => (tkInt v11 none fun q12 n13 => (bif (decide (q12 = .i64)) then (bif (n13 != (0 : Int)) then (tkOut (env.pf 16 []) none (fun v14 => (tkBool v14 none fun b15 => some (.ret (.bool b15)))) (fun p14 => (tkIfc p14 none fun t15 x16 => (bif (flatP (.iface t15 x16)) then some (.pan (.iface t15 x16)) else none)))) else (bif (decide (a < (0 : Int))) then (tkOut (env.pf 16 []) none (fun v14 => (tkBool v14 none fun b15 => some (.ret (.bool b15)))) (fun p14 => (tkIfc p14 none fun t15 x16 => (bif (flatP (.iface t15 x16)) then some (.pan (.iface t15 x16)) else none)))) else (bif (decide (a ≥ (((Sl.len hs) : Nat) : Int))) then (tkOut (env.pf 16 []) none (fun v14 => (tkBool v14 none fun b15 => some (.ret (.bool b15)))) (fun p14 => (tkIfc p14 none fun t15 x16 => (bif (flatP (.iface t15 x16)) then some (.pan (.iface t15 x16)) else none)))) else (bif (decide (x < (0 : Int))) then (tkOut (env.pf 16 []) none (fun v14 => (tkBool v14 none fun b15 => some (.ret (.bool b15)))) (fun p14 => (tkIfc p14 none fun t15 x16 => (bif (flatP (.iface t15 x16)) then some (.pan (.iface t15 x16)) else none)))) else (bif (decide (x > (5000 : Int))) then (tkOut (env.pf 16 []) none (fun v14 => (tkBool v14 none fun b15 => some (.ret (.bool b15)))) (fun p14 => (tkIfc p14 none fun t15 x16 => (bif (flatP (.iface t15 x16)) then some (.pan (.iface t15 x16)) else none)))) else (tkOut (env.pf 32 [(sl eMach 10 l), (sl eHour 3 hs), (sl eIL 1 sc)]) none (fun v14 => (tkTup v14 none fun l15 => (tkCons l15 none fun v16 r17 => (tkAgg v16 none fun l18 => (tkCons l18 none fun v19 r20 => (tkInt v19 none fun q21 n22 => (tkCons r20 none fun v23 r24 => (tkInt v23 none fun q25 n26 => (tkCons r24 none fun v27 r28 => (tkInt v27 none fun q29 n30 => (tkNil r28 none ((tkCons r17 none fun v31 r32 => (tkInt v31 none fun q33 n34 => (tkNil r32 none ((bif (true || (Sl.nl hs)) then (bif (decide ((0 : Int) ≤ a)) then (bif (decide (0 ≤ (Int.toNat a))) then (bif (decide ((Int.toNat a) ≤ (Sl.len hs))) then (bif (true || (Sl.nl sc)) then (bif (decide ((0 : Int) ≤ a)) then (bif (decide (0 ≤ (Int.toNat a))) then (bif (decide ((Int.toNat a) ≤ (Sl.len sc))) then (tkOut (env.pf 32 [(sl eMach 10 l), (.row (Sl.nl hs) ((Int.toNat a) - 0) 3 (fun u35 => (eHour (Sl.el hs u35)))), (.row (Sl.nl sc) ((Int.toNat a) - 0) 1 (fun u35 => [(sl eInt 1 (Sl.el sc u35))]))]) none (fun v35 => (tkTup v35 none fun l36 => (tkCons l36 none fun v37 r38 => (tkAgg v37 none fun l39 => (tkCons l39 none fun v40 r41 => (tkInt v40 none fun q42 n43 => (tkCons r41 none fun v44 r45 => (tkInt v44 none fun q46 n47 => (tkCons r45 none fun v48 r49 => (tkInt v48 none fun q50 n51 => (tkNil r49 none ((tkCons r38 none fun v52 r53 => (tkInt v52 none fun q54 n55 => (tkNil r53 none ((bif (decide (q33 = .i64)) then (bif (n34 != (0 : Int)) then some (.ret (.bool false)) else (bif (decide (q54 = .i64)) then (bif (n55 != (0 : Int)) then some (.ret (.bool false)) else (bif (decide (q25 = .i64)) then (bif (n26 == (1 : Int)) then (bif (decide (q46 = .i64)) then (bif (n47 != (1 : Int)) then some (.ret (.bool false)) else (bif (decide (q46 = .i64)) then (bif (n47 != (1 : Int)) then (bif (decide (q21 = q42)) then (bif (decide (q25 = q46)) then (bif (decide (q29 = q50)) then (bif (!((n22 == n43) && ((n26 == n47) && ((n30 == n51) && true)))) then some (.ret (.bool false)) else (tkOut (env.pf 41 [(sl eMach 10 l), (sl eHour 3 hs)]) none (fun v56 => (tkTup v56 none fun l57 => (tkCons l57 none fun v58 r59 => (tkRow v58 none fun nl60 n61 wd62 g63 => (tkCons r59 none fun v64 r65 => (tkInt v64 none fun q66 n67 => (tkCons r65 none fun v68 r69 => (tkInt v68 none fun q70 n71 => (tkNil r69 none ((bif (Sl.nl hs) then none else (bif ((Sl.len hs) == 0) then none else (bif (decide (((Sl.len hs) * 24) ≤ 140737488355328)) then (bif (decide ((0 : Int) ≤ a)) then (bif (decide (a < (((Sl.len hs) : Nat) : Int))) then (bif (decide ((0 : Int) ≤ a)) then (bif (decide (a < (((Sl.len hs) : Nat) : Int))) then (tkOut (env.pf 41 [(sl eMach 10 l), (.row false (Sl.len hs) 3 (fun u72 => (updGet (fun u73 => (eHour (Sl.el hs u73))) (Int.toNat a) 1 [(i64 (IntKind.wrap .i64 ((Span.lo (Hour.ratio (Sl.el hs (Int.toNat a)))) + (if (IntKind.wrap .i64 ((Span.hi (Hour.ratio (Sl.el hs (Int.toNat a)))) - (Span.lo (Hour.ratio (Sl.el hs (Int.toNat a)))))) < x then (IntKind.wrap .i64 ((Span.hi (Hour.ratio (Sl.el hs (Int.toNat a)))) - (Span.lo (Hour.ratio (Sl.el hs (Int.toNat a)))))) else x))))] u72)))]) none (fun v72 => (tkTup v72 none fun l73 => (tkCons l73 none fun v74 r75 => (tkRow v74 none fun nl76 n77 wd78 g79 => (tkCons r75 none fun v80 r81 => (tkInt v80 none fun q82 n83 => (tkCons r81 none fun v84 r85 => (tkInt v84 none fun q86 n87 => (tkNil r85 none ((bif (Sl.nl hs) then none else (bif ((Sl.len hs) == 0) then none else (bif (decide (((Sl.len hs) * 24) ≤ 140737488355328)) then (bif (decide ((0 : Int) ≤ a)) then (bif (decide (a < (((Sl.len hs) : Nat) : Int))) then (bif (decide ((0 : Int) ≤ a)) then (bif (decide (a < (((Sl.len hs) : Nat) : Int))) then (bif (decide ((0 : Int) ≤ a)) then (bif (decide (a < (((Sl.len hs) : Nat) : Int))) then (tkOut (env.pf 41 [(sl eMach 10 l), (.row false (Sl.len hs) 3 (fun u88 => (updGet (fun u89 => (eHour (Sl.el hs u89))) (Int.toNat a) 0 [(i64 (IntKind.wrap .i64 ((Hour.flow (Sl.el hs (Int.toNat a))) - (if (Hour.flow (Sl.el hs (Int.toNat a))) < x then (Hour.flow (Sl.el hs (Int.toNat a))) else x))))] u88)))]) none (fun v88 => (tkTup v88 none fun l89 => (tkCons l89 none fun v90 r91 => (tkRow v90 none fun nl92 n93 wd94 g95 => (tkCons r91 none fun v96 r97 => (tkInt v96 none fun q98 n99 => (tkCons r97 none fun v100 r101 => (tkInt v100 none fun q102 n103 => (tkNil r101 none ((bif (decide (q70 = .i64)) then (bif (n71 != (0 : Int)) then (tkOut (env.pf 16 []) none (fun v104 => (tkBool v104 none fun b105 => some (.ret (.bool b105)))) (fun p104 => (tkIfc p104 none fun t105 x106 => (bif (flatP (.iface t105 x106)) then some (.pan (.iface t105 x106)) else none)))) else (bif (decide (q86 = .i64)) then (bif (n87 == (0 : Int)) then (bif (decide (q102 = .i64)) then (bif (n103 == (0 : Int)) then (bif (decide (q82 = q66)) then (bif (decide (n83 ≤ n67)) then (bif (decide (q98 = q66)) then (bif (decide (n99 ≤ n67)) then (tkOut (env.pf 16 []) none (fun v104 => (tkBool v104 none fun b105 => some (.ret (.bool b105)))) (fun p104 => (tkIfc p104 none fun t105 x106 => (bif (flatP (.iface t105 x106)) then some (.pan (.iface t105 x106)) else none)))) else some (.ret (.bool false))) else none) else some (.ret (.bool false))) else none) else some (.ret (.bool false))) else none) else some (.ret (.bool false))) else none)) else none))))))))))) (fun p88 => (tkIfc p88 none fun t89 x90 => (bif (flatP (.iface t89 x90)) then some (.pan (.iface t89 x90)) else none)))) else none) else none) else none) else none) else none) else none) else none))))))))))))) (fun p72 => (tkIfc p72 none fun t73 x74 => (bif (flatP (.iface t73 x74)) then some (.pan (.iface t73 x74)) else none)))) else none) else none) else none) else none) else none))))))))))))) (fun p56 => (tkIfc p56 none fun t57 x58 => (bif (flatP (.iface t57 x58)) then some (.pan (.iface t57 x58)) else none))))) else none) else none) else none) else (tkOut (env.pf 41 [(sl eMach 10 l), (sl eHour 3 hs)]) none (fun v56 => (tkTup v56 none fun l57 => (tkCons l57 none fun v58 r59 => (tkRow v58 none fun nl60 n61 wd62 g63 => (tkCons r59 none fun v64 r65 => (tkInt v64 none fun q66 n67 => (tkCons r65 none fun v68 r69 => (tkInt v68 none fun q70 n71 => (tkNil r69 none ((bif (Sl.nl hs) then none else (bif ((Sl.len hs) == 0) then none else (bif (decide (((Sl.len hs) * 24) ≤ 140737488355328)) then (bif (decide ((0 : Int) ≤ a)) then (bif (decide (a < (((Sl.len hs) : Nat) : Int))) then (bif (decide ((0 : Int) ≤ a)) then (bif (decide (a < (((Sl.len hs) : Nat) : Int))) then (tkOut (env.pf 41 [(sl eMach 10 l), (.row false (Sl.len hs) 3 (fun u72 => (updGet (fun u73 => (eHour (Sl.el hs u73))) (Int.toNat a) 1 [(i64 (IntKind.wrap .i64 ((Span.lo (Hour.ratio (Sl.el hs (Int.toNat a)))) + (if (IntKind.wrap .i64 ((Span.hi (Hour.ratio (Sl.el hs (Int.toNat a)))) - (Span.lo (Hour.ratio (Sl.el hs (Int.toNat a)))))) < x then (IntKind.wrap .i64 ((Span.hi (Hour.ratio (Sl.el hs (Int.toNat a)))) - (Span.lo (Hour.ratio (Sl.el hs (Int.toNat a)))))) else x))))] u72)))]) none (fun v72 => (tkTup v72 none fun l73 => (tkCons l73 none fun v74 r75 => (tkRow v74 none fun nl76 n77 wd78 g79 => (tkCons r75 none fun v80 r81 => (tkInt v80 none fun q82 n83 => (tkCons r81 none fun v84 r85 => (tkInt v84 none fun q86 n87 => (tkNil r85 none ((bif (Sl.nl hs) then none else (bif ((Sl.len hs) == 0) then none else (bif (decide (((Sl.len hs) * 24) ≤ 140737488355328)) then (bif (decide ((0 : Int) ≤ a)) then (bif (decide (a < (((Sl.len hs) : Nat) : Int))) then (bif (decide ((0 : Int) ≤ a)) then (bif (decide (a < (((Sl.len hs) : Nat) : Int))) then (bif (decide ((0 : Int) ≤ a)) then (bif (decide (a < (((Sl.len hs) : Nat) : Int))) then (tkOut (env.pf 41 [(sl eMach 10 l), (.row false (Sl.len hs) 3 (fun u88 => (updGet (fun u89 => (eHour (Sl.el hs u89))) (Int.toNat a) 0 [(i64 (IntKind.wrap .i64 ((Hour.flow (Sl.el hs (Int.toNat a))) - (if (Hour.flow (Sl.el hs (Int.toNat a))) < x then (Hour.flow (Sl.el hs (Int.toNat a))) else x))))] u88)))]) none (fun v88 => (tkTup v88 none fun l89 => (tkCons l89 none fun v90 r91 => (tkRow v90 none fun nl92 n93 wd94 g95 => (tkCons r91 none fun v96 r97 => (tkInt v96 none fun q98 n99 => (tkCons r97 none fun v100 r101 => (tkInt v100 none fun q102 n103 => (tkNil r101 none ((bif (decide (q70 = .i64)) then (bif (n71 != (0 : Int)) then (tkOut (env.pf 16 []) none (fun v104 => (tkBool v104 none fun b105 => some (.ret (.bool b105)))) (fun p104 => (tkIfc p104 none fun t105 x106 => (bif (flatP (.iface t105 x106)) then some (.pan (.iface t105 x106)) else none)))) else (bif (decide (q86 = .i64)) then (bif (n87 == (0 : Int)) then (bif (decide (q102 = .i64)) then (bif (n103 == (0 : Int)) then (bif (decide (q82 = q66)) then (bif (decide (n83 ≤ n67)) then (bif (decide (q98 = q66)) then (bif (decide (n99 ≤ n67)) then (tkOut (env.pf 16 []) none (fun v104 => (tkBool v104 none fun b105 => some (.ret (.bool b105)))) (fun p104 => (tkIfc p104 none fun t105 x106 => (bif (flatP (.iface t105 x106)) then some (.pan (.iface t105 x106)) else none)))) else some (.ret (.bool false))) else none) else some (.ret (.bool false))) else none) else some (.ret (.bool false))) else none) else some (.ret (.bool false))) else none)) else none))))))))))) (fun p88 => (tkIfc p88 none fun t89 x90 => (bif (flatP (.iface t89 x90)) then some (.pan (.iface t89 x90)) else none)))) else none) else none) else none) else none) else none) else none) else none))))))))))))) (fun p72 => (tkIfc p72 none fun t73 x74 => (bif (flatP (.iface t73 x74)) then some (.pan (.iface t73 x74)) else none)))) else none) else none) else none) else none) else none))))))))))))) (fun p56 => (tkIfc p56 none fun t57 x58 => (bif (flatP (.iface t57 x58)) then some (.pan (.iface t57 x58)) else none))))) else none)) else none) else (bif (decide (q46 = .i64)) then (bif (n47 != (1 : Int)) then (bif (decide (q21 = q42)) then (bif (decide (q25 = q46)) then (bif (decide (q29 = q50)) then (bif (!((n22 == n43) && ((n26 == n47) && ((n30 == n51) && true)))) then some (.ret (.bool false)) else (tkOut (env.pf 41 [(sl eMach 10 l), (sl eHour 3 hs)]) none (fun v56 => (tkTup v56 none fun l57 => (tkCons l57 none fun v58 r59 => (tkRow v58 none fun nl60 n61 wd62 g63 => (tkCons r59 none fun v64 r65 => (tkInt v64 none fun q66 n67 => (tkCons r65 none fun v68 r69 => (tkInt v68 none fun q70 n71 => (tkNil r69 none ((bif (Sl.nl hs) then none else (bif ((Sl.len hs) == 0) then none else (bif (decide (((Sl.len hs) * 24) ≤ 140737488355328)) then (bif (decide ((0 : Int) ≤ a)) then (bif (decide (a < (((Sl.len hs) : Nat) : Int))) then (bif (decide ((0 : Int) ≤ a)) then (bif (decide (a < (((Sl.len hs) : Nat) : Int))) then (tkOut (env.pf 41 [(sl eMach 10 l), (.row false (Sl.len hs) 3 (fun u72 => (updGet (fun u73 => (eHour (Sl.el hs u73))) (Int.toNat a) 1 [(i64 (IntKind.wrap .i64 ((Span.lo (Hour.ratio (Sl.el hs (Int.toNat a)))) + (if (IntKind.wrap .i64 ((Span.hi (Hour.ratio (Sl.el hs (Int.toNat a)))) - (Span.lo (Hour.ratio (Sl.el hs (Int.toNat a)))))) < x then (IntKind.wrap .i64 ((Span.hi (Hour.ratio (Sl.el hs (Int.toNat a)))) - (Span.lo (Hour.ratio (Sl.el hs (Int.toNat a)))))) else x))))] u72)))]) none (fun v72 => (tkTup v72 none fun l73 => (tkCons l73 none fun v74 r75 => (tkRow v74 none fun nl76 n77 wd78 g79 => (tkCons r75 none fun v80 r81 => (tkInt v80 none fun q82 n83 => (tkCons r81 none fun v84 r85 => (tkInt v84 none fun q86 n87 => (tkNil r85 none ((bif (Sl.nl hs) then none else (bif ((Sl.len hs) == 0) then none else (bif (decide (((Sl.len hs) * 24) ≤ 140737488355328)) then (bif (decide ((0 : Int) ≤ a)) then (bif (decide (a < (((Sl.len hs) : Nat) : Int))) then (bif (decide ((0 : Int) ≤ a)) then (bif (decide (a < (((Sl.len hs) : Nat) : Int))) then (bif (decide ((0 : Int) ≤ a)) then (bif (decide (a < (((Sl.len hs) : Nat) : Int))) then (tkOut (env.pf 41 [(sl eMach 10 l), (.row false (Sl.len hs) 3 (fun u88 => (updGet (fun u89 => (eHour (Sl.el hs u89))) (Int.toNat a) 0 [(i64 (IntKind.wrap .i64 ((Hour.flow (Sl.el hs (Int.toNat a))) - (if (Hour.flow (Sl.el hs (Int.toNat a))) < x then (Hour.flow (Sl.el hs (Int.toNat a))) else x))))] u88)))]) none (fun v88 => (tkTup v88 none fun l89 => (tkCons l89 none fun v90 r91 => (tkRow v90 none fun nl92 n93 wd94 g95 => (tkCons r91 none fun v96 r97 => (tkInt v96 none fun q98 n99 => (tkCons r97 none fun v100 r101 => (tkInt v100 none fun q102 n103 => (tkNil r101 none ((bif (decide (q70 = .i64)) then (bif (n71 != (0 : Int)) then (tkOut (env.pf 16 []) none (fun v104 => (tkBool v104 none fun b105 => some (.ret (.bool b105)))) (fun p104 => (tkIfc p104 none fun t105 x106 => (bif (flatP (.iface t105 x106)) then some (.pan (.iface t105 x106)) else none)))) else (bif (decide (q86 = .i64)) then (bif (n87 == (0 : Int)) then (bif (decide (q102 = .i64)) then (bif (n103 == (0 : Int)) then (bif (decide (q82 = q66)) then (bif (decide (n83 ≤ n67)) then (bif (decide (q98 = q66)) then (bif (decide (n99 ≤ n67)) then (tkOut (env.pf 16 []) none (fun v104 => (tkBool v104 none fun b105 => some (.ret (.bool b105)))) (fun p104 => (tkIfc p104 none fun t105 x106 => (bif (flatP (.iface t105 x106)) then some (.pan (.iface t105 x106)) else none)))) else some (.ret (.bool false))) else none) else some (.ret (.bool false))) else none) else some (.ret (.bool false))) else none) else some (.ret (.bool false))) else none)) else none))))))))))) (fun p88 => (tkIfc p88 none fun t89 x90 => (bif (flatP (.iface t89 x90)) then some (.pan (.iface t89 x90)) else none)))) else none) else none) else none) else none) else none) else none) else none))))))))))))) (fun p72 => (tkIfc p72 none fun t73 x74 => (bif (flatP (.iface t73 x74)) then some (.pan (.iface t73 x74)) else none)))) else none) else none) else none) else none) else none))))))))))))) (fun p56 => (tkIfc p56 none fun t57 x58 => (bif (flatP (.iface t57 x58)) then some (.pan (.iface t57 x58)) else none))))) else none) else none) else none) else (tkOut (env.pf 41 [(sl eMach 10 l), (sl eHour 3 hs)]) none (fun v56 => (tkTup v56 none fun l57 => (tkCons l57 none fun v58 r59 => (tkRow v58 none fun nl60 n61 wd62 g63 => (tkCons r59 none fun v64 r65 => (tkInt v64 none fun q66 n67 => (tkCons r65 none fun v68 r69 => (tkInt v68 none fun q70 n71 => (tkNil r69 none ((bif (Sl.nl hs) then none else (bif ((Sl.len hs) == 0) then none else (bif (decide (((Sl.len hs) * 24) ≤ 140737488355328)) then (bif (decide ((0 : Int) ≤ a)) then (bif (decide (a < (((Sl.len hs) : Nat) : Int))) then (bif (decide ((0 : Int) ≤ a)) then (bif (decide (a < (((Sl.len hs) : Nat) : Int))) then (tkOut (env.pf 41 [(sl eMach 10 l), (.row false (Sl.len hs) 3 (fun u72 => (updGet (fun u73 => (eHour (Sl.el hs u73))) (Int.toNat a) 1 [(i64 (IntKind.wrap .i64 ((Span.lo (Hour.ratio (Sl.el hs (Int.toNat a)))) + (if (IntKind.wrap .i64 ((Span.hi (Hour.ratio (Sl.el hs (Int.toNat a)))) - (Span.lo (Hour.ratio (Sl.el hs (Int.toNat a)))))) < x then (IntKind.wrap .i64 ((Span.hi (Hour.ratio (Sl.el hs (Int.toNat a)))) - (Span.lo (Hour.ratio (Sl.el hs (Int.toNat a)))))) else x))))] u72)))]) none (fun v72 => (tkTup v72 none fun l73 => (tkCons l73 none fun v74 r75 => (tkRow v74 none fun nl76 n77 wd78 g79 => (tkCons r75 none fun v80 r81 => (tkInt v80 none fun q82 n83 => (tkCons r81 none fun v84 r85 => (tkInt v84 none fun q86 n87 => (tkNil r85 none ((bif (Sl.nl hs) then none else (bif ((Sl.len hs) == 0) then none else (bif (decide (((Sl.len hs) * 24) ≤ 140737488355328)) then (bif (decide ((0 : Int) ≤ a)) then (bif (decide (a < (((Sl.len hs) : Nat) : Int))) then (bif (decide ((0 : Int) ≤ a)) then (bif (decide (a < (((Sl.len hs) : Nat) : Int))) then (bif (decide ((0 : Int) ≤ a)) then (bif (decide (a < (((Sl.len hs) : Nat) : Int))) then (tkOut (env.pf 41 [(sl eMach 10 l), (.row false (Sl.len hs) 3 (fun u88 => (updGet (fun u89 => (eHour (Sl.el hs u89))) (Int.toNat a) 0 [(i64 (IntKind.wrap .i64 ((Hour.flow (Sl.el hs (Int.toNat a))) - (if (Hour.flow (Sl.el hs (Int.toNat a))) < x then (Hour.flow (Sl.el hs (Int.toNat a))) else x))))] u88)))]) none (fun v88 => (tkTup v88 none fun l89 => (tkCons l89 none fun v90 r91 => (tkRow v90 none fun nl92 n93 wd94 g95 => (tkCons r91 none fun v96 r97 => (tkInt v96 none fun q98 n99 => (tkCons r97 none fun v100 r101 => (tkInt v100 none fun q102 n103 => (tkNil r101 none ((bif (decide (q70 = .i64)) then (bif (n71 != (0 : Int)) then (tkOut (env.pf 16 []) none (fun v104 => (tkBool v104 none fun b105 => some (.ret (.bool b105)))) (fun p104 => (tkIfc p104 none fun t105 x106 => (bif (flatP (.iface t105 x106)) then some (.pan (.iface t105 x106)) else none)))) else (bif (decide (q86 = .i64)) then (bif (n87 == (0 : Int)) then (bif (decide (q102 = .i64)) then (bif (n103 == (0 : Int)) then (bif (decide (q82 = q66)) then (bif (decide (n83 ≤ n67)) then (bif (decide (q98 = q66)) then (bif (decide (n99 ≤ n67)) then (tkOut (env.pf 16 []) none (fun v104 => (tkBool v104 none fun b105 => some (.ret (.bool b105)))) (fun p104 => (tkIfc p104 none fun t105 x106 => (bif (flatP (.iface t105 x106)) then some (.pan (.iface t105 x106)) else none)))) else some (.ret (.bool false))) else none) else some (.ret (.bool false))) else none) else some (.ret (.bool false))) else none) else some (.ret (.bool false))) else none)) else none))))))))))) (fun p88 => (tkIfc p88 none fun t89 x90 => (bif (flatP (.iface t89 x90)) then some (.pan (.iface t89 x90)) else none)))) else none) else none) else none) else none) else none) else none) else none))))))))))))) (fun p72 => (tkIfc p72 none fun t73 x74 => (bif (flatP (.iface t73 x74)) then some (.pan (.iface t73 x74)) else none)))) else none) else none) else none) else none) else none))))))))))))) (fun p56 => (tkIfc p56 none fun t57 x58 => (bif (flatP (.iface t57 x58)) then some (.pan (.iface t57 x58)) else none))))) else none)) else none)) else none)) else none))))))))))))))))) (fun p35 => (tkIfc p35 none fun t36 x37 => (bif (flatP (.iface t36 x37)) then some (.pan (.iface t36 x37)) else none)))) else none) else none) else none) else none) else none) else none) else none) else none))))))))))))))))) (fun p14 => (tkIfc p14 none fun t15 x16 => (bif (flatP (.iface t15 x16)) then some (.pan (.iface t15 x16)) else none))))))))) else none))) (fun p11 => (tkIfc p11 none fun t12 x13 => (bif (flatP (.iface t12 x13)) then some (.pan (.iface t12 x13)) else none))))))) (fun p9 => (tkIfc p9 none fun t10 x11 => (bif (flatP (.iface t10 x11)) then some (.pan (.iface t10 x11)) else none))))))))) (fun p7 => (tkIfc p7 none fun t8 x9 => (bif (flatP (.iface t8 x9)) then some (.pan (.iface t8 x9)) else none)))) := by kernel_rfl
end Go.Sim.Pl


namespace Go.Sim.Pl
open Go.Proofs
theorem fitInt {k : IntKind} {c : V} (h : Fit (.int k) c) : ∃ n, c = .int k n ∧ k.min ≤ n ∧ n ≤ k.max := by
  cases h with
  | int h => exact ⟨_, rfl, h⟩
theorem fitL_nil {cs : List V} (h : FitL [] cs) : cs = [] := by
  have := h.1
  exact List.eq_nil_of_length_eq_zero this
theorem fitL_cons {s : Sh} {l : List Sh} {cs : List V} (h : FitL (s :: l) cs) : ∃ c cs', cs = c :: cs' ∧ Fit s c ∧ FitL l cs' := by
  obtain ⟨h1, h2⟩ := h
  cases cs with
  | nil => simp at h1
  | cons c cs' => exact ⟨c, cs', rfl, h2 0 s c rfl rfl, by simpa using h1, fun j s' c' g1 g2 => h2 (j + 1) s' c' (by simpa using g1) (by simpa using g2)⟩
theorem fitL_int {k : IntKind} {l : List Sh} {cs : List V} (h : FitL (.int k :: l) cs) : ∃ n cs', cs = .int k n :: cs' ∧ FitL l cs' := by
  obtain ⟨c, cs', rfl, h1, h2⟩ := fitL_cons h
  obtain ⟨n, rfl, _⟩ := fitInt h1
  exact ⟨n, cs', rfl, h2⟩
abbrev SlOk {α : Type} (s : Sl α) : Prop := s.len ≤ 140737488355328 ∧ (s.nl = true → s.len = 0)
theorem fitRow {α : Type} {e : α → List V} {P : α → Prop} {l : List Sh} (dec : ∀ cs, FitL l cs → ∃ a : α, cs = e a ∧ P a) {c : V} (h : Fit (.row l) c) : ∃ s : Sl α, c = sl e l.length s ∧ SlOk s ∧ ∀ i, P (s.el i) := by
  cases h with
  | row h hn hl hf =>
    rename_i nl len get
    have hx : ∀ i, ∃ a : α, get i = e a ∧ P a := fun i => dec _ ⟨hl i, hf i⟩
    refine ⟨⟨nl, len, fun i => (hx i).choose⟩, ?_, ⟨h, hn⟩, fun i => (hx i).choose_spec.2⟩
    show V.row nl len l.length get = V.row nl len l.length fun i => e (hx i).choose
    congr 1
    funext i
    exact (hx i).choose_spec.1
theorem fitL_row {α : Type} {e : α → List V} {P : α → Prop} {l r : List Sh} (dec : ∀ cs, FitL l cs → ∃ a : α, cs = e a ∧ P a) {cs : List V} (h : FitL (.row l :: r) cs) : ∃ (s : Sl α) (cs' : List V), cs = sl e l.length s :: cs' ∧ SlOk s ∧ (∀ i, P (s.el i)) ∧ FitL r cs' := by
  obtain ⟨c, cs', rfl, h1, h2⟩ := fitL_cons h
  obtain ⟨s, rfl, h3, h4⟩ := fitRow dec h1
  exact ⟨s, cs', rfl, h3, h4, h2⟩
theorem fitL_bool {l : List Sh} {cs : List V} (h : FitL (.bool :: l) cs) : ∃ n cs', cs = .bool n :: cs' ∧ FitL l cs' := by
  obtain ⟨c, cs', rfl, h1, h2⟩ := fitL_cons h
  cases h1 with
  | bool => exact ⟨_, cs', rfl, h2⟩
abbrev i8 : Sh := .int .i64
abbrev shRow : List Sh := [i8, i8, i8, i8]
abbrev shMach : List Sh := [i8, .row shRow, i8, i8, i8, i8, i8, i8, .bool, i8]
abbrev shHour : List Sh := [i8, i8, i8]
abbrev shSpan : List Sh := [i8, i8]
abbrev I64 (n : Int) : Prop := IntKind.i64.min ≤ n ∧ n ≤ IntKind.i64.max
theorem decInt (cs : List V) (h : FitL [i8] cs) : ∃ n : Int, cs = eInt n ∧ I64 n := by
  obtain ⟨c, cs', rfl, h1, h2⟩ := fitL_cons h
  obtain ⟨n, rfl, m1, m2⟩ := fitInt h1
  obtain rfl := fitL_nil h2
  refine ⟨n, rfl, ?_⟩
  exact ⟨m1, m2⟩
theorem decIL (cs : List V) (h : FitL [.row [i8]] cs) : ∃ s : Sl Int, cs = eIL s ∧ SlOk s := by
  obtain ⟨s, _, rfl, h1, _, h2⟩ := fitL_row decInt h
  obtain rfl := fitL_nil h2
  exact ⟨s, rfl, h1⟩
theorem decRow (cs : List V) (h : FitL shRow cs) : ∃ c : Row, cs = eRow c ∧ True := by
  obtain ⟨a0, _, rfl, h1⟩ := fitL_int h
  obtain ⟨a1, _, rfl, h2⟩ := fitL_int h1
  obtain ⟨a2, _, rfl, h3⟩ := fitL_int h2
  obtain ⟨a3, _, rfl, h4⟩ := fitL_int h3
  obtain rfl := fitL_nil h4
  exact ⟨⟨a0, a1, a2, a3⟩, rfl, trivial⟩
theorem decHour (cs : List V) (h : FitL shHour cs) : ∃ c : Hour, cs = eHour c ∧ True := by
  obtain ⟨a0, _, rfl, h1⟩ := fitL_int h
  obtain ⟨a1, _, rfl, h2⟩ := fitL_int h1
  obtain ⟨a2, _, rfl, h3⟩ := fitL_int h2
  obtain rfl := fitL_nil h3
  exact ⟨⟨a0, ⟨a1, a2⟩⟩, rfl, trivial⟩
theorem dcMach (cs : List V) (h : FitL shMach cs) : ∃ c : Mach, cs = eMach c ∧ SlOk c.rows := by
  obtain ⟨a0, _, rfl, h1⟩ := fitL_int h
  obtain ⟨rw, _, rfl, h0, _, h2⟩ := fitL_row decRow h1
  obtain ⟨a2, _, rfl, h3⟩ := fitL_int h2
  obtain ⟨a3, _, rfl, h4⟩ := fitL_int h3
  obtain ⟨a4, _, rfl, h5⟩ := fitL_int h4
  obtain ⟨a5, _, rfl, h6⟩ := fitL_int h5
  obtain ⟨a6, _, rfl, h7⟩ := fitL_int h6
  obtain ⟨a7, _, rfl, h8⟩ := fitL_int h7
  obtain ⟨a8, _, rfl, h9⟩ := fitL_bool h8
  obtain ⟨a9, _, rfl, h10⟩ := fitL_int h9
  obtain rfl := fitL_nil h10
  exact ⟨⟨a0, rw, a2, a3, a4, a5, a6, a7, a8, a9⟩, rfl, h0⟩
theorem own : ownKnob Try.prog.godebug = none := by kernel_rfl
end Go.Sim.Pl


namespace Go.Sim.Pl
open Go.Proofs
variable (F d : Nat)
end Go.Sim.Pl


namespace Go.Sim.Pl
open Go.Proofs
theorem dd {α : Type} [DecidableEq α] (a : α) : decide (a = a) = true := decide_eq_true rfl
variable (F d : Nat)
theorem inB_of {l : Sl Mach} {hs : Sl Hour} (hF : 140737488355330 < F) (hl : l.len ≤ 140737488355328) (hR : ∀ i, (l.el i).rows.len ≤ 140737488355328) (hh : hs.len ≤ 140737488355328) : InB l hs F :=
  ⟨⟨lenB hl, by omega⟩, fun i _ => ⟨lenB (hR i), by have := hR i; omega⟩, lenB hh, by omega⟩
theorem schB_of {sc : Sl (Sl Int)} (hF : 140737488355330 < F) (hs : sc.len ≤ 140737488355328) (hw : ∀ i, (sc.el i).len ≤ 140737488355328) : SchB sc F :=
  ⟨⟨lenB hs, by omega⟩, fun i _ => ⟨lenB (hw i), by have := hw i; omega⟩⟩
end Go.Sim.Pl


namespace Go.Sim.Pl
open Go.Proofs
def sumN (l : Sl Mach) (sc : Nat → Sl Int) : Nat → Int
  | 0 => 0
  | t + 1 => sumN l sc t + startN (sc t) (stAt l sc t) l.len
def sumE (l : Sl Mach) (sc : Nat → Sl Int) : Nat → Int
  | 0 => 0
  | t + 1 => sumE l sc t + startE l (sc t) (stAt l sc t) l.len
def sumLo (l : Sl Mach) (hs : Nat → Hour) (sc : Nat → Sl Int) : Nat → Int
  | 0 => 0
  | t + 1 => sumLo l hs sc t + (hourE l (sc t) (hs t)).1
def sumHi (l : Sl Mach) (hs : Nat → Hour) (sc : Nat → Sl Int) : Nat → Int
  | 0 => 0
  | t + 1 => sumHi l hs sc t + (hourE l (sc t) (hs t)).2
variable (F d : Nat)
section
variable {l : Sl Mach} (hl : PlantOk l) {hs : Sl Hour} (hh : HoursOk hs) (h24 : hs.len ≤ 24) {sc : Sl (Sl Int)} (hsc : SchedOk l hs.len sc) (hF : 1000 < F)
include hl hh h24 hsc hF
end
section
variable {l : Sl Mach} (hl : PlantOk l) {hs : Sl Hour} (hh : HoursOk hs) (h24 : hs.len ≤ 24) {sc : Sl (Sl Int)} (hsc : SchedOk l hs.len sc) (hF : 2000 < F)
include hl hF
include hh h24 hsc
end
end Go.Sim.Pl


namespace Go.Sim.Pl
open Go.Proofs
variable (F d : Nat)
end Go.Sim.Pl


namespace Go.Sim.Pl
open Go.Proofs
theorem leasts_spec {l : Sl Mach} {x : Int} : ∀ (S : List Nat) (s : Shr), S.Pairwise (· ≠ ·) → 0 ≤ s.left → (∀ z ∈ S, 0 ≤ (rowAt (l.el z) x).least) →
    0 ≤ (S.foldl (leastF l x) s).left ∧ (S.foldl (leastF l x) s).left + sumL (S.map (S.foldl (leastF l x) s).sh) = s.left ∧ (∀ z ∈ S, 0 ≤ (S.foldl (leastF l x) s).sh z ∧ (S.foldl (leastF l x) s).sh z ≤ (rowAt (l.el z) x).least) ∧ (0 < (S.foldl (leastF l x) s).left → ∀ z ∈ S, (S.foldl (leastF l x) s).sh z = (rowAt (l.el z) x).least) := by
  intro S
  induction S with
  | nil => intro s _ h _; simp [sumL]; exact h
  | cons y S ih =>
    intro s hp h hz
    rw [List.pairwise_cons] at hp
    have hy : y ∉ S := fun hm => hp.1 y hm rfl
    have h0 := hz y (by simp)
    have e1 : (leastF l x s y).left = s.left - min s.left (rowAt (l.el y) x).least := rfl
    have e2 : (leastF l x s y).sh y = min s.left (rowAt (l.el y) x).least := by simp [leastF]
    obtain ⟨i1, i2, i3, i4⟩ := ih (leastF l x s y) hp.2 (by rw [e1]; omega) (fun z hz' => hz z (by simp [hz']))
    have e3 := leasts_sh (l := l) (x := x) S (leastF l x s y) hy
    simp only [List.foldl_cons]
    rw [e2] at e3
    refine ⟨i1, ?_, ?_, ?_⟩
    · simp only [List.map_cons]
      show _ + (_ + sumL _) = _
      omega
    · intro z hz'
      rcases List.mem_cons.1 hz' with rfl | hz'
      · omega
      · exact i3 z hz'
    · intro hl z hz'
      rcases List.mem_cons.1 hz' with rfl | hz'
      · have : 0 ≤ sumL (S.map (S.foldl (leastF l x) (leastF l x s z)).sh) := by
          clear i2
          have : ∀ (T : List Nat) (g : Nat → Int), (∀ z ∈ T, 0 ≤ g z) → 0 ≤ sumL (T.map g) := by
            intro T g
            induction T with
            | nil => intro _; simp [sumL]
            | cons a T ih' =>
              intro h
              have := ih' (fun z hz => h z (by simp [hz]))
              have := h a (by simp)
              show 0 ≤ g a + sumL (T.map g)
              omega
          exact this S _ (fun z hz => (i3 z hz).1)
        omega
      · exact i4 hl z hz'
abbrev mst (l : Sl Mach) (x : Int) (z : Nat) : Int := (rowAt (l.el z) x).most
theorem mores_spec {l : Sl Mach} {x k : Int} : ∀ (S : List Nat) (s : Shr), S.Pairwise (· ≠ ·) → 0 ≤ s.left → (∀ z ∈ S, s.sh z ≤ mst l x z) →
    (0 ≤ (S.foldl (moreF l x k) s).left ∧ (S.foldl (moreF l x k) s).left + sumL (S.map (S.foldl (moreF l x k) s).sh) = s.left + sumL (S.map s.sh)) ∧ (∀ z ∈ S, s.sh z ≤ (S.foldl (moreF l x k) s).sh z ∧ (S.foldl (moreF l x k) s).sh z ≤ mst l x z) ∧ (0 < (S.foldl (moreF l x k) s).left → ∀ z ∈ S, (S.foldl (moreF l x k) s).sh z = mst l x z) ∧ (s.left = 0 → ∀ z, (S.foldl (moreF l x k) s).sh z = s.sh z) ∧ S.Pairwise (fun a b => s.sh b < (S.foldl (moreF l x k) s).sh b → (S.foldl (moreF l x k) s).sh a = mst l x a) := by
  intro S
  induction S with
  | nil => intro s _ h _; simp; exact h
  | cons y S ih =>
    intro s hp h hz
    rw [List.pairwise_cons] at hp
    have hy : y ∉ S := fun hm => hp.1 y hm rfl
    have h0 := hz y (by simp)
    have e1 : (moreF l x k s y).left = s.left - min s.left (mst l x y - s.sh y) := rfl
    have e2 : (moreF l x k s y).sh y = s.sh y + min s.left (mst l x y - s.sh y) := by simp [moreF]
    have e4 : ∀ z, z ≠ y → (moreF l x k s y).sh z = s.sh z := fun z hz => by simp [moreF, hz]
    obtain ⟨i1, i2, i3, i4, i5⟩ := ih (moreF l x k s y) hp.2 (by rw [e1]; omega) (fun z hz' => by
      rw [e4 z (fun e => hy (e ▸ hz'))]
      exact hz z (by simp [hz']))
    have e3 := mores_sh (l := l) (x := x) (k := k) S (moreF l x k s y) hy
    have e5 : S.map (moreF l x k s y).sh = S.map s.sh := List.map_congr_left fun z hz' => e4 z (fun e => hy (e ▸ hz'))
    rw [e5] at i1
    rw [e2] at e3
    simp only [List.foldl_cons]
    refine ⟨⟨i1.1, ?_⟩, ?_, ?_, ?_, ?_⟩
    · simp only [List.map_cons]
      show _ + (_ + sumL _) = _ + (_ + sumL _)
      omega
    · intro z hz'
      rcases List.mem_cons.1 hz' with rfl | hz'
      · omega
      · have := i2 z hz'
        rw [e4 z (fun e => hy (e ▸ hz'))] at this
        exact this
    · intro hl z hz'
      rcases List.mem_cons.1 hz' with rfl | hz'
      · by_cases hc : (moreF l x k s z).left = 0
        · exfalso
          have hsh := i4 hc
          have : S.map (S.foldl (moreF l x k) (moreF l x k s z)).sh = S.map s.sh := by
            rw [← e5]
            exact List.map_congr_left fun z _ => hsh z
          rw [this] at i1
          omega
        · omega
      · exact i3 hl z hz'
    · intro hl z
      have := i4 (by omega) z
      rw [this]
      by_cases hzy : z = y
      · subst hzy; rw [e2]; omega
      · exact e4 z hzy
    · refine List.pairwise_cons.2 ⟨fun b hb hlt => ?_, ?_⟩
      · have hby : b ≠ y := fun e => hy (e ▸ hb)
        rw [e3]
        by_cases hc : (moreF l x k s y).left = 0
        · exfalso
          have := i4 hc b
          rw [e4 b hby] at this
          omega
        · omega
      · refine i5.imp_of_mem fun {a b} ha hb hab hlt => hab ?_
        rw [e4 b (fun e => hy (e ▸ hb))]
        exact hlt
theorem pair_key {key : Nat → Int} {R : Nat → Nat → Prop} : ∀ {S : List Nat}, S.Pairwise (Bef key) → S.Pairwise R → ∀ i ∈ S, ∀ m ∈ S, key i < key m → R i m := by
  intro S
  induction S with
  | nil => intro _ _ i hi; simp at hi
  | cons y S ih =>
    intro h1 h2 i hi m hm hk
    rw [List.pairwise_cons] at h1 h2
    rcases List.mem_cons.1 hi with hi1 | hi1
    · rcases List.mem_cons.1 hm with hm1 | hm1
      · rw [hi1, hm1] at hk; omega
      · rw [hi1]; exact h2.1 m hm1
    · rcases List.mem_cons.1 hm with hm1 | hm1
      · rw [hm1] at hk
        rcases h1.1 i hi1 with h | h <;> omega
      · exact ih h1.2 h2.2 i hi1 m hm1 hk
abbrev inK (l : Sl Mach) (r : Nat → Bool) (k : Int) (i : Nat) : Prop := (l.el i).kind = k ∧ r i = true
theorem mine_ne (l : Sl Mach) (r : Nat → Bool) (k : Int) : (mine l r k).Pairwise (· ≠ ·) := (mineR_ord l r k l.len 0).imp fun h => Nat.ne_of_lt h
theorem sum_mine (l : Sl Mach) (r : Nat → Bool) (k : Int) (g : Nat → Int) : sumL ((mine l r k).map g) = sumP (inK l r k) g l.len :=
  (sum_list _ (mine_ne l r k) (fun z hz => (mine_mem.1 hz).1)).trans (sumP_congr (fun i hi => by rw [mine_mem]; exact ⟨fun h => h.2, fun h => ⟨hi, h⟩⟩) (fun _ _ _ => rfl))
theorem sum_mineE (l : Sl Mach) (r : Nat → Bool) (x k : Int) (g : Nat → Int) : sumL ((mineE l r x k).map g) = sumP (inK l r k) g l.len :=
  (sum_list _ (mineE_ne l r x k) (fun z hz => (mineE_mem.1 hz).1)).trans (sumP_congr (fun i hi => by rw [mineE_mem]; exact ⟨fun h => h.2, fun h => ⟨hi, h⟩⟩) (fun _ _ _ => rfl))
structure KindOk (l : Sl Mach) (r : Nat → Bool) (f x k : Int) (w : Nat → Int) : Prop where
  lim : ∀ i, i < l.len → inK l r k i → 0 ≤ w i ∧ w i ≤ mst l x i
  all : sumP (inK l r k) w l.len = f ∨ (sumP (inK l r k) w l.len < f ∧ ∀ i, i < l.len → inK l r k i → w i = mst l x i)
  low : (∃ m, m < l.len ∧ inK l r k m ∧ (rowAt (l.el m) x).least < w m) → ∀ i, i < l.len → inK l r k i → (rowAt (l.el i) x).least ≤ w i
  full : ∀ i m, i < l.len → m < l.len → inK l r k i → inK l r k m → (rowAt (l.el i) x).energy < (rowAt (l.el m) x).energy → (rowAt (l.el m) x).least < w m → w i = mst l x i
theorem kind_ok {l : Sl Mach} (hl : PlantOk l) {r : Nat → Bool} {f x k : Int} (hf : 0 ≤ f) (s : Shr) : KindOk l r f x k (kindF l r f x s k).sh := by
  obtain ⟨a1, a2, a3, a4⟩ := leasts_spec (l := l) (x := x) (mine l r k) { s with left := f } (mine_ne l r k) hf (fun z hz => (row_in (hl.1 z (mine_mem.1 hz).1) x).1.1)
  generalize hs1 : (mine l r k).foldl (leastF l x) { s with left := f } = s1 at a1 a2 a3 a4
  have hk : kindF l r f x s k = (mineE l r x k).foldl (moreF l x k) s1 := by rw [← hs1]; rfl
  have hin : ∀ i, i < l.len → inK l r k i → i ∈ mine l r k := fun i h1 h2 => mine_mem.2 ⟨h1, h2⟩
  have hinE : ∀ i, i < l.len → inK l r k i → i ∈ mineE l r x k := fun i h1 h2 => mineE_mem.2 ⟨h1, h2⟩
  obtain ⟨b1, b2, b3, b4, b5⟩ := mores_spec (l := l) (x := x) (k := k) (mineE l r x k) s1 (mineE_ne l r x k) a1 (fun z hz => by
    have h := mineE_mem.1 hz
    have h1 := (a3 z (mine_mem.2 h)).2
    have h2 := (row_in (hl.1 z h.1) x).1.2
    show _ ≤ (rowAt (l.el z) x).most
    omega)
  rw [hk]
  rw [sum_mine] at a2
  rw [sum_mineE, sum_mineE] at b1
  refine ⟨?_, ?_, ?_, ?_⟩
  · intro i hi hki
    have h1 := b2 i (hinE i hi hki)
    have h2 := a3 i (hin i hi hki)
    omega
  · have a2' : s1.left + sumP (inK l r k) s1.sh l.len = f := a2
    by_cases hc : 0 < ((mineE l r x k).foldl (moreF l x k) s1).left
    · exact .inr ⟨by omega, fun i hi hki => b3 hc i (hinE i hi hki)⟩
    · exact .inl (by omega)
  · rintro ⟨m, hm, hkm, hlt⟩ i hi hki
    have hpos : 0 < s1.left := by
      by_cases hc : s1.left = 0
      · have := b4 hc m
        have := (a3 m (hin m hm hkm)).2
        omega
      · omega
    have h1 := a4 hpos i (hin i hi hki)
    have h2 := (b2 i (hinE i hi hki)).1
    omega
  · intro i m hi hm hki hkm he hlt
    refine pair_key (mineE_ord l r x k) b5 i (hinE i hi hki) m (hinE m hm hkm) he ?_
    have := (a3 m (hin m hm hkm)).2
    omega
theorem kindOk_congr {l : Sl Mach} {r : Nat → Bool} {f x k : Int} {w w' : Nat → Int} (h : KindOk l r f x k w) (e : ∀ i, (l.el i).kind = k → w' i = w i) : KindOk l r f x k w' := by
  have hs : sumP (inK l r k) w' l.len = sumP (inK l r k) w l.len := sumP_congr (fun _ _ => Iff.rfl) (fun i _ hi => e i hi.1)
  refine ⟨?_, ?_, ?_, ?_⟩
  · intro i hi hk; rw [e i hk.1]; exact h.lim i hi hk
  · rw [hs]
    rcases h.all with h1 | ⟨h1, h2⟩
    · exact .inl h1
    · exact .inr ⟨h1, fun i hi hk => by rw [e i hk.1]; exact h2 i hi hk⟩
  · rintro ⟨m, hm, hkm, hlt⟩ i hi hk
    rw [e i hk.1]
    exact h.low ⟨m, hm, hkm, by rw [← e m hkm.1]; exact hlt⟩ i hi hk
  · intro i m hi hm hki hkm he hlt
    rw [e i hki.1]
    exact h.full i m hi hm hki hkm he (by rw [← e m hkm.1]; exact hlt)
theorem share_ok {l : Sl Mach} (hl : PlantOk l) {r : Nat → Bool} {f x : Int} (hf : 0 ≤ f) {k : Int} (hk : 1 ≤ k ∧ k ≤ 3) : KindOk l r f x k (shareS l r f x).sh := by
  have h3 : k = 1 ∨ k = 2 ∨ k = 3 := by omega
  rcases h3 with rfl | rfl | rfl
  · exact kindOk_congr (kind_ok hl hf shr0) fun i hi => sh_1 r f x hi
  · exact kindOk_congr (kind_ok hl hf (shr1 l r f x)) fun i hi => sh_2 r f x hi
  · rw [shareS_eq]; exact kind_ok hl hf _
theorem share_off {l : Sl Mach} {r : Nat → Bool} {f x : Int} {i : Nat} (h : r i = false) : (shareS l r f x).sh i = 0 := by
  have hn : ∀ k, ¬ ((l.el i).kind = k ∧ r i = true) := fun k hk => by rw [h] at hk; exact absurd hk.2 (by decide)
  rw [shareS_eq, kind_sh (hn 3)]
  show (kindF l r f x (kindF l r f x shr0 1) 2).sh i = 0
  rw [kind_sh (hn 2), kind_sh (hn 1)]
  rfl
theorem sumP_le {p : Nat → Prop} [DecidablePred p] {g g' : Nat → Int} : ∀ {n : Nat}, (∀ i, i < n → p i → g i ≤ g' i) → sumP p g n ≤ sumP p g' n
  | 0, _ => by simp [sumP]
  | n + 1, h => by
    have ih := sumP_le (p := p) (g := g) (g' := g') (n := n) (fun i hi => h i (by omega))
    simp only [sumP]
    split
    · rename_i hp; have := h n (by omega) hp; omega
    · omega
theorem sumP_add {p : Nat → Prop} [DecidablePred p] {g g' : Nat → Int} : ∀ {n : Nat}, sumP p (fun i => g i + g' i) n = sumP p g n + sumP p g' n
  | 0 => rfl
  | n + 1 => by
    have ih := sumP_add (p := p) (g := g) (g' := g') (n := n)
    simp only [sumP]
    split <;> omega
theorem sumP_mul {p : Nat → Prop} [DecidablePred p] {g : Nat → Int} {c : Int} : ∀ {n : Nat}, sumP p (fun i => c * g i) n = c * sumP p g n
  | 0 => by simp [sumP]
  | n + 1 => by
    have ih := sumP_mul (p := p) (g := g) (c := c) (n := n)
    simp only [sumP]
    rw [ih, Int.mul_add]
    split <;> simp
theorem maxP_le {p : Nat → Prop} [DecidablePred p] {g : Nat → Int} {i : Nat} : ∀ {n : Nat}, i < n → p i → g i ≤ maxP p g n
  | 0, h, _ => by omega
  | n + 1, h, hp => by
    simp only [maxP]
    rcases Nat.lt_or_eq_of_le (Nat.le_of_lt_succ h) with h1 | rfl
    · have ih := maxP_le (p := p) (g := g) (n := n) h1 hp
      split <;> omega
    · rw [if_pos hp]; omega
theorem maxP_at {p : Nat → Prop} [DecidablePred p] {g : Nat → Int} : ∀ {n : Nat}, 0 < maxP p g n → ∃ i, i < n ∧ p i ∧ g i = maxP p g n
  | 0, h => by simp [maxP] at h
  | n + 1, h => by
    simp only [maxP] at h ⊢
    split
    · rename_i hp
      rw [if_pos hp] at h
      by_cases hc : maxP p g n ≤ g n
      · exact ⟨n, by omega, hp, by omega⟩
      · obtain ⟨i, h1, h2, h3⟩ := maxP_at (p := p) (g := g) (n := n) (by omega)
        exact ⟨i, by omega, h2, by omega⟩
    · rename_i hp
      rw [if_neg hp] at h
      obtain ⟨i, h1, h2, h3⟩ := maxP_at (p := p) (g := g) (n := n) h
      exact ⟨i, by omega, h2, h3⟩
theorem mostS_sum (l : Sl Mach) (r : Nat → Bool) (x k : Int) : ∀ n, mostS l.el r x k n = sumP (inK l r k) (mst l x) n
  | 0 => rfl
  | n + 1 => by
    have ih := mostS_sum l r x k n
    simp only [mostS, sumP, ih]
theorem thereS_iff (l : Nat → Mach) (k : Int) : ∀ n, thereS l k n = true ↔ ∃ i, i < n ∧ (l i).kind = k
  | 0 => by simp [thereS]
  | n + 1 => by
    have ih := thereS_iff l k n
    simp only [thereS, Bool.or_eq_true, decide_eq_true_iff, ih]
    constructor
    · rintro (⟨i, h1, h2⟩ | h)
      · exact ⟨i, by omega, h2⟩
      · exact ⟨n, by omega, h⟩
    · rintro ⟨i, h1, h2⟩
      rcases Nat.lt_or_eq_of_le (Nat.le_of_lt_succ h1) with h3 | rfl
      · exact .inl ⟨i, h3, h2⟩
      · exact .inr h2
theorem lacks_0 {l : Sl Mach} {r : Nat → Bool} {f x : Int} : lacks l r f x = 0 ↔ ∀ k, 1 ≤ k ∧ k ≤ 3 → shortK l.el r f x k l.len = false := by
  unfold lacks
  simp only [lackK]
  constructor
  · intro h k hk
    have h3 : k = 1 ∨ k = 2 ∨ k = 3 := by omega
    by_cases h1 : shortK l.el r f x 1 l.len = true
    · rw [if_pos h1] at h; omega
    · rw [if_neg h1] at h
      by_cases h2 : shortK l.el r f x (1 + 1) l.len = true
      · rw [if_pos h2] at h; omega
      · rw [if_neg h2] at h
        by_cases h4 : shortK l.el r f x (1 + 1 + 1) l.len = true
        · rw [if_pos h4] at h; omega
        · rcases h3 with rfl | rfl | rfl
          · simpa using h1
          · simpa using h2
          · simpa using h4
  · intro h
    rw [if_neg (by rw [h 1 (by omega)]; simp), if_neg (by rw [h (1 + 1) (by omega)]; simp), if_neg (by rw [h (1 + 1 + 1) (by omega)]; simp)]
abbrev CarOk (l : Sl Mach) (r : Nat → Bool) (f x : Int) (w : Nat → Int) : Prop := (∀ i, i < l.len → (0 ≤ w i ∧ w i ≤ mst l x i) ∧ (r i = false → w i ≤ 0)) ∧ ∀ k : Int, 1 ≤ k ∧ k ≤ 3 → thereS l.el k l.len = true → sumP (fun i => (l.el i).kind = k) w l.len = f
theorem car_kind {l : Sl Mach} {r : Nat → Bool} {x : Int} {w : Nat → Int} (h : ∀ i, i < l.len → (0 ≤ w i ∧ w i ≤ mst l x i) ∧ (r i = false → w i ≤ 0)) (k : Int) : sumP (fun i => (l.el i).kind = k) w l.len = sumP (inK l r k) w l.len := by
  have : ∀ n, n ≤ l.len → sumP (fun i => (l.el i).kind = k) w n = sumP (inK l r k) w n := by
    intro n
    induction n with
    | zero => intro _; rfl
    | succ n ih =>
      intro hn
      have e := ih (by omega)
      have hw := h n (by omega)
      simp only [sumP, e]
      by_cases h1 : (l.el n).kind = k
      · rw [if_pos h1]
        by_cases hr : r n = true
        · rw [if_pos ⟨h1, hr⟩]
        · rw [if_neg (fun h => hr h.2)]
          have := hw.2 (by simpa using hr)
          omega
      · rw [if_neg h1, if_neg (fun h => h1 h.1)]
  exact this l.len (Nat.le_refl _)
theorem share_car {l : Sl Mach} (hl : PlantOk l) {r : Nat → Bool} {f x : Int} (hf : 0 ≤ f) (hk : lacks l r f x = 0) : CarOk l r f x (shareS l r f x).sh := by
  have h1 : ∀ i, i < l.len → (0 ≤ (shareS l r f x).sh i ∧ (shareS l r f x).sh i ≤ mst l x i) ∧ (r i = false → (shareS l r f x).sh i ≤ 0) := by
    intro i hi
    cases hr : r i with
    | true => exact ⟨(share_ok hl hf (hl.1 i hi).2.1).lim i hi ⟨rfl, hr⟩, fun h => absurd h (by decide)⟩
    | false =>
      have e := share_off (l := l) (f := f) (x := x) hr
      have := (row_in (hl.1 i hi) x).1
      rw [e]
      exact ⟨⟨Int.le_refl _, show (0 : Int) ≤ (rowAt (l.el i) x).most by omega⟩, fun _ => Int.le_refl _⟩
  refine ⟨h1, fun k hk2 ht => ?_⟩
  rw [car_kind h1]
  rcases (share_ok hl hf hk2 (r := r) (x := x)).all with h | ⟨h, h2⟩
  · exact h
  · exfalso
    have hs := (lacks_0.1 hk) k hk2
    unfold shortK at hs
    rw [ht, Bool.true_and, decide_eq_false_iff_not, mostS_sum] at hs
    rw [sumP_congr (fun _ _ => Iff.rfl) h2] at h
    omega
theorem sum_kinds {l : Sl Mach} (hl : PlantOk l) {r : Nat → Bool} {g : Nat → Int} : ∀ n, n ≤ l.len → sumP (fun i => r i = true) g n = sumP (inK l r 1) g n + sumP (inK l r 2) g n + sumP (inK l r 3) g n
  | 0, _ => rfl
  | n + 1, h => by
    have ih := sum_kinds hl (r := r) (g := g) n (by omega)
    have hk := (hl.1 n (by omega)).2.1
    simp only [sumP, inK, ih]
    by_cases hr : r n = true
    · have h3 : (l.el n).kind = 1 ∨ (l.el n).kind = 2 ∨ (l.el n).kind = 3 := by omega
      rw [if_pos hr]
      rcases h3 with h3 | h3 | h3
      · rw [if_pos (show inK l r 1 n from ⟨h3, hr⟩), if_neg (show ¬ inK l r 2 n from fun h => by have := h.1; omega), if_neg (show ¬ inK l r 3 n from fun h => by have := h.1; omega)]; omega
      · rw [if_neg (show ¬ inK l r 1 n from fun h => by have := h.1; omega), if_pos (show inK l r 2 n from ⟨h3, hr⟩), if_neg (show ¬ inK l r 3 n from fun h => by have := h.1; omega)]; omega
      · rw [if_neg (show ¬ inK l r 1 n from fun h => by have := h.1; omega), if_neg (show ¬ inK l r 2 n from fun h => by have := h.1; omega), if_pos (show inK l r 3 n from ⟨h3, hr⟩)]; omega
    · rw [if_neg hr, if_neg (fun h => hr h.2), if_neg (fun h => hr h.2), if_neg (fun h => hr h.2)]
      omega
abbrev prcS (l : Sl Mach) (r : Nat → Bool) (x k : Int) (w : Nat → Int) : Int := maxP (fun i => (l.el i).kind = k ∧ r i = true ∧ w i > (rowAt (l.el i) x).least) (fun i => (rowAt (l.el i) x).energy) l.len
theorem price_1 {l : Sl Mach} {r : Nat → Bool} {x k : Int} {w : Nat → Int} {i : Nat} (hi : i < l.len) (hk : inK l r k i) (h : (rowAt (l.el i) x).least < w i) : (rowAt (l.el i) x).energy ≤ prcS l r x k w :=
  maxP_le (p := fun i => (l.el i).kind = k ∧ r i = true ∧ w i > (rowAt (l.el i) x).least) (g := fun i => (rowAt (l.el i) x).energy) hi ⟨hk.1, hk.2, h⟩
theorem price_2 {l : Sl Mach} (hl : PlantOk l) {r : Nat → Bool} {f x k : Int} {w : Nat → Int} (h : KindOk l r f x k w) {i : Nat} (hi : i < l.len) (hk : inK l r k i) (hp : (rowAt (l.el i) x).energy < prcS l r x k w) : w i = mst l x i := by
  have h0 := (row_in (hl.1 i hi) x).2.2.1
  unfold prcS at hp
  obtain ⟨m, hm, hpm, he⟩ := maxP_at (p := fun i => (l.el i).kind = k ∧ r i = true ∧ w i > (rowAt (l.el i) x).least) (g := fun i => (rowAt (l.el i) x).energy) (n := l.len) (by omega)
  exact h.full i m hi hm hk ⟨hpm.1, hpm.2.1⟩ (by omega) hpm.2.2
theorem kind_least {l : Sl Mach} (hl : PlantOk l) {r : Nat → Bool} {f x k : Int} {w o : Nat → Int} (h : KindOk l r f x k w) (hs : sumP (inK l r k) w l.len = f) (ho : ∀ i, i < l.len → inK l r k i → o i ≤ mst l x i) (hso : sumP (inK l r k) o l.len = f) :
    sumP (inK l r k) (enT l w x) l.len ≤ sumP (inK l r k) (enT l o x) l.len := by
  have hP0 : 0 ≤ prcS l r x k w := maxP_0
  have hterm : sumP (inK l r k) (fun i => enT l w x i + prcS l r x k w * max (o i) (rowAt (l.el i) x).least) l.len ≤ sumP (inK l r k) (fun i => enT l o x i + prcS l r x k w * max (w i) (rowAt (l.el i) x).least) l.len := by
    refine sumP_le fun i hi hk => ?_
    have hr := (row_in (hl.1 i hi) x)
    have ho' : o i ≤ (rowAt (l.el i) x).most := ho i hi hk
    have hkey : 0 ≤ ((rowAt (l.el i) x).energy - prcS l r x k w) * (max (o i) (rowAt (l.el i) x).least - max (w i) (rowAt (l.el i) x).least) := by
      rcases Int.lt_trichotomy (rowAt (l.el i) x).energy (prcS l r x k w) with h1 | h1 | h1
      · have e : w i = (rowAt (l.el i) x).most := price_2 hl h hi hk h1
        refine Int.mul_nonneg_of_nonpos_of_nonpos (by omega) ?_
        omega
      · rw [h1, Int.sub_self, Int.zero_mul]; exact Int.le_refl _
      · refine Int.mul_nonneg (by omega) ?_
        by_cases hc : (rowAt (l.el i) x).least < w i
        · have := price_1 hi hk hc; omega
        · omega
    have e : ((rowAt (l.el i) x).energy - prcS l r x k w) * (max (o i) (rowAt (l.el i) x).least - max (w i) (rowAt (l.el i) x).least) = (enT l o x i + prcS l r x k w * max (w i) (rowAt (l.el i) x).least) - (enT l w x i + prcS l r x k w * max (o i) (rowAt (l.el i) x).least) := by
      simp only [enT]
      generalize (rowAt (l.el i) x).energy = a
      generalize prcS l r x k w = p
      generalize max (o i) (rowAt (l.el i) x).least = u
      generalize max (w i) (rowAt (l.el i) x).least = v
      rw [Int.sub_mul, Int.mul_sub, Int.mul_sub]
      omega
    omega
  rw [sumP_add, sumP_add, sumP_mul (g := fun i => max (o i) (rowAt (l.el i) x).least), sumP_mul (g := fun i => max (w i) (rowAt (l.el i) x).least)] at hterm
  have hle : prcS l r x k w * sumP (inK l r k) (fun i => max (w i) (rowAt (l.el i) x).least) l.len ≤ prcS l r x k w * sumP (inK l r k) (fun i => max (o i) (rowAt (l.el i) x).least) l.len := by
    rcases Int.lt_or_eq_of_le hP0 with h1 | h1
    · refine Int.mul_le_mul_of_nonneg_left ?_ hP0
      obtain ⟨m, hm, hpm, he⟩ := maxP_at (p := fun i => (l.el i).kind = k ∧ r i = true ∧ w i > (rowAt (l.el i) x).least) (g := fun i => (rowAt (l.el i) x).energy) (n := l.len) h1
      have hlow := h.low ⟨m, hm, ⟨hpm.1, hpm.2.1⟩, hpm.2.2⟩
      have e1 : sumP (inK l r k) (fun i => max (w i) (rowAt (l.el i) x).least) l.len = sumP (inK l r k) w l.len := sumP_congr (fun _ _ => Iff.rfl) (fun i hi hk => by have := hlow i hi hk; show max _ _ = _; omega)
      have e2 : sumP (inK l r k) o l.len ≤ sumP (inK l r k) (fun i => max (o i) (rowAt (l.el i) x).least) l.len := sumP_le fun i _ _ => by show o i ≤ max _ _; omega
      omega
    · rw [← h1, Int.zero_mul, Int.zero_mul]; exact Int.le_refl _
  omega
theorem share_least {l : Sl Mach} (hl : PlantOk l) {r : Nat → Bool} {f x : Int} (hf : 0 ≤ f) (hk : lacks l r f x = 0) {o : Nat → Int} (ho : CarOk l r f x o) : enS l r f x ≤ sumP (fun i => r i = true) (enT l o x) l.len := by
  unfold enS
  rw [energy_eq hl r f x, sum_kinds hl l.len (Nat.le_refl _), sum_kinds hl l.len (Nat.le_refl _)]
  have hc := share_car hl hf hk (r := r)
  have hk3 : ∀ k, 1 ≤ k ∧ k ≤ 3 → sumP (inK l r k) (enT l (shareS l r f x).sh x) l.len ≤ sumP (inK l r k) (enT l o x) l.len := by
    intro k hk'
    by_cases ht : thereS l.el k l.len = true
    · have h1 := hc.2 k hk' ht
      have h2 := ho.2 k hk' ht
      rw [car_kind hc.1] at h1
      rw [car_kind ho.1] at h2
      exact kind_least hl (share_ok hl hf hk') h1 (fun i hi _ => (ho.1 i hi).1.2) h2
    · have hn : ∀ i, i < l.len → ¬ inK l r k i := fun i hi hki => ht ((thereS_iff _ _ _).2 ⟨i, hi, hki.1⟩)
      rw [sumP_no hn, sumP_no hn]
      exact Int.le_refl _
  have h1 := hk3 1 (by omega)
  have h2 := hk3 2 (by omega)
  have h3 := hk3 3 (by omega)
  omega
end Go.Sim.Pl


namespace Go.Sim.Pl
open Go.Proofs
theorem rowR_congr {m : Mach} {x y : Int} : ∀ j i, (∀ k, i ≤ k → k < i + j → ((m.rows.el k).ratio ≥ x ↔ (m.rows.el k).ratio ≥ y)) → rowR m x j i = rowR m y j i
  | 0, _, _ => rfl
  | j + 1, i, h => by
    have ih := rowR_congr (m := m) (x := x) (y := y) j (i + 1) (fun k h1 h2 => h k (by omega) (by omega))
    have h0 := h i (by omega) (by omega)
    simp only [rowR, ih]
    by_cases h1 : (m.rows.el i).ratio ≥ x
    · rw [if_pos h1, if_pos (h0.1 h1)]
    · rw [if_neg h1, if_neg (fun h => h1 (h0.2 h))]
theorem ratR_mem {m : Mach} {s : Span} {k : Nat} (h : s.lo < (m.rows.el k).ratio + 1 ∧ (m.rows.el k).ratio + 1 ≤ s.hi) : ∀ j i, i ≤ k → k < i + j → (m.rows.el k).ratio + 1 ∈ ratR m s j i
  | 0, i, h1, h2 => by omega
  | j + 1, i, h1, h2 => by
    simp only [ratR, List.mem_append]
    rcases Nat.eq_or_lt_of_le h1 with h3 | h3
    · subst h3
      exact .inl (by rw [if_pos h]; simp)
    · exact .inr (ratR_mem h j (i + 1) (by omega) (by omega))
theorem ratM_mem {l : Sl Mach} {s : Span} {a : Nat} {x : Int} (h : x ∈ ratR (l.el a) s (l.el a).rows.len 0) : ∀ j i, i ≤ a → a < i + j → x ∈ ratM l s j i
  | 0, i, h1, h2 => by omega
  | j + 1, i, h1, h2 => by
    simp only [ratM, List.mem_append]
    rcases Nat.eq_or_lt_of_le h1 with h3 | h3
    · subst h3
      exact .inl h
    · exact .inr (ratM_mem h j (i + 1) (by omega) (by omega))
theorem last_le {x : Int} : ∀ (L : List Int), (∃ z ∈ L, z ≤ x) → ∃ y ∈ L, y ≤ x ∧ ∀ z ∈ L, z ≤ x → z ≤ y
  | [], h => by obtain ⟨z, hz, _⟩ := h; simp at hz
  | a :: L, h => by
    by_cases h1 : ∃ z ∈ L, z ≤ x
    · obtain ⟨y, hy, hyx, hm⟩ := last_le L h1
      by_cases h2 : a ≤ x ∧ y ≤ a
      · refine ⟨a, by simp, h2.1, fun z hz hzx => ?_⟩
        rcases List.mem_cons.1 hz with h3 | h3
        · omega
        · have := hm z h3 hzx; omega
      · refine ⟨y, by simp [hy], hyx, fun z hz hzx => ?_⟩
        rcases List.mem_cons.1 hz with h3 | h3
        · subst h3; omega
        · exact hm z h3 hzx
    · obtain ⟨z, hz, hzx⟩ := h
      rcases List.mem_cons.1 hz with h3 | h3
      · refine ⟨a, by simp, by omega, fun w hw hwx => ?_⟩
        rcases List.mem_cons.1 hw with h4 | h4
        · omega
        · exact absurd ⟨w, h4, hwx⟩ h1
      · exact absurd ⟨z, h3, hzx⟩ h1
theorem rat_cover {l : Sl Mach} {s : Span} {x : Int} (hx : s.lo ≤ x ∧ x ≤ s.hi) : ∃ y ∈ ratL l s, ∀ i, i < l.len → rowAt (l.el i) x = rowAt (l.el i) y := by
  obtain ⟨y, hy, hyx, hm⟩ := last_le (x := x) (ratL l s) ⟨s.lo, by simp [ratL], hx.1⟩
  have hlo := hm s.lo (by simp [ratL]) hx.1
  refine ⟨y, hy, fun i hi => rowR_congr _ _ fun k _ hk => ⟨fun h => by omega, fun h => ?_⟩⟩
  by_cases h1 : ((l.el i).rows.el k).ratio ≥ x
  · exact h1
  · exfalso
    have hin : ((l.el i).rows.el k).ratio + 1 ∈ ratL l s := by
      unfold ratL
      refine List.mem_cons_of_mem _ (ratM_mem (a := i) (ratR_mem (k := k) ⟨by omega, by omega⟩ _ 0 (by omega) (by omega)) _ 0 (by omega) (by omega))
    have := hm _ hin (by omega)
    omega
theorem mostS_congr {l : Sl Mach} {r : Nat → Bool} {x y k : Int} : ∀ n, (∀ i, i < n → rowAt (l.el i) x = rowAt (l.el i) y) → mostS l.el r x k n = mostS l.el r y k n
  | 0, _ => rfl
  | n + 1, h => by
    have ih := mostS_congr (l := l) (r := r) (x := x) (y := y) (k := k) n (fun i hi => h i (by omega))
    simp only [mostS, ih, h n (by omega)]
theorem lacks_congr {l : Sl Mach} {r : Nat → Bool} {f x y : Int} (h : ∀ i, i < l.len → rowAt (l.el i) x = rowAt (l.el i) y) : lacks l r f x = lacks l r f y := by
  have hk : ∀ k, shortK l.el r f x k l.len = shortK l.el r f y k l.len := fun k => by
    unfold shortK
    rw [mostS_congr l.len h]
  unfold lacks
  simp only [lackK, hk]
theorem fails_iff {l : Sl Mach} {r : Nat → Bool} {f : Int} {s : Span} (hs : RatioOk s) : failsB l r f (ratL l s) = true ↔ ∃ x, (s.lo ≤ x ∧ x ≤ s.hi) ∧ lacks l r f x ≠ 0 := by
  unfold failsB
  rw [List.any_eq_true]
  constructor
  · rintro ⟨x, hx, h⟩
    rw [decide_eq_true_iff] at h
    exact ⟨x, ratL_in hs x hx, by omega⟩
  · rintro ⟨x, hx, h⟩
    obtain ⟨y, hy, he⟩ := rat_cover (l := l) hx
    refine ⟨y, hy, ?_⟩
    rw [decide_eq_true_iff, ← lacks_congr he]
    have := lacks_in l r f x
    omega
theorem short_0 {l : Sl Mach} {r : Nat → Bool} {f : Int} {s : Span} (hs : RatioOk s) : shortest l r f s = 0 ↔ ∀ x, s.lo ≤ x → x ≤ s.hi → lacks l r f x = 0 := by
  have h := shortest_0 l r f s
  rw [fails_iff hs] at h
  constructor
  · intro h0 x h1 h2
    by_cases hk : lacks l r f x = 0
    · exact hk
    · exact absurd h0 (h.2 ⟨x, ⟨h1, h2⟩, hk⟩)
  · intro ha
    by_cases hk : shortest l r f s = 0
    · exact hk
    · obtain ⟨x, hx, hn⟩ := h.1 hk
      exact absurd (ha x hx.1 hx.2) hn
variable (F d : Nat)
section
variable {l : Sl Mach} {r : Sl Bool} {f : Int} (h4 : RunOk l r f) (hF : 2000 < F) {s : Span} (hs : RatioOk s) (a x : Int) (q16 : (E F (d + 42)).pf 16 [] = some (.ret (.bool true)))
include h4 hF hs q16
end
end Go.Sim.Pl


namespace Go.Sim.Pl
open Go.Proofs
def okL (l : Sl Mach) (hs : Nat → Hour) : Nat → (Nat → Sta) → List Int → Prop
  | _, _, [] => True
  | t, st, a :: p => (faultS l st (wayS l.len a) (hs t)).1 = 1 ∧ okL l hs (t + 1) (nextS l st (wayS l.len a)) p
def enL (l : Sl Mach) (hs : Nat → Hour) : Nat → (Nat → Sta) → List Int → Int
  | _, _, [] => 0
  | t, st, a :: p => (hourE l (wayS l.len a) (hs t)).2 + startE l (wayS l.len a) st l.len + enL l hs (t + 1) (nextS l st (wayS l.len a)) p
def stL (l : Sl Mach) : (Nat → Sta) → List Int → Int
  | _, [] => 0
  | st, a :: p => startN (wayS l.len a) st l.len + stL l (nextS l st (wayS l.len a)) p
def lexL : List Int → List Int → Prop
  | a :: p, b :: q => a < b ∨ a = b ∧ lexL p q
  | _, _ => True
def Vld (l : Sl Mach) (h : Hour) (st : Nat → Sta) (rest : (Nat → Sta) → Bst) (a : Nat) : Prop := (faultS l st (wayS l.len a) h).1 = 1 ∧ (rest (nextS l st (wayS l.len a))).right = true
abbrev adB (l : Sl Mach) (h : Hour) (st : Nat → Sta) (rest : (Nat → Sta) → Bst) (a : Nat) : Bst := addB l h st (rest (nextS l st (wayS l.len a))) a
def Pick (l : Sl Mach) (h : Hour) (st : Nat → Sta) (rest : (Nat → Sta) → Bst) (m : Nat) (o : Bst) : Prop :=
  (o.right = false ∧ ∀ a, a < m → ¬ Vld l h st rest a) ∨ ∃ a, a < m ∧ Vld l h st rest a ∧ o = adB l h st rest a ∧ ∀ b, b < m → Vld l h st rest b → (adB l h st rest a).energy < (adB l h st rest b).energy ∨ (adB l h st rest a).energy = (adB l h st rest b).energy ∧ ((adB l h st rest a).starts < (adB l h st rest b).starts ∨ (adB l h st rest a).starts = (adB l h st rest b).starts ∧ a ≤ b)
theorem pick_step {l : Sl Mach} {h : Hour} {st : Nat → Sta} {rest : (Nat → Sta) → Bst} {m : Nat} {o : Bst} (ho : Pick l h st rest m o) : Pick l h st rest (m + 1) (stepB l h st rest o m) := by
  unfold stepB
  by_cases h1 : (faultS l st (wayS l.len m) h).1 = 1
  case neg =>
    rw [if_pos h1]
    have hn : ¬ Vld l h st rest m := fun hv => h1 hv.1
    rcases ho with ⟨h2, h3⟩ | ⟨a, h2, h3, h4, h5⟩
    · refine .inl ⟨h2, fun b hb hv => ?_⟩
      rcases Nat.lt_or_eq_of_le (Nat.le_of_lt_succ hb) with h6 | h6
      · exact h3 b h6 hv
      · subst h6; exact hn hv
    · refine .inr ⟨a, by omega, h3, h4, fun b hb hv => ?_⟩
      rcases Nat.lt_or_eq_of_le (Nat.le_of_lt_succ hb) with h6 | h6
      · exact h5 b h6 hv
      · subst h6; exact absurd hv hn
  rw [if_neg (fun hh => hh h1)]
  by_cases h2 : (rest (nextS l st (wayS l.len m))).right = false
  · rw [if_pos h2]
    have hn : ¬ Vld l h st rest m := fun hv => by rw [hv.2] at h2; exact absurd h2 (by decide)
    rcases ho with ⟨h3, h4⟩ | ⟨a, h3, h4, h5, h6⟩
    · refine .inl ⟨h3, fun b hb hv => ?_⟩
      rcases Nat.lt_or_eq_of_le (Nat.le_of_lt_succ hb) with h7 | h7
      · exact h4 b h7 hv
      · subst h7; exact hn hv
    · refine .inr ⟨a, by omega, h4, h5, fun b hb hv => ?_⟩
      rcases Nat.lt_or_eq_of_le (Nat.le_of_lt_succ hb) with h7 | h7
      · exact h6 b h7 hv
      · subst h7; exact absurd hv hn
  rw [if_neg h2]
  have hv : Vld l h st rest m := ⟨h1, by simpa using h2⟩
  unfold takeB
  by_cases hc : o.right = false ∨ (adB l h st rest m).energy < o.energy ∨ (adB l h st rest m).energy = o.energy ∧ (adB l h st rest m).starts < o.starts
  · rw [if_pos hc]
    refine .inr ⟨m, by omega, hv, rfl, fun b hb hvb => ?_⟩
    rcases Nat.lt_or_eq_of_le (Nat.le_of_lt_succ hb) with h7 | h7
    · rcases ho with ⟨h3, h4⟩ | ⟨a, h3, h4, h5, h6⟩
      · exact absurd hvb (h4 b h7)
      · have h8 := h6 b h7 hvb
        rw [h5] at hc
        rcases hc with hc | hc
        · exact absurd hc (by simp [adB, addB])
        · omega
    · subst h7; exact .inr ⟨rfl, .inr ⟨rfl, Nat.le_refl _⟩⟩
  · rw [if_neg hc]
    rcases ho with ⟨h3, h4⟩ | ⟨a, h3, h4, h5, h6⟩
    · exact absurd (.inl h3) hc
    · refine .inr ⟨a, by omega, h4, h5, fun b hb hvb => ?_⟩
      rcases Nat.lt_or_eq_of_le (Nat.le_of_lt_succ hb) with h7 | h7
      · exact h6 b h7 hvb
      · subst h7
        rw [h5] at hc
        have h8 : ¬ ((adB l h st rest b).energy < (adB l h st rest a).energy ∨ (adB l h st rest b).energy = (adB l h st rest a).energy ∧ (adB l h st rest b).starts < (adB l h st rest a).starts) := fun hh => hc (.inr hh)
        omega
theorem pick_ways {l : Sl Mach} {h : Hour} {st : Nat → Sta} {rest : (Nat → Sta) → Bst} : ∀ (k m : Nat) (o : Bst), Pick l h st rest m o → Pick l h st rest (m + k) (waysB l h st rest k m o)
  | 0, _, _, ho => ho
  | k + 1, m, o, ho => by
    have e := pick_ways k (m + 1) _ (pick_step ho)
    rw [show m + (k + 1) = m + 1 + k by omega]
    exact e
theorem pick_bst {l : Sl Mach} (hs : Nat → Hour) (j t : Nat) (st : Nat → Sta) : Pick l (hs t) st (bst l hs j (t + 1)) (3 ^ l.len) (bst l hs (j + 1) t st) := by
  have e := pick_ways (l := l) (h := hs t) (st := st) (rest := bst l hs j (t + 1)) (3 ^ l.len) 0 bNo (.inl ⟨rfl, fun a ha => by omega⟩)
  rw [Nat.zero_add] at e
  exact e
theorem planW_len (l : Sl Mach) (hs : Nat → Hour) : ∀ (j t : Nat) (st : Nat → Sta), (planW l hs j t st).length = j
  | 0, _, _ => rfl
  | j + 1, t, st => by simp only [planW, List.length_cons, planW_len l hs j]
theorem planW_cons {l : Sl Mach} {hs : Nat → Hour} {j t : Nat} {st : Nat → Sta} {a : Nat} (e : bst l hs (j + 1) t st = adB l (hs t) st (bst l hs j (t + 1)) a) : planW l hs (j + 1) t st = (a : Int) :: planW l hs j (t + 1) (nextS l st (wayS l.len a)) := by
  have ew : (bst l hs (j + 1) t st).way = some (a : Int) := by rw [e]; rfl
  simp only [planW, ew, Option.getD]
theorem bst_att (l : Sl Mach) (hs : Nat → Hour) : ∀ (j t : Nat) (st : Nat → Sta), (bst l hs j t st).right = true → okL l hs t st (planW l hs j t st) ∧ enL l hs t st (planW l hs j t st) = (bst l hs j t st).energy ∧ stL l st (planW l hs j t st) = (bst l hs j t st).starts ∧ ∀ a ∈ planW l hs j t st, 0 ≤ a ∧ a < ((3 ^ l.len : Nat) : Int)
  | 0, _, _, _ => ⟨trivial, rfl, rfl, by simp [planW]⟩
  | j + 1, t, st, h => by
    rcases pick_bst (l := l) hs j t st with ⟨h1, _⟩ | ⟨a, h1, h2, h3, _⟩
    · rw [h1] at h; exact absurd h (by decide)
    · obtain ⟨i1, i2, i3, i4⟩ := bst_att l hs j (t + 1) _ h2.2
      rw [planW_cons h3, h3]
      refine ⟨⟨h2.1, i1⟩, ?_, ?_, ?_⟩
      · show _ + enL l hs (t + 1) _ _ = _ + _
        rw [i2]
      · show _ + stL l _ _ = _ + _
        rw [i3]
      · intro b hb
        rcases List.mem_cons.1 hb with h5 | h5
        · omega
        · exact i4 b h5
theorem bst_opt (l : Sl Mach) (hs : Nat → Hour) : ∀ (p : List Int) (t : Nat) (st : Nat → Sta), (∀ a ∈ p, 0 ≤ a ∧ a < ((3 ^ l.len : Nat) : Int)) → okL l hs t st p → (bst l hs p.length t st).right = true ∧ ((bst l hs p.length t st).energy < enL l hs t st p ∨ (bst l hs p.length t st).energy = enL l hs t st p ∧ ((bst l hs p.length t st).starts < stL l st p ∨ (bst l hs p.length t st).starts = stL l st p ∧ lexL (planW l hs p.length t st) p))
  | [], _, _, _, _ => ⟨rfl, .inr ⟨rfl, .inr ⟨rfl, trivial⟩⟩⟩
  | c :: p, t, st, hb, h => by
    obtain ⟨b, rfl⟩ : ∃ b : Nat, c = b := ⟨c.toNat, by have := hb c (by simp); omega⟩
    have hb0 := hb b (by simp)
    obtain ⟨i1, i2⟩ := bst_opt l hs p (t + 1) (nextS l st (wayS l.len b)) (fun a ha => hb a (by simp [ha])) h.2
    have hv : Vld l (hs t) st (bst l hs p.length (t + 1)) b := ⟨h.1, i1⟩
    rw [List.length_cons]
    rcases pick_bst (l := l) hs p.length t st with ⟨h1, h2⟩ | ⟨a, h1, h2, h3, h4⟩
    · exact absurd hv (h2 b (by omega))
    · have h5 := h4 b (by omega) hv
      refine ⟨by rw [h3]; rfl, ?_⟩
      rw [planW_cons h3, h3]
      have e1 : (adB l (hs t) st (bst l hs p.length (t + 1)) b).energy = (hourE l (wayS l.len b) (hs t)).2 + startE l (wayS l.len b) st l.len + (bst l hs p.length (t + 1) (nextS l st (wayS l.len b))).energy := rfl
      have e2 : (adB l (hs t) st (bst l hs p.length (t + 1)) b).starts = startN (wayS l.len b) st l.len + (bst l hs p.length (t + 1) (nextS l st (wayS l.len b))).starts := rfl
      have e3 : enL l hs t st ((b : Int) :: p) = (hourE l (wayS l.len b) (hs t)).2 + startE l (wayS l.len b) st l.len + enL l hs (t + 1) (nextS l st (wayS l.len b)) p := rfl
      have e4 : stL l st ((b : Int) :: p) = startN (wayS l.len b) st l.len + stL l (nextS l st (wayS l.len b)) p := rfl
      rw [e1, e2] at h5
      rw [e3, e4]
      show _ ∨ _ ∧ (_ ∨ _ ∧ ((a : Int) < b ∨ (a : Int) = b ∧ lexL _ p))
      by_cases hab : a = b
      · subst hab
        rw [e1, e2]
        rcases i2 with i2 | ⟨i2, i3 | ⟨i3, i4⟩⟩
        · exact .inl (by omega)
        · exact .inr ⟨by omega, .inl (by omega)⟩
        · exact .inr ⟨by omega, .inr ⟨by omega, .inr ⟨rfl, i4⟩⟩⟩
      · generalize (adB l (hs t) st (bst l hs p.length (t + 1)) a).energy = x at *
        generalize (adB l (hs t) st (bst l hs p.length (t + 1)) a).starts = y at *
        have i2' : (bst l hs p.length (t + 1) (nextS l st (wayS l.len b))).energy < enL l hs (t + 1) (nextS l st (wayS l.len b)) p ∨ (bst l hs p.length (t + 1) (nextS l st (wayS l.len b))).energy = enL l hs (t + 1) (nextS l st (wayS l.len b)) p ∧ (bst l hs p.length (t + 1) (nextS l st (wayS l.len b))).starts ≤ stL l (nextS l st (wayS l.len b)) p := by
          rcases i2 with i2 | ⟨i2, i3 | ⟨i3, _⟩⟩
          · exact .inl i2
          · exact .inr ⟨i2, by omega⟩
          · exact .inr ⟨i2, by omega⟩
        by_cases k1 : x < (hourE l (wayS l.len b) (hs t)).2 + startE l (wayS l.len b) st l.len + enL l hs (t + 1) (nextS l st (wayS l.len b)) p
        · exact .inl k1
        · refine .inr ⟨by omega, ?_⟩
          by_cases k2 : y < startN (wayS l.len b) st l.len + stL l (nextS l st (wayS l.len b)) p
          · exact .inl k2
          · exact .inr ⟨by omega, .inl (by omega)⟩
def numF (w : Nat → Int) : Nat → Int
  | 0 => 0
  | i + 1 => 3 * numF w i + w i
abbrev WEq (n : Nat) (w w' : Sl Int) : Prop := w.len = n ∧ w'.len = n ∧ ∀ i, i < n → w.el i = w'.el i
section
variable {l : Sl Mach} {w w' : Sl Int} (h : WEq l.len w w')
include h
end
def codes (n : Nat) (sc : Nat → Sl Int) (h : Nat) : List Int := (List.range h).map fun t => numF (sc t).el n
section
variable {l : Sl Mach} {hs : Sl Hour} {sc : Sl (Sl Int)}
def planQ (l : Sl Mach) (hs : Sl Hour) : Sl (Sl Int) := ⟨false, hs.len, fun j => wayS l.len ((planS l hs).getD j ((planS l hs).getLastD 0))⟩
end
end Go.Sim.Pl


namespace Go.Sim.Pl
open Go.Proofs
def lessW (a b : Nat → Int) : Nat → Nat → Option Bool
  | 0, _ => none
  | j + 1, i => if a i ≠ b i then some (decide (a i < b i)) else lessW a b j (i + 1)
def lessS (a b : Nat → Sl Int) (m : Nat) : Nat → Nat → Bool
  | 0, _ => false
  | j + 1, t => match lessW (a t).el (b t).el m 0 with
    | some v => v
    | none => lessS a b m j (t + 1)
variable (F d : Nat)
section
variable {a b : Sl (Sl Int)} {m : Nat} (hm : m ≤ 1000) (hab : a.len = b.len) (hn : a.len ≤ 1000) (ha : ∀ t, t < a.len → (a.el t).len = m) (hb : ∀ t, t < a.len → (b.el t).len = m) (hF : 2000 < F)
include hm hab hn ha hb hF
end
theorem cnt_small {l : Sl Mach} {hs : Sl Hour} (h1 : l.len ≤ 3) (h2 : hs.len ≤ 5) : 30 * cntS (3 ^ l.len) hs.len < 1000000000000 := by
  have a : l.len = 0 ∨ l.len = 1 ∨ l.len = 2 ∨ l.len = 3 := by omega
  have b : hs.len = 0 ∨ hs.len = 1 ∨ hs.len = 2 ∨ hs.len = 3 ∨ hs.len = 4 ∨ hs.len = 5 := by omega
  rcases a with a | a | a | a <;> rcases b with b | b | b | b | b | b <;> rw [a, b] <;> decide
section
variable {l : Sl Mach} (hl : PlantOk l) {hs : Sl Hour} (hh : HoursOk hs) (h24 : hs.len ≤ 24) (hF : 140737488355330 < F) (hr : (bestS l hs).right = true)
include hl hh h24 hF hr
theorem out_row : ∃ nl n wd g, outR l hs = .row nl n wd g := by
  unfold outR
  split
  · exact ⟨_, _, _, _, rfl⟩
  · exact ⟨_, _, _, _, rfl⟩
end
end Go.Sim.Pl


namespace Go.Sim.Pl
open Go.Proofs
variable (F d : Nat)
section
variable {l : Sl Mach} (hl : PlantOk l) {hs : Sl Hour} (hh : HoursOk hs) (h24 : hs.len ≤ 24) {sc : Sl (Sl Int)} (hsc : SchedOk l hs.len sc) (hF : 2000 < F) (hfine : ∀ k, k < hs.len → (faultS l (stAt l sc.el k) (sc.el k) (hs.el k)).1 = 1)
include hl hh h24 hsc hF hfine
end
end Go.Sim.Pl


namespace Go.Sim.Pl
open Go.Proofs
theorem foldl_same {α β : Type} {f g : β → α → β} : ∀ (L : List α) (s : β), (∀ z ∈ L, ∀ s, f s z = g s z) → L.foldl f s = L.foldl g s
  | [], _, _ => rfl
  | z :: L, s, h => by
    simp only [List.foldl_cons]
    rw [h z (by simp) s]
    exact foldl_same L _ fun y hy => h y (by simp [hy])
section
variable {l : Sl Mach} {r : Nat → Bool} {f x y : Int} (h : ∀ i, i < l.len → rowAt (l.el i) x = rowAt (l.el i) y)
include h
theorem mineE_same (k : Int) : mineE l r x k = mineE l r y k := by
  refine ord_uniq (keyE l x) _ _ (mineE_ord l r x k) ?_ fun z => by rw [mineE_mem, mineE_mem]
  refine (mineE_ord l r y k).imp_of_mem fun {a b} ha hb hab => ?_
  have ka : keyE l x a = keyE l y a := by unfold keyE; rw [h a (mineE_mem.1 ha).1]
  have kb : keyE l x b = keyE l y b := by unfold keyE; rw [h b (mineE_mem.1 hb).1]
  unfold Bef at hab ⊢
  rw [ka, kb]
  exact hab
theorem kindF_same (s : Shr) (k : Int) : kindF l r f x s k = kindF l r f y s k := by
  unfold kindF
  rw [mineE_same h k, foldl_same (f := leastF l x) (g := leastF l y) (mine l r k) _ (fun z hz s => by unfold leastF; rw [h z (mine_mem.1 hz).1])]
  exact foldl_same _ _ (fun z hz s => by unfold moreF; rw [h z (mineE_mem.1 hz).1])
theorem shareS_same : shareS l r f x = shareS l r f y := by
  unfold shareS
  simp only [shK, kindF_same h]
theorem enS_same : enS l r f x = enS l r f y := by
  unfold enS
  rw [shareS_same h]
end
theorem costF_lo (e : Int → Int) : ∀ (xs : List Int) (p : Int × Int), (costF e p xs).1 ≤ p.1 ∧ (∀ x ∈ xs, (costF e p xs).1 ≤ e x) ∧ ((costF e p xs).1 = p.1 ∨ ∃ x ∈ xs, (costF e p xs).1 = e x)
  | [], p => ⟨Int.le_refl _, by simp, .inl rfl⟩
  | x :: xs, p => by
    obtain ⟨h1, h2, h3⟩ := costF_lo e xs (min p.1 (e x), max p.2 (e x))
    have e0 : costF e p (x :: xs) = costF e (min p.1 (e x), max p.2 (e x)) xs := rfl
    rw [e0]
    refine ⟨by omega, fun z hz => ?_, ?_⟩
    · rcases List.mem_cons.1 hz with h4 | h4
      · subst h4; omega
      · exact h2 z h4
    · rcases h3 with h3 | ⟨z, hz, h3⟩
      · by_cases h4 : p.1 ≤ e x
        · exact .inl (by omega)
        · exact .inr ⟨x, by simp, by omega⟩
      · exact .inr ⟨z, by simp [hz], h3⟩
theorem costF_hi (e : Int → Int) : ∀ (xs : List Int) (p : Int × Int), p.2 ≤ (costF e p xs).2 ∧ (∀ x ∈ xs, e x ≤ (costF e p xs).2) ∧ ((costF e p xs).2 = p.2 ∨ ∃ x ∈ xs, (costF e p xs).2 = e x)
  | [], p => ⟨Int.le_refl _, by simp, .inl rfl⟩
  | x :: xs, p => by
    obtain ⟨h1, h2, h3⟩ := costF_hi e xs (min p.1 (e x), max p.2 (e x))
    have e0 : costF e p (x :: xs) = costF e (min p.1 (e x), max p.2 (e x)) xs := rfl
    rw [e0]
    refine ⟨by omega, fun z hz => ?_, ?_⟩
    · rcases List.mem_cons.1 hz with h4 | h4
      · subst h4; omega
      · exact h2 z h4
    · rcases h3 with h3 | ⟨z, hz, h3⟩
      · by_cases h4 : e x ≤ p.2
        · exact .inl (by omega)
        · exact .inr ⟨x, by simp, by omega⟩
      · exact .inr ⟨z, by simp [hz], h3⟩
theorem hourE_at {l : Sl Mach} {w : Sl Int} {h : Hour} {x : Int} (hx : h.ratio.lo ≤ x ∧ x ≤ h.ratio.hi) : (hourE l w h).1 ≤ enS l (runsS w).el h.flow x ∧ enS l (runsS w).el h.flow x ≤ (hourE l w h).2 := by
  obtain ⟨y, hy, he⟩ := rat_cover (l := l) hx
  rw [enS_same he]
  unfold hourE
  unfold ratL at hy
  rcases List.mem_cons.1 hy with h4 | h4
  · rw [h4]; exact ⟨(costF_lo _ _ _).1, (costF_hi _ _ _).1⟩
  · exact ⟨(costF_lo _ _ _).2.1 y h4, (costF_hi _ _ _).2.1 y h4⟩
def upL (lo : Int) (k : Nat) : List Int := (List.range k).map fun i : Nat => lo + 1 + (i : Int)
def allE (e : Int → Int) (lo : Int) (k : Nat) : Int × Int := costF e (e lo, e lo) (upL lo k)
theorem fault_other {l : Sl Mach} {st : Nat → Sta} {w : Sl Int} {h h' : Hour} (e : (faultS l st w h).1 = 1) (hs : shortest l (runsS w).el h'.flow h'.ratio = 0) : (faultS l st w h').1 = 1 := by
  unfold faultS at e ⊢
  split at e
  · simp at e
  · split at e
    · simp at e
    · split at e
      · simp at e
      · split at e
        · simp at e
        · split at e
          · simp at e
          · rw [hs]; rfl
variable (F d : Nat)
end Go.Sim.Pl


namespace Go.Sim.Pl
open Go.Proofs
theorem reduce {p : Nat → Prop} [DecidablePred p] {g : Nat → Int} : ∀ (n : Nat) (T : Int), (∀ i, i < n → p i → 0 ≤ g i) → 0 ≤ T → T ≤ sumP p g n → ∃ o : Nat → Int, (∀ i, 0 ≤ o i) ∧ (∀ i, i < n → p i → o i ≤ g i) ∧ sumP p o n = T
  | 0, T, _, h0, h1 => ⟨fun _ => 0, fun _ => Int.le_refl _, fun i hi => by omega, by simp only [sumP] at h1 ⊢; omega⟩
  | n + 1, T, hg, h0, h1 => by
    simp only [sumP] at h1
    have hcong : ∀ (o : Nat → Int) (v : Int) (m : Nat), m ≤ n → sumP p (fun i => if i = n then v else o i) m = sumP p o m := fun o v m hm => sumP_congr (fun _ _ => Iff.rfl) (fun i hi _ => by show (if i = n then v else o i) = o i; rw [if_neg (by omega)])
    by_cases hp : p n
    · rw [if_pos hp] at h1
      have hgn := hg n (by omega) hp
      by_cases hc : T ≤ sumP p g n
      · obtain ⟨o, a1, a2, a3⟩ := reduce n T (fun i hi => hg i (by omega)) h0 hc
        refine ⟨fun i => if i = n then 0 else o i, fun i => ?_, fun i hi hpi => ?_, ?_⟩
        · simp only; split
          · exact Int.le_refl _
          · exact a1 i
        · simp only; split
          · rename_i h; subst h; exact hgn
          · exact a2 i (by omega) hpi
        · simp only [sumP]
          rw [hcong o 0 n (Nat.le_refl _), a3, if_pos hp]
          simp
      · have hs0 : 0 ≤ sumP p g n := by
          have : ∀ m, m ≤ n → 0 ≤ sumP p g m := by
            intro m
            induction m with
            | zero => intro _; exact Int.le_refl _
            | succ m ih =>
              intro hm
              have := ih (by omega)
              simp only [sumP]
              split
              · rename_i h; have := hg m (by omega) h; omega
              · omega
          exact this n (Nat.le_refl _)
        obtain ⟨o, a1, a2, a3⟩ := reduce n (sumP p g n) (fun i hi => hg i (by omega)) hs0 (Int.le_refl _)
        refine ⟨fun i => if i = n then T - sumP p g n else o i, fun i => ?_, fun i hi hpi => ?_, ?_⟩
        · simp only; split
          · omega
          · exact a1 i
        · simp only; split
          · rename_i h; subst h; omega
          · exact a2 i (by omega) hpi
        · simp only [sumP]
          rw [hcong o _ n (Nat.le_refl _), a3, if_pos hp]
          simp only [if_true]
          omega
    · rw [if_neg hp] at h1
      obtain ⟨o, a1, a2, a3⟩ := reduce n T (fun i hi => hg i (by omega)) h0 (by omega)
      refine ⟨o, a1, fun i hi hpi => ?_, ?_⟩
      · rcases Nat.lt_or_eq_of_le (Nat.le_of_lt_succ hi) with h | h
        · exact a2 i h hpi
        · subst h; exact absurd hpi hp
      · simp only [sumP]; rw [a3, if_neg hp]; omega
theorem less_flow {l : Sl Mach} (hl : PlantOk l) {r : Nat → Bool} {f f' x : Int} (h0 : 0 ≤ f') (h1 : f' ≤ f) (hk : lacks l r f x = 0) : lacks l r f' x = 0 ∧ enS l r f' x ≤ enS l r f x := by
  have hk' : lacks l r f' x = 0 := by
    rw [lacks_0] at hk ⊢
    intro k hk3
    have := hk k hk3
    unfold shortK at this ⊢
    cases ht : thereS l.el k l.len with
    | false => rfl
    | true =>
      rw [ht, Bool.true_and, decide_eq_false_iff_not] at this
      rw [Bool.true_and, decide_eq_false_iff_not]
      omega
  refine ⟨hk', ?_⟩
  have hc := share_car hl (show 0 ≤ f by omega) hk (r := r)
  have hex : ∀ k : Int, 1 ≤ k ∧ k ≤ 3 → ∃ o : Nat → Int, (∀ i, 0 ≤ o i) ∧ (∀ i, i < l.len → (l.el i).kind = k → o i ≤ (shareS l r f x).sh i) ∧ (thereS l.el k l.len = true → sumP (fun i => (l.el i).kind = k) o l.len = f') := by
    intro k hk3
    by_cases ht : thereS l.el k l.len = true
    · obtain ⟨o, a1, a2, a3⟩ := reduce (p := fun i => (l.el i).kind = k) (g := (shareS l r f x).sh) l.len f' (fun i hi _ => (hc.1 i hi).1.1) h0 (by rw [hc.2 k hk3 ht]; exact h1)
      exact ⟨o, a1, a2, fun _ => a3⟩
    · refine ⟨fun _ => 0, fun _ => Int.le_refl _, fun i hi _ => (hc.1 i hi).1.1, fun h => absurd h ht⟩
  obtain ⟨o1, a1, b1, c1⟩ := hex 1 (by omega)
  obtain ⟨o2, a2, b2, c2⟩ := hex 2 (by omega)
  obtain ⟨o3, a3, b3, c3⟩ := hex 3 (by omega)
  have ho : CarOk l r f' x (fun i => if (l.el i).kind = 1 then o1 i else if (l.el i).kind = 2 then o2 i else o3 i) ∧ ∀ i, i < l.len → (if (l.el i).kind = 1 then o1 i else if (l.el i).kind = 2 then o2 i else o3 i) ≤ (shareS l r f x).sh i := by
    have hle : ∀ i, i < l.len → 0 ≤ (if (l.el i).kind = 1 then o1 i else if (l.el i).kind = 2 then o2 i else o3 i) ∧ (if (l.el i).kind = 1 then o1 i else if (l.el i).kind = 2 then o2 i else o3 i) ≤ (shareS l r f x).sh i := fun i hi => by
      have hk3 := (hl.1 i hi).2.1
      by_cases k1 : (l.el i).kind = 1
      · rw [if_pos k1]; exact ⟨a1 i, b1 i hi k1⟩
      · rw [if_neg k1]
        by_cases k2 : (l.el i).kind = 2
        · rw [if_pos k2]; exact ⟨a2 i, b2 i hi k2⟩
        · rw [if_neg k2]; exact ⟨a3 i, b3 i hi (by omega)⟩
    refine ⟨⟨fun i hi => ?_, fun k hk3 ht => ?_⟩, fun i hi => (hle i hi).2⟩
    · have h2 := hle i hi
      have h3 := hc.1 i hi
      refine ⟨⟨h2.1, ?_⟩, fun hr => ?_⟩
      · have := h3.1.2
        have := h2.2
        simp only
        omega
      · have := h3.2 hr
        have := h2.2
        simp only
        omega
    · have h3 : k = 1 ∨ k = 2 ∨ k = 3 := by omega
      rcases h3 with h3 | h3 | h3
      · subst h3
        rw [← c1 ht]
        exact sumP_congr (fun _ _ => Iff.rfl) (fun i _ hi => by show (if (l.el i).kind = 1 then o1 i else if (l.el i).kind = 2 then o2 i else o3 i) = o1 i; rw [if_pos hi])
      · subst h3
        rw [← c2 ht]
        exact sumP_congr (fun _ _ => Iff.rfl) (fun i _ hi => by show (if (l.el i).kind = 1 then o1 i else if (l.el i).kind = 2 then o2 i else o3 i) = o2 i; rw [if_neg (by omega), if_pos hi])
      · subst h3
        rw [← c3 ht]
        exact sumP_congr (fun _ _ => Iff.rfl) (fun i _ hi => by show (if (l.el i).kind = 1 then o1 i else if (l.el i).kind = 2 then o2 i else o3 i) = o3 i; rw [if_neg (by omega), if_neg (by omega)])
  have e1 := share_least hl h0 hk' ho.1
  refine Int.le_trans e1 ?_
  unfold enS
  rw [energy_eq hl r f x]
  refine sumP_le fun i hi _ => ?_
  have hr := (row_in (hl.1 i hi) x).2.2.1
  have := ho.2 i hi
  refine Int.mul_le_mul_of_nonneg_left ?_ hr
  show max (if (l.el i).kind = 1 then o1 i else if (l.el i).kind = 2 then o2 i else o3 i) _ ≤ max _ _
  omega
def Easy (l : Sl Mach) (h h' : Hour) : Prop := ∀ (w : Sl Int) (st : Nat → Sta), (faultS l st w h).1 = 1 → (faultS l st w h').1 = 1 ∧ (hourE l w h').2 ≤ (hourE l w h).2
theorem easy_self (l : Sl Mach) (h : Hour) : Easy l h h := fun _ _ e => ⟨e, Int.le_refl _⟩
theorem hourE_some {l : Sl Mach} {w : Sl Int} {h : Hour} (hs : RatioOk h.ratio) : ∃ x, (h.ratio.lo ≤ x ∧ x ≤ h.ratio.hi) ∧ (hourE l w h).2 = enS l (runsS w).el h.flow x := by
  unfold hourE
  rcases (costF_hi (enS l (runsS w).el h.flow) (ratM l h.ratio l.len 0) (enS l (runsS w).el h.flow h.ratio.lo, enS l (runsS w).el h.flow h.ratio.lo)).2.2 with e | ⟨x, hx, e⟩
  · exact ⟨h.ratio.lo, ⟨Int.le_refl _, hs.2.1⟩, e⟩
  · exact ⟨x, ratL_in hs x (List.mem_cons_of_mem _ hx), e⟩
theorem easy_flow {l : Sl Mach} (hl : PlantOk l) {f f' : Int} {s : Span} (hs : RatioOk s) (h0 : 0 ≤ f') (h1 : f' ≤ f) : Easy l ⟨f, s⟩ ⟨f', s⟩ := by
  intro w st e
  have hk := (short_0 (l := l) (r := (runsS w).el) (f := f) hs).1 (fault_fine e).2
  refine ⟨fault_other e ((short_0 hs).2 fun x h2 h3 => (less_flow hl h0 h1 (hk x h2 h3)).1), ?_⟩
  obtain ⟨x, hx, he⟩ := hourE_some (l := l) (w := w) (h := ⟨f', s⟩) hs
  rw [he]
  exact Int.le_trans (less_flow hl h0 h1 (hk x hx.1 hx.2)).2 (hourE_at (h := ⟨f, s⟩) hx).2
theorem easy_ratio {l : Sl Mach} {f : Int} {s s' : Span} (hs : RatioOk s) (h0 : s.lo ≤ s'.lo) (h1 : s'.lo ≤ s'.hi) (h2 : s'.hi ≤ s.hi) : Easy l ⟨f, s⟩ ⟨f, s'⟩ := by
  intro w st e
  have hs' : RatioOk s' := ⟨by have := hs.1; omega, h1, by have := hs.2.2; omega⟩
  have hk := (short_0 (l := l) (r := (runsS w).el) (f := f) hs).1 (fault_fine e).2
  refine ⟨fault_other e ((short_0 hs').2 fun x h3 h4 => hk x (by omega) (by omega)), ?_⟩
  obtain ⟨x, hx, he⟩ := hourE_some (l := l) (w := w) (h := ⟨f, s'⟩) hs'
  rw [he]
  have hx1 : s'.lo ≤ x := hx.1
  have hx2 : x ≤ s'.hi := hx.2
  exact (hourE_at (h := ⟨f, s⟩) ⟨show s.lo ≤ x by omega, show x ≤ s.hi by omega⟩).2
theorem easy_L {l : Sl Mach} {hs hs' : Nat → Hour} (he : ∀ t, Easy l (hs t) (hs' t)) : ∀ (p : List Int) (t : Nat) (st : Nat → Sta), okL l hs t st p → okL l hs' t st p ∧ enL l hs' t st p ≤ enL l hs t st p
  | [], _, _, _ => ⟨trivial, Int.le_refl _⟩
  | a :: p, t, st, h => by
    obtain ⟨e1, e2⟩ := he t _ _ h.1
    obtain ⟨i1, i2⟩ := easy_L he p (t + 1) _ h.2
    refine ⟨⟨e1, i1⟩, ?_⟩
    simp only [enL]
    omega
theorem easy_best {l : Sl Mach} {hs hs' : Sl Hour} (hlen : hs'.len = hs.len) (he : ∀ t, Easy l (hs.el t) (hs'.el t)) (hr : (bestS l hs).right = true) : (bestS l hs').right = true ∧ (bestS l hs').energy ≤ (bestS l hs).energy := by
  obtain ⟨h1, h2, _, h4⟩ := bst_att l hs.el hs.len 0 (beginF l) hr
  obtain ⟨e1, e2⟩ := easy_L he _ _ _ h1
  have hb := bst_opt l hs'.el (planW l hs.el hs.len 0 (beginF l)) 0 (beginF l) h4 e1
  rw [planW_len, ← hlen] at hb
  have hb1 : (bestS l hs').right = true := hb.1
  have hb2 : (bestS l hs').energy ≤ enL l hs'.el 0 (beginF l) (planW l hs.el hs.len 0 (beginF l)) := by
    rcases hb.2 with h | ⟨h, _⟩
    · rw [hlen] at h
      unfold bestS
      rw [hlen]
      omega
    · rw [hlen] at h
      unfold bestS
      rw [hlen]
      omega
  refine ⟨hb1, ?_⟩
  have h2' : enL l hs.el 0 (beginF l) (planW l hs.el hs.len 0 (beginF l)) = (bestS l hs).energy := h2
  omega
theorem play_pre {l : Sl Mach} {hs : Nat → Hour} {sc : Nat → Sl Int} (m : Nat) : ∀ (j t : Nat) (lo hi n : Int), (playR l hs sc j t lo hi n).rule ≠ 1 → playR l hs sc (j + m) t lo hi n = playR l hs sc j t lo hi n := by
  intro j
  induction j with
  | zero => intro t lo hi n h; exact absurd rfl h
  | succ j ih =>
    intro t lo hi n h
    rw [show j + 1 + m = j + m + 1 by omega]
    simp only [playR] at h ⊢
    by_cases h1 : (faultS l (stAt l sc t) (sc t) (hs t)).1 = 1
    · rw [if_neg (fun hh => hh h1)] at h ⊢
      rw [if_neg (fun hh => hh h1)]
      exact ih _ _ _ _ h
    · rw [if_pos h1, if_pos h1]
theorem upd_lo (g : Nat → Hour) (n : Nat) (v : Int) : updGet (fun u => eHour (g u)) n 1 [.int .i64 v] = fun j => eHour (if j = n then ⟨(g n).flow, ⟨v, (g n).ratio.hi⟩⟩ else g j) := by
  funext j
  unfold updGet
  by_cases h : j = n
  · subst h; rw [if_pos rfl, if_pos rfl]; rfl
  · rw [if_neg h, if_neg h]
theorem upd_fl (g : Nat → Hour) (n : Nat) (v : Int) : updGet (fun u => eHour (g u)) n 0 [.int .i64 v] = fun j => eHour (if j = n then ⟨v, (g n).ratio⟩ else g j) := by
  funext j
  unfold updGet
  by_cases h : j = n
  · subst h; rw [if_pos rfl, if_pos rfl]; rfl
  · rw [if_neg h, if_neg h]
variable (F d : Nat)
theorem e41 {l : Sl Mach} {hs : Sl Hour} (hF : 140737488355330 < F) (hl : PlantOk l) (hh : HoursOk hs) (h3 : l.len ≤ 3) (h5 : hs.len ≤ 5) : ∃ nl n wd g, (E F (d + 42)).pf 41 [sl eMach 10 l, sl eHour 3 hs] = some (.ret (.tup [.row nl n wd g, .int .i64 (if (bestS l hs).right = true then (bestS l hs).energy else 0), .int .i64 (if (bestS l hs).right = true then 0 else 5)])) := by
  have hl2 := hl.2
  have hB : InB l hs F := ⟨⟨by show l.len < 4611686018427387904; omega, by omega⟩, rowsB F hl (by omega), show hs.len < 4611686018427387904 by omega, show hs.len < F by omega⟩
  have q := s41 F (d + 1) l hs (by omega) hB (fun _ => cnt_small h3 h5)
  have he : errA l hs = 0 := by
    unfold errA
    rw [if_neg (by omega), if_pos ⟨hl, hh⟩]
  rw [if_pos he] at q
  by_cases hr : (bestS l hs).right = true
  · rw [if_pos hr] at q
    rw [if_pos hr, if_pos hr]
    obtain ⟨nl, n, wd, g, ho⟩ := out_row F hl hh (by omega) hF hr
    rw [ho] at q
    exact ⟨_, _, _, _, q⟩
  · rw [if_neg hr] at q
    rw [if_neg hr, if_neg hr]
    exact ⟨_, _, _, _, q⟩
end Go.Sim.Pl


namespace Go.Sim.Pl
open Go.Proofs
variable (F d : Nat)
abbrev hsLo (hs : Sl Hour) (b : Nat) (v : Int) : Sl Hour := ⟨false, hs.len, fun j => if j = b then ⟨(hs.el b).flow, ⟨v, (hs.el b).ratio.hi⟩⟩ else hs.el j⟩
abbrev hsFl (hs : Sl Hour) (b : Nat) (v : Int) : Sl Hour := ⟨false, hs.len, fun j => if j = b then ⟨v, (hs.el b).ratio⟩ else hs.el j⟩
theorem law13 (hF : 140737488355330 < F) (l : Sl Mach) (hs : Sl Hour) (sc : Sl (Sl Int)) (a x : Int) (hl : l.len ≤ 140737488355328) (hR : ∀ i, (l.el i).rows.len ≤ 140737488355328) (hh : hs.len ≤ 140737488355328) (hnl : hs.nl = true → hs.len = 0) (hsc : sc.len ≤ 140737488355328) (hw : ∀ i, (sc.el i).len ≤ 140737488355328) :
    (E F (d + 43)).pf 13 [sl eMach 10 l, sl eHour 3 hs, sl eIL 1 sc, .int .i64 a, .int .i64 x] = some (.ret (.bool true)) := by
  have q16 := s16 F d (by omega)
  have q15 := s15 F (d + 41) l (lenB hl) (by omega)
  have hB := inB_of F hF hl hR hh
  have hS := schB_of F hF hsc hw
  have q31 := s31 F (d + 41) hs sc hS.1.1 hS.1.2
  have q32 := s32 F (d + 30) l hs sc (by omega) hB hS
  have q33 := s33 F (d + 38) l hs sc hB hS
  rw [E_pf, t13]
  simp only [q15, q31, q33, tkOut_ret, tkBool_b]
  by_cases h1 : ShortP l
  case neg => simp only [decide_eq_false h1, Bool.not_false, pT, q16, tkOut_ret, tkBool_b]
  rw [decide_eq_true h1, Bool.not_true, pF]
  by_cases g1 : (l.len : Int) > 2
  · simp only [decide_eq_true g1, pT, q16, tkOut_ret, tkBool_b]
  rw [decide_eq_false g1, pF]
  by_cases g2 : (hs.len : Int) > 5
  · simp only [decide_eq_true g2, pT, q16, tkOut_ret, tkBool_b]
  rw [decide_eq_false g2, pF]
  by_cases h2 : BriefP hs sc
  case neg => simp only [decide_eq_false h2, Bool.not_false, pT, q16, tkOut_ret, tkBool_b]
  rw [decide_eq_true h2, Bool.not_true, pF]
  simp only [tkInt_i, dd, decide_true, pT]
  by_cases h3 : errS l hs sc = 0
  case neg => simp only [show (errS l hs sc != 0) = true by simp [h3], pT, q16, tkOut_ret, tkBool_b]
  rw [h3, show ((0 : Int) != 0) = false from rfl, pF]
  by_cases g3 : a < 0
  · simp only [decide_eq_true g3, pT, q16, tkOut_ret, tkBool_b]
  rw [decide_eq_false g3, pF]
  by_cases g4 : a ≥ (hs.len : Int)
  · simp only [decide_eq_true g4, pT, q16, tkOut_ret, tkBool_b]
  rw [decide_eq_false g4, pF]
  by_cases g5 : x < 0
  · simp only [decide_eq_true g5, pT, q16, tkOut_ret, tkBool_b]
  rw [decide_eq_false g5, pF]
  by_cases g6 : x > 5000
  · simp only [decide_eq_true g6, pT, q16, tkOut_ret, tkBool_b]
  rw [decide_eq_false g6, pF]
  obtain ⟨b, rfl⟩ : ∃ b : Nat, a = b := ⟨a.toNat, by omega⟩
  rw [if_pos h3] at q32
  obtain ⟨a1, a2, a3, a4⟩ := errS_0 h3
  have hscl := a4.2
  have hnf : hs.nl = false := by
    cases h : hs.nl with
    | false => rfl
    | true => have := hnl h; omega
  have hb0 : b < hs.len := by omega
  have hho := a2 b hb0
  have hB2 : InB l ⟨hs.nl, b, hs.el⟩ F := ⟨hB.1, hB.2.1, show b < 4611686018427387904 by omega, show b < F by omega⟩
  have hS2 : SchB ⟨sc.nl, b, sc.el⟩ F := ⟨⟨show b < 4611686018427387904 by omega, show b < F by omega⟩, fun i hi => hS.2 i (by have : i < b := hi; omega)⟩
  have he2 : errS l ⟨hs.nl, b, hs.el⟩ ⟨sc.nl, b, sc.el⟩ = 0 := by
    unfold errS
    rw [if_neg (show ¬ b > 24 by omega), if_pos ⟨a1, fun i hi => a2 i (by have : i < b := hi; omega), fun i hi => a4.1 i (by have : i < b := hi; omega), rfl⟩]
  have q32b := s32 F (d + 30) l ⟨hs.nl, b, hs.el⟩ ⟨sc.nl, b, sc.el⟩ (by omega) hB2 hS2
  rw [if_pos he2] at q32b
  have q32c : (E F (d + 42)).pf 32 [sl eMach 10 l, .row hs.nl (Int.toNat (b : Int) - 0) 3 (fun u => eHour (hs.el u)), .row sc.nl (Int.toNat (b : Int) - 0) 1 (fun u => [sl eInt 1 (sc.el u)])] = _ := q32b
  obtain ⟨n1, m1, w1, gg1, q41⟩ := e41 F d hF a1 a2 (by omega) (by omega)
  have hlo : HoursOk (hsLo hs b ((hs.el b).ratio.lo + min x ((hs.el b).ratio.hi - (hs.el b).ratio.lo))) := fun i hi => by
    by_cases hib : i = b
    · show HourOk (if i = b then _ else _)
      rw [if_pos hib]
      exact ⟨hho.1, show 1000 ≤ (hs.el b).ratio.lo + min x ((hs.el b).ratio.hi - (hs.el b).ratio.lo) by omega, show (hs.el b).ratio.lo + min x ((hs.el b).ratio.hi - (hs.el b).ratio.lo) ≤ (hs.el b).ratio.hi by omega, show (hs.el b).ratio.hi ≤ 5000 by omega⟩
    · show HourOk (if i = b then _ else _)
      rw [if_neg hib]
      exact a2 i hi
  have hfl : HoursOk (hsFl hs b ((hs.el b).flow - min x (hs.el b).flow)) := fun i hi => by
    by_cases hib : i = b
    · show HourOk (if i = b then _ else _)
      rw [if_pos hib]
      exact ⟨⟨show 0 ≤ (hs.el b).flow - min x (hs.el b).flow by omega, show (hs.el b).flow - min x (hs.el b).flow ≤ 1000000 by omega⟩, hho.2⟩
    · show HourOk (if i = b then _ else _)
      rw [if_neg hib]
      exact a2 i hi
  obtain ⟨n2, m2, w2, gg2, q41b⟩ := e41 F d hF a1 hlo (by omega) (show hs.len ≤ 5 by omega)
  obtain ⟨n3, m3, w3, gg3, q41c⟩ := e41 F d hF a1 hfl (by omega) (show hs.len ≤ 5 by omega)
  have easy1 : (bestS l hs).right = true → _ := easy_best (l := l) (hs := hs) (hs' := hsLo hs b ((hs.el b).ratio.lo + min x ((hs.el b).ratio.hi - (hs.el b).ratio.lo))) rfl (fun t => by
    by_cases hib : t = b
    · show Easy l (hs.el t) (if t = b then _ else _)
      rw [if_pos hib, hib]
      exact easy_ratio (f := (hs.el b).flow) (s := (hs.el b).ratio) hho.2 (show (hs.el b).ratio.lo ≤ (hs.el b).ratio.lo + min x ((hs.el b).ratio.hi - (hs.el b).ratio.lo) by omega) (show (hs.el b).ratio.lo + min x ((hs.el b).ratio.hi - (hs.el b).ratio.lo) ≤ (hs.el b).ratio.hi by omega) (Int.le_refl _)
    · show Easy l (hs.el t) (if t = b then _ else _)
      rw [if_neg hib]
      exact easy_self _ _)
  have easy2 : (bestS l hs).right = true → _ := easy_best (l := l) (hs := hs) (hs' := hsFl hs b ((hs.el b).flow - min x (hs.el b).flow)) rfl (fun t => by
    by_cases hib : t = b
    · show Easy l (hs.el t) (if t = b then _ else _)
      rw [if_pos hib, hib]
      exact easy_flow a1 (f := (hs.el b).flow) (s := (hs.el b).ratio) hho.2 (by omega) (by omega)
    · show Easy l (hs.el t) (if t = b then _ else _)
      rw [if_neg hib]
      exact easy_self _ _)
  generalize (bestS l hs).right = r1 at *
  generalize (bestS l (hsLo hs b ((hs.el b).ratio.lo + min x ((hs.el b).ratio.hi - (hs.el b).ratio.lo)))).right = r2 at *
  generalize (bestS l (hsFl hs b ((hs.el b).flow - min x (hs.el b).flow))).right = r3 at *
  generalize (bestS l hs).energy = v1 at *
  generalize (bestS l (hsLo hs b ((hs.el b).ratio.lo + min x ((hs.el b).ratio.hi - (hs.el b).ratio.lo)))).energy = v2 at *
  generalize (bestS l (hsFl hs b ((hs.el b).flow - min x (hs.el b).flow))).energy = v3 at *
  have q41b' : (E F (d + 42)).pf 41 [sl eMach 10 l, .row false hs.len 3 (fun u => updGet (fun v => eHour (hs.el v)) b 1 [.int .i64 ((hs.el b).ratio.lo + min x ((hs.el b).ratio.hi - (hs.el b).ratio.lo))] u)] = some (.ret (.tup [.row n2 m2 w2 gg2, .int .i64 (if r2 = true then v2 else 0), .int .i64 (if r2 = true then 0 else 5)])) := by
    rw [upd_lo]; exact q41b
  have q41c' : (E F (d + 42)).pf 41 [sl eMach 10 l, .row false hs.len 3 (fun u => updGet (fun v => eHour (hs.el v)) b 0 [.int .i64 ((hs.el b).flow - min x (hs.el b).flow)] u)] = some (.ret (.tup [.row n3 m3 w3 gg3, .int .i64 (if r3 = true then v3 else 0), .int .i64 (if r3 = true then 0 else 5)])) := by
    rw [upd_fl]; exact q41c
  have w1' : IntKind.i64.wrap ((hs.el b).ratio.hi - (hs.el b).ratio.lo) = (hs.el b).ratio.hi - (hs.el b).ratio.lo := wr (by omega)
  have w2' : IntKind.i64.wrap ((hs.el b).ratio.lo + min x ((hs.el b).ratio.hi - (hs.el b).ratio.lo)) = (hs.el b).ratio.lo + min x ((hs.el b).ratio.hi - (hs.el b).ratio.lo) := wr (by omega)
  have w3' : IntKind.i64.wrap ((hs.el b).flow - min x (hs.el b).flow) = (hs.el b).flow - min x (hs.el b).flow := wr (by omega)
  have k1 : ((b : Nat) : Int) < (hs.len : Int) := by omega
  have k2 : decide ((hs.len * 24) ≤ 140737488355328) = true := decide_eq_true (by omega)
  have k3 : (hs.len == 0) = false := by rw [beq_eq_false_iff_ne]; omega
  have k4 : decide (b ≤ hs.len) = true := decide_eq_true (by omega)
  have k5 : decide (b ≤ sc.len) = true := decide_eq_true (by omega)
  have k6 : decide (0 ≤ b) = true := decide_eq_true (by omega)
  have k7 : decide ((0 : Int) ≤ (b : Int)) = true := decide_eq_true (by omega)
  simp only [Int.toNat_natCast, Nat.sub_zero] at q32c
  simp only [q32, Int.toNat_natCast, Nat.sub_zero, tkOut_ret, tkTup_t, tkCons_c, tkAgg_a, tkInt_i, tkNil_n, Bool.true_or, pT, k4, k5, k6, k7, dd, decide_true]
  simp only [q32c, tkOut_ret, tkTup_t, tkCons_c, tkAgg_a, tkInt_i, tkNil_n, dd, decide_true, pT, pF, show ((0 : Int) != 0) = false from rfl]
  have hpre : (playS l ⟨hs.nl, b, hs.el⟩ ⟨sc.nl, b, sc.el⟩).rule ≠ 1 → playS l hs sc = playS l ⟨hs.nl, b, hs.el⟩ ⟨sc.nl, b, sc.el⟩ := fun h => by
    have := play_pre (l := l) (hs := hs.el) (sc := sc.el) (hs.len - b) b 0 0 0 0 h
    rw [show b + (hs.len - b) = hs.len by omega] at this
    exact this
  have tail : (r1 = true → r2 = true ∧ v2 ≤ v1) → (r1 = true → r3 = true ∧ v3 ≤ v1) → (r1 = false ∨ (r1 = true ∧ r2 = true ∧ r3 = true ∧ v2 ≤ v1 ∧ v3 ≤ v1)) := fun h1 h2 => by
    cases r1 with
    | false => exact .inl rfl
    | true => exact .inr ⟨rfl, (h1 rfl).1, (h2 rfl).1, (h1 rfl).2, (h2 rfl).2⟩
  have tl := tail easy1 easy2
  clear easy1 easy2 tail
  have x1 : ∀ v : Int, (v == v) = true := fun v => beq_self_eq_true v
  by_cases hg : (playS l ⟨hs.nl, b, hs.el⟩ ⟨sc.nl, b, sc.el⟩).rule = 1
  · rw [hg, show ((1 : Int) != 1) = false from rfl]
    simp only [pF, ite_self]
    have hbool : ∀ (c : Bool) (u : Option Out), (bif c then u else u) = u := fun c u => by cases c <;> rfl
    rw [hbool]
    simp only [q41, q41b', q41c', tkOut_ret, tkTup_t, tkCons_c, tkRow_r, tkInt_i, tkNil_n, dd, decide_true, pT, pF, hnf, k3, k2, k7, decide_eq_true k1, w1', mnE, w2', w3', Int.toNat_natCast]
    rcases tl with h | ⟨h1, h2, h3, h4, h5⟩
    · rw [h]
      simp only [Bool.false_eq_true, if_false, show ((5 : Int) != 0) = true from rfl, pT, q16, tkOut_ret, tkBool_b]
    · rw [h1, h2, h3]
      simp only [if_true, show ((0 : Int) != 0) = false from rfl, show ((0 : Int) == 0) = true from rfl, pT, pF, decide_eq_true h4, decide_eq_true h5, q16, tkOut_ret, tkBool_b]
  · have hf := hpre hg
    have hg' : (playS l ⟨hs.nl, b, hs.el⟩ ⟨sc.nl, b, sc.el⟩).rule ≠ 1 := hg
    rw [hf]
    clear q32c q32b hpre hg hf
    generalize playS l ⟨hs.nl, b, hs.el⟩ ⟨sc.nl, b, sc.el⟩ = G at hg' ⊢
    simp only [show (G.rule == 1) = false by simp [hg'], show (G.rule != 1) = true by simp [hg'], x1, Bool.and_self, Bool.not_true, q41, q41b', q41c', tkOut_ret, tkTup_t, tkCons_c, tkRow_r, tkInt_i, tkNil_n, dd, decide_true, pT, pF, hnf, k3, k2, k7, decide_eq_true k1, w1', mnE, w2', w3', Int.toNat_natCast]
    rcases tl with h | ⟨h1, h2, h3, h4, h5⟩
    · rw [h]
      simp only [Bool.false_eq_true, if_false, show ((5 : Int) != 0) = true from rfl, pT, q16, tkOut_ret, tkBool_b]
    · rw [h1, h2, h3]
      simp only [if_true, show ((0 : Int) != 0) = false from rfl, show ((0 : Int) == 0) = true from rfl, pT, pF, decide_eq_true h4, decide_eq_true h5, q16, tkOut_ret, tkBool_b]
end Go.Sim.Pl
