import Derived.Test.YtmjmhccjkmjahaaGreatAf
import Derived.KernelRfl
import Derived.Test.YtmjmhccjkmjahaaGreatRows
import Derived.IntWalk
set_option linter.unusedVariables false
set_option linter.unusedSimpArgs false
set_option linter.unusedSectionVars false
set_option maxRecDepth 100000
namespace Go.Sim.Cr
open Go.Proofs
noncomputable def L9132x0 (env : Env) (F : Nat) (s : Site) (low : Sl Int) (rest : Sl Int) (wm : Span) (nd : Sl Int) (es : List (V × V)) (n : Int) (last : Int) (l : Sl Stt) (pr : Sl Span) (m : Nat) (mm : Nat) (go : Nat → List V) (fu : Nat) (b0 : Bool) (k1 : Nat) (k2 : Nat) (g3 : Nat → List V) (i4 : Int) (i5 : Int) : Option (Out × List Slot) := atLoopH Tryz.prog (cfg F) env 32 [.r, .r, .r, .r, .r, .l, .r, .d] [] fu { tm := tmL 94 0 [(0, (i64 n)), (1, (.osl 0 0 pr.len)), (2, (sl eStt 6 l)), (5, (.optr 1 0 0)), (7, (.optr 2 0 0)), (8, (.optr 3 0 0)), (9, (.optr 4 0 0)), (10, (.optr 5 0 0)), (16, (.optr 6 0 0)), (45, (.row b0 k1 k2 g3)), (46, (i64 i4)), (47, (i64 i5))], hp := [(.arr 31 2 pr.len (fun u22 => (eSpan (Sl.el pr u22))) false), (.box 77 [(.mapr 9)] true), (.box 76 [(.fn (.func 31) [] [(.optr 8 0 0), (.optr 10 0 0), (.optr 11 0 0), (.optr 12 0 0)])] true), (.box 73 [(.optr 13 0 0)] true), (.box 35 [(.osl 14 0 m)] true), (.box 78 [(.fn (.func 32) [] [(.optr 7 0 0), (.optr 1 0 0), (.optr 8 0 0), (.optr 2 0 0), (.optr 3 0 0), (.optr 4 0 0), (.optr 5 0 0)])] true), (.box 81 [(i64 n), (i64 last), (i64 (mixI (decide (0 < l.len)) (l.el 0).rad.lo (0 : Int))), (i64 (mixI (decide (0 < l.len)) (l.el 0).rad.hi (0 : Int))), (i64 (mixI (decide (0 < l.len)) (l.el 0).vol.lo (0 : Int))), (i64 (mixI (decide (0 < l.len)) (l.el 0).vol.hi (0 : Int))), (i64 (mixI (decide (0 < l.len)) (l.el 0).lost.lo (0 : Int))), (i64 (mixI (decide (0 < l.len)) (l.el 0).lost.hi (0 : Int))), (i64 (mixI (decide (1 < l.len)) (l.el 1).rad.lo (0 : Int))), (i64 (mixI (decide (1 < l.len)) (l.el 1).rad.hi (0 : Int))), (i64 (mixI (decide (1 < l.len)) (l.el 1).vol.lo (0 : Int))), (i64 (mixI (decide (1 < l.len)) (l.el 1).vol.hi (0 : Int))), (i64 (mixI (decide (1 < l.len)) (l.el 1).lost.lo (0 : Int))), (i64 (mixI (decide (1 < l.len)) (l.el 1).lost.hi (0 : Int))), (i64 (mixI (decide (2 < l.len)) (l.el 2).rad.lo (0 : Int))), (i64 (mixI (decide (2 < l.len)) (l.el 2).rad.hi (0 : Int))), (i64 (mixI (decide (2 < l.len)) (l.el 2).vol.lo (0 : Int))), (i64 (mixI (decide (2 < l.len)) (l.el 2).vol.hi (0 : Int))), (i64 (mixI (decide (2 < l.len)) (l.el 2).lost.lo (0 : Int))), (i64 (mixI (decide (2 < l.len)) (l.el 2).lost.hi (0 : Int))), (i64 (mixI (decide (3 < l.len)) (l.el 3).rad.lo (0 : Int))), (i64 (mixI (decide (3 < l.len)) (l.el 3).rad.hi (0 : Int))), (i64 (mixI (decide (3 < l.len)) (l.el 3).vol.lo (0 : Int))), (i64 (mixI (decide (3 < l.len)) (l.el 3).vol.hi (0 : Int))), (i64 (mixI (decide (3 < l.len)) (l.el 3).lost.lo (0 : Int))), (i64 (mixI (decide (3 < l.len)) (l.el 3).lost.hi (0 : Int))), (i64 (mixI (decide (4 < l.len)) (l.el 4).rad.lo (0 : Int))), (i64 (mixI (decide (4 < l.len)) (l.el 4).rad.hi (0 : Int))), (i64 (mixI (decide (4 < l.len)) (l.el 4).vol.lo (0 : Int))), (i64 (mixI (decide (4 < l.len)) (l.el 4).vol.hi (0 : Int))), (i64 (mixI (decide (4 < l.len)) (l.el 4).lost.lo (0 : Int))), (i64 (mixI (decide (4 < l.len)) (l.el 4).lost.hi (0 : Int)))] true), (.box 29 [(sl eInt 1 nd)] true), (.box 28 (eSite s) true), (.mp true K3w es true), (.box 29 [(sl eInt 1 rest)] true), (.box 29 [(sl eInt 1 low)] true), (.box 31 (eSpan wm) true), (.box 75 (eSite s) false), (.arr 29 1 mm go true)], ext := [(.blk 0), (.blk 7), (.blk 1), (.blk 8), (.blk 2), (.blk 3), (.blk 4), (.blk 5), (.blk 9), (.blk 10), (.blk 11), (.blk 12), (.blk 13), (.blk 14)] }
noncomputable def L9132x1 (env : Env) (F : Nat) (s : Site) (low : Sl Int) (rest : Sl Int) (wm : Span) (nd : Sl Int) (es : List (V × V)) (n : Int) (last : Int) (l : Sl Stt) (pr : Sl Span) (m : Nat) (mm : Nat) (go : Nat → List V) (fu : Nat) (b0 : Bool) (k1 : Nat) (k2 : Nat) (g3 : Nat → List V) (i4 : Int) (i5 : Int) (e6 : List (V × V)) (k7 : Nat) (g8 : Nat → List V) : Option (Out × List Slot) := atLoopH Tryz.prog (cfg F) env 32 [.r, .r, .r, .r, .r, .l, .r, .d] [] fu { tm := tmL 94 0 [(0, (i64 n)), (1, (.osl 0 0 pr.len)), (2, (sl eStt 6 l)), (5, (.optr 1 0 0)), (7, (.optr 2 0 0)), (8, (.optr 3 0 0)), (9, (.optr 4 0 0)), (10, (.optr 5 0 0)), (16, (.optr 6 0 0)), (45, (.row b0 k1 k2 g3)), (46, (i64 i4)), (47, (i64 i5))], hp := [(.arr 31 2 pr.len (fun u25 => (eSpan (Sl.el pr u25))) false), (.box 77 [(.mapr 9)] true), (.box 76 [(.fn (.func 31) [] [(.optr 8 0 0), (.optr 10 0 0), (.optr 11 0 0), (.optr 12 0 0)])] true), (.box 73 [(.optr 13 0 0)] true), (.box 35 [(.osl 15 0 n.toNat)] true), (.box 78 [(.fn (.func 32) [] [(.optr 7 0 0), (.optr 1 0 0), (.optr 8 0 0), (.optr 2 0 0), (.optr 3 0 0), (.optr 4 0 0), (.optr 5 0 0)])] true), (.box 81 [(i64 n), (i64 last), (i64 (mixI (decide (0 < l.len)) (l.el 0).rad.lo (0 : Int))), (i64 (mixI (decide (0 < l.len)) (l.el 0).rad.hi (0 : Int))), (i64 (mixI (decide (0 < l.len)) (l.el 0).vol.lo (0 : Int))), (i64 (mixI (decide (0 < l.len)) (l.el 0).vol.hi (0 : Int))), (i64 (mixI (decide (0 < l.len)) (l.el 0).lost.lo (0 : Int))), (i64 (mixI (decide (0 < l.len)) (l.el 0).lost.hi (0 : Int))), (i64 (mixI (decide (1 < l.len)) (l.el 1).rad.lo (0 : Int))), (i64 (mixI (decide (1 < l.len)) (l.el 1).rad.hi (0 : Int))), (i64 (mixI (decide (1 < l.len)) (l.el 1).vol.lo (0 : Int))), (i64 (mixI (decide (1 < l.len)) (l.el 1).vol.hi (0 : Int))), (i64 (mixI (decide (1 < l.len)) (l.el 1).lost.lo (0 : Int))), (i64 (mixI (decide (1 < l.len)) (l.el 1).lost.hi (0 : Int))), (i64 (mixI (decide (2 < l.len)) (l.el 2).rad.lo (0 : Int))), (i64 (mixI (decide (2 < l.len)) (l.el 2).rad.hi (0 : Int))), (i64 (mixI (decide (2 < l.len)) (l.el 2).vol.lo (0 : Int))), (i64 (mixI (decide (2 < l.len)) (l.el 2).vol.hi (0 : Int))), (i64 (mixI (decide (2 < l.len)) (l.el 2).lost.lo (0 : Int))), (i64 (mixI (decide (2 < l.len)) (l.el 2).lost.hi (0 : Int))), (i64 (mixI (decide (3 < l.len)) (l.el 3).rad.lo (0 : Int))), (i64 (mixI (decide (3 < l.len)) (l.el 3).rad.hi (0 : Int))), (i64 (mixI (decide (3 < l.len)) (l.el 3).vol.lo (0 : Int))), (i64 (mixI (decide (3 < l.len)) (l.el 3).vol.hi (0 : Int))), (i64 (mixI (decide (3 < l.len)) (l.el 3).lost.lo (0 : Int))), (i64 (mixI (decide (3 < l.len)) (l.el 3).lost.hi (0 : Int))), (i64 (mixI (decide (4 < l.len)) (l.el 4).rad.lo (0 : Int))), (i64 (mixI (decide (4 < l.len)) (l.el 4).rad.hi (0 : Int))), (i64 (mixI (decide (4 < l.len)) (l.el 4).vol.lo (0 : Int))), (i64 (mixI (decide (4 < l.len)) (l.el 4).vol.hi (0 : Int))), (i64 (mixI (decide (4 < l.len)) (l.el 4).lost.lo (0 : Int))), (i64 (mixI (decide (4 < l.len)) (l.el 4).lost.hi (0 : Int)))] true), (.box 29 [(sl eInt 1 nd)] true), (.box 28 (eSite s) true), (.mp true K3w e6 true), (.box 29 [(sl eInt 1 rest)] true), (.box 29 [(sl eInt 1 low)] true), (.box 31 (eSpan wm) true), (.box 75 (eSite s) false), .dead, (.arr 29 1 k7 g8 true)], ext := [(.blk 0), (.blk 7), (.blk 1), (.blk 8), (.blk 2), (.blk 3), (.blk 4), (.blk 5), (.blk 9), (.blk 10), (.blk 11), (.blk 12), (.blk 13), (.blk 14)] }
theorem t9132 (env : Env) (F : Nat) (s : Site) (low : Sl Int) (rest : Sl Int) (wm : Span) (nd : Sl Int) (es : List (V × V)) (n : Int) (last : Int) (l : Sl Stt) (pr : Sl Span) (m : Nat) (mm : Nat) (go : Nat → List V) : (evFunH Tryz.prog (cfg F) env 32 [(i64 n), (.osl 0 0 pr.len), (sl eStt 6 l), (i64 last), (.optr 1 0 0), (.optr 2 0 0), (.optr 3 0 0), (.optr 4 0 0), (.optr 5 0 0), (.optr 6 0 0), (.optr 7 0 0)] [(.arr 31 2 pr.len (fun u15 => (eSpan (Sl.el pr u15))) false), (.box 29 [(sl eInt 1 nd)] true), (.box 77 [(.mapr 8)] true), (.box 28 (eSite s) true), (.box 76 [(.fn (.func 31) [] [(.optr 3 0 0), (.optr 9 0 0), (.optr 10 0 0), (.optr 11 0 0)])] true), (.box 73 [(.optr 12 0 0)] true), (.box 35 [(.osl 13 0 m)] true), (.box 78 [(.fn (.func 32) [] [(.optr 1 0 0), (.optr 2 0 0), (.optr 3 0 0), (.optr 4 0 0), (.optr 5 0 0), (.optr 6 0 0), (.optr 7 0 0)])] true), (.mp true K3w es true), (.box 29 [(sl eInt 1 rest)] true), (.box 29 [(sl eInt 1 low)] true), (.box 31 (eSpan wm) true), (.box 75 (eSite s) false), (.arr 29 1 mm go true)]) = (bif (n == (nd.len : Int)) then some ((.ret (.bool true)), [(.arr 31 2 pr.len (fun u15 => (eSpan (Sl.el pr u15))) false), (.box 29 [(sl eInt 1 nd)] true), (.box 77 [(.mapr 8)] true), (.box 28 (eSite s) true), (.box 76 [(.fn (.func 31) [] [(.optr 3 0 0), (.optr 9 0 0), (.optr 10 0 0), (.optr 11 0 0)])] true), (.box 73 [(.optr 12 0 0)] true), (.box 35 [(.osl 13 0 m)] true), (.box 78 [(.fn (.func 32) [] [(.optr 1 0 0), (.optr 2 0 0), (.optr 3 0 0), (.optr 4 0 0), (.optr 5 0 0), (.optr 6 0 0), (.optr 7 0 0)])] true), (.mp true K3w es true), (.box 29 [(sl eInt 1 rest)] true), (.box 29 [(sl eInt 1 low)] true), (.box 31 (eSpan wm) true), (.box 75 (eSite s) false), (.arr 29 1 mm go true)]) else (bif (Sl.nl l) then none else (bif ((rg n) && ((rg last) && ((rg (mixI (decide (0 < l.len)) (l.el 0).rad.lo (0 : Int))) && ((rg (mixI (decide (0 < l.len)) (l.el 0).rad.hi (0 : Int))) && ((rg (mixI (decide (0 < l.len)) (l.el 0).vol.lo (0 : Int))) && ((rg (mixI (decide (0 < l.len)) (l.el 0).vol.hi (0 : Int))) && ((rg (mixI (decide (0 < l.len)) (l.el 0).lost.lo (0 : Int))) && ((rg (mixI (decide (0 < l.len)) (l.el 0).lost.hi (0 : Int))) && ((rg (mixI (decide (1 < l.len)) (l.el 1).rad.lo (0 : Int))) && ((rg (mixI (decide (1 < l.len)) (l.el 1).rad.hi (0 : Int))) && ((rg (mixI (decide (1 < l.len)) (l.el 1).vol.lo (0 : Int))) && ((rg (mixI (decide (1 < l.len)) (l.el 1).vol.hi (0 : Int))) && ((rg (mixI (decide (1 < l.len)) (l.el 1).lost.lo (0 : Int))) && ((rg (mixI (decide (1 < l.len)) (l.el 1).lost.hi (0 : Int))) && ((rg (mixI (decide (2 < l.len)) (l.el 2).rad.lo (0 : Int))) && ((rg (mixI (decide (2 < l.len)) (l.el 2).rad.hi (0 : Int))) && ((rg (mixI (decide (2 < l.len)) (l.el 2).vol.lo (0 : Int))) && ((rg (mixI (decide (2 < l.len)) (l.el 2).vol.hi (0 : Int))) && ((rg (mixI (decide (2 < l.len)) (l.el 2).lost.lo (0 : Int))) && ((rg (mixI (decide (2 < l.len)) (l.el 2).lost.hi (0 : Int))) && ((rg (mixI (decide (3 < l.len)) (l.el 3).rad.lo (0 : Int))) && ((rg (mixI (decide (3 < l.len)) (l.el 3).rad.hi (0 : Int))) && ((rg (mixI (decide (3 < l.len)) (l.el 3).vol.lo (0 : Int))) && ((rg (mixI (decide (3 < l.len)) (l.el 3).vol.hi (0 : Int))) && ((rg (mixI (decide (3 < l.len)) (l.el 3).lost.lo (0 : Int))) && ((rg (mixI (decide (3 < l.len)) (l.el 3).lost.hi (0 : Int))) && ((rg (mixI (decide (4 < l.len)) (l.el 4).rad.lo (0 : Int))) && ((rg (mixI (decide (4 < l.len)) (l.el 4).rad.hi (0 : Int))) && ((rg (mixI (decide (4 < l.len)) (l.el 4).vol.lo (0 : Int))) && ((rg (mixI (decide (4 < l.len)) (l.el 4).vol.hi (0 : Int))) && ((rg (mixI (decide (4 < l.len)) (l.el 4).lost.lo (0 : Int))) && ((rg (mixI (decide (4 < l.len)) (l.el 4).lost.hi (0 : Int))) && true)))))))))))))))))))))))))))))))) then (tkOpt (mget es (.agg [(i64 n), (i64 last), (i64 (mixI (decide (0 < l.len)) (l.el 0).rad.lo (0 : Int))), (i64 (mixI (decide (0 < l.len)) (l.el 0).rad.hi (0 : Int))), (i64 (mixI (decide (0 < l.len)) (l.el 0).vol.lo (0 : Int))), (i64 (mixI (decide (0 < l.len)) (l.el 0).vol.hi (0 : Int))), (i64 (mixI (decide (0 < l.len)) (l.el 0).lost.lo (0 : Int))), (i64 (mixI (decide (0 < l.len)) (l.el 0).lost.hi (0 : Int))), (i64 (mixI (decide (1 < l.len)) (l.el 1).rad.lo (0 : Int))), (i64 (mixI (decide (1 < l.len)) (l.el 1).rad.hi (0 : Int))), (i64 (mixI (decide (1 < l.len)) (l.el 1).vol.lo (0 : Int))), (i64 (mixI (decide (1 < l.len)) (l.el 1).vol.hi (0 : Int))), (i64 (mixI (decide (1 < l.len)) (l.el 1).lost.lo (0 : Int))), (i64 (mixI (decide (1 < l.len)) (l.el 1).lost.hi (0 : Int))), (i64 (mixI (decide (2 < l.len)) (l.el 2).rad.lo (0 : Int))), (i64 (mixI (decide (2 < l.len)) (l.el 2).rad.hi (0 : Int))), (i64 (mixI (decide (2 < l.len)) (l.el 2).vol.lo (0 : Int))), (i64 (mixI (decide (2 < l.len)) (l.el 2).vol.hi (0 : Int))), (i64 (mixI (decide (2 < l.len)) (l.el 2).lost.lo (0 : Int))), (i64 (mixI (decide (2 < l.len)) (l.el 2).lost.hi (0 : Int))), (i64 (mixI (decide (3 < l.len)) (l.el 3).rad.lo (0 : Int))), (i64 (mixI (decide (3 < l.len)) (l.el 3).rad.hi (0 : Int))), (i64 (mixI (decide (3 < l.len)) (l.el 3).vol.lo (0 : Int))), (i64 (mixI (decide (3 < l.len)) (l.el 3).vol.hi (0 : Int))), (i64 (mixI (decide (3 < l.len)) (l.el 3).lost.lo (0 : Int))), (i64 (mixI (decide (3 < l.len)) (l.el 3).lost.hi (0 : Int))), (i64 (mixI (decide (4 < l.len)) (l.el 4).rad.lo (0 : Int))), (i64 (mixI (decide (4 < l.len)) (l.el 4).rad.hi (0 : Int))), (i64 (mixI (decide (4 < l.len)) (l.el 4).vol.lo (0 : Int))), (i64 (mixI (decide (4 < l.len)) (l.el 4).vol.hi (0 : Int))), (i64 (mixI (decide (4 < l.len)) (l.el 4).lost.lo (0 : Int))), (i64 (mixI (decide (4 < l.len)) (l.el 4).lost.hi (0 : Int)))])) ((bif (decide ((0 : Int) ≤ n)) then (bif (decide (n < (nd.len : Int))) then (tkOut (env.pf 33 [(i64 (s.cavs.len : Int)), (i64 (Sl.el nd n.toNat))]) none (fun v15 => (tkRow v15 none fun nl16 n17 wd18 g19 => (L9132x0 env F s low rest wm nd es n last l pr m mm go F nl16 n17 wd18 g19 (n17 : Int) (0 : Int)))) nK) else none) else none)) (fun v15 => (tkBool v15 none fun b16 => (bif b16 then some ((.ret (.bool false)), [(.arr 31 2 pr.len (fun u17 => (eSpan (Sl.el pr u17))) false), (.box 29 [(sl eInt 1 nd)] true), (.box 77 [(.mapr 8)] true), (.box 28 (eSite s) true), (.box 76 [(.fn (.func 31) [] [(.optr 3 0 0), (.optr 9 0 0), (.optr 10 0 0), (.optr 11 0 0)])] true), (.box 73 [(.optr 12 0 0)] true), (.box 35 [(.osl 13 0 m)] true), (.box 78 [(.fn (.func 32) [] [(.optr 1 0 0), (.optr 2 0 0), (.optr 3 0 0), (.optr 4 0 0), (.optr 5 0 0), (.optr 6 0 0), (.optr 7 0 0)])] true), (.mp true K3w es true), (.box 29 [(sl eInt 1 rest)] true), (.box 29 [(sl eInt 1 low)] true), (.box 31 (eSpan wm) true), (.box 75 (eSite s) false), (.arr 29 1 mm go true)]) else (bif (decide ((0 : Int) ≤ n)) then (bif (decide (n < (nd.len : Int))) then (tkOut (env.pf 33 [(i64 (s.cavs.len : Int)), (i64 (Sl.el nd n.toNat))]) none (fun v17 => (tkRow v17 none fun nl18 n19 wd20 g21 => (L9132x0 env F s low rest wm nd es n last l pr m mm go F nl18 n19 wd20 g21 (n19 : Int) (0 : Int)))) nK) else none) else none))))) else none))) := by kernel_rfl
theorem L9132x0s (env : Env) (F : Nat) (s : Site) (low : Sl Int) (rest : Sl Int) (wm : Span) (nd : Sl Int) (es : List (V × V)) (n : Int) (last : Int) (l : Sl Stt) (pr : Sl Span) (m : Nat) (mm : Nat) (go : Nat → List V) (fu : Nat) (b0 : Bool) (k1 : Nat) (k2 : Nat) (g3 : Nat → List V) (i4 : Int) (i5 : Int) : L9132x0 env F s low rest wm nd es n last l pr m mm go (fu + 1) b0 k1 k2 g3 i4 i5 = (bif (decide (i5 < i4)) then (bif (k2 == 1) then (bif (decide ((0 : Int) ≤ i5)) then (bif (decide (i5 < (k1 : Int))) then (tkCons (g3 i5.toNat) none fun v22 r23 => (tkInt v22 none fun q24 n25 => (tkHv (env.hv 31 [(.int q24 n25), (.optr 0 0 0), (.optr 1 0 0), (.optr 2 0 0), (.optr 3 0 0)] [(.box 28 (eSite s) true), (.box 29 [(sl eInt 1 rest)] true), (.box 29 [(sl eInt 1 low)] true), (.box 31 (eSpan wm) true)]) none fun v26 h27 => (tkAgg v26 none fun l28 => (tkCons l28 none fun v29 r30 => (tkSl v29 none (fun nl31 n32 wd33 g34 => none) (fun b31 lo32 n33 => (bif ((Nat.beq b31 4) && (Nat.beq lo32 0)) then (tkCons r30 none fun v34 r35 => (tkSl v34 none (fun nl36 n37 wd38 g39 => none) (fun b36 lo37 n38 => (bif ((Nat.beq b36 5) && (Nat.beq lo37 0)) then (tkNil r35 none ((tkSCons h27 none fun s39 r40 => (tkSame s39 (.box 28 (eSite s) true) none ((tkSCons r40 none fun s41 r42 => (tkSame s41 (.box 29 [(sl eInt 1 rest)] true) none ((tkSCons r42 none fun s43 r44 => (tkSame s43 (.box 29 [(sl eInt 1 low)] true) none ((tkSCons r44 none fun s45 r46 => (tkSame s45 (.box 31 (eSpan wm) true) none ((tkSCons r46 none fun s47 r48 => (tkArr s47 none fun e49 wd50 n51 g52 wr53 => (bif (((Nat.beq e49 31) && (Nat.beq wd50 2)) && (wr53 == true)) then (tkSCons r48 none fun s54 r55 => (tkArr s54 none fun e56 wd57 n58 g59 wr60 => (bif (((Nat.beq e56 31) && (Nat.beq wd57 2)) && (wr60 == true)) then (tkSNil r55 none ((tkOut (env.pf 34 [(pSite s), (sl eStt 6 l), (.agg [(.row false n33 2 (fun u61 => (g52 u61))), (.row false n38 2 (fun u61 => (g59 u61)))])]) none (fun v61 => (tkTup v61 none fun l62 => (tkCons l62 none fun v63 r64 => (tkRow v63 none fun nl65 n66 wd67 g68 => (tkCons r64 none fun v69 r70 => (tkBool v69 none fun b71 => (tkNil r70 none ((bif (!b71) then (L9132x0 env F s low rest wm nd es n last l pr m mm go fu b0 k1 k2 g3 i4 (IntKind.wrap .i64 (i5 + (1 : Int)))) else (tkOut (env.pf 35 [(.rptr 1 5 (fun u72 => [(pSite s), (.row false n33 2 (fun u73 => (g52 u73))), (.row false n38 2 (fun u73 => (g59 u73))), (.row false pr.len 2 (fun u73 => (eSpan (Sl.el pr u73)))), (.row nl65 n66 wd67 g68)]) 0 0), (i64 n), (.fn (.func 36) [] [])]) none (fun v72 => (tkTup v72 none fun l73 => (tkCons l73 none fun v74 r75 => (tkAgg v74 none fun l76 => (tkCons l76 none fun v77 r78 => (tkInt v77 none fun q79 n80 => (tkCons r78 none fun v81 r82 => (tkInt v81 none fun q83 n84 => (tkCons r82 none fun v85 r86 => (tkInt v85 none fun q87 n88 => (tkCons r86 none fun v89 r90 => (tkInt v89 none fun q91 n92 => (tkNil r90 none ((tkCons r75 none fun v93 r94 => (tkBool v93 none fun b95 => (tkNil r94 none ((bif b95 then (L9132x0 env F s low rest wm nd es n last l pr m mm go fu b0 k1 k2 g3 i4 (IntKind.wrap .i64 (i5 + (1 : Int)))) else (tkOut (env.pf 37 [(.int q24 n25)]) none (fun v96 => (tkRow v96 none fun nl97 n98 wd99 g100 => (bif (decide (((m + 1) * 24) ≤ 140737488355328)) then (tkHv (env.hv 32 [(i64 (IntKind.wrap .i64 (n + (1 : Int)))), (.osl 0 0 n33), (.row nl65 n66 wd67 g68), (.int q24 n25), (.optr 1 0 0), (.optr 2 0 0), (.optr 3 0 0), (.optr 4 0 0), (.optr 5 0 0), (.optr 6 0 0), (.optr 7 0 0)] [(.arr 31 2 n51 g52 false), (.box 29 [(sl eInt 1 nd)] true), (.box 77 [(.mapr 8)] true), (.box 28 (eSite s) true), (.box 76 [(.fn (.func 31) [] [(.optr 3 0 0), (.optr 9 0 0), (.optr 10 0 0), (.optr 11 0 0)])] true), (.box 73 [(.optr 12 0 0)] true), (.box 35 [(.osl 13 0 (m + 1))] true), (.box 78 [(.fn (.func 32) [] [(.optr 1 0 0), (.optr 2 0 0), (.optr 3 0 0), (.optr 4 0 0), (.optr 5 0 0), (.optr 6 0 0), (.optr 7 0 0)])] true), (.mp true K3w es true), (.box 29 [(sl eInt 1 rest)] true), (.box 29 [(sl eInt 1 low)] true), (.box 31 (eSpan wm) true), (.box 75 (eSite s) false), (.arr 29 1 (m + 1) (appGet m go (fun u101 => [(.row nl97 n98 wd99 g100)])) true)]) none fun v101 h102 => (tkBool v101 none fun b103 => (tkSCons h102 none fun s104 r105 => (tkSame s104 (.arr 31 2 n51 g52 false) none ((tkSCons r105 none fun s106 r107 => (tkSame s106 (.box 29 [(sl eInt 1 nd)] true) none ((tkSCons r107 none fun s108 r109 => (tkSame s108 (.box 77 [(.mapr 8)] true) none ((tkSCons r109 none fun s110 r111 => (tkSame s110 (.box 28 (eSite s) true) none ((tkSCons r111 none fun s112 r113 => (tkSame s112 (.box 76 [(.fn (.func 31) [] [(.optr 3 0 0), (.optr 9 0 0), (.optr 10 0 0), (.optr 11 0 0)])] true) none ((tkSCons r113 none fun s114 r115 => (tkSame s114 (.box 73 [(.optr 12 0 0)] true) none ((tkSCons r115 none fun s116 r117 => (tkBox s116 none fun e118 c119 wr120 => (bif ((Nat.beq e118 35) && (wr120 == true)) then (tkCons c119 none fun v121 r122 => (tkNil r122 none ((tkSl v121 none (fun nl123 n124 wd125 g126 => (bif (nl123 && (Nat.beq n124 0)) then (tkSNil r117 none (none)) else none)) (fun b123 lo124 n125 => (bif (Nat.beq lo124 0) then (bif (Nat.beq b123 13) then (tkSCons r117 none fun s126 r127 => (tkSame s126 (.box 78 [(.fn (.func 32) [] [(.optr 1 0 0), (.optr 2 0 0), (.optr 3 0 0), (.optr 4 0 0), (.optr 5 0 0), (.optr 6 0 0), (.optr 7 0 0)])] true) none ((tkSCons r127 none fun s128 r129 => (tkMp s128 none fun ag130 ks131 es132 wr133 => (bif (((ag130 == true) && (ksEq ks131 K3w)) && (wr133 == true)) then (tkSCons r129 none fun s134 r135 => (tkSame s134 (.box 29 [(sl eInt 1 rest)] true) none ((tkSCons r135 none fun s136 r137 => (tkSame s136 (.box 29 [(sl eInt 1 low)] true) none ((tkSCons r137 none fun s138 r139 => (tkSame s138 (.box 31 (eSpan wm) true) none ((tkSCons r139 none fun s140 r141 => (tkSame s140 (.box 75 (eSite s) false) none ((tkSCons r141 none fun s142 r143 => (tkSame s142 (.arr 29 1 (m + 1) (appGet m go (fun u144 => [(.row nl97 n98 wd99 g100)])) true) none ((tkSNil r143 none ((bif b103 then some ((.ret (.bool true)), [(.arr 31 2 pr.len (fun u144 => (eSpan (Sl.el pr u144))) false), (.box 29 [(sl eInt 1 nd)] true), (.box 77 [(.mapr 8)] true), (.box 28 (eSite s) true), (.box 76 [(.fn (.func 31) [] [(.optr 3 0 0), (.optr 9 0 0), (.optr 10 0 0), (.optr 11 0 0)])] true), (.box 73 [(.optr 12 0 0)] true), (.box 35 [(.osl 14 0 n125)] true), (.box 78 [(.fn (.func 32) [] [(.optr 1 0 0), (.optr 2 0 0), (.optr 3 0 0), (.optr 4 0 0), (.optr 5 0 0), (.optr 6 0 0), (.optr 7 0 0)])] true), (.mp true K3w es132 true), (.box 29 [(sl eInt 1 rest)] true), (.box 29 [(sl eInt 1 low)] true), (.box 31 (eSpan wm) true), (.box 75 (eSite s) false), .dead, (.arr 29 1 (m + 1) (appGet m go (fun u144 => [(.row nl97 n98 wd99 g100)])) true)]) else (bif (decide ((0 : Int) ≤ n)) then (bif (decide (n.toNat ≤ n125)) then (L9132x1 env F s low rest wm nd es n last l pr m mm go fu b0 k1 k2 g3 i4 (IntKind.wrap .i64 (i5 + (1 : Int))) es132 (m + 1) (appGet m go (fun u144 => [(.row nl97 n98 wd99 g100)]))) else none) else none))))))))))))))))))) else none)))))) else (bif (Nat.beq b123 14) then (tkSCons r117 none fun s126 r127 => (tkSame s126 (.box 78 [(.fn (.func 32) [] [(.optr 1 0 0), (.optr 2 0 0), (.optr 3 0 0), (.optr 4 0 0), (.optr 5 0 0), (.optr 6 0 0), (.optr 7 0 0)])] true) none ((tkSCons r127 none fun s128 r129 => (tkMp s128 none fun ag130 ks131 es132 wr133 => (bif (((ag130 == true) && (ksEq ks131 K3w)) && (wr133 == true)) then (tkSCons r129 none fun s134 r135 => (tkSame s134 (.box 29 [(sl eInt 1 rest)] true) none ((tkSCons r135 none fun s136 r137 => (tkSame s136 (.box 29 [(sl eInt 1 low)] true) none ((tkSCons r137 none fun s138 r139 => (tkSame s138 (.box 31 (eSpan wm) true) none ((tkSCons r139 none fun s140 r141 => (tkSame s140 (.box 75 (eSite s) false) none ((tkSCons r141 none fun s142 r143 => (tkDead s142 none ((tkSCons r143 none fun s144 r145 => (tkArr s144 none fun e146 wd147 n148 g149 wr150 => (bif (((Nat.beq e146 29) && (Nat.beq wd147 1)) && (wr150 == true)) then (tkSNil r145 none ((bif b103 then some ((.ret (.bool true)), [(.arr 31 2 pr.len (fun u151 => (eSpan (Sl.el pr u151))) false), (.box 29 [(sl eInt 1 nd)] true), (.box 77 [(.mapr 8)] true), (.box 28 (eSite s) true), (.box 76 [(.fn (.func 31) [] [(.optr 3 0 0), (.optr 9 0 0), (.optr 10 0 0), (.optr 11 0 0)])] true), (.box 73 [(.optr 12 0 0)] true), (.box 35 [(.osl 14 0 n125)] true), (.box 78 [(.fn (.func 32) [] [(.optr 1 0 0), (.optr 2 0 0), (.optr 3 0 0), (.optr 4 0 0), (.optr 5 0 0), (.optr 6 0 0), (.optr 7 0 0)])] true), (.mp true K3w es132 true), (.box 29 [(sl eInt 1 rest)] true), (.box 29 [(sl eInt 1 low)] true), (.box 31 (eSpan wm) true), (.box 75 (eSite s) false), .dead, (.arr 29 1 n148 g149 true)]) else (bif (decide ((0 : Int) ≤ n)) then (bif (decide (n.toNat ≤ n125)) then (L9132x1 env F s low rest wm nd es n last l pr m mm go fu b0 k1 k2 g3 i4 (IntKind.wrap .i64 (i5 + (1 : Int))) es132 n148 g149) else none) else none)))) else none)))))))))))))))))) else none)))))) else none)) else none)))))) else none))))))))))))))))))))))) else none))) nK)))))))))))))))))))) nK)))))))))) nK))) else none))) else none))))))))))))))))) else none)))) else none)))))))) else none) else none) else none) else (bif ((rg n) && ((rg last) && ((rg (mixI (decide (0 < l.len)) (l.el 0).rad.lo (0 : Int))) && ((rg (mixI (decide (0 < l.len)) (l.el 0).rad.hi (0 : Int))) && ((rg (mixI (decide (0 < l.len)) (l.el 0).vol.lo (0 : Int))) && ((rg (mixI (decide (0 < l.len)) (l.el 0).vol.hi (0 : Int))) && ((rg (mixI (decide (0 < l.len)) (l.el 0).lost.lo (0 : Int))) && ((rg (mixI (decide (0 < l.len)) (l.el 0).lost.hi (0 : Int))) && ((rg (mixI (decide (1 < l.len)) (l.el 1).rad.lo (0 : Int))) && ((rg (mixI (decide (1 < l.len)) (l.el 1).rad.hi (0 : Int))) && ((rg (mixI (decide (1 < l.len)) (l.el 1).vol.lo (0 : Int))) && ((rg (mixI (decide (1 < l.len)) (l.el 1).vol.hi (0 : Int))) && ((rg (mixI (decide (1 < l.len)) (l.el 1).lost.lo (0 : Int))) && ((rg (mixI (decide (1 < l.len)) (l.el 1).lost.hi (0 : Int))) && ((rg (mixI (decide (2 < l.len)) (l.el 2).rad.lo (0 : Int))) && ((rg (mixI (decide (2 < l.len)) (l.el 2).rad.hi (0 : Int))) && ((rg (mixI (decide (2 < l.len)) (l.el 2).vol.lo (0 : Int))) && ((rg (mixI (decide (2 < l.len)) (l.el 2).vol.hi (0 : Int))) && ((rg (mixI (decide (2 < l.len)) (l.el 2).lost.lo (0 : Int))) && ((rg (mixI (decide (2 < l.len)) (l.el 2).lost.hi (0 : Int))) && ((rg (mixI (decide (3 < l.len)) (l.el 3).rad.lo (0 : Int))) && ((rg (mixI (decide (3 < l.len)) (l.el 3).rad.hi (0 : Int))) && ((rg (mixI (decide (3 < l.len)) (l.el 3).vol.lo (0 : Int))) && ((rg (mixI (decide (3 < l.len)) (l.el 3).vol.hi (0 : Int))) && ((rg (mixI (decide (3 < l.len)) (l.el 3).lost.lo (0 : Int))) && ((rg (mixI (decide (3 < l.len)) (l.el 3).lost.hi (0 : Int))) && ((rg (mixI (decide (4 < l.len)) (l.el 4).rad.lo (0 : Int))) && ((rg (mixI (decide (4 < l.len)) (l.el 4).rad.hi (0 : Int))) && ((rg (mixI (decide (4 < l.len)) (l.el 4).vol.lo (0 : Int))) && ((rg (mixI (decide (4 < l.len)) (l.el 4).vol.hi (0 : Int))) && ((rg (mixI (decide (4 < l.len)) (l.el 4).lost.lo (0 : Int))) && ((rg (mixI (decide (4 < l.len)) (l.el 4).lost.hi (0 : Int))) && true)))))))))))))))))))))))))))))))) then (bif (decide ((List.length es) < 1000000000000)) then some ((.ret (.bool false)), [(.arr 31 2 pr.len (fun u22 => (eSpan (Sl.el pr u22))) false), (.box 29 [(sl eInt 1 nd)] true), (.box 77 [(.mapr 8)] true), (.box 28 (eSite s) true), (.box 76 [(.fn (.func 31) [] [(.optr 3 0 0), (.optr 9 0 0), (.optr 10 0 0), (.optr 11 0 0)])] true), (.box 73 [(.optr 12 0 0)] true), (.box 35 [(.osl 13 0 m)] true), (.box 78 [(.fn (.func 32) [] [(.optr 1 0 0), (.optr 2 0 0), (.optr 3 0 0), (.optr 4 0 0), (.optr 5 0 0), (.optr 6 0 0), (.optr 7 0 0)])] true), (.mp true K3w (mput es (.agg [(i64 n), (i64 last), (i64 (mixI (decide (0 < l.len)) (l.el 0).rad.lo (0 : Int))), (i64 (mixI (decide (0 < l.len)) (l.el 0).rad.hi (0 : Int))), (i64 (mixI (decide (0 < l.len)) (l.el 0).vol.lo (0 : Int))), (i64 (mixI (decide (0 < l.len)) (l.el 0).vol.hi (0 : Int))), (i64 (mixI (decide (0 < l.len)) (l.el 0).lost.lo (0 : Int))), (i64 (mixI (decide (0 < l.len)) (l.el 0).lost.hi (0 : Int))), (i64 (mixI (decide (1 < l.len)) (l.el 1).rad.lo (0 : Int))), (i64 (mixI (decide (1 < l.len)) (l.el 1).rad.hi (0 : Int))), (i64 (mixI (decide (1 < l.len)) (l.el 1).vol.lo (0 : Int))), (i64 (mixI (decide (1 < l.len)) (l.el 1).vol.hi (0 : Int))), (i64 (mixI (decide (1 < l.len)) (l.el 1).lost.lo (0 : Int))), (i64 (mixI (decide (1 < l.len)) (l.el 1).lost.hi (0 : Int))), (i64 (mixI (decide (2 < l.len)) (l.el 2).rad.lo (0 : Int))), (i64 (mixI (decide (2 < l.len)) (l.el 2).rad.hi (0 : Int))), (i64 (mixI (decide (2 < l.len)) (l.el 2).vol.lo (0 : Int))), (i64 (mixI (decide (2 < l.len)) (l.el 2).vol.hi (0 : Int))), (i64 (mixI (decide (2 < l.len)) (l.el 2).lost.lo (0 : Int))), (i64 (mixI (decide (2 < l.len)) (l.el 2).lost.hi (0 : Int))), (i64 (mixI (decide (3 < l.len)) (l.el 3).rad.lo (0 : Int))), (i64 (mixI (decide (3 < l.len)) (l.el 3).rad.hi (0 : Int))), (i64 (mixI (decide (3 < l.len)) (l.el 3).vol.lo (0 : Int))), (i64 (mixI (decide (3 < l.len)) (l.el 3).vol.hi (0 : Int))), (i64 (mixI (decide (3 < l.len)) (l.el 3).lost.lo (0 : Int))), (i64 (mixI (decide (3 < l.len)) (l.el 3).lost.hi (0 : Int))), (i64 (mixI (decide (4 < l.len)) (l.el 4).rad.lo (0 : Int))), (i64 (mixI (decide (4 < l.len)) (l.el 4).rad.hi (0 : Int))), (i64 (mixI (decide (4 < l.len)) (l.el 4).vol.lo (0 : Int))), (i64 (mixI (decide (4 < l.len)) (l.el 4).vol.hi (0 : Int))), (i64 (mixI (decide (4 < l.len)) (l.el 4).lost.lo (0 : Int))), (i64 (mixI (decide (4 < l.len)) (l.el 4).lost.hi (0 : Int)))]) (.bool true)) true), (.box 29 [(sl eInt 1 rest)] true), (.box 29 [(sl eInt 1 low)] true), (.box 31 (eSpan wm) true), (.box 75 (eSite s) false), (.arr 29 1 mm go true)]) else none) else none)) := by kernel_rfl
theorem L9132x1s (env : Env) (F : Nat) (s : Site) (low : Sl Int) (rest : Sl Int) (wm : Span) (nd : Sl Int) (es : List (V × V)) (n : Int) (last : Int) (l : Sl Stt) (pr : Sl Span) (m : Nat) (mm : Nat) (go : Nat → List V) (fu : Nat) (b0 : Bool) (k1 : Nat) (k2 : Nat) (g3 : Nat → List V) (i4 : Int) (i5 : Int) (e6 : List (V × V)) (k7 : Nat) (g8 : Nat → List V) : L9132x1 env F s low rest wm nd es n last l pr m mm go (fu + 1) b0 k1 k2 g3 i4 i5 e6 k7 g8 = (bif (decide (i5 < i4)) then (bif (k2 == 1) then (bif (decide ((0 : Int) ≤ i5)) then (bif (decide (i5 < (k1 : Int))) then (tkCons (g3 i5.toNat) none fun v25 r26 => (tkInt v25 none fun q27 n28 => (tkHv (env.hv 31 [(.int q27 n28), (.optr 0 0 0), (.optr 1 0 0), (.optr 2 0 0), (.optr 3 0 0)] [(.box 28 (eSite s) true), (.box 29 [(sl eInt 1 rest)] true), (.box 29 [(sl eInt 1 low)] true), (.box 31 (eSpan wm) true)]) none fun v29 h30 => (tkAgg v29 none fun l31 => (tkCons l31 none fun v32 r33 => (tkSl v32 none (fun nl34 n35 wd36 g37 => none) (fun b34 lo35 n36 => (bif ((Nat.beq b34 4) && (Nat.beq lo35 0)) then (tkCons r33 none fun v37 r38 => (tkSl v37 none (fun nl39 n40 wd41 g42 => none) (fun b39 lo40 n41 => (bif ((Nat.beq b39 5) && (Nat.beq lo40 0)) then (tkNil r38 none ((tkSCons h30 none fun s42 r43 => (tkSame s42 (.box 28 (eSite s) true) none ((tkSCons r43 none fun s44 r45 => (tkSame s44 (.box 29 [(sl eInt 1 rest)] true) none ((tkSCons r45 none fun s46 r47 => (tkSame s46 (.box 29 [(sl eInt 1 low)] true) none ((tkSCons r47 none fun s48 r49 => (tkSame s48 (.box 31 (eSpan wm) true) none ((tkSCons r49 none fun s50 r51 => (tkArr s50 none fun e52 wd53 n54 g55 wr56 => (bif (((Nat.beq e52 31) && (Nat.beq wd53 2)) && (wr56 == true)) then (tkSCons r51 none fun s57 r58 => (tkArr s57 none fun e59 wd60 n61 g62 wr63 => (bif (((Nat.beq e59 31) && (Nat.beq wd60 2)) && (wr63 == true)) then (tkSNil r58 none ((tkOut (env.pf 34 [(pSite s), (sl eStt 6 l), (.agg [(.row false n36 2 (fun u64 => (g55 u64))), (.row false n41 2 (fun u64 => (g62 u64)))])]) none (fun v64 => (tkTup v64 none fun l65 => (tkCons l65 none fun v66 r67 => (tkRow v66 none fun nl68 n69 wd70 g71 => (tkCons r67 none fun v72 r73 => (tkBool v72 none fun b74 => (tkNil r73 none ((bif (!b74) then (L9132x1 env F s low rest wm nd es n last l pr m mm go fu b0 k1 k2 g3 i4 (IntKind.wrap .i64 (i5 + (1 : Int))) e6 k7 g8) else (tkOut (env.pf 35 [(.rptr 1 5 (fun u75 => [(pSite s), (.row false n36 2 (fun u76 => (g55 u76))), (.row false n41 2 (fun u76 => (g62 u76))), (.row false pr.len 2 (fun u76 => (eSpan (Sl.el pr u76)))), (.row nl68 n69 wd70 g71)]) 0 0), (i64 n), (.fn (.func 36) [] [])]) none (fun v75 => (tkTup v75 none fun l76 => (tkCons l76 none fun v77 r78 => (tkAgg v77 none fun l79 => (tkCons l79 none fun v80 r81 => (tkInt v80 none fun q82 n83 => (tkCons r81 none fun v84 r85 => (tkInt v84 none fun q86 n87 => (tkCons r85 none fun v88 r89 => (tkInt v88 none fun q90 n91 => (tkCons r89 none fun v92 r93 => (tkInt v92 none fun q94 n95 => (tkNil r93 none ((tkCons r78 none fun v96 r97 => (tkBool v96 none fun b98 => (tkNil r97 none ((bif b98 then (L9132x1 env F s low rest wm nd es n last l pr m mm go fu b0 k1 k2 g3 i4 (IntKind.wrap .i64 (i5 + (1 : Int))) e6 k7 g8) else (tkOut (env.pf 37 [(.int q27 n28)]) none (fun v99 => (tkRow v99 none fun nl100 n101 wd102 g103 => (bif (decide (((n.toNat + 1) * 24) ≤ 140737488355328)) then (tkHv (env.hv 32 [(i64 (IntKind.wrap .i64 (n + (1 : Int)))), (.osl 0 0 n36), (.row nl68 n69 wd70 g71), (.int q27 n28), (.optr 1 0 0), (.optr 2 0 0), (.optr 3 0 0), (.optr 4 0 0), (.optr 5 0 0), (.optr 6 0 0), (.optr 7 0 0)] [(.arr 31 2 n54 g55 false), (.box 29 [(sl eInt 1 nd)] true), (.box 77 [(.mapr 8)] true), (.box 28 (eSite s) true), (.box 76 [(.fn (.func 31) [] [(.optr 3 0 0), (.optr 9 0 0), (.optr 10 0 0), (.optr 11 0 0)])] true), (.box 73 [(.optr 12 0 0)] true), (.box 35 [(.osl 13 0 (n.toNat + 1))] true), (.box 78 [(.fn (.func 32) [] [(.optr 1 0 0), (.optr 2 0 0), (.optr 3 0 0), (.optr 4 0 0), (.optr 5 0 0), (.optr 6 0 0), (.optr 7 0 0)])] true), (.mp true K3w e6 true), (.box 29 [(sl eInt 1 rest)] true), (.box 29 [(sl eInt 1 low)] true), (.box 31 (eSpan wm) true), (.box 75 (eSite s) false), (.arr 29 1 (n.toNat + 1) (appGet n.toNat g8 (fun u104 => [(.row nl100 n101 wd102 g103)])) true)]) none fun v104 h105 => (tkBool v104 none fun b106 => (tkSCons h105 none fun s107 r108 => (tkSame s107 (.arr 31 2 n54 g55 false) none ((tkSCons r108 none fun s109 r110 => (tkSame s109 (.box 29 [(sl eInt 1 nd)] true) none ((tkSCons r110 none fun s111 r112 => (tkSame s111 (.box 77 [(.mapr 8)] true) none ((tkSCons r112 none fun s113 r114 => (tkSame s113 (.box 28 (eSite s) true) none ((tkSCons r114 none fun s115 r116 => (tkSame s115 (.box 76 [(.fn (.func 31) [] [(.optr 3 0 0), (.optr 9 0 0), (.optr 10 0 0), (.optr 11 0 0)])] true) none ((tkSCons r116 none fun s117 r118 => (tkSame s117 (.box 73 [(.optr 12 0 0)] true) none ((tkSCons r118 none fun s119 r120 => (tkBox s119 none fun e121 c122 wr123 => (bif ((Nat.beq e121 35) && (wr123 == true)) then (tkCons c122 none fun v124 r125 => (tkNil r125 none ((tkSl v124 none (fun nl126 n127 wd128 g129 => (bif (nl126 && (Nat.beq n127 0)) then (tkSNil r120 none (none)) else none)) (fun b126 lo127 n128 => (bif (Nat.beq lo127 0) then (bif (Nat.beq b126 13) then (tkSCons r120 none fun s129 r130 => (tkSame s129 (.box 78 [(.fn (.func 32) [] [(.optr 1 0 0), (.optr 2 0 0), (.optr 3 0 0), (.optr 4 0 0), (.optr 5 0 0), (.optr 6 0 0), (.optr 7 0 0)])] true) none ((tkSCons r130 none fun s131 r132 => (tkMp s131 none fun ag133 ks134 es135 wr136 => (bif (((ag133 == true) && (ksEq ks134 K3w)) && (wr136 == true)) then (tkSCons r132 none fun s137 r138 => (tkSame s137 (.box 29 [(sl eInt 1 rest)] true) none ((tkSCons r138 none fun s139 r140 => (tkSame s139 (.box 29 [(sl eInt 1 low)] true) none ((tkSCons r140 none fun s141 r142 => (tkSame s141 (.box 31 (eSpan wm) true) none ((tkSCons r142 none fun s143 r144 => (tkSame s143 (.box 75 (eSite s) false) none ((tkSCons r144 none fun s145 r146 => (tkSame s145 (.arr 29 1 (n.toNat + 1) (appGet n.toNat g8 (fun u147 => [(.row nl100 n101 wd102 g103)])) true) none ((tkSNil r146 none ((bif b106 then some ((.ret (.bool true)), [(.arr 31 2 pr.len (fun u147 => (eSpan (Sl.el pr u147))) false), (.box 29 [(sl eInt 1 nd)] true), (.box 77 [(.mapr 8)] true), (.box 28 (eSite s) true), (.box 76 [(.fn (.func 31) [] [(.optr 3 0 0), (.optr 9 0 0), (.optr 10 0 0), (.optr 11 0 0)])] true), (.box 73 [(.optr 12 0 0)] true), (.box 35 [(.osl 14 0 n128)] true), (.box 78 [(.fn (.func 32) [] [(.optr 1 0 0), (.optr 2 0 0), (.optr 3 0 0), (.optr 4 0 0), (.optr 5 0 0), (.optr 6 0 0), (.optr 7 0 0)])] true), (.mp true K3w es135 true), (.box 29 [(sl eInt 1 rest)] true), (.box 29 [(sl eInt 1 low)] true), (.box 31 (eSpan wm) true), (.box 75 (eSite s) false), .dead, (.arr 29 1 (n.toNat + 1) (appGet n.toNat g8 (fun u147 => [(.row nl100 n101 wd102 g103)])) true)]) else (bif (decide ((0 : Int) ≤ n)) then (bif (decide (n.toNat ≤ n128)) then (L9132x1 env F s low rest wm nd es n last l pr m mm go fu b0 k1 k2 g3 i4 (IntKind.wrap .i64 (i5 + (1 : Int))) es135 (n.toNat + 1) (appGet n.toNat g8 (fun u147 => [(.row nl100 n101 wd102 g103)]))) else none) else none))))))))))))))))))) else none)))))) else (bif (Nat.beq b126 14) then (tkSCons r120 none fun s129 r130 => (tkSame s129 (.box 78 [(.fn (.func 32) [] [(.optr 1 0 0), (.optr 2 0 0), (.optr 3 0 0), (.optr 4 0 0), (.optr 5 0 0), (.optr 6 0 0), (.optr 7 0 0)])] true) none ((tkSCons r130 none fun s131 r132 => (tkMp s131 none fun ag133 ks134 es135 wr136 => (bif (((ag133 == true) && (ksEq ks134 K3w)) && (wr136 == true)) then (tkSCons r132 none fun s137 r138 => (tkSame s137 (.box 29 [(sl eInt 1 rest)] true) none ((tkSCons r138 none fun s139 r140 => (tkSame s139 (.box 29 [(sl eInt 1 low)] true) none ((tkSCons r140 none fun s141 r142 => (tkSame s141 (.box 31 (eSpan wm) true) none ((tkSCons r142 none fun s143 r144 => (tkSame s143 (.box 75 (eSite s) false) none ((tkSCons r144 none fun s145 r146 => (tkDead s145 none ((tkSCons r146 none fun s147 r148 => (tkArr s147 none fun e149 wd150 n151 g152 wr153 => (bif (((Nat.beq e149 29) && (Nat.beq wd150 1)) && (wr153 == true)) then (tkSNil r148 none ((bif b106 then some ((.ret (.bool true)), [(.arr 31 2 pr.len (fun u154 => (eSpan (Sl.el pr u154))) false), (.box 29 [(sl eInt 1 nd)] true), (.box 77 [(.mapr 8)] true), (.box 28 (eSite s) true), (.box 76 [(.fn (.func 31) [] [(.optr 3 0 0), (.optr 9 0 0), (.optr 10 0 0), (.optr 11 0 0)])] true), (.box 73 [(.optr 12 0 0)] true), (.box 35 [(.osl 14 0 n128)] true), (.box 78 [(.fn (.func 32) [] [(.optr 1 0 0), (.optr 2 0 0), (.optr 3 0 0), (.optr 4 0 0), (.optr 5 0 0), (.optr 6 0 0), (.optr 7 0 0)])] true), (.mp true K3w es135 true), (.box 29 [(sl eInt 1 rest)] true), (.box 29 [(sl eInt 1 low)] true), (.box 31 (eSpan wm) true), (.box 75 (eSite s) false), .dead, (.arr 29 1 n151 g152 true)]) else (bif (decide ((0 : Int) ≤ n)) then (bif (decide (n.toNat ≤ n128)) then (L9132x1 env F s low rest wm nd es n last l pr m mm go fu b0 k1 k2 g3 i4 (IntKind.wrap .i64 (i5 + (1 : Int))) es135 n151 g152) else none) else none)))) else none)))))))))))))))))) else none)))))) else none)) else none)))))) else none))))))))))))))))))))))) else none))) nK)))))))))))))))))))) nK)))))))))) nK))) else none))) else none))))))))))))))))) else none)))) else none)))))))) else none) else none) else none) else (bif ((rg n) && ((rg last) && ((rg (mixI (decide (0 < l.len)) (l.el 0).rad.lo (0 : Int))) && ((rg (mixI (decide (0 < l.len)) (l.el 0).rad.hi (0 : Int))) && ((rg (mixI (decide (0 < l.len)) (l.el 0).vol.lo (0 : Int))) && ((rg (mixI (decide (0 < l.len)) (l.el 0).vol.hi (0 : Int))) && ((rg (mixI (decide (0 < l.len)) (l.el 0).lost.lo (0 : Int))) && ((rg (mixI (decide (0 < l.len)) (l.el 0).lost.hi (0 : Int))) && ((rg (mixI (decide (1 < l.len)) (l.el 1).rad.lo (0 : Int))) && ((rg (mixI (decide (1 < l.len)) (l.el 1).rad.hi (0 : Int))) && ((rg (mixI (decide (1 < l.len)) (l.el 1).vol.lo (0 : Int))) && ((rg (mixI (decide (1 < l.len)) (l.el 1).vol.hi (0 : Int))) && ((rg (mixI (decide (1 < l.len)) (l.el 1).lost.lo (0 : Int))) && ((rg (mixI (decide (1 < l.len)) (l.el 1).lost.hi (0 : Int))) && ((rg (mixI (decide (2 < l.len)) (l.el 2).rad.lo (0 : Int))) && ((rg (mixI (decide (2 < l.len)) (l.el 2).rad.hi (0 : Int))) && ((rg (mixI (decide (2 < l.len)) (l.el 2).vol.lo (0 : Int))) && ((rg (mixI (decide (2 < l.len)) (l.el 2).vol.hi (0 : Int))) && ((rg (mixI (decide (2 < l.len)) (l.el 2).lost.lo (0 : Int))) && ((rg (mixI (decide (2 < l.len)) (l.el 2).lost.hi (0 : Int))) && ((rg (mixI (decide (3 < l.len)) (l.el 3).rad.lo (0 : Int))) && ((rg (mixI (decide (3 < l.len)) (l.el 3).rad.hi (0 : Int))) && ((rg (mixI (decide (3 < l.len)) (l.el 3).vol.lo (0 : Int))) && ((rg (mixI (decide (3 < l.len)) (l.el 3).vol.hi (0 : Int))) && ((rg (mixI (decide (3 < l.len)) (l.el 3).lost.lo (0 : Int))) && ((rg (mixI (decide (3 < l.len)) (l.el 3).lost.hi (0 : Int))) && ((rg (mixI (decide (4 < l.len)) (l.el 4).rad.lo (0 : Int))) && ((rg (mixI (decide (4 < l.len)) (l.el 4).rad.hi (0 : Int))) && ((rg (mixI (decide (4 < l.len)) (l.el 4).vol.lo (0 : Int))) && ((rg (mixI (decide (4 < l.len)) (l.el 4).vol.hi (0 : Int))) && ((rg (mixI (decide (4 < l.len)) (l.el 4).lost.lo (0 : Int))) && ((rg (mixI (decide (4 < l.len)) (l.el 4).lost.hi (0 : Int))) && true)))))))))))))))))))))))))))))))) then (bif (decide ((List.length e6) < 1000000000000)) then some ((.ret (.bool false)), [(.arr 31 2 pr.len (fun u25 => (eSpan (Sl.el pr u25))) false), (.box 29 [(sl eInt 1 nd)] true), (.box 77 [(.mapr 8)] true), (.box 28 (eSite s) true), (.box 76 [(.fn (.func 31) [] [(.optr 3 0 0), (.optr 9 0 0), (.optr 10 0 0), (.optr 11 0 0)])] true), (.box 73 [(.optr 12 0 0)] true), (.box 35 [(.osl 14 0 n.toNat)] true), (.box 78 [(.fn (.func 32) [] [(.optr 1 0 0), (.optr 2 0 0), (.optr 3 0 0), (.optr 4 0 0), (.optr 5 0 0), (.optr 6 0 0), (.optr 7 0 0)])] true), (.mp true K3w (mput e6 (.agg [(i64 n), (i64 last), (i64 (mixI (decide (0 < l.len)) (l.el 0).rad.lo (0 : Int))), (i64 (mixI (decide (0 < l.len)) (l.el 0).rad.hi (0 : Int))), (i64 (mixI (decide (0 < l.len)) (l.el 0).vol.lo (0 : Int))), (i64 (mixI (decide (0 < l.len)) (l.el 0).vol.hi (0 : Int))), (i64 (mixI (decide (0 < l.len)) (l.el 0).lost.lo (0 : Int))), (i64 (mixI (decide (0 < l.len)) (l.el 0).lost.hi (0 : Int))), (i64 (mixI (decide (1 < l.len)) (l.el 1).rad.lo (0 : Int))), (i64 (mixI (decide (1 < l.len)) (l.el 1).rad.hi (0 : Int))), (i64 (mixI (decide (1 < l.len)) (l.el 1).vol.lo (0 : Int))), (i64 (mixI (decide (1 < l.len)) (l.el 1).vol.hi (0 : Int))), (i64 (mixI (decide (1 < l.len)) (l.el 1).lost.lo (0 : Int))), (i64 (mixI (decide (1 < l.len)) (l.el 1).lost.hi (0 : Int))), (i64 (mixI (decide (2 < l.len)) (l.el 2).rad.lo (0 : Int))), (i64 (mixI (decide (2 < l.len)) (l.el 2).rad.hi (0 : Int))), (i64 (mixI (decide (2 < l.len)) (l.el 2).vol.lo (0 : Int))), (i64 (mixI (decide (2 < l.len)) (l.el 2).vol.hi (0 : Int))), (i64 (mixI (decide (2 < l.len)) (l.el 2).lost.lo (0 : Int))), (i64 (mixI (decide (2 < l.len)) (l.el 2).lost.hi (0 : Int))), (i64 (mixI (decide (3 < l.len)) (l.el 3).rad.lo (0 : Int))), (i64 (mixI (decide (3 < l.len)) (l.el 3).rad.hi (0 : Int))), (i64 (mixI (decide (3 < l.len)) (l.el 3).vol.lo (0 : Int))), (i64 (mixI (decide (3 < l.len)) (l.el 3).vol.hi (0 : Int))), (i64 (mixI (decide (3 < l.len)) (l.el 3).lost.lo (0 : Int))), (i64 (mixI (decide (3 < l.len)) (l.el 3).lost.hi (0 : Int))), (i64 (mixI (decide (4 < l.len)) (l.el 4).rad.lo (0 : Int))), (i64 (mixI (decide (4 < l.len)) (l.el 4).rad.hi (0 : Int))), (i64 (mixI (decide (4 < l.len)) (l.el 4).vol.lo (0 : Int))), (i64 (mixI (decide (4 < l.len)) (l.el 4).vol.hi (0 : Int))), (i64 (mixI (decide (4 < l.len)) (l.el 4).lost.lo (0 : Int))), (i64 (mixI (decide (4 < l.len)) (l.el 4).lost.hi (0 : Int)))]) (.bool true)) true), (.box 29 [(sl eInt 1 rest)] true), (.box 29 [(sl eInt 1 low)] true), (.box 31 (eSpan wm) true), (.box 75 (eSite s) false), .dead, (.arr 29 1 k7 g8 true)]) else none) else none)) := by kernel_rfl
noncomputable def L9143x0 (env : Env) (F : Nat) (s : Site) (low : Sl Int) (rest : Sl Int) (wm : Span) (nd : Sl Int) (fu : Nat) (b0 : Bool) (k1 : Nat) (k2 : Nat) (g3 : Nat → List V) (i4 : Int) : Option Out := atLoop Tryz.prog (cfg F) env 43 [.r, .r, .r, .r, .l, .r, .d] [] fu { tm := tmL 65 0 [(1, (sl eInt 1 low)), (2, (sl eInt 1 rest)), (4, (sl eInt 1 nd)), (5, (.row true 0 0 (fun _ => []))), (6, (.optr 0 0 0)), (9, (.optr 1 0 0)), (14, (.row b0 k1 k2 g3)), (15, (i64 i4))], hp := [(.box 28 (eSite s) true), (.box 31 (eSpan wm) true)] }
theorem t9143 (env : Env) (F : Nat) (s : Site) (low : Sl Int) (rest : Sl Int) (wm : Span) (nd : Sl Int) : (evFun Tryz.prog (cfg F) env 43 [(.agg (eSite s)), (sl eInt 1 low), (sl eInt 1 rest), (.agg (eSpan wm)), (sl eInt 1 nd), (.row true 0 0 (fun _ => []))]) = (tkOut (env.pf 75 [(.agg (eSite s)), (sl eInt 1 low), (sl eInt 1 rest), (.agg (eSpan wm)), (.row true 0 0 (fun _ => []))]) none (fun v7 => (tkBool v7 none fun b8 => (bif (!b8) then some (.ret (.tup [(.row true 0 0 (fun _ => [])), (.bool false)])) else (bif (((0 : Nat) : Int) == (nd.len : Int)) then some (.ret (.tup [(.row true 0 0 (fun _ => [])), (.bool true)])) else (bif (decide (((0 : Nat) : Int) < (nd.len : Int))) then (tkOut (env.pf 76 [(i64 (Sl.el nd 0)), (i64 (s.cavs.len : Int))]) none (fun v9 => (tkRow v9 none fun nl10 n11 wd12 g13 => (L9143x0 env F s low rest wm nd F nl10 n11 wd12 g13 (0 : Int)))) pK) else none))))) pK) := by kernel_rfl
theorem L9143x0s (env : Env) (F : Nat) (s : Site) (low : Sl Int) (rest : Sl Int) (wm : Span) (nd : Sl Int) (fu : Nat) (b0 : Bool) (k1 : Nat) (k2 : Nat) (g3 : Nat → List V) (i4 : Int) : L9143x0 env F s low rest wm nd (fu + 1) b0 k1 k2 g3 i4 = (bif (decide (i4 < (k1 : Int))) then (bif (k2 == 1) then (bif (decide ((0 : Int) ≤ i4)) then (bif (decide (i4 < (k1 : Int))) then (tkCons (g3 i4.toNat) none fun v13 r14 => (tkRow v13 none fun nl15 n16 wd17 g18 => (tkOut (env.pf 43 [(.agg (eSite s)), (sl eInt 1 low), (sl eInt 1 rest), (.agg (eSpan wm)), (sl eInt 1 nd), (.row false 1 1 (fun u19 => [(.row nl15 n16 wd17 g18)]))]) none (fun v19 => (tkTup v19 none fun l20 => (tkCons l20 none fun v21 r22 => (tkRow v21 none fun nl23 n24 wd25 g26 => (tkCons r22 none fun v27 r28 => (tkBool v27 none fun b29 => (tkNil r28 none ((bif b29 then some (.ret (.tup [(.row nl23 n24 wd25 g26), (.bool true)])) else (L9143x0 env F s low rest wm nd fu b0 k1 k2 g3 (IntKind.wrap .i64 (i4 + (1 : Int))))))))))))) nK))) else none) else none) else none) else some (.ret (.tup [(.row true 0 0 (fun _ => [])), (.bool false)]))) := by kernel_rfl
noncomputable def L9156x0 (env : Env) (F : Nat) (l : Sl Int) (fu : Nat) (i0 : Int) : Option Out := atLoop Tryz.prog (cfg F) env 56 [.r, .l, .r, .d] [] fu { tm := tmL 19 0 [(0, (sl eInt 1 l)), (1, (.fn (.func 26) [] [])), (7, (i64 (l.len : Int))), (8, (i64 i0))], hp := [] }
theorem t9156 (env : Env) (F : Nat) (l : Sl Int) : (evFun Tryz.prog (cfg F) env 56 [(sl eInt 1 l), (.fn (.func 26) [] [])]) = (L9156x0 env F l F (0 : Int)) := by kernel_rfl
theorem L9156x0s (env : Env) (F : Nat) (l : Sl Int) (fu : Nat) (i0 : Int) : L9156x0 env F l (fu + 1) i0 = (bif (decide (i0 < (l.len : Int))) then (bif (decide ((0 : Int) ≤ i0)) then (bif (decide (i0 < (l.len : Int))) then (tkOut (env.pf 26 [(i64 (Sl.el l i0.toNat))]) none (fun v5 => (tkBool v5 none fun b6 => (bif b6 then some (.ret (i64 i0)) else (L9156x0 env F l fu (IntKind.wrap .i64 (i0 + (1 : Int))))))) pK) else none) else none) else some (.ret (i64 (-(1 : Int))))) := by kernel_rfl
theorem t9175 (env : Env) (F : Nat) (s : Site) (low : Sl Int) (rest : Sl Int) (wm : Span) : (evFun Tryz.prog (cfg F) env 75 [(.agg (eSite s)), (sl eInt 1 low), (sl eInt 1 rest), (.agg (eSpan wm)), (.row true 0 0 (fun _ => []))]) = (tkOut (env.pf 15 [(.agg (eSite s)), (sl eInt 1 low), (sl eInt 1 rest), (.agg (eSpan wm)), (.row true 0 0 (fun _ => []))]) none (fun v6 => (tkRow v6 none fun nl7 n8 wd9 g10 => (tkOut (env.pf 96 [(.agg (eSite s)), (.row nl7 n8 wd9 g10), (.bool false)]) none (fun v11 => (tkAgg v11 none fun l12 => (tkCons l12 none fun v13 r14 => (tkInt v13 none fun q15 n16 => (tkCons r14 none fun v17 r18 => (tkInt v17 none fun q19 n20 => (tkCons r18 none fun v21 r22 => (tkInt v21 none fun q23 n24 => (tkCons r22 none fun v25 r26 => (tkInt v25 none fun q27 n28 => (tkNil r26 none ((bif (decide (q19 = .i64)) then some (.ret (.bool (n20 == (1 : Int)))) else none))))))))))))) pK))) pK) := by kernel_rfl
noncomputable def L9196x0 (env : Env) (F : Nat) (s : Site) (c : Bool) (fu : Nat) (b0 : Bool) (k1 : Nat) (k2 : Nat) (g3 : Nat → List V) : Option Out := atLoop Tryz.prog (cfg F) env 96 [.r, .r, .l, .r, .d] [] fu { tm := tmL 65 0 [(1, (.row true 0 0 (fun _ => []))), (2, (.bool c)), (3, (.optr 0 0 0)), (6, (.optr 1 0 0)), (7, (.row b0 k1 k2 g3)), (8, (i64 (0 : Int)))], hp := [(.box 28 (eSite s) true), (.box 46 [(i64 (0 : Int)), (i64 (0 : Int)), (i64 (0 : Int)), (i64 (0 : Int))] true)] }
theorem t9196 (env : Env) (F : Nat) (s : Site) (c : Bool) : (evFun Tryz.prog (cfg F) env 96 [(.agg (eSite s)), (.row true 0 0 (fun _ => [])), (.bool c)]) = (tkOut (env.pf 115 [(.agg (eSite s))]) none (fun v4 => (tkRow v4 none fun nl5 n6 wd7 g8 => (L9196x0 env F s c F nl5 n6 wd7 g8))) pK) := by kernel_rfl
theorem L9196x0s (env : Env) (F : Nat) (s : Site) (c : Bool) (fu : Nat) (b0 : Bool) (k1 : Nat) (k2 : Nat) (g3 : Nat → List V) : L9196x0 env F s c (fu + 1) b0 k1 k2 g3 = some (.ret (.agg [(i64 (0 : Int)), (i64 (1 : Int)), (i64 (0 : Int)), (i64 (0 : Int))])) := by kernel_rfl
theorem t9653 (env : Env) (F : Nat) (s : Site) (y : Day) (B : V) (C : V) (n : Int) : (evFun Tryz.prog (cfg (F + 7)) env 35 [(.rptr 1 5 (fun u7 => [(pSite s), (sl eSpan 2 (Day.press y)), (sl eSpan 2 (Day.warm y)), B, C]) 0 0), (i64 n), (.fn (.func 36) [] [])]) = (tkOut (env.pf 68 [(.rptr 1 5 (fun u7 => [(pSite s), (sl eSpan 2 (Day.press y)), (sl eSpan 2 (Day.warm y)), B, C]) 0 0)]) none (fun v7 => (tkRow v7 none fun nl8 n9 wd10 g11 => (tkOut (env.pf 74 [(.row nl8 n9 wd10 g11), (.fn (.func 36) [] [])]) none (fun v12 => (tkInt v12 none fun q13 n14 => (bif (decide (q13 = .i64)) then (bif (decide (n14 ≥ (0 : Int))) then (bif (wd10 == 4) then (bif (decide ((0 : Int) ≤ n14)) then (bif (decide (n14 < (n9 : Int))) then (tkCons (g11 n14.toNat) none fun v15 r16 => (tkInt v15 none fun q17 n18 => (bif (wd10 == 4) then (bif (decide ((0 : Int) ≤ n14)) then (bif (decide (n14 < (n9 : Int))) then (tkCons (List.drop 1 (g11 n14.toNat)) none fun v19 r20 => (tkInt v19 none fun q21 n22 => some (.ret (.tup [(.agg [(i64 n), (i64 (IntKind.wrap .i64 ((2 : Int) + (0 : Int)))), (.int q17 n18), (.int q21 n22)]), (.bool true)])))) else none) else none) else none))) else none) else none) else none) else (tkOut (env.pf 69 [(.rptr 1 5 (fun u15 => [(pSite s), (sl eSpan 2 (Day.press y)), (sl eSpan 2 (Day.warm y)), B, C]) 0 0)]) none (fun v15 => (tkRow v15 none fun nl16 n17 wd18 g19 => (tkOut (env.pf 74 [(.row nl16 n17 wd18 g19), (.fn (.func 36) [] [])]) none (fun v20 => (tkInt v20 none fun q21 n22 => (bif (decide (q21 = .i64)) then (bif (decide (n22 ≥ (0 : Int))) then (bif (wd18 == 4) then (bif (decide ((0 : Int) ≤ n22)) then (bif (decide (n22 < (n17 : Int))) then (tkCons (g19 n22.toNat) none fun v23 r24 => (tkInt v23 none fun q25 n26 => (bif (wd18 == 4) then (bif (decide ((0 : Int) ≤ n22)) then (bif (decide (n22 < (n17 : Int))) then (tkCons (List.drop 1 (g19 n22.toNat)) none fun v27 r28 => (tkInt v27 none fun q29 n30 => some (.ret (.tup [(.agg [(i64 n), (i64 (IntKind.wrap .i64 ((2 : Int) + (IntKind.wrap .i64 ((0 : Int) + (1 : Int)))))), (.int q25 n26), (.int q29 n30)]), (.bool true)])))) else none) else none) else none))) else none) else none) else none) else (tkOut (env.pf 70 [(.rptr 1 5 (fun u23 => [(pSite s), (sl eSpan 2 (Day.press y)), (sl eSpan 2 (Day.warm y)), B, C]) 0 0)]) none (fun v23 => (tkRow v23 none fun nl24 n25 wd26 g27 => (tkOut (env.pf 74 [(.row nl24 n25 wd26 g27), (.fn (.func 36) [] [])]) none (fun v28 => (tkInt v28 none fun q29 n30 => (bif (decide (q29 = .i64)) then (bif (decide (n30 ≥ (0 : Int))) then (bif (wd26 == 4) then (bif (decide ((0 : Int) ≤ n30)) then (bif (decide (n30 < (n25 : Int))) then (tkCons (g27 n30.toNat) none fun v31 r32 => (tkInt v31 none fun q33 n34 => (bif (wd26 == 4) then (bif (decide ((0 : Int) ≤ n30)) then (bif (decide (n30 < (n25 : Int))) then (tkCons (List.drop 1 (g27 n30.toNat)) none fun v35 r36 => (tkInt v35 none fun q37 n38 => some (.ret (.tup [(.agg [(i64 n), (i64 (IntKind.wrap .i64 ((2 : Int) + (IntKind.wrap .i64 ((IntKind.wrap .i64 ((0 : Int) + (1 : Int))) + (1 : Int)))))), (.int q33 n34), (.int q37 n38)]), (.bool true)])))) else none) else none) else none))) else none) else none) else none) else (tkOut (env.pf 71 [(.rptr 1 5 (fun u31 => [(pSite s), (sl eSpan 2 (Day.press y)), (sl eSpan 2 (Day.warm y)), B, C]) 0 0)]) none (fun v31 => (tkRow v31 none fun nl32 n33 wd34 g35 => (tkOut (env.pf 74 [(.row nl32 n33 wd34 g35), (.fn (.func 36) [] [])]) none (fun v36 => (tkInt v36 none fun q37 n38 => (bif (decide (q37 = .i64)) then (bif (decide (n38 ≥ (0 : Int))) then (bif (wd34 == 4) then (bif (decide ((0 : Int) ≤ n38)) then (bif (decide (n38 < (n33 : Int))) then (tkCons (g35 n38.toNat) none fun v39 r40 => (tkInt v39 none fun q41 n42 => (bif (wd34 == 4) then (bif (decide ((0 : Int) ≤ n38)) then (bif (decide (n38 < (n33 : Int))) then (tkCons (List.drop 1 (g35 n38.toNat)) none fun v43 r44 => (tkInt v43 none fun q45 n46 => some (.ret (.tup [(.agg [(i64 n), (i64 (IntKind.wrap .i64 ((2 : Int) + (IntKind.wrap .i64 ((IntKind.wrap .i64 ((IntKind.wrap .i64 ((0 : Int) + (1 : Int))) + (1 : Int))) + (1 : Int)))))), (.int q41 n42), (.int q45 n46)]), (.bool true)])))) else none) else none) else none))) else none) else none) else none) else (tkOut (env.pf 72 [(.rptr 1 5 (fun u39 => [(pSite s), (sl eSpan 2 (Day.press y)), (sl eSpan 2 (Day.warm y)), B, C]) 0 0)]) none (fun v39 => (tkRow v39 none fun nl40 n41 wd42 g43 => (tkOut (env.pf 74 [(.row nl40 n41 wd42 g43), (.fn (.func 36) [] [])]) none (fun v44 => (tkInt v44 none fun q45 n46 => (bif (decide (q45 = .i64)) then (bif (decide (n46 ≥ (0 : Int))) then (bif (wd42 == 4) then (bif (decide ((0 : Int) ≤ n46)) then (bif (decide (n46 < (n41 : Int))) then (tkCons (g43 n46.toNat) none fun v47 r48 => (tkInt v47 none fun q49 n50 => (bif (wd42 == 4) then (bif (decide ((0 : Int) ≤ n46)) then (bif (decide (n46 < (n41 : Int))) then (tkCons (List.drop 1 (g43 n46.toNat)) none fun v51 r52 => (tkInt v51 none fun q53 n54 => some (.ret (.tup [(.agg [(i64 n), (i64 (IntKind.wrap .i64 ((2 : Int) + (IntKind.wrap .i64 ((IntKind.wrap .i64 ((IntKind.wrap .i64 ((IntKind.wrap .i64 ((0 : Int) + (1 : Int))) + (1 : Int))) + (1 : Int))) + (1 : Int)))))), (.int q49 n50), (.int q53 n54)]), (.bool true)])))) else none) else none) else none))) else none) else none) else none) else (tkOut (env.pf 73 [(.rptr 1 5 (fun u47 => [(pSite s), (sl eSpan 2 (Day.press y)), (sl eSpan 2 (Day.warm y)), B, C]) 0 0)]) none (fun v47 => (tkRow v47 none fun nl48 n49 wd50 g51 => (tkOut (env.pf 74 [(.row nl48 n49 wd50 g51), (.fn (.func 36) [] [])]) none (fun v52 => (tkInt v52 none fun q53 n54 => (bif (decide (q53 = .i64)) then (bif (decide (n54 ≥ (0 : Int))) then (bif (wd50 == 4) then (bif (decide ((0 : Int) ≤ n54)) then (bif (decide (n54 < (n49 : Int))) then (tkCons (g51 n54.toNat) none fun v55 r56 => (tkInt v55 none fun q57 n58 => (bif (wd50 == 4) then (bif (decide ((0 : Int) ≤ n54)) then (bif (decide (n54 < (n49 : Int))) then (tkCons (List.drop 1 (g51 n54.toNat)) none fun v59 r60 => (tkInt v59 none fun q61 n62 => some (.ret (.tup [(.agg [(i64 n), (i64 (IntKind.wrap .i64 ((2 : Int) + (IntKind.wrap .i64 ((IntKind.wrap .i64 ((IntKind.wrap .i64 ((IntKind.wrap .i64 ((IntKind.wrap .i64 ((0 : Int) + (1 : Int))) + (1 : Int))) + (1 : Int))) + (1 : Int))) + (1 : Int)))))), (.int q57 n58), (.int q61 n62)]), (.bool true)])))) else none) else none) else none))) else none) else none) else none) else some (.ret (.tup [(.agg [(i64 (0 : Int)), (i64 (1 : Int)), (i64 (0 : Int)), (i64 (0 : Int))]), (.bool false)]))) else none))) pK))) pK)) else none))) pK))) pK)) else none))) pK))) pK)) else none))) pK))) pK)) else none))) pK))) pK)) else none))) pK))) pK) := by kernel_rfl
noncomputable def L9103x0 (env : Env) (F : Nat) (fu : Nat) : Option Out := atLoop Tryz.prog (cfg F) env 74 [.r, .l, .r, .d] [] fu { tm := tmL 19 0 [(0, (.row true 0 0 (fun _ => []))), (1, (.fn (.func 36) [] [])), (7, (i64 ((0 : Nat) : Int))), (8, (i64 (0 : Int)))], hp := [] }
theorem t9103 (env : Env) (F : Nat) : (evFun Tryz.prog (cfg F) env 74 [(.row true 0 0 (fun _ => [])), (.fn (.func 36) [] [])]) = (L9103x0 env F F) := by kernel_rfl
theorem L9103x0s (env : Env) (F : Nat) (fu : Nat) : L9103x0 env F (fu + 1) = some (.ret (i64 (-(1 : Int)))) := by kernel_rfl
end Go.Sim.Cr


namespace Go.Sim.Cr
open Go.Proofs
theorem fitInt {k : IntKind} {c : V} (h : Fit (.int k) c) : ∃ n, c = .int k n ∧ k.min ≤ n ∧ n ≤ k.max := by
 cases h with
 | int h => exact ⟨_, rfl, h⟩
theorem fitL_nil {cs : List V} (h : FitL [] cs) : cs = [] := by
 have := h.1
 exact List.eq_nil_of_length_eq_zero this
theorem fitL_cons {s : Sh} {l : List Sh} {cs : List V} (h : FitL (s :: l) cs) : ∃ c cs', cs = c :: cs' ∧ Fit s c ∧ FitL l cs' := by
 obtain ⟨h1, h2⟩ := h
 cases cs with
 | nil => simp at h1
 | cons c cs' => exact ⟨c, cs', rfl, h2 0 s c rfl rfl, by simpa using h1, fun j s' c' g1 g2 => h2 (j + 1) s' c' (by simpa using g1) (by simpa using g2)⟩
theorem fitL_int {k : IntKind} {l : List Sh} {cs : List V} (h : FitL (.int k :: l) cs) : ∃ n cs', cs = .int k n :: cs' ∧ FitL l cs' := by
 obtain ⟨c, cs', rfl, h1, h2⟩ := fitL_cons h
 obtain ⟨n, rfl, _⟩ := fitInt h1
 exact ⟨n, cs', rfl, h2⟩
theorem fitRow {α : Type} {e : α → List V} {l : List Sh} (dec : ∀ cs, FitL l cs → ∃ a : α, cs = e a) {c : V} (h : Fit (.row l) c) : ∃ s : Sl α, c = sl e l.length s ∧ s.len ≤ 140737488355328 ∧ (s.nl = true → s.len = 0) := by
 cases h with
 | row h hn hl hf =>
  rename_i nl len get
  have hx : ∀ i, ∃ a : α, get i = e a := fun i => dec _ ⟨hl i, hf i⟩
  refine ⟨⟨nl, len, fun i => (hx i).choose⟩, ?_, h, hn⟩
  show V.row nl len l.length get = V.row nl len l.length fun i => e (hx i).choose
  congr 1
  funext i
  exact (hx i).choose_spec
theorem fitL_row {α : Type} {e : α → List V} {l r : List Sh} (dec : ∀ cs, FitL l cs → ∃ a : α, cs = e a) {cs : List V} (h : FitL (.row l :: r) cs) : ∃ (s : Sl α) (cs' : List V), cs = sl e l.length s :: cs' ∧ s.len ≤ 140737488355328 ∧ (s.nl = true → s.len = 0) ∧ FitL r cs' := by
 obtain ⟨c, cs', rfl, h1, h2⟩ := fitL_cons h
 obtain ⟨s, rfl, h3, h4⟩ := fitRow dec h1
 exact ⟨s, cs', rfl, h3, h4, h2⟩
abbrev i8 : Sh := .int .i64
abbrev shSpan : List Sh := [i8, i8]
abbrev shCav : List Sh := [i8, i8, i8, i8, i8, i8, i8, i8, i8, i8, i8]
abbrev shRow : List Sh := [i8, i8, i8, i8, i8]
abbrev shTri : List Sh := [i8, i8, i8]
abbrev shStt : List Sh := [i8, i8, i8, i8, i8, i8]
abbrev shSite : List Sh := [.row shCav, .row shRow, .row shTri, i8, .row shTri, .row shTri]
abbrev shDay : List Sh := [.row shSpan, .row shSpan]
theorem decInt (cs : List V) (h : FitL [i8] cs) : ∃ n : Int, cs = eInt n := by
 obtain ⟨a, _, rfl, h1⟩ := fitL_int h
 obtain rfl := fitL_nil h1
 exact ⟨a, rfl⟩
theorem decSpan (cs : List V) (h : FitL shSpan cs) : ∃ p : Span, cs = eSpan p := by
 obtain ⟨a, _, rfl, h1⟩ := fitL_int h
 obtain ⟨b, _, rfl, h2⟩ := fitL_int h1
 obtain rfl := fitL_nil h2
 exact ⟨⟨a, b⟩, rfl⟩
theorem decCav (cs : List V) (h : FitL shCav cs) : ∃ c : Cav, cs = eCav c := by
 obtain ⟨a0, _, rfl, h1⟩ := fitL_int h
 obtain ⟨a1, _, rfl, h2⟩ := fitL_int h1
 obtain ⟨a2, _, rfl, h3⟩ := fitL_int h2
 obtain ⟨a3, _, rfl, h4⟩ := fitL_int h3
 obtain ⟨a4, _, rfl, h5⟩ := fitL_int h4
 obtain ⟨a5, _, rfl, h6⟩ := fitL_int h5
 obtain ⟨a6, _, rfl, h7⟩ := fitL_int h6
 obtain ⟨a7, _, rfl, h8⟩ := fitL_int h7
 obtain ⟨a8, _, rfl, h9⟩ := fitL_int h8
 obtain ⟨a9, _, rfl, h10⟩ := fitL_int h9
 obtain ⟨a10, _, rfl, h11⟩ := fitL_int h10
 obtain rfl := fitL_nil h11
 exact ⟨⟨a0, a1, ⟨a2, a3⟩, ⟨a4, a5⟩, a6, a7, ⟨a8, a9⟩, a10⟩, rfl⟩
theorem decRow (cs : List V) (h : FitL shRow cs) : ∃ c : Row, cs = eRow c := by
 obtain ⟨a0, _, rfl, h1⟩ := fitL_int h
 obtain ⟨a1, _, rfl, h2⟩ := fitL_int h1
 obtain ⟨a2, _, rfl, h3⟩ := fitL_int h2
 obtain ⟨a3, _, rfl, h4⟩ := fitL_int h3
 obtain ⟨a4, _, rfl, h5⟩ := fitL_int h4
 obtain rfl := fitL_nil h5
 exact ⟨⟨a0, ⟨a1, a2⟩, ⟨a3, a4⟩⟩, rfl⟩
theorem decTri (cs : List V) (h : FitL shTri cs) : ∃ a b c : Int, cs = [i64 a, i64 b, i64 c] := by
 obtain ⟨a0, _, rfl, h1⟩ := fitL_int h
 obtain ⟨a1, _, rfl, h2⟩ := fitL_int h1
 obtain ⟨a2, _, rfl, h3⟩ := fitL_int h2
 obtain rfl := fitL_nil h3
 exact ⟨a0, a1, a2, rfl⟩
theorem decHeat (cs : List V) (h : FitL shTri cs) : ∃ c : Heat, cs = eHeat c := by
 obtain ⟨a, b, c, rfl⟩ := decTri cs h
 exact ⟨⟨a, ⟨b, c⟩⟩, rfl⟩
theorem decRing (cs : List V) (h : FitL shTri cs) : ∃ c : Ring, cs = eRing c := by
 obtain ⟨a, b, c, rfl⟩ := decTri cs h
 exact ⟨⟨a, ⟨b, c⟩⟩, rfl⟩
theorem decHouse (cs : List V) (h : FitL shTri cs) : ∃ c : House, cs = eHouse c := by
 obtain ⟨a, b, c, rfl⟩ := decTri cs h
 exact ⟨⟨a, b, c⟩, rfl⟩
theorem decSite (cs : List V) (h : FitL shSite cs) : ∃ c : Site, cs = eSite c ∧ (c.cavs.nl = true → c.cavs.len = 0) := by
 obtain ⟨a, _, rfl, _, k0, h1⟩ := fitL_row decCav h
 obtain ⟨b, _, rfl, _, _, h2⟩ := fitL_row decRow h1
 obtain ⟨c, _, rfl, _, _, h3⟩ := fitL_row decHeat h2
 obtain ⟨n, _, rfl, h4⟩ := fitL_int h3
 obtain ⟨d, _, rfl, _, _, h5⟩ := fitL_row decRing h4
 obtain ⟨e, _, rfl, _, _, h6⟩ := fitL_row decHouse h5
 obtain rfl := fitL_nil h6
 exact ⟨⟨a, b, c, n, d, e⟩, rfl, k0⟩
theorem own : ownKnob Tryz.prog.godebug = none := by kernel_rfl
end Go.Sim.Cr


namespace Go.Sim.Cr
open Go.Proofs
section
variable {R : Type}
theorem tkOut_ret (v : V) (f : R) (k kp : V → R) : tkOut (some (.ret v)) f k kp = k v := Eq.trans (Eq.refl _) (Eq.refl _)
theorem tkOut_pan (v : V) (f : R) (k kp : V → R) : tkOut (some (.pan v)) f k kp = kp v := Eq.trans (Eq.refl _) (Eq.refl _)
theorem tkBool_b (b : Bool) (f : R) (k : Bool → R) : tkBool (.bool b) f k = k b := Eq.trans (Eq.refl _) (Eq.refl _)
theorem tkInt_i (q : IntKind) (n : Int) (f : R) (k : IntKind → Int → R) : tkInt (.int q n) f k = k q n := Eq.trans (Eq.refl _) (Eq.refl _)
theorem tkAgg_a (l : List V) (f : R) (k : List V → R) : tkAgg (.agg l) f k = k l := Eq.trans (Eq.refl _) (Eq.refl _)
theorem tkTup_t (l : List V) (f : R) (k : List V → R) : tkTup (.tup l) f k = k l := Eq.trans (Eq.refl _) (Eq.refl _)
theorem tkRow_r (a : Bool) (n wd : Nat) (g : Nat → List V) (f : R) (k : Bool → Nat → Nat → (Nat → List V) → R) : tkRow (.row a n wd g) f k = k a n wd g := Eq.trans (Eq.refl _) (Eq.refl _)
theorem tkCons_c (v : V) (l : List V) (f : R) (k : V → List V → R) : tkCons (v :: l) f k = k v l := Eq.trans (Eq.refl _) (Eq.refl _)
theorem tkNil_n (f k : R) : tkNil [] f k = k := Eq.trans (Eq.refl _) (Eq.refl _)
theorem tkIfc_i (t : TypeId) (v : V) (f : R) (k : TypeId → V → R) : tkIfc (.iface t v) f k = k t v := Eq.trans (Eq.refl _) (Eq.refl _)
end
theorem cAnd (a b : Bool) : (bif a then some (Out.ret (.bool b)) else some (.ret (.bool false))) = some (.ret (.bool (a && b))) := by cases a <;> rfl
theorem cNand (a b : Bool) : (bif a then some (Out.ret (.bool false)) else some (.ret (.bool b))) = some (.ret (.bool (!a && b))) := by cases a <;> rfl
theorem cOr (a b : Bool) : (bif a then some (Out.ret (.bool true)) else some (.ret (.bool b))) = some (.ret (.bool (a || b))) := by cases a <;> rfl
theorem wr {n : Int} (h : -9223372036854775808 ≤ n ∧ n ≤ 9223372036854775807) : IntKind.i64.wrap n = n := by rw [IntKind.wrap_i64]; omega
theorem wrS {i : Nat} (h : i < 4611686018427387904) : IntKind.i64.wrap ((i : Int) + 1) = ((i + 1 : Nat) : Int) := by rw [wr (by omega)]; omega
theorem b2 {a b : Bool} (h : a = true ↔ b = true) : a = b := by cases a <;> cases b <;> simp_all
abbrev Big : Nat := 4611686018427387904
abbrev SpanIn (p : Span) (a b : Int) : Prop := a ≤ p.lo ∧ p.lo ≤ p.hi ∧ p.hi ≤ b
abbrev Place (x y : Int) : Prop := (-10000 ≤ x ∧ x ≤ 10000) ∧ -10000 ≤ y ∧ y ≤ 10000
abbrev CavOk (c : Cav) : Prop := Place c.x c.y ∧ SpanIn c.rad 0 200000 ∧ SpanIn c.vol 0 10000000 ∧ (0 ≤ c.rock ∧ c.rock ≤ 50000) ∧ (0 ≤ c.floor ∧ c.floor ≤ 10000000) ∧ SpanIn c.gate 0 50000 ∧ (0 ≤ c.change ∧ c.change ≤ 50000)
abbrev SttOk (x : Stt) : Prop := SpanIn x.rad 0 400000 ∧ SpanIn x.vol 0 10000000 ∧ SpanIn x.lost 0 1000000000
abbrev HouseOk (h : House) : Prop := Place h.x h.y ∧ 0 ≤ h.most ∧ h.most ≤ 1000000
variable (F d : Nat)
theorem s54 (x y z : Int) : (E F (d + 1)).pf 39 [.int .i64 x, .int .i64 y, .int .i64 z] = some (.ret (.bool (decide (y ≤ x ∧ x ≤ z)))) := by
 rw [E_pf, t54]; simp only [cAnd, Bool.decide_and, ge_iff_le]
theorem s72 (x y z : Int) : (E F (d + 1)).pf 27 [.int .i64 x, .int .i64 y, .int .i64 z] = some (.ret (.bool (decide (y ≤ x ∧ x ≤ z)))) := by
 rw [E_pf, t72]; simp only [cAnd, Bool.decide_and, ge_iff_le]
theorem s18 (x y : Int) : (E F (d + 2)).pf 40 [.int .i64 x, .int .i64 y] = some (.ret (.bool (decide (Place x y)))) := by
 rw [E_pf, t18]; simp only [s54, tkOut_ret, tkBool_b, cAnd, Bool.decide_and]
theorem s52 (x y : Int) : (E F (d + 2)).pf 53 [.int .i64 x, .int .i64 y] = some (.ret (.bool (decide (Place x y)))) := by
 rw [E_pf, t52]; simp only [s72, tkOut_ret, tkBool_b, cAnd, Bool.decide_and]
theorem s74 (p : Span) (n : Int) : (E F (d + 1)).pf 29 [.agg (eSpan p), .int .i64 n] = some (.ret (.bool (decide (SpanIn p 0 n)))) := by
 rw [E_pf, t74]; simp only [cAnd, Bool.decide_and, ge_iff_le]
theorem s43 (p : Span) (a n : Int) : (E F (d + 1)).pf 41 [.agg (eSpan p), .int .i64 a, .int .i64 n] = some (.ret (.bool (decide (SpanIn p a n)))) := by
 rw [E_pf, t43]; simp only [cAnd, Bool.decide_and, ge_iff_le]
theorem s55 (p q : Span) : (E F (d + 1)).pf 42 [.agg (eSpan p), .agg (eSpan q)] = some (.ret (.bool (decide (p.lo ≤ q.lo ∧ p.hi ≤ q.hi)))) := by
 rw [E_pf, t55]; simp only [cAnd, Bool.decide_and, ge_iff_le]
theorem s107 (p q : Span) : (E F (d + 1)).pf 87 [.agg (eSpan p), .agg (eSpan q)] = some (.ret (.bool (decide (q.lo ≤ p.lo ∧ q.hi ≤ p.hi)))) := by
 rw [E_pf, t107]; simp only [cAnd, Bool.decide_and, ge_iff_le]
theorem s79 (c : Cav) : (E F (d + 3)).pf 58 [.agg (eCav c)] = some (.ret (.bool (decide (CavOk c)))) := by
 rw [E_pf, t79]; simp only [s72, s52, s74, tkOut_ret, tkBool_b, cAnd, Bool.decide_and]
theorem s81 (x c : Cav) : (E F (d + 1)).pf 60 [.agg (eCav x), .rptr 1 11 (fun _ => eCav c) 0 0] = some (.ret (.bool (decide (x.x = c.x ∧ x.y = c.y)))) := by
 rw [E_pf, t81]; simp only [cAnd, Bool.decide_and, ge_iff_le]; rfl
theorem s83 (h : House) : (E F (d + 3)).pf 62 [.agg (eHouse h)] = some (.ret (.bool (!decide (HouseOk h)))) := by
 rw [E_pf, t83]; simp only [s52, s72, tkOut_ret, tkBool_b, cOr, Bool.decide_and, Bool.not_and]
theorem s86 (x : Stt) : (E F (d + 2)).pf 83 [.agg (eStt x)] = some (.ret (.bool (decide (SttOk x)))) := by
 rw [E_pf, t86]; simp only [s74, tkOut_ret, tkBool_b, cAnd, Bool.decide_and]
theorem s85 (x : Stt) : (E F (d + 3)).pf 82 [.agg (eStt x)] = some (.ret (.bool (!decide (SttOk x)))) := by
 rw [E_pf, t85]; simp only [s86, tkOut_ret, tkBool_b]
theorem s89 (p : Span) (m : Int) : (E F (d + 2)).pf 80 [.agg (eSpan p), .rptr 1 1 (fun _ => [.int .i64 m]) 0 0] = some (.ret (.bool (!decide (SpanIn p 0 m)))) := by
 rw [E_pf, t89]; simp only [s74, tkOut_ret, tkBool_b]
def ixF (p : Nat → Bool) : Nat → Nat → Int
 | 0, _ => -1
 | n + 1, i => bif p i then (i : Int) else ixF p n (i + 1)
theorem ixF_ge (p : Nat → Bool) : ∀ n i, 0 ≤ ixF p n i ↔ ∃ k, i ≤ k ∧ k < i + n ∧ p k = true := by
 intro n
 induction n with
 | zero => intro i; simp only [ixF]; constructor <;> intro h
           ·omega
           ·obtain ⟨k, h1, h2, _⟩ := h; omega
 | succ n ih =>
  intro i
  simp only [ixF]
  cases h : p i
  ·rw [cond_false, ih]
   constructor
   ·rintro ⟨k, h1, h2, h3⟩; exact ⟨k, by omega, by omega, h3⟩
   ·rintro ⟨k, h1, h2, h3⟩
    refine ⟨k, ?_, by omega, h3⟩
    rcases Nat.eq_or_lt_of_le h1 with rfl | h4
    ·rw [h] at h3; cases h3
    ·omega
  ·rw [cond_true]
   exact ⟨fun _ => ⟨i, by omega, by omega, h⟩, fun _ => by omega⟩
theorem l108 (l : Sl Cav) (c : Cav) (hB : l.len < Big) : ∀ n i fu, l.len = i + n → n < fu →
  L108x0 (E F (d + 1)) F l c fu (i : Int) = some (.ret (.int .i64 (ixF (fun k => decide ((l.el k).x = c.x ∧ (l.el k).y = c.y)) n i))) := by
 intro n
 induction n with
 | zero =>
  intro i fu h hf
  obtain ⟨fu, rfl⟩ : ∃ k, fu = k + 1 := ⟨fu - 1, by omega⟩
  rw [L108x0s]
  simp only [Int.ofNat_lt, show ¬ i < l.len by omega, decide_false, cond_false, ixF]
 | succ n ih =>
  intro i fu h hf
  obtain ⟨fu, rfl⟩ : ∃ k, fu = k + 1 := ⟨fu - 1, by omega⟩
  rw [L108x0s]
  simp only [Int.ofNat_lt, show i < l.len by omega, decide_true, cond_true, Int.natCast_nonneg, Int.toNat_natCast, s81, tkOut_ret, tkBool_b, wrS (show i < Big by omega), ih (i + 1) fu (by omega) (by omega), ixF]
  cases decide ((l.el i).x = c.x ∧ (l.el i).y = c.y) <;> rfl
end Go.Sim.Cr


namespace Go.Sim.Cr
open Go.Proofs
variable (F d : Nat)
theorem b3 {a b : Bool} (h : a = b) : some (Out.ret (.bool a)) = some (.ret (.bool b)) := by rw [h]
theorem ge0 (p : Nat → Bool) (n : Nat) : (!decide (0 ≤ ixF p n 0)) = decide (∀ i, i < n → p i = false) := by
 apply b2
 rw [Bool.not_eq_true', decide_eq_false_iff_not, decide_eq_true_iff, ixF_ge]
 constructor
 ·intro h i hi
  cases hp : p i
  ·rfl
  ·exact (h ⟨i, by omega, by omega, hp⟩).elim
 ·rintro h ⟨k, _, h2, h3⟩
  rw [h k (by omega)] at h3; cases h3
theorem l109 (l : Sl House) (hB : l.len < Big) : ∀ n i fu, l.len = i + n → n < fu →
  L109x0 (E F (d + 3)) F l fu (i : Int) = some (.ret (.int .i64 (ixF (fun k => !decide (HouseOk (l.el k))) n i))) := by
 intro n
 induction n with
 | zero =>
  intro i fu h hf
  obtain ⟨fu, rfl⟩ : ∃ k, fu = k + 1 := ⟨fu - 1, by omega⟩
  rw [L109x0s]
  simp only [Int.ofNat_lt, show ¬ i < l.len by omega, decide_false, cond_false, ixF]
 | succ n ih =>
  intro i fu h hf
  obtain ⟨fu, rfl⟩ : ∃ k, fu = k + 1 := ⟨fu - 1, by omega⟩
  rw [L109x0s]
  simp only [Int.ofNat_lt, show i < l.len by omega, decide_true, cond_true, Int.natCast_nonneg, Int.toNat_natCast, s83, tkOut_ret, tkBool_b, wrS (show i < Big by omega), ih (i + 1) fu (by omega) (by omega), ixF]
  cases decide (HouseOk (l.el i)) <;> rfl
theorem l110 (l : Sl Stt) (hB : l.len < Big) : ∀ n i fu, l.len = i + n → n < fu →
  L110x0 (E F (d + 3)) F l fu (i : Int) = some (.ret (.int .i64 (ixF (fun k => !decide (SttOk (l.el k))) n i))) := by
 intro n
 induction n with
 | zero =>
  intro i fu h hf
  obtain ⟨fu, rfl⟩ : ∃ k, fu = k + 1 := ⟨fu - 1, by omega⟩
  rw [L110x0s]
  simp only [Int.ofNat_lt, show ¬ i < l.len by omega, decide_false, cond_false, ixF]
 | succ n ih =>
  intro i fu h hf
  obtain ⟨fu, rfl⟩ : ∃ k, fu = k + 1 := ⟨fu - 1, by omega⟩
  rw [L110x0s]
  simp only [Int.ofNat_lt, show i < l.len by omega, decide_true, cond_true, Int.natCast_nonneg, Int.toNat_natCast, s85, tkOut_ret, tkBool_b, wrS (show i < Big by omega), ih (i + 1) fu (by omega) (by omega), ixF]
  cases decide (SttOk (l.el i)) <;> rfl
theorem l111 (l : Sl Span) (m : Int) (hB : l.len < Big) : ∀ n i fu, l.len = i + n → n < fu →
  L111x0 (E F (d + 2)) F l m fu (i : Int) = some (.ret (.int .i64 (ixF (fun k => !decide (SpanIn (l.el k) 0 m)) n i))) := by
 intro n
 induction n with
 | zero =>
  intro i fu h hf
  obtain ⟨fu, rfl⟩ : ∃ k, fu = k + 1 := ⟨fu - 1, by omega⟩
  rw [L111x0s]
  simp only [Int.ofNat_lt, show ¬ i < l.len by omega, decide_false, cond_false, ixF]
 | succ n ih =>
  intro i fu h hf
  obtain ⟨fu, rfl⟩ : ∃ k, fu = k + 1 := ⟨fu - 1, by omega⟩
  rw [L111x0s]
  simp only [Int.ofNat_lt, show i < l.len by omega, decide_true, cond_true, Int.natCast_nonneg, Int.toNat_natCast, s89, tkOut_ret, tkBool_b, wrS (show i < Big by omega), ih (i + 1) fu (by omega) (by omega), ixF]
  cases decide (SpanIn (l.el i) 0 m) <;> rfl
theorem s80 (l : Sl Cav) (c : Cav) (hB : l.len < Big) (hF : l.len < F) : (E F (d + 3)).pf 59 [sl eCav 11 l, .fn (.func 60) [] [.rptr 1 11 (fun _ => eCav c) 0 0]] = some (.ret (.bool (!decide (∀ i, i < l.len → ¬ ((l.el i).x = c.x ∧ (l.el i).y = c.y))))) := by
 rw [E_pf, t80, E_pf, t108, show L108x0 (E F (d + 1)) F l c F 0 = _ from l108 F d l c hB l.len 0 F (by omega) hF]
 simp only [tkOut_ret, tkInt_i, decide_true, cond_true, ge_iff_le]
 refine b3 (Bool.not_inj ?_)
 rw [Bool.not_not]
 exact (ge0 _ _).trans (by simp only [decide_eq_false_iff_not])
theorem s82 (l : Sl House) (hB : l.len < Big) (hF : l.len < F) : (E F (d + 5)).pf 61 [sl eHouse 3 l, .fn (.func 62) [] []] = some (.ret (.bool (!decide (∀ i, i < l.len → HouseOk (l.el i))))) := by
 rw [E_pf, t82, E_pf, t109, show L109x0 (E F (d + 3)) F l F 0 = _ from l109 F d l hB l.len 0 F (by omega) hF]
 simp only [tkOut_ret, tkInt_i, decide_true, cond_true, ge_iff_le]
 refine b3 (Bool.not_inj ?_)
 rw [Bool.not_not]
 exact (ge0 _ _).trans (by simp only [Bool.not_eq_false', decide_eq_true_eq])
theorem s84 (l : Sl Stt) (hB : l.len < Big) (hF : l.len < F) : (E F (d + 5)).pf 81 [sl eStt 6 l, .fn (.func 82) [] []] = some (.ret (.bool (!decide (∀ i, i < l.len → SttOk (l.el i))))) := by
 rw [E_pf, t84, E_pf, t110, show L110x0 (E F (d + 3)) F l F 0 = _ from l110 F d l hB l.len 0 F (by omega) hF]
 simp only [tkOut_ret, tkInt_i, decide_true, cond_true, ge_iff_le]
 refine b3 (Bool.not_inj ?_)
 rw [Bool.not_not]
 exact (ge0 _ _).trans (by simp only [Bool.not_eq_false', decide_eq_true_eq])
theorem s88 (l : Sl Span) (m : Int) (hB : l.len < Big) (hF : l.len < F) : (E F (d + 4)).pf 79 [sl eSpan 2 l, .fn (.func 80) [] [.rptr 1 1 (fun _ => [.int .i64 m]) 0 0]] = some (.ret (.bool (!decide (∀ i, i < l.len → SpanIn (l.el i) 0 m)))) := by
 rw [E_pf, t88, E_pf, t111, show L111x0 (E F (d + 2)) F l m F 0 = _ from l111 F d l m hB l.len 0 F (by omega) hF]
 simp only [tkOut_ret, tkInt_i, decide_true, cond_true, ge_iff_le]
 refine b3 (Bool.not_inj ?_)
 rw [Bool.not_not]
 exact (ge0 _ _).trans (by simp only [Bool.not_eq_false', decide_eq_true_eq])
abbrev StatesOk (s : Site) (l : Sl Stt) : Prop := l.len = s.cavs.len ∧ ∀ i, i < l.len → SttOk (l.el i)
abbrev DayOk (s : Site) (d : Day) : Prop := (d.press.len = s.cavs.len ∧ ∀ i, i < d.press.len → SpanIn (d.press.el i) 0 50000) ∧ d.warm.len = s.cavs.len ∧ ∀ i, i < d.warm.len → SpanIn (d.warm.el i) 0 10000
theorem beqN (a b : Nat) : (((a : Nat) : Int) == ((b : Nat) : Int)) = decide (a = b) := by
 apply b2; simp only [beq_iff_eq, decide_eq_true_eq]; omega
theorem s49 (s : Site) (l : Sl Stt) (hB : l.len < Big) (hF : l.len < F) : (E F (d + 6)).pf 51 [.agg (eSite s), sl eStt 6 l] = some (.ret (.bool (decide (StatesOk s l)))) := by
 rw [E_pf, t49]
 simp only [s84 F _ l hB hF, tkOut_ret, tkBool_b, Bool.not_not, cAnd, beqN, Bool.decide_and]
theorem s87 (l : Sl Span) (m : Int) (s : Site) (hB : l.len < Big) (hF : l.len < F) : (E F (d + 5)).pf 78 [sl eSpan 2 l, .int .i64 m, pSite s] = some (.ret (.bool (decide (l.len = s.cavs.len ∧ ∀ i, i < l.len → SpanIn (l.el i) 0 m)))) := by
 rw [E_pf, t87]
 simp only [s88 F _ l m hB hF, tkOut_ret, tkBool_b, Bool.not_not, cAnd, beqN, Bool.decide_and]
theorem s50 (s : Site) (y : Day) (hB : y.press.len < Big) (hB' : y.warm.len < Big) (hF : y.press.len < F) (hF' : y.warm.len < F) : (E F (d + 6)).pf 47 [.agg (eSite s), .agg (eDay y)] = some (.ret (.bool (decide (DayOk s y)))) := by
 rw [E_pf, t50]
 simp only [Nat.reduceAdd, s87 F _ y.press _ s hB hF, s87 F _ y.warm _ s hB' hF', tkOut_ret, tkBool_b, cAnd, Bool.decide_and]
end Go.Sim.Cr


namespace Go.Sim.Cr
open Go.Proofs
variable (F d : Nat)
def allF (p : Nat → Bool) (z : Bool) : Nat → Nat → Bool
 | 0, _ => z
 | n + 1, i => p i && allF p z n (i + 1)
theorem allF_eq (p : Nat → Bool) (z : Bool) : ∀ n i, allF p z n i = true ↔ (∀ k, i ≤ k → k < i + n → p k = true) ∧ z = true := by
 intro n
 induction n with
 | zero => intro i; simp only [allF]; exact ⟨fun h => ⟨fun k h1 h2 => by omega, h⟩, fun h => h.2⟩
 | succ n ih =>
  intro i
  simp only [allF, Bool.and_eq_true, ih]
  constructor
  ·rintro ⟨h1, h2, h3⟩
   refine ⟨fun k h4 h5 => ?_, h3⟩
   rcases Nat.eq_or_lt_of_le h4 with rfl | h6
   ·exact h1
   ·exact h2 k (by omega) (by omega)
  ·rintro ⟨h1, h2⟩
   exact ⟨h1 i (by omega) (by omega), fun k h3 h4 => h1 k (by omega) (by omega), h2⟩
theorem allF_0 (p : Nat → Bool) (z : Bool) (n : Nat) : allF p z n 0 = true ↔ (∀ k, k < n → p k = true) ∧ z = true := by
 rw [allF_eq]
 exact ⟨fun h => ⟨fun k hk => h.1 k (by omega) (by omega), h.2⟩, fun h => ⟨fun k _ hk => h.1 k (by omega), h.2⟩⟩
theorem s11 (s : Site) : (E F (d + 1)).pf 5 [.agg (eSite s)] = some (.ret (.bool (decide (s.cavs.len ≤ 10 ∧ s.rows.len ≤ 12 ∧ s.heats.len ≤ 12 ∧ s.rings.len ≤ 12 ∧ s.houses.len ≤ 10)))) := by
 rw [E_pf, t11]
 simp only [cAnd, Bool.decide_and, show ∀ k : Nat, ((k : Int) ≤ 10) ↔ k ≤ 10 by omega, show ∀ k : Nat, ((k : Int) ≤ 12) ↔ k ≤ 12 by omega]
theorem bneN (a b : Nat) : (((a : Nat) : Int) != ((b : Nat) : Int)) = !decide (a = b) := by rw [bne, beqN]
abbrev SameStt (a b : Stt) : Prop := a.rad.lo = b.rad.lo ∧ a.rad.hi = b.rad.hi ∧ a.vol.lo = b.vol.lo ∧ a.vol.hi = b.vol.hi ∧ a.lost.lo = b.lost.lo ∧ a.lost.hi = b.lost.hi
theorem beqI (a b : Int) : (a == b) = decide (a = b) := rfl
end Go.Sim.Cr


namespace Go.Sim.Cr
open Go.Proofs
variable (F d : Nat)
theorem mulB {a b A B : Int} (ha : 0 ≤ a ∧ a ≤ A) (hb : 0 ≤ b ∧ b ≤ B) : 0 ≤ a * b ∧ a * b ≤ A * B :=
 ⟨Int.mul_nonneg ha.1 hb.1, Int.mul_le_mul ha.2 hb.2 hb.1 (Int.le_trans ha.1 ha.2)⟩
theorem sqB {u A : Int} (h : -A ≤ u ∧ u ≤ A) : 0 ≤ u * u ∧ u * u ≤ A * A := by
 rcases Int.le_total 0 u with h0 | h0
 ·exact mulB ⟨h0, h.2⟩ ⟨h0, h.2⟩
 ·have := @mulB (-u) (-u) A A ⟨by omega, by omega⟩ ⟨by omega, by omega⟩
  rwa [Int.neg_mul_neg] at this
def dist2 (c : Cav) (x y : Int) : Int := (c.x - x) * (c.x - x) + (c.y - y) * (c.y - y)
def ringFrom (s : Site) (c : Cav) (x y : Int) : Nat → Nat → Option Span
 | 0, _ => none
 | n + 1, i => bif decide (dist2 c x y ≤ (s.rings.el i).away * (s.rings.el i).away) then some (s.rings.el i).share else ringFrom s c x y n (i + 1)
def ringOf (s : Site) (c : Cav) (x y : Int) : Option Span := ringFrom s c x y s.rings.len 0
abbrev AwayOk (s : Site) : Prop := ∀ i, i < s.rings.len → 0 ≤ (s.rings.el i).away ∧ (s.rings.el i).away ≤ 40000
abbrev zSpan : Span := ⟨0, 0⟩
theorem dist_wr (c : Cav) (x y : Int) (hc : Place c.x c.y) (hp : Place x y) :
  IntKind.i64.wrap (c.x - x) = c.x - x ∧ IntKind.i64.wrap (c.y - y) = c.y - y ∧ IntKind.i64.wrap ((c.x - x) * (c.x - x)) = (c.x - x) * (c.x - x) ∧ IntKind.i64.wrap ((c.y - y) * (c.y - y)) = (c.y - y) * (c.y - y) ∧
  IntKind.i64.wrap ((c.x - x) * (c.x - x) + (c.y - y) * (c.y - y)) = dist2 c x y := by
 have h1 := @sqB (c.x - x) 20000 (by omega)
 have h2 := @sqB (c.y - y) 20000 (by omega)
 exact ⟨wr (by omega), wr (by omega), wr (by omega), wr (by omega), wr (by omega)⟩
theorem l29 (s : Site) (c : Nat) (x y : Int) (ha : AwayOk s) (hc : Place (s.cavs.el c).x (s.cavs.el c).y) (hp : Place x y) (hB : s.rings.len < Big) : ∀ n i fu, s.rings.len = i + n → n < fu →
  L29x0 (E F d) F s (c : Int) x y fu (i : Int) = some (.ret (match ringFrom s (s.cavs.el c) x y n i with
   | some q => .tup [.agg (eSpan q), .bool true]
   | none => .tup [.agg [.int .i64 0, .int .i64 0], .bool false])) := by
 obtain ⟨w1, w2, w3, w4, w5⟩ := dist_wr _ _ _ hc hp
 intro n
 induction n with
 | zero =>
  intro i fu h hf
  obtain ⟨fu, rfl⟩ : ∃ k, fu = k + 1 := ⟨fu - 1, by omega⟩
  rw [L29x0s]
  simp only [Int.ofNat_lt, show ¬ i < s.rings.len by omega, decide_false, cond_false, ringFrom]
 | succ n ih =>
  intro i fu h hf
  obtain ⟨fu, rfl⟩ : ∃ k, fu = k + 1 := ⟨fu - 1, by omega⟩
  rw [L29x0s]
  have h1 := @sqB (s.rings.el i).away 40000 (by have := ha i (by omega); omega)
  simp only [Int.toNat_natCast, w1, w2, w3, w4, w5, Int.ofNat_lt, show i < s.rings.len by omega, decide_true, cond_true, Int.natCast_nonneg, wr (show _ ∧ (s.rings.el i).away * (s.rings.el i).away ≤ _ by omega), wrS (show i < Big by omega), ih (i + 1) fu (by omega) (by omega), ringFrom, ge_iff_le]
  cases decide (dist2 (s.cavs.el c) x y ≤ (s.rings.el i).away * (s.rings.el i).away) <;> rfl
theorem s29 (s : Site) (c : Nat) (x y : Int) (ha : AwayOk s) (hlt : c < s.cavs.len) (hc : Place (s.cavs.el c).x (s.cavs.el c).y) (hp : Place x y) (hB : s.rings.len < Big) (hF : s.rings.len < F) :
  (E F (d + 1)).pf 139 [.agg (eSite s), .int .i64 (c : Int), .int .i64 x, .int .i64 y] = some (.ret (match ringOf s (s.cavs.el c) x y with
   | some q => .tup [.agg (eSpan q), .bool true]
   | none => .tup [.agg [.int .i64 0, .int .i64 0], .bool false])) := by
 rw [E_pf, t29, show L29x0 (E F d) F s (c : Int) x y F 0 = _ from l29 F d s c x y ha hc hp hB s.rings.len 0 F (by omega) hF]
 simp only [Int.natCast_nonneg, Int.ofNat_lt, hlt, decide_true, cond_true]
 rfl
theorem l92 (s : Site) (c : Cav) (x y : Int) (ha : AwayOk s) (hc : Place c.x c.y) (hp : Place x y) (hB : s.rings.len < Big) : ∀ n i fu, s.rings.len = i + n → n < fu →
  L92x0 (E F d) F s c x y fu (i : Int) = some (.ret (.agg (eSpan ((ringFrom s c x y n i).getD zSpan)))) := by
 obtain ⟨w1, w2, w3, w4, w5⟩ := dist_wr _ _ _ hc hp
 intro n
 induction n with
 | zero =>
  intro i fu h hf
  obtain ⟨fu, rfl⟩ : ∃ k, fu = k + 1 := ⟨fu - 1, by omega⟩
  rw [L92x0s]
  simp only [Int.ofNat_lt, show ¬ i < s.rings.len by omega, decide_false, cond_false, ringFrom]
  rfl
 | succ n ih =>
  intro i fu h hf
  obtain ⟨fu, rfl⟩ : ∃ k, fu = k + 1 := ⟨fu - 1, by omega⟩
  rw [L92x0s]
  have h1 := @sqB (s.rings.el i).away 40000 (by have := ha i (by omega); omega)
  simp only [Int.toNat_natCast, w1, w2, w3, w4, w5, Int.ofNat_lt, show i < s.rings.len by omega, decide_true, cond_true, Int.natCast_nonneg, wr (show _ ∧ (s.rings.el i).away * (s.rings.el i).away ≤ _ by omega), wrS (show i < Big by omega), ih (i + 1) fu (by omega) (by omega), ringFrom, ge_iff_le]
  cases decide (dist2 c x y ≤ (s.rings.el i).away * (s.rings.el i).away) <;> rfl
theorem s92 (s : Site) (c : Cav) (x y : Int) (ha : AwayOk s) (hc : Place c.x c.y) (hp : Place x y) (hB : s.rings.len < Big) (hF : s.rings.len < F) :
  (E F (d + 1)).pf 85 [pSite s, .agg (eCav c), .int .i64 x, .int .i64 y] = some (.ret (.agg (eSpan ((ringOf s c x y).getD zSpan)))) := by
 rw [E_pf, t92, show L92x0 (E F d) F s c x y F 0 = _ from l92 F d s c x y ha hc hp hB s.rings.len 0 F (by omega) hF]
 rfl
theorem mid_wr {i j : Int} (h1 : -2305843009213693952 ≤ i) (h2 : i ≤ j) (h3 : j ≤ 2305843009213693952) : IntKind.i64.wrap (i + IntKind.i64.wrap (Int.tdiv (IntKind.i64.wrap (j - i)) 2)) = i + (j - i) / 2 := by
 rw [wr (show _ ∧ j - i ≤ _ by omega), Int.tdiv_eq_ediv_of_nonneg (by omega), wr (show _ ∧ (j - i) / 2 ≤ _ by omega), wr (by omega)]
theorem firstLaw (L : Nat → Int → Int → Option Out) (p : Int → Bool) (lo hi : Int)
  (hstep : ∀ fu i j, lo ≤ i → i ≤ j → j ≤ hi → L (fu + 1) i j = bif decide (i < j) then (bif p (i + (j - i) / 2) then L fu i (i + (j - i) / 2) else L fu (i + (j - i) / 2 + 1) j) else some (.ret (.int .i64 i))) :
  ∀ k fu i j, (j - i).toNat ≤ k → k < fu → lo ≤ i → i ≤ j → j ≤ hi → ∃ r, L fu i j = some (.ret (.int .i64 r)) ∧ i ≤ r ∧ r ≤ j ∧ (r < j → p r = true) ∧ (i < r → p (r - 1) = false) := by
 intro k
 induction k with
 | zero =>
  intro fu i j h hf h1 h2 h3
  obtain ⟨fu, rfl⟩ : ∃ k, fu = k + 1 := ⟨fu - 1, by omega⟩
  refine ⟨i, ?_, by omega, by omega, fun h => by omega, fun h => by omega⟩
  rw [hstep _ _ _ h1 h2 h3, decide_eq_false (by omega), cond_false]
 | succ k ih =>
  intro fu i j h hf h1 h2 h3
  obtain ⟨fu, rfl⟩ : ∃ k, fu = k + 1 := ⟨fu - 1, by omega⟩
  by_cases hij : i < j
  ·rw [hstep _ _ _ h1 h2 h3, decide_eq_true hij, cond_true]
   cases hp : p (i + (j - i) / 2)
   ·rw [cond_false]
    obtain ⟨r, e, r1, r2, r3, r4⟩ := ih fu (i + (j - i) / 2 + 1) j (by omega) (by omega) (by omega) (by omega) (by omega)
    refine ⟨r, e, by omega, r2, r3, fun _ => ?_⟩
    rcases Int.lt_or_eq_of_le r1 with hlt | heq
    ·exact r4 hlt
    ·rw [← heq, show i + (j - i) / 2 + 1 - 1 = i + (j - i) / 2 by omega]; exact hp
   ·rw [cond_true]
    obtain ⟨r, e, r1, r2, r3, r4⟩ := ih fu i (i + (j - i) / 2) (by omega) (by omega) (by omega) (by omega) (by omega)
    refine ⟨r, e, r1, by omega, fun _ => ?_, r4⟩
    rcases Int.lt_or_eq_of_le r2 with hlt | heq
    ·exact r3 hlt
    ·rw [heq]; exact hp
  ·refine ⟨i, ?_, by omega, by omega, fun h => by omega, fun h => by omega⟩
   rw [hstep _ _ _ h1 h2 h3, decide_eq_false hij, cond_false]
abbrev IsRoot (n r : Int) : Prop := 0 ≤ r ∧ r * r ≤ n ∧ n < (r + 1) * (r + 1)
theorem isRoot_uniq {n r q : Int} (h : IsRoot n r) (g : IsRoot n q) : r = q := by
 have key : ∀ {a b : Int}, IsRoot n a → IsRoot n b → ¬ a < b := by
  intro a b h g hlt
  have := Int.mul_le_mul (show a + 1 ≤ b by omega) (show a + 1 ≤ b by omega) (by omega) (by omega)
  omega
 have h1 := key h g
 have h2 := key g h
 omega
def rootGo (n : Int) : Nat → Int → Int
 | 0, r => r
 | k + 1, r => bif decide ((r + ((2 ^ k : Nat) : Int)) * (r + ((2 ^ k : Nat) : Int)) ≤ n) then rootGo n k (r + ((2 ^ k : Nat) : Int)) else rootGo n k r
theorem rootGo_ok {n : Int} : ∀ {k : Nat} {r : Int}, 0 ≤ r → r * r ≤ n → n < (r + ((2 ^ k : Nat) : Int)) * (r + ((2 ^ k : Nat) : Int)) → IsRoot n (rootGo n k r) := by
 intro k
 induction k with
 | zero => intro r h0 h1 h2; exact ⟨h0, h1, h2⟩
 | succ k ih =>
  intro r h0 h1 h2
  unfold rootGo
  by_cases h : (r + ((2 ^ k : Nat) : Int)) * (r + ((2 ^ k : Nat) : Int)) ≤ n
  ·rw [decide_eq_true h, cond_true]
   have hp : (0 : Int) ≤ ((2 ^ k : Nat) : Int) := Int.natCast_nonneg _
   refine ih (Int.add_nonneg h0 hp) h ?_
   rw [show r + ((2 ^ k : Nat) : Int) + ((2 ^ k : Nat) : Int) = r + ((2 ^ (k + 1) : Nat) : Int) by rw [Nat.pow_succ]; omega]
   exact h2
  ·rw [decide_eq_false h, cond_false]
   exact ih h0 h1 (by omega)
def rootI (n : Int) : Int := rootGo n 40 0
theorem rootI_eq {n r : Int} (h : IsRoot n r) (hr : r < 1099511627776) : rootI n = r := by
 have h2 := Int.mul_le_mul (show r + 1 ≤ 1099511627776 by omega) (show r + 1 ≤ 1099511627776 by omega) (by omega) (by omega)
 have h3 := Int.mul_nonneg h.1 h.1
 refine isRoot_uniq (rootGo_ok (k := 40) (r := 0) (Int.le_refl 0) (by omega) ?_) h
 rw [show (0 : Int) + ((2 ^ 40 : Nat) : Int) = 1099511627776 by decide]
 omega
theorem s115 (x n : Int) (hx : 0 ≤ x ∧ x ≤ 67108864) : (E F (d + 1)).pf 100 [.int .i64 x, .rptr 1 1 (fun _ => [.int .i64 n]) 0 0] = some (.ret (.bool (decide (n < x * x)))) := by
 have h := mulB hx hx
 rw [E_pf, t115, wr (by omega)]
theorem s105 (n : Int) (h0 : 0 ≤ n) (h1 : n < 67108863 * 67108863) (hF : 67108864 < F) : (E F (d + 3)).pf 84 [.int .i64 n] = some (.ret (.int .i64 (rootI n))) ∧ IsRoot n (rootI n) := by
 obtain ⟨r, e, r1, r2, r3, r4⟩ := firstLaw (fun fu i j => L7601x0 (E F (d + 1)) F 1 67108864 n fu i j) (fun x => decide (n < x * x)) 1 67108864 (by
  intro fu i j a1 a2 a3
  rw [L7601x0s]
  by_cases hij : i < j
  ·simp only [mid_wr (show -2305843009213693952 ≤ i by omega) a2 (by omega), wr (show _ ∧ i + (j - i) / 2 + 1 ≤ _ by omega), s115 F d _ n (show 0 ≤ i + (j - i) / 2 ∧ _ by omega), tkOut_ret, tkBool_b]
  ·simp only [hij, decide_false, cond_false]) 67108863 F 1 67108864 (by omega) (by omega) (by omega) (by omega) (by omega)
 have hr : IsRoot n (r - 1) := by
  refine ⟨by omega, ?_, ?_⟩
  ·by_cases h : 1 < r
   ·have := of_decide_eq_false (r4 h); omega
   ·have : r - 1 = 0 := by omega
    rw [this]; omega
  ·rw [show r - 1 + 1 = r by omega]
   by_cases h : r < 67108864
   ·exact of_decide_eq_true (r3 h)
   ·have : r = 67108864 := by omega
    rw [this]; omega
 refine ⟨?_, rootI_eq hr (by omega) ▸ hr⟩
 have e' : L7601x0 (E F (d + 1)) F 1 67108864 n F 1 67108864 = _ := e
 rw [E_pf, t105, E_pf, t7601, e']
 simp only [tkOut_ret, tkInt_i, decide_true, cond_true]
 rw [wr (by omega), rootI_eq hr (by omega)]
theorem l104 (n : Int) (h0 : 0 ≤ n) (h1 : n < 2147483648 * 2147483648) : ∀ k fu i j, (j - i).toNat ≤ k → k < fu → 0 ≤ i → i ≤ j → j ≤ 2147483648 → i * i ≤ n → n < (j + 1) * (j + 1) →
  L104x0 (E F d) F n fu i j = some (.ret (.int .i64 (rootI n))) ∧ IsRoot n (rootI n) := by
 intro k
 induction k with
 | zero =>
  intro fu i j h hf g0 g1 g2 g3 g4
  obtain ⟨fu, rfl⟩ : ∃ k, fu = k + 1 := ⟨fu - 1, by omega⟩
  have : j = i := by omega
  subst this
  have hr : IsRoot n j := ⟨g0, g3, g4⟩
  rw [L104x0s, rootI_eq hr (by omega), decide_eq_false (by omega), cond_false]
  exact ⟨rfl, hr⟩
 | succ k ih =>
  intro fu i j h hf g0 g1 g2 g3 g4
  obtain ⟨fu, rfl⟩ : ∃ k, fu = k + 1 := ⟨fu - 1, by omega⟩
  rw [L104x0s]
  by_cases hij : i < j
  ·have hm : IntKind.i64.wrap (Int.tdiv (IntKind.i64.wrap (IntKind.i64.wrap (i + j) + 1)) 2) = (i + j + 1) / 2 := by
    rw [wr (show _ ∧ i + j ≤ _ by omega), wr (show _ ∧ i + j + 1 ≤ _ by omega), Int.tdiv_eq_ediv_of_nonneg (by omega), wr (by omega)]
   have hmm := @mulB ((i + j + 1) / 2) ((i + j + 1) / 2) 2147483648 2147483648 (by omega) (by omega)
   rw [hm, wr (show _ ∧ (i + j + 1) / 2 * ((i + j + 1) / 2) ≤ _ by omega), wr (show _ ∧ (i + j + 1) / 2 - 1 ≤ _ by omega), decide_eq_true hij, cond_true]
   by_cases hc : (i + j + 1) / 2 * ((i + j + 1) / 2) ≤ n
   ·rw [decide_eq_true hc, cond_true]
    exact ih fu _ _ (by omega) (by omega) (by omega) (by omega) (by omega) hc g4
   ·rw [decide_eq_false hc, cond_false]
    refine ih fu _ _ (by omega) (by omega) (by omega) (by omega) (by omega) g3 ?_
    rw [show (i + j + 1) / 2 - 1 + 1 = (i + j + 1) / 2 by omega]; omega
  ·have : j = i := by omega
   subst this
   have hr : IsRoot n j := ⟨g0, g3, g4⟩
   rw [rootI_eq hr (by omega), decide_eq_false (by omega), cond_false]
   exact ⟨rfl, hr⟩
theorem s104 (n : Int) (h0 : 0 ≤ n) (h1 : n < 2147483648 * 2147483648) (hF : 2147483648 < F) : (E F (d + 1)).pf 142 [.int .i64 n] = some (.ret (.int .i64 (rootI n))) := by
 rw [E_pf, t104]
 exact (l104 F d n h0 h1 2147483648 F 0 2147483648 (by omega) hF (by omega) (by omega) (by omega) (by omega) (by omega)).1
def distI (a b : Cav) : Int := rootI (1000 * (a.x - b.x) * (1000 * (a.x - b.x)) + 1000 * (a.y - b.y) * (1000 * (a.y - b.y)))
theorem wall_wr (a b : Cav) (ha : Place a.x a.y) (hb : Place b.x b.y) :
  IntKind.i64.wrap (a.x - b.x) = a.x - b.x ∧ IntKind.i64.wrap (a.y - b.y) = a.y - b.y ∧ IntKind.i64.wrap (1000 * (a.x - b.x)) = 1000 * (a.x - b.x) ∧ IntKind.i64.wrap (1000 * (a.y - b.y)) = 1000 * (a.y - b.y) ∧
  IntKind.i64.wrap (1000 * (a.x - b.x) * (1000 * (a.x - b.x))) = 1000 * (a.x - b.x) * (1000 * (a.x - b.x)) ∧ IntKind.i64.wrap (1000 * (a.y - b.y) * (1000 * (a.y - b.y))) = 1000 * (a.y - b.y) * (1000 * (a.y - b.y)) ∧
  IntKind.i64.wrap (1000 * (a.x - b.x) * (1000 * (a.x - b.x)) + 1000 * (a.y - b.y) * (1000 * (a.y - b.y))) = 1000 * (a.x - b.x) * (1000 * (a.x - b.x)) + 1000 * (a.y - b.y) * (1000 * (a.y - b.y)) ∧
  0 ≤ 1000 * (a.x - b.x) * (1000 * (a.x - b.x)) + 1000 * (a.y - b.y) * (1000 * (a.y - b.y)) ∧ 1000 * (a.x - b.x) * (1000 * (a.x - b.x)) + 1000 * (a.y - b.y) * (1000 * (a.y - b.y)) < 67108863 * 67108863 := by
 have h1 := @sqB (1000 * (a.x - b.x)) 20000000 (by omega)
 have h2 := @sqB (1000 * (a.y - b.y)) 20000000 (by omega)
 exact ⟨wr (by omega), wr (by omega), wr (by omega), wr (by omega), wr (by omega), wr (by omega), wr (by omega), by omega, by omega⟩
theorem distI_le (a b : Cav) (ha : Place a.x a.y) (hb : Place b.x b.y) : 0 ≤ distI a b ∧ distI a b < 67108863 := by
 obtain ⟨_, _, _, _, _, _, _, w8, w9⟩ := wall_wr a b ha hb
 obtain ⟨_, h1, h2, h3⟩ := s105 67108865 0 _ w8 w9 (by omega)
 refine ⟨h1, Int.not_le.1 fun h => ?_⟩
 have := Int.mul_le_mul h h (by omega) h1
 unfold distI at this
 omega
theorem s73 (s : Site) (i j : Nat) (a b : Int) (hi : i < s.cavs.len) (hj : j < s.cavs.len) (pi : Place (s.cavs.el i).x (s.cavs.el i).y) (pj : Place (s.cavs.el j).x (s.cavs.el j).y)
  (ha : 0 ≤ a ∧ a ≤ 1000000) (hb : 0 ≤ b ∧ b ≤ 1000000) (hF : 67108864 < F) :
  (E F (d + 4)).pf 52 [pSite s, .int .i64 (i : Int), .int .i64 (j : Int), .int .i64 a, .int .i64 b] = some (.ret (.int .i64 (distI (s.cavs.el i) (s.cavs.el j) - a - b))) := by
 obtain ⟨w1, w2, w3, w4, w5, w6, w7, w8, w9⟩ := wall_wr _ _ pi pj
 have hd := distI_le _ _ pi pj
 rw [E_pf, t73]
 simp only [Int.natCast_nonneg, Int.ofNat_lt, hi, hj, decide_true, cond_true, Int.toNat_natCast, w1, w2, w3, w4, w5, w6, w7, (s105 F d _ w8 w9 hF).1, tkOut_ret, tkInt_i]
 refine congrArg (fun x => some (Out.ret (.int .i64 x))) ?_
 unfold distI at hd ⊢
 rw [wr (show _ ∧ rootI _ - a ≤ _ by omega), wr (by omega)]
theorem s71 (s : Site) (i j : Nat) (hi : i < s.cavs.len) (hj : j < s.cavs.len) (pi : Place (s.cavs.el i).x (s.cavs.el i).y) (pj : Place (s.cavs.el j).x (s.cavs.el j).y) (hF : 2147483648 < F) :
  (E F (d + 2)).pf 138 [.agg (eSite s), .int .i64 (i : Int), .int .i64 (j : Int)] = some (.ret (.int .i64 (distI (s.cavs.el i) (s.cavs.el j)))) := by
 obtain ⟨w1, w2, w3, w4, w5, w6, w7, w8, w9⟩ := wall_wr _ _ pi pj
 rw [E_pf, t71]
 simp only [Int.natCast_nonneg, Int.ofNat_lt, hi, hj, decide_true, cond_true, Int.toNat_natCast, w1, w2, w3, w4, w5, w6, w7, s104 F d _ w8 (by omega) hF, tkOut_ret, tkInt_i]
 rfl
theorem s40 (s : Site) (i j : Nat) (p q : Span) (hi : i < s.cavs.len) (hj : j < s.cavs.len) (pi : Place (s.cavs.el i).x (s.cavs.el i).y) (pj : Place (s.cavs.el j).x (s.cavs.el j).y)
  (hp : SpanIn p 0 1000000) (hq : SpanIn q 0 1000000) (hF : 2147483648 < F) :
  (E F (d + 3)).pf 129 [.agg (eSite s), .int .i64 (i : Int), .int .i64 (j : Int), .agg (eSpan p), .agg (eSpan q)] =
   some (.ret (.agg [.int .i64 (distI (s.cavs.el i) (s.cavs.el j) - p.hi - q.hi), .int .i64 (distI (s.cavs.el i) (s.cavs.el j) - p.lo - q.lo)])) := by
 have hd := distI_le _ _ pi pj
 rw [E_pf, t40]
 simp only [s71 F d s i j hi hj pi pj hF, tkOut_ret, tkInt_i, decide_true, cond_true]
 rw [wr (show _ ∧ distI (s.cavs.el i) (s.cavs.el j) - p.hi ≤ _ by omega), wr (show _ ∧ distI (s.cavs.el i) (s.cavs.el j) - p.lo ≤ _ by omega), wr (show _ ∧ distI (s.cavs.el i) (s.cavs.el j) - p.hi - q.hi ≤ _ by omega), wr (show _ ∧ distI (s.cavs.el i) (s.cavs.el j) - p.lo - q.lo ≤ _ by omega)]
end Go.Sim.Cr


namespace Go.Sim.Cr
open Go.Proofs
variable (F d : Nat)
def rowStep (s : Site) : Nat → Bool
 | 0 => decide ((s.rows.el 0).deficit = 0)
 | j + 1 => decide ((s.rows.el j).deficit < (s.rows.el (j + 1)).deficit) && (decide ((s.rows.el j).rate.lo ≤ (s.rows.el (j + 1)).rate.lo ∧ (s.rows.el j).rate.hi ≤ (s.rows.el (j + 1)).rate.hi) &&
   decide ((s.rows.el j).spall.lo ≤ (s.rows.el (j + 1)).spall.lo ∧ (s.rows.el j).spall.hi ≤ (s.rows.el (j + 1)).spall.hi))
def rowB (s : Site) (i : Nat) : Bool := decide (0 ≤ (s.rows.el i).deficit ∧ (s.rows.el i).deficit ≤ 50000) && (decide (SpanIn (s.rows.el i).rate 0 100000) && (decide (SpanIn (s.rows.el i).spall 0 1000) && rowStep s i))
def heatStep (s : Site) : Nat → Bool
 | 0 => true
 | j + 1 => decide ((s.heats.el j).warmth < (s.heats.el (j + 1)).warmth) && decide ((s.heats.el j).factor.lo ≤ (s.heats.el (j + 1)).factor.lo ∧ (s.heats.el j).factor.hi ≤ (s.heats.el (j + 1)).factor.hi)
def heatB (s : Site) (i : Nat) : Bool := decide (0 ≤ (s.heats.el i).warmth ∧ (s.heats.el i).warmth ≤ 10000) && (decide (SpanIn (s.heats.el i).factor 0 10000) && heatStep s i)
def ringStep (s : Site) : Nat → Bool
 | 0 => true
 | j + 1 => decide ((s.rings.el j).away < (s.rings.el (j + 1)).away)
def ringB (s : Site) (i : Nat) : Bool := decide (0 ≤ (s.rings.el i).away ∧ (s.rings.el i).away ≤ 40000) && (decide (SpanIn (s.rings.el i).share 0 1000000) && ringStep s i)
def lens (s : Site) : Bool := decide ((1 ≤ s.rows.len ∧ s.rows.len ≤ 8) ∧ (1 ≤ s.heats.len ∧ s.heats.len ≤ 8) ∧ s.rings.len ≤ 8)
def tablesB (s : Site) : Bool := allF (rowB s) (allF (heatB s) (allF (ringB s) (lens s) s.rings.len 0) s.heats.len 0) s.rows.len 0
theorem wrP (j : Nat) (h : j < Big) : IntKind.i64.wrap (((j + 1 : Nat) : Int) - 1) = (j : Int) := by
 have h' : j < 4611686018427387904 := h
 rw [wr (by omega)]; omega
theorem nle (a b : Int) : (!decide (a ≤ b)) = decide (b < a) := by apply b2; simp only [Bool.not_eq_true', decide_eq_false_iff_not, decide_eq_true_iff]; omega
theorem l78x2 (s : Site) (hB : s.rings.len < Big) : ∀ n i fu, s.rings.len = i + n → n < fu →
  L78x2 (E F (d + 1)) F s fu (i : Int) = some (.ret (.bool (allF (ringB s) (lens s) n i))) := by
 intro n
 induction n with
 | zero =>
  intro i fu h hf
  obtain ⟨fu, rfl⟩ : ∃ k, fu = k + 1 := ⟨fu - 1, by omega⟩
  rw [L78x2s]
  simp only [Int.ofNat_lt, show ¬ i < s.rings.len by omega, decide_false, cond_false, allF, s72, tkOut_ret, tkBool_b, cAnd]
  refine b3 ?_
  unfold lens
  simp only [Bool.decide_and, Bool.and_assoc, show ∀ k : Nat, ((1 : Int) ≤ (k : Int)) ↔ 1 ≤ k by omega, show ∀ k : Nat, ((k : Int) ≤ 8) ↔ k ≤ 8 by omega]
 | succ n ih =>
  intro i fu h hf
  obtain ⟨fu, rfl⟩ : ∃ k, fu = k + 1 := ⟨fu - 1, by omega⟩
  rw [L78x2s]
  match i with
  | 0 =>
   simp only [Int.ofNat_lt, show 0 < s.rings.len by omega, decide_true, cond_true, Int.natCast_nonneg, Int.toNat_natCast, s72, s74, tkOut_ret, tkBool_b, wrS (show 0 < Big by omega), ih (0 + 1) fu (by omega) (by omega), allF, cNand, Bool.not_not, ringB, ringStep, gt_iff_lt, Bool.and_true, Bool.and_assoc]
   simp only [show decide ((0 : Int) < ((0 : Nat) : Int)) = false from rfl, cond_false, cNand, Bool.not_not]
  | j + 1 =>
   simp only [Int.ofNat_lt, show j + 1 < s.rings.len by omega, show j < s.rings.len by omega, decide_true, cond_true, Int.natCast_nonneg, Int.toNat_natCast, s72, s74, tkOut_ret, tkBool_b, wrS (show j + 1 < Big by omega), wrP j (by omega), ih (j + 1 + 1) fu (by omega) (by omega), allF, cNand, Bool.not_not, ringB, ringStep, gt_iff_lt, show (0 : Int) < ((j + 1 : Nat) : Int) by omega, nle, Bool.and_assoc]
theorem l78x1 (s : Site) (hB : s.heats.len < Big) (hB2 : s.rings.len < Big) (hF2 : s.rings.len < F) : ∀ n i fu, s.heats.len = i + n → n < fu →
  L78x1 (E F (d + 1)) F s fu (i : Int) = some (.ret (.bool (allF (heatB s) (allF (ringB s) (lens s) s.rings.len 0) n i))) := by
 intro n
 induction n with
 | zero =>
  intro i fu h hf
  obtain ⟨fu, rfl⟩ : ∃ k, fu = k + 1 := ⟨fu - 1, by omega⟩
  rw [L78x1s]
  simp only [Int.ofNat_lt, show ¬ i < s.heats.len by omega, decide_false, cond_false, allF]
  exact l78x2 F d s hB2 s.rings.len 0 F (by omega) hF2
 | succ n ih =>
  intro i fu h hf
  obtain ⟨fu, rfl⟩ : ∃ k, fu = k + 1 := ⟨fu - 1, by omega⟩
  rw [L78x1s]
  match i with
  | 0 =>
   simp only [Int.ofNat_lt, show 0 < s.heats.len by omega, decide_true, cond_true, Int.natCast_nonneg, Int.toNat_natCast, s72, s74, tkOut_ret, tkBool_b, wrS (show 0 < Big by omega), ih (0 + 1) fu (by omega) (by omega), allF, cNand, Bool.not_not, heatB, heatStep, gt_iff_lt, Bool.and_true, Bool.and_assoc]
   simp only [show decide ((0 : Int) < ((0 : Nat) : Int)) = false from rfl, cond_false, cNand, Bool.not_not]
  | j + 1 =>
   simp only [Int.ofNat_lt, show j + 1 < s.heats.len by omega, show j < s.heats.len by omega, decide_true, cond_true, Int.natCast_nonneg, Int.toNat_natCast, s72, s74, s107, tkOut_ret, tkBool_b, wrS (show j + 1 < Big by omega), wrP j (by omega), ih (j + 1 + 1) fu (by omega) (by omega), allF, cNand, Bool.not_not, heatB, heatStep, gt_iff_lt, show (0 : Int) < ((j + 1 : Nat) : Int) by omega, nle, Bool.and_assoc]
theorem l78x0 (s : Site) (hB0 : s.rows.len < Big) (hB : s.heats.len < Big) (hF : s.heats.len < F) (hB2 : s.rings.len < Big) (hF2 : s.rings.len < F) : ∀ n i fu, s.rows.len = i + n → n < fu →
  L78x0 (E F (d + 1)) F s fu (i : Int) = some (.ret (.bool (allF (rowB s) (allF (heatB s) (allF (ringB s) (lens s) s.rings.len 0) s.heats.len 0) n i))) := by
 intro n
 induction n with
 | zero =>
  intro i fu h hf
  obtain ⟨fu, rfl⟩ : ∃ k, fu = k + 1 := ⟨fu - 1, by omega⟩
  rw [L78x0s]
  simp only [Int.ofNat_lt, show ¬ i < s.rows.len by omega, decide_false, cond_false, allF]
  exact l78x1 F d s hB hB2 hF2 s.heats.len 0 F (by omega) hF
 | succ n ih =>
  intro i fu h hf
  obtain ⟨fu, rfl⟩ : ∃ k, fu = k + 1 := ⟨fu - 1, by omega⟩
  rw [L78x0s]
  match i with
  | 0 =>
   simp only [Int.ofNat_lt, show 0 < s.rows.len by omega, decide_true, cond_true, Int.natCast_nonneg, Int.toNat_natCast, s72, s74, tkOut_ret, tkBool_b, wrS (show 0 < Big by omega), ih (0 + 1) fu (by omega) (by omega), allF, cNand, Bool.not_not, rowB, rowStep, gt_iff_lt, Bool.and_assoc]
   simp only [show decide ((0 : Int) < ((0 : Nat) : Int)) = false from rfl, show (((0 : Nat) : Int) == 0) = true from rfl, cond_false, cond_true, cNand, Bool.not_not, bne, beqI]
  | j + 1 =>
   simp only [Int.ofNat_lt, show j + 1 < s.rows.len by omega, show j < s.rows.len by omega, decide_true, cond_true, Int.natCast_nonneg, Int.toNat_natCast, s72, s74, s107, tkOut_ret, tkBool_b, wrS (show j + 1 < Big by omega), wrP j (by omega), ih (j + 1 + 1) fu (by omega) (by omega), allF, cNand, Bool.not_not, rowB, rowStep, gt_iff_lt, show (0 : Int) < ((j + 1 : Nat) : Int) by omega, nle, Bool.and_assoc,
    show (((j + 1 : Nat) : Int) == 0) = false from beq_eq_false_iff_ne.2 (by omega), cond_false]
theorem s78 (s : Site) (hB0 : s.rows.len < Big) (hF0 : s.rows.len < F) (hB : s.heats.len < Big) (hF : s.heats.len < F) (hB2 : s.rings.len < Big) (hF2 : s.rings.len < F) :
  (E F (d + 2)).pf 57 [.agg (eSite s)] = some (.ret (.bool (tablesB s))) := by
 rw [E_pf, t78]
 exact l78x0 F d s hB0 hB hF hB2 hF2 s.rows.len 0 F (by omega) hF0
def cavB (s : Site) (i : Nat) : Bool := decide (CavOk (s.cavs.el i)) && decide (∀ k, k < i → ¬ ((s.cavs.el k).x = (s.cavs.el i).x ∧ (s.cavs.el k).y = (s.cavs.el i).y))
def housesB (s : Site) : Bool := decide (∀ i, i < s.houses.len → HouseOk (s.houses.el i))
structure Small (s : Site) (F : Nat) : Prop where
 cavs : s.cavs.len < Big
 rows : s.rows.len < Big
 heats : s.heats.len < Big
 rings : s.rings.len < Big
 houses : s.houses.len < Big
 cavsF : s.cavs.len < F
 rowsF : s.rows.len < F
 heatsF : s.heats.len < F
 ringsF : s.rings.len < F
 housesF : s.houses.len < F
def siteB (s : Site) : Bool := decide (1 ≤ s.cavs.len ∧ s.cavs.len ≤ 5) && (tablesB s && (decide (0 ≤ s.wall ∧ s.wall ≤ 1000000) && (decide (s.houses.len ≤ 5) && allF (cavB s) (housesB s) s.cavs.len 0)))
theorem l48 (s : Site) (hs : Small s F) : ∀ n i fu, s.cavs.len = i + n → n < fu →
  L48x0 (E F (d + 5)) F s fu (i : Int) = some (.ret (.bool (allF (cavB s) (housesB s) n i))) := by
 intro n
 induction n with
 | zero =>
  intro i fu h hf
  obtain ⟨fu, rfl⟩ : ∃ k, fu = k + 1 := ⟨fu - 1, by omega⟩
  rw [L48x0s]
  simp only [Int.ofNat_lt, show ¬ i < s.cavs.len by omega, decide_false, cond_false, allF, s82 F d s.houses hs.houses hs.housesF, tkOut_ret, tkBool_b, Bool.not_not, housesB]
 | succ n ih =>
  intro i fu h hf
  obtain ⟨fu, rfl⟩ : ∃ k, fu = k + 1 := ⟨fu - 1, by omega⟩
  rw [L48x0s]
  have h80 := s80 F (d + 2) ⟨s.cavs.nl, i, s.cavs.el⟩ (s.cavs.el i) (by show i < Big; have := hs.cavs; omega) (by show i < F; have := hs.cavsF; omega)
  simp only [Nat.add_assoc, Nat.reduceAdd] at h80
  have hb := hs.cavs
  simp only [Int.ofNat_lt, show i < s.cavs.len by omega, decide_true, cond_true, Int.natCast_nonneg, Int.toNat_natCast, s79, tkOut_ret, tkBool_b, wrS (show i < Big by omega), ih (i + 1) fu (by omega) (by omega), allF, cNand, Bool.not_not, Bool.true_or, Nat.zero_le, show i ≤ s.cavs.len by omega, Nat.sub_zero, h80, cavB, Bool.and_assoc]
theorem s48 (s : Site) (hs : Small s F) : (E F (d + 6)).pf 28 [.agg (eSite s)] = some (.ret (.bool (siteB s))) := by
 rw [E_pf, t48, show L48x0 (E F (d + 5)) F s F 0 = _ from l48 F d s hs s.cavs.len 0 F (by omega) hs.cavsF]
 simp only [s72, s78 F (d + 3) s hs.rows hs.rowsF hs.heats hs.heatsF hs.rings hs.ringsF, tkOut_ret, tkBool_b, cNand, Bool.not_not]
 refine b3 ?_
 simp only [siteB, Bool.and_assoc, Bool.decide_and, show ∀ k : Nat, ((1 : Int) ≤ (k : Int)) ↔ 1 ≤ k by omega, show ∀ k : Nat, ((k : Int) ≤ 5) ↔ k ≤ 5 by omega, gt_iff_lt, show ∀ k : Nat, ((5 : Int) < (k : Int)) ↔ ¬ k ≤ 5 by omega, decide_not, Bool.not_not]
end Go.Sim.Cr


namespace Go.Sim.Cr
open Go.Proofs
variable (F d : Nat)
structure SiteF (s : Site) : Prop where
 cavs1 : 1 ≤ s.cavs.len
 cavs5 : s.cavs.len ≤ 5
 cav : ∀ i, i < s.cavs.len → CavOk (s.cavs.el i)
 apart : ∀ i k, i < s.cavs.len → k < i → ¬ ((s.cavs.el k).x = (s.cavs.el i).x ∧ (s.cavs.el k).y = (s.cavs.el i).y)
 wall : 0 ≤ s.wall ∧ s.wall ≤ 1000000
 houses5 : s.houses.len ≤ 5
 house : ∀ i, i < s.houses.len → HouseOk (s.houses.el i)
 row : ∀ i, i < s.rows.len → rowB s i = true
 heat : ∀ i, i < s.heats.len → heatB s i = true
 ring : ∀ i, i < s.rings.len → ringB s i = true
 rows1 : 1 ≤ s.rows.len
 rows8 : s.rows.len ≤ 8
 heats1 : 1 ≤ s.heats.len
 heats8 : s.heats.len ≤ 8
 rings8 : s.rings.len ≤ 8
theorem siteB_iff (s : Site) : siteB s = true ↔ SiteF s := by
 simp only [siteB, tablesB, lens, cavB, housesB, Bool.and_eq_true, allF_0, decide_eq_true_iff]
 constructor
 ·rintro ⟨⟨h1, h2⟩, ⟨h3, h4, h5, ⟨h6, h7⟩, ⟨h8, h9⟩, h10⟩, h11, h12, h13, h14⟩
  exact ⟨h1, h2, fun i hi => (h13 i hi).1, fun i k hi hk => (h13 i hi).2 k hk, h11, h12, h14, h3, h4, h5, h6, h7, h8, h9, h10⟩
 ·intro h
  exact ⟨⟨h.cavs1, h.cavs5⟩, ⟨h.row, h.heat, h.ring, ⟨h.rows1, h.rows8⟩, ⟨h.heats1, h.heats8⟩, h.rings8⟩, h.wall, h.houses5, fun k hk => ⟨h.cav k hk, fun j hj => h.apart k j hk hj⟩, h.house⟩
theorem SiteF.away {s : Site} (h : SiteF s) : AwayOk s := fun i hi => by
 have := h.ring i hi
 simp only [ringB, Bool.and_eq_true, decide_eq_true_iff] at this
 exact this.1
theorem SiteF.share {s : Site} (h : SiteF s) (i : Nat) (hi : i < s.rings.len) : SpanIn (s.rings.el i).share 0 1000000 := by
 have := h.ring i hi
 simp only [ringB, Bool.and_eq_true, decide_eq_true_iff] at this
 exact this.2.1
theorem ringFrom_ok {s : Site} (h : SiteF s) (c : Cav) (x y : Int) : ∀ n i, s.rings.len = i + n → SpanIn ((ringFrom s c x y n i).getD zSpan) 0 1000000 := by
 intro n
 induction n with
 | zero => intro i _; exact (by decide : SpanIn zSpan 0 1000000)
 | succ n ih =>
  intro i hi
  simp only [ringFrom]
  cases decide (dist2 c x y ≤ (s.rings.el i).away * (s.rings.el i).away)
  ·exact ih (i + 1) (by omega)
  ·exact h.share i (by omega)
abbrev shareOf (s : Site) (c : Cav) (x y : Int) : Span := (ringOf s c x y).getD zSpan
theorem shareOf_ok {s : Site} (h : SiteF s) (c : Cav) (x y : Int) : SpanIn (shareOf s c x y) 0 1000000 := ringFrom_ok h c x y s.rings.len 0 (by omega)
def sunkFrom (s : Site) (l : Sl Stt) (x y : Int) : Nat → Nat → Int → Int → Span
 | 0, _, a, b => ⟨a, b⟩
 | n + 1, i, a, b => sunkFrom s l x y n (i + 1) (a + (l.el i).lost.lo * (shareOf s (s.cavs.el i) x y).lo / 1000000) (b + ((l.el i).lost.hi * (shareOf s (s.cavs.el i) x y).hi + 999999) / 1000000)
def sunk (s : Site) (l : Sl Stt) (x y : Int) : Span := sunkFrom s l x y l.len 0 0 0
theorem lowW {v q a : Int} (hv : 0 ≤ v ∧ v ≤ 1000000000) (hq : 0 ≤ q ∧ q ≤ 1000000) (ha : 0 ≤ a ∧ a ≤ 1000000000000) : IntKind.i64.wrap (a + IntKind.i64.wrap (Int.tdiv (IntKind.i64.wrap (v * q)) 1000000)) = a + v * q / 1000000 := by
 have h := mulB hv hq
 rw [wr (show _ ∧ v * q ≤ _ by omega), Int.tdiv_eq_ediv_of_nonneg (by omega), wr (show _ ∧ v * q / 1000000 ≤ _ by omega), wr (by omega)]
theorem highW {v q a : Int} (hv : 0 ≤ v ∧ v ≤ 1000000000) (hq : 0 ≤ q ∧ q ≤ 1000000) (ha : 0 ≤ a ∧ a ≤ 1000000000000) : IntKind.i64.wrap (a + IntKind.i64.wrap (Int.tdiv (IntKind.i64.wrap (IntKind.i64.wrap (v * q) + 999999)) 1000000)) = a + (v * q + 999999) / 1000000 := by
 have h := mulB hv hq
 rw [wr (show _ ∧ v * q ≤ _ by omega), wr (show _ ∧ v * q + 999999 ≤ _ by omega), Int.tdiv_eq_ediv_of_nonneg (by omega), wr (show _ ∧ (v * q + 999999) / 1000000 ≤ _ by omega), wr (by omega)]
theorem div_ok {v q r : Int} (hv : 0 ≤ v ∧ v ≤ 1000000000) (hq : 0 ≤ q ∧ q ≤ 1000000) (hr : 0 ≤ r ∧ r ≤ 999999) : 0 ≤ (v * q + r) / 1000000 ∧ (v * q + r) / 1000000 ≤ 1000000000 := by
 have h := mulB hv hq
 omega
theorem l53 (s : Site) (l : Sl Stt) (x y : Int) (hS : SiteF s) (hl : l.len = s.cavs.len) (hb : ∀ i, i < l.len → SttOk (l.el i)) (hp : Place x y) (hF : s.rings.len < F) : ∀ n i fu a b, l.len = i + n → n < fu →
  0 ≤ a ∧ a ≤ (i : Int) * 1000000000 → 0 ≤ b ∧ b ≤ (i : Int) * 1000000000 →
  L53x0 (E F (d + 1)) F s l x y fu (i : Int) a b = some (.ret (.agg (eSpan (sunkFrom s l x y n i a b)))) := by
 have h5 := hS.cavs5
 have h8 := hS.rings8
 intro n
 induction n with
 | zero =>
  intro i fu a b h hf ha hb
  obtain ⟨fu, rfl⟩ : ∃ k, fu = k + 1 := ⟨fu - 1, by omega⟩
  rw [L53x0s]
  simp only [Int.ofNat_lt, show ¬ i < l.len by omega, decide_false, cond_false, sunkFrom]
 | succ n ih =>
  intro i fu a b h hf ha hb'
  obtain ⟨fu, rfl⟩ : ∃ k, fu = k + 1 := ⟨fu - 1, by omega⟩
  rw [L53x0s]
  have hq := shareOf_ok hS (s.cavs.el i) x y
  have hv := (hb i (by omega)).2.2
  have hi5 : (i : Int) ≤ 5 := by omega
  have d0 := @div_ok (l.el i).lost.lo (shareOf s (s.cavs.el i) x y).lo 0 (by omega) (by omega) (by omega)
  have d1 := @div_ok (l.el i).lost.hi (shareOf s (s.cavs.el i) x y).hi 999999 (by omega) (by omega) (by omega)
  rw [Int.add_zero] at d0
  simp only [Int.ofNat_lt, show i < l.len by omega, show i < s.cavs.len by omega, decide_true, cond_true, Int.natCast_nonneg, Int.toNat_natCast,
   s92 F d s (s.cavs.el i) x y hS.away (hS.cav i (by omega)).1 hp (show s.rings.len < 4611686018427387904 by omega) hF, tkOut_ret, tkAgg_a, tkCons_c, tkInt_i, tkNil_n,
   wrS (show i < 4611686018427387904 by omega), @lowW (l.el i).lost.lo (shareOf s (s.cavs.el i) x y).lo a (by omega) (by omega) (by omega), @highW (l.el i).lost.hi (shareOf s (s.cavs.el i) x y).hi b (by omega) (by omega) (by omega), sunkFrom]
  exact ih (i + 1) fu _ _ (by omega) (by omega) (by omega) (by omega)
theorem s53 (s : Site) (l : Sl Stt) (x y : Int) (hS : SiteF s) (hL : StatesOk s l) (hp : Place x y) (hF : 8 < F) :
  (E F (d + 2)).pf 54 [pSite s, sl eStt 6 l, .int .i64 x, .int .i64 y] = some (.ret (.agg (eSpan (sunk s l x y)))) := by
 have h5 := hS.cavs5
 have h8 := hS.rings8
 have hl := hL.1
 rw [E_pf, t53]
 exact l53 F d s l x y hS hL.1 hL.2 hp (by omega) l.len 0 F 0 0 (by omega) (by omega) (by omega) (by omega)
theorem l19 (s : Site) (l : Sl Stt) (x y : Int) (hS : SiteF s) (hl : l.len = s.cavs.len) (hb : ∀ i, i < l.len → SttOk (l.el i)) (hp : Place x y) (hF : s.rings.len < F) : ∀ n i fu a b, l.len = i + n → n < fu →
  0 ≤ a ∧ a ≤ (i : Int) * 1000000000 → 0 ≤ b ∧ b ≤ (i : Int) * 1000000000 →
  L19x0 (E F (d + 1)) F s l x y fu (i : Int) a b = some (.ret (.agg (eSpan (sunkFrom s l x y n i a b)))) := by
 have h5 := hS.cavs5
 have h8 := hS.rings8
 intro n
 induction n with
 | zero =>
  intro i fu a b h hf ha hb
  obtain ⟨fu, rfl⟩ : ∃ k, fu = k + 1 := ⟨fu - 1, by omega⟩
  rw [L19x0s]
  simp only [Int.ofNat_lt, show ¬ i < l.len by omega, decide_false, cond_false, sunkFrom]
 | succ n ih =>
  intro i fu a b h hf ha hb'
  obtain ⟨fu, rfl⟩ : ∃ k, fu = k + 1 := ⟨fu - 1, by omega⟩
  rw [L19x0s]
  have hq := shareOf_ok hS (s.cavs.el i) x y
  have hv := (hb i (by omega)).2.2
  have hi5 : (i : Int) ≤ 5 := by omega
  simp only [Int.ofNat_lt, show i < l.len by omega, decide_true, cond_true, Int.natCast_nonneg, Int.toNat_natCast,
   s29 F d s i x y hS.away (by omega) (hS.cav i (by omega)).1 hp (show s.rings.len < 4611686018427387904 by omega) hF, tkOut_ret, sunkFrom]
  have d0 := @div_ok (l.el i).lost.lo (shareOf s (s.cavs.el i) x y).lo 0 (by omega) (by omega) (by omega)
  have d1 := @div_ok (l.el i).lost.hi (shareOf s (s.cavs.el i) x y).hi 999999 (by omega) (by omega) (by omega)
  rw [Int.add_zero] at d0
  have e0 := @lowW (l.el i).lost.lo (shareOf s (s.cavs.el i) x y).lo a (by omega) (by omega) (by omega)
  have e1 := @highW (l.el i).lost.hi (shareOf s (s.cavs.el i) x y).hi b (by omega) (by omega) (by omega)
  have next := ih (i + 1) fu _ _ (by omega) (by omega) (show 0 ≤ a + (l.el i).lost.lo * (shareOf s (s.cavs.el i) x y).lo / 1000000 ∧ _ by omega) (show 0 ≤ b + ((l.el i).lost.hi * (shareOf s (s.cavs.el i) x y).hi + 999999) / 1000000 ∧ _ by omega)
  unfold shareOf at next e0 e1 ⊢
  cases hr : ringOf s (s.cavs.el i) x y with
  | none =>
   rw [hr] at next
   simp only [tkTup_t, tkCons_c, tkAgg_a, tkInt_i, tkNil_n, tkBool_b, cond_false, wrS (show i < 4611686018427387904 by omega)]
   simpa using next
  | some q =>
   rw [hr] at next e0 e1
   simp only [Option.getD_some] at e0 e1 next
   simp only [tkTup_t, tkCons_c, tkAgg_a, tkInt_i, tkNil_n, tkBool_b, cond_true, decide_true, wrS (show i < 4611686018427387904 by omega), e0, e1, Option.getD_some]
   exact next
theorem s19 (s : Site) (l : Sl Stt) (x y : Int) (hS : SiteF s) (hL : StatesOk s l) (hp : Place x y) (hF : 8 < F) :
  (E F (d + 2)).pf 130 [.agg (eSite s), sl eStt 6 l, .int .i64 x, .int .i64 y] = some (.ret (.agg (eSpan (sunk s l x y)))) := by
 have h5 := hS.cavs5
 have h8 := hS.rings8
 have hl := hL.1
 rw [E_pf, t19]
 exact l19 F d s l x y hS hL.1 hL.2 hp (by omega) l.len 0 F 0 0 (by omega) (by omega) (by omega) (by omega)
theorem s15 (s : Site) (l : Sl Stt) (x y : Int) (hs : Small s F) (hB : l.len < Big) (hlF : l.len < F) (hF : 8 < F) :
  (E F (d + 7)).pf 22 [.agg (eSite s), sl eStt 6 l, .int .i64 x, .int .i64 y] = some (.ret (bif siteB s && (decide (StatesOk s l) && decide (Place x y)) then .tup [.agg (eSpan (sunk s l x y)), .int .i64 0] else .tup [.agg (eSpan zSpan), .int .i64 2])) := by
 rw [E_pf, t15]
 simp only [s48 F d s hs, tkOut_ret, tkBool_b, s49 F d s l hB hlF, s52, Nat.reduceAdd]
 cases h1 : siteB s
 ·rfl
 ·by_cases h2 : StatesOk s l
  ·by_cases h3 : Place x y
   ·simp only [decide_eq_true h2, decide_eq_true h3, Bool.not_true, cond_false, Bool.and_self, cond_true, s53 F (d + 4) s l x y ((siteB_iff s).1 h1) h2 h3 hF, tkOut_ret, tkAgg_a, tkCons_c, tkInt_i, tkNil_n]
   ·simp only [decide_eq_true h2, decide_eq_false h3, Bool.not_true, Bool.not_false, cond_false, cond_true, Bool.and_false]
  ·simp only [decide_eq_false h2, Bool.not_true, Bool.not_false, cond_false, cond_true, Bool.and_false, Bool.false_and]
end Go.Sim.Cr


namespace Go.Sim.Cr
open Go.Proofs
variable (F d : Nat)
abbrev Inc (num : Nat → Int) (n : Nat) : Prop := ∀ i, i + 1 < n → num i < num (i + 1)
theorem Inc.lt {num : Nat → Int} {n : Nat} (h : Inc num n) : ∀ {j i : Nat}, i < j → j < n → num i < num j := by
 intro j
 induction j with
 | zero => intro i h1; omega
 | succ j ih =>
  intro i h1 h2
  have h3 := h j h2
  by_cases h4 : i = j
  ·subst h4; exact h3
  ·have := @ih i (by omega) (by omega); omega
def lastIx (num : Nat → Int) (x : Int) : Nat → Nat
 | 0 => 0
 | n + 1 => bif decide (num n ≤ x) then n else lastIx num x n
def firstIx (num : Nat → Int) (x : Int) : Nat → Nat → Nat
 | 0, i => i
 | n + 1, i => bif decide (x ≤ num i) then i else firstIx num x n (i + 1)
theorem lastIx_eq {num : Nat → Int} {x : Int} : ∀ {n i : Nat}, i < n → num i ≤ x → (∀ j, i < j → j < n → x < num j) → lastIx num x n = i := by
 intro n
 induction n with
 | zero => intro i h; omega
 | succ n ih =>
  intro i h1 h2 h3
  by_cases h4 : i = n
  ·subst h4; rw [lastIx, decide_eq_true h2, cond_true]
  ·rw [lastIx, decide_eq_false (by have := h3 n (by omega) (by omega); omega), cond_false]
   exact ih (by omega) h2 fun j h5 h6 => h3 j h5 (by omega)
theorem lastIx_ok {num : Nat → Int} {x : Int} : ∀ {n : Nat}, 0 < n → num 0 ≤ x → lastIx num x n < n ∧ num (lastIx num x n) ≤ x ∧ ∀ j, lastIx num x n < j → j < n → x < num j := by
 intro n
 induction n with
 | zero => intro h; omega
 | succ n ih =>
  intro _ h0
  by_cases h : num n ≤ x
  ·rw [lastIx, decide_eq_true h, cond_true]
   exact ⟨by omega, h, fun j h1 h2 => by omega⟩
  ·rw [lastIx, decide_eq_false h, cond_false]
   have hn : 0 < n := by
    rcases Nat.eq_zero_or_pos n with rfl | h
    ·exact (h h0).elim
    ·exact h
   obtain ⟨h1, h2, h3⟩ := ih hn h0
   refine ⟨by omega, h2, fun j h4 h5 => ?_⟩
   by_cases h6 : j = n
   ·subst h6; omega
   ·exact h3 j h4 (by omega)
theorem firstIx_eq {num : Nat → Int} {x : Int} : ∀ {n i k : Nat}, i ≤ k → k < i + n → x ≤ num k → (∀ j, i ≤ j → j < k → num j < x) → firstIx num x n i = k := by
 intro n
 induction n with
 | zero => intro i k h1 h2; omega
 | succ n ih =>
  intro i k h1 h2 h3 h4
  by_cases h5 : i = k
  ·subst h5; rw [firstIx, decide_eq_true h3, cond_true]
  ·rw [firstIx, decide_eq_false (by have := h4 i (by omega) (by omega); omega), cond_false]
   exact ih (by omega) (by omega) h3 fun j h6 h7 => h4 j (by omega) h7
theorem firstIx_ok {num : Nat → Int} {x : Int} : ∀ {n i : Nat}, 0 < n → x ≤ num (i + n - 1) → i ≤ firstIx num x n i ∧ firstIx num x n i < i + n ∧ x ≤ num (firstIx num x n i) ∧ ∀ j, i ≤ j → j < firstIx num x n i → num j < x := by
 intro n
 induction n with
 | zero => intro i h; omega
 | succ n ih =>
  intro i _ h0
  by_cases h : x ≤ num i
  ·rw [firstIx, decide_eq_true h, cond_true]
   exact ⟨by omega, by omega, h, fun j h1 h2 => by omega⟩
  ·rw [firstIx, decide_eq_false h, cond_false]
   have hn : 0 < n := by
    rcases Nat.eq_zero_or_pos n with rfl | h'
    ·rw [show i + (0 + 1) - 1 = i by omega] at h0; exact (h h0).elim
    ·exact h'
   obtain ⟨h1, h2, h3, h4⟩ := @ih (i + 1) hn (by rw [show i + 1 + n - 1 = i + (n + 1) - 1 by omega]; exact h0)
   refine ⟨by omega, by omega, h3, fun j h5 h6 => ?_⟩
   by_cases h7 : j = i
   ·subst h7; omega
   ·exact h4 j (by omega) h6
def offB (num : Nat → Int) (n : Nat) (lo hi : Int) : Bool := decide (lo < num 0) || decide (num (n - 1) < hi)
abbrev rowN (s : Site) : Nat → Int := fun i => (s.rows.el i).deficit
theorem s117 (s : Site) (i : Int) (h0 : 0 ≤ i) (h1 : i < (s.rows.len : Int)) : (E F (d + 1)).pf 113 [.int .i64 i, .rptr 1 1 (fun _ => [pSite s]) 0 0] = some (.ret (.int .i64 (rowN s i.toNat))) := by
 rw [E_pf, t117, decide_eq_true h0, decide_eq_true h1]; rfl
theorem s1191 (s : Site) (i lo : Int) (h0 : 0 ≤ i) (h1 : i < (s.rows.len : Int)) : (E F (d + 2)).pf 124 [.int .i64 i, .rptr 1 1 (fun _ => [cMap 113 s]) 0 0, .rptr 1 1 (fun _ => [.int .i64 lo]) 0 0] = some (.ret (.bool (decide (lo < rowN s i.toNat)))) := by
 rw [E_pf, t1191, s117 F d s i h0 h1]; rfl
theorem s1201 (s : Site) (i hi : Int) (h0 : 0 ≤ i) (h1 : i < (s.rows.len : Int)) : (E F (d + 2)).pf 125 [.int .i64 i, .rptr 1 1 (fun _ => [cMap 113 s]) 0 0, .rptr 1 1 (fun _ => [.int .i64 hi]) 0 0] = some (.ret (.bool (decide (hi ≤ rowN s i.toNat)))) := by
 rw [E_pf, t1201, s117 F d s i h0 h1]; rfl
theorem s7621 (s : Site) (lo : Int) (h1 : 1 ≤ s.rows.len) (h8 : s.rows.len ≤ 8) (hF : 8 < F) : ∃ r, (E F (d + 3)).pf 99 [.int .i64 0, .int .i64 (s.rows.len : Int), .fn (.func 124) [] [.rptr 1 1 (fun _ => [cMap 113 s]) 0 0, .rptr 1 1 (fun _ => [.int .i64 lo]) 0 0]] = some (.ret (.int .i64 r)) ∧
  0 ≤ r ∧ r ≤ (s.rows.len : Int) ∧ (r < (s.rows.len : Int) → lo < rowN s r.toNat) ∧ (0 < r → rowN s (r - 1).toNat ≤ lo) := by
 obtain ⟨r, e, r1, r2, r3, r4⟩ := firstLaw (fun fu i j => L7621x0 (E F (d + 2)) F 0 (s.rows.len : Int) lo s fu i j) (fun x => decide (lo < rowN s x.toNat)) 0 (s.rows.len : Int) (by
  intro fu i j a1 a2 a3
  rw [L7621x0s]
  by_cases hij : i < j
  ·simp only [mid_wr (show -2305843009213693952 ≤ i by omega) a2 (by omega), wr (show _ ∧ i + (j - i) / 2 + 1 ≤ _ by omega), s1191 F d s (i + (j - i) / 2) lo (by omega) (by omega), tkOut_ret, tkBool_b]
  ·simp only [hij, decide_false, cond_false]) 8 F 0 (s.rows.len : Int) (by omega) (by omega) (by omega) (by omega) (by omega)
 refine ⟨r, ?_, r1, r2, fun h => of_decide_eq_true (r3 h), fun h => ?_⟩
 ·rw [E_pf, t7621]; exact e
 ·have := of_decide_eq_false (r4 h); omega
theorem s7631 (s : Site) (hi : Int) (h1 : 1 ≤ s.rows.len) (h8 : s.rows.len ≤ 8) (hF : 8 < F) : ∃ r, (E F (d + 3)).pf 99 [.int .i64 0, .int .i64 (s.rows.len : Int), .fn (.func 125) [] [.rptr 1 1 (fun _ => [cMap 113 s]) 0 0, .rptr 1 1 (fun _ => [.int .i64 hi]) 0 0]] = some (.ret (.int .i64 r)) ∧
  0 ≤ r ∧ r ≤ (s.rows.len : Int) ∧ (r < (s.rows.len : Int) → hi ≤ rowN s r.toNat) ∧ (0 < r → rowN s (r - 1).toNat < hi) := by
 obtain ⟨r, e, r1, r2, r3, r4⟩ := firstLaw (fun fu i j => L7631x0 (E F (d + 2)) F 0 (s.rows.len : Int) hi s fu i j) (fun x => decide (hi ≤ rowN s x.toNat)) 0 (s.rows.len : Int) (by
  intro fu i j a1 a2 a3
  rw [L7631x0s]
  by_cases hij : i < j
  ·simp only [mid_wr (show -2305843009213693952 ≤ i by omega) a2 (by omega), wr (show _ ∧ i + (j - i) / 2 + 1 ≤ _ by omega), s1201 F d s (i + (j - i) / 2) hi (by omega) (by omega), tkOut_ret, tkBool_b]
  ·simp only [hij, decide_false, cond_false]) 8 F 0 (s.rows.len : Int) (by omega) (by omega) (by omega) (by omega) (by omega)
 refine ⟨r, ?_, r1, r2, fun h => of_decide_eq_true (r3 h), fun h => ?_⟩
 ·rw [E_pf, t7631]; exact e
 ·have := of_decide_eq_false (r4 h); omega
theorem s1161 (s : Site) (lo hi : Int) (hm : Inc (rowN s) s.rows.len) (h1 : 1 ≤ s.rows.len) (h8 : s.rows.len ≤ 8) (hF : 8 < F) : (E F (d + 4)).pf 112 [.int .i64 (s.rows.len : Int), cMap 113 s, .int .i64 lo, .int .i64 hi] =
  some (bif offB (rowN s) s.rows.len lo hi then .pan (.iface 127 (.agg [.int .i64 lo])) else .ret (.tup [.int .i64 (lastIx (rowN s) lo s.rows.len : Int), .int .i64 (firstIx (rowN s) hi s.rows.len 0 : Int)])) := by
 obtain ⟨r, e, r1, r2, r3, r4⟩ := s7621 F d s lo h1 h8 hF
 obtain ⟨q, e', q1, q2, q3, q4⟩ := s7631 F d s hi h1 h8 hF
 have z1 : r = 0 ↔ lo < rowN s 0 := by
  constructor
  ·intro h; have := r3 (by omega); rw [h] at this; exact this
  ·intro h
   rcases Int.lt_or_eq_of_le r1 with h2 | h2
   ·have h3 := r4 h2
    by_cases h4 : (r - 1).toNat = 0
    ·rw [h4] at h3; omega
    ·have := hm.lt (show 0 < (r - 1).toNat by omega) (by omega); omega
   ·exact h2.symm
 have z2 : 0 < r → r - 1 = (lastIx (rowN s) lo s.rows.len : Int) := by
  intro h
  have := lastIx_eq (n := s.rows.len) (i := (r - 1).toNat) (by omega) (r4 h) fun j h2 h3 => by
   have h4 := r3 (by omega)
   rcases Nat.lt_or_ge r.toNat j with h5 | h5
   ·have := hm.lt h5 h3; omega
   ·rw [show j = r.toNat by omega]; exact h4
  omega
 have z3 : q = (s.rows.len : Int) ↔ rowN s (s.rows.len - 1) < hi := by
  constructor
  ·intro h; have := q4 (by omega); rw [show (q - 1).toNat = s.rows.len - 1 by omega] at this; exact this
  ·intro h
   rcases Int.lt_or_eq_of_le q2 with h2 | h2
   ·have h3 := q3 h2
    by_cases h4 : q.toNat = s.rows.len - 1
    ·rw [h4] at h3; omega
    ·have := hm.lt (show q.toNat < s.rows.len - 1 by omega) (by omega); omega
   ·exact h2
 have z4 : q < (s.rows.len : Int) → q = (firstIx (rowN s) hi s.rows.len 0 : Int) := by
  intro h
  have := firstIx_eq (n := s.rows.len) (i := 0) (k := q.toNat) (by omega) (by omega) (q3 h) fun j _ h3 => by
   have h4 := q4 (by omega)
   rcases Nat.lt_or_ge j (q - 1).toNat with h5 | h5
   ·have := hm.lt h5 (by omega); omega
   ·rw [show j = (q - 1).toNat by omega]; exact h4
  omega
 rw [E_pf, t1161]
 simp only [e, e', tkOut_ret, tkInt_i, decide_true, cond_true, wr (show _ ∧ r - 1 ≤ _ by omega)]
 unfold offB
 by_cases a1 : lo < rowN s 0
 ·rw [decide_eq_true a1, decide_eq_true (show r - 1 < 0 by have := z1.2 a1; omega)]; rfl
 ·rw [decide_eq_false a1, decide_eq_false (show ¬ r - 1 < 0 by have := mt z1.1 a1; omega), Bool.false_or, cond_false]
  by_cases a2 : rowN s (s.rows.len - 1) < hi
  ·rw [decide_eq_true a2, show (q == (s.rows.len : Int)) = true from beq_iff_eq.2 (z3.2 a2)]; rfl
  ·rw [decide_eq_false a2, show (q == (s.rows.len : Int)) = false from beq_eq_false_iff_ne.2 (mt z3.1 a2), z2 (by have := mt z1.1 a1; omega), ← z4 (by have := mt z3.1 a2; omega)]; rfl
abbrev heatN (s : Site) : Nat → Int := fun i => (s.heats.el i).warmth
theorem s118 (s : Site) (i : Int) (h0 : 0 ≤ i) (h1 : i < (s.heats.len : Int)) : (E F (d + 1)).pf 114 [.int .i64 i, .rptr 1 1 (fun _ => [pSite s]) 0 0] = some (.ret (.int .i64 (heatN s i.toNat))) := by
 rw [E_pf, t118, decide_eq_true h0, decide_eq_true h1]; rfl
theorem s1192 (s : Site) (i lo : Int) (h0 : 0 ≤ i) (h1 : i < (s.heats.len : Int)) : (E F (d + 2)).pf 124 [.int .i64 i, .rptr 1 1 (fun _ => [cMap 114 s]) 0 0, .rptr 1 1 (fun _ => [.int .i64 lo]) 0 0] = some (.ret (.bool (decide (lo < heatN s i.toNat)))) := by
 rw [E_pf, t1192, s118 F d s i h0 h1]; rfl
theorem s1202 (s : Site) (i hi : Int) (h0 : 0 ≤ i) (h1 : i < (s.heats.len : Int)) : (E F (d + 2)).pf 125 [.int .i64 i, .rptr 1 1 (fun _ => [cMap 114 s]) 0 0, .rptr 1 1 (fun _ => [.int .i64 hi]) 0 0] = some (.ret (.bool (decide (hi ≤ heatN s i.toNat)))) := by
 rw [E_pf, t1202, s118 F d s i h0 h1]; rfl
theorem s7622 (s : Site) (lo : Int) (h1 : 1 ≤ s.heats.len) (h8 : s.heats.len ≤ 8) (hF : 8 < F) : ∃ r, (E F (d + 3)).pf 99 [.int .i64 0, .int .i64 (s.heats.len : Int), .fn (.func 124) [] [.rptr 1 1 (fun _ => [cMap 114 s]) 0 0, .rptr 1 1 (fun _ => [.int .i64 lo]) 0 0]] = some (.ret (.int .i64 r)) ∧
  0 ≤ r ∧ r ≤ (s.heats.len : Int) ∧ (r < (s.heats.len : Int) → lo < heatN s r.toNat) ∧ (0 < r → heatN s (r - 1).toNat ≤ lo) := by
 obtain ⟨r, e, r1, r2, r3, r4⟩ := firstLaw (fun fu i j => L7622x0 (E F (d + 2)) F 0 (s.heats.len : Int) lo s fu i j) (fun x => decide (lo < heatN s x.toNat)) 0 (s.heats.len : Int) (by
  intro fu i j a1 a2 a3
  rw [L7622x0s]
  by_cases hij : i < j
  ·simp only [mid_wr (show -2305843009213693952 ≤ i by omega) a2 (by omega), wr (show _ ∧ i + (j - i) / 2 + 1 ≤ _ by omega), s1192 F d s (i + (j - i) / 2) lo (by omega) (by omega), tkOut_ret, tkBool_b]
  ·simp only [hij, decide_false, cond_false]) 8 F 0 (s.heats.len : Int) (by omega) (by omega) (by omega) (by omega) (by omega)
 refine ⟨r, ?_, r1, r2, fun h => of_decide_eq_true (r3 h), fun h => ?_⟩
 ·rw [E_pf, t7622]; exact e
 ·have := of_decide_eq_false (r4 h); omega
theorem s7632 (s : Site) (hi : Int) (h1 : 1 ≤ s.heats.len) (h8 : s.heats.len ≤ 8) (hF : 8 < F) : ∃ r, (E F (d + 3)).pf 99 [.int .i64 0, .int .i64 (s.heats.len : Int), .fn (.func 125) [] [.rptr 1 1 (fun _ => [cMap 114 s]) 0 0, .rptr 1 1 (fun _ => [.int .i64 hi]) 0 0]] = some (.ret (.int .i64 r)) ∧
  0 ≤ r ∧ r ≤ (s.heats.len : Int) ∧ (r < (s.heats.len : Int) → hi ≤ heatN s r.toNat) ∧ (0 < r → heatN s (r - 1).toNat < hi) := by
 obtain ⟨r, e, r1, r2, r3, r4⟩ := firstLaw (fun fu i j => L7632x0 (E F (d + 2)) F 0 (s.heats.len : Int) hi s fu i j) (fun x => decide (hi ≤ heatN s x.toNat)) 0 (s.heats.len : Int) (by
  intro fu i j a1 a2 a3
  rw [L7632x0s]
  by_cases hij : i < j
  ·simp only [mid_wr (show -2305843009213693952 ≤ i by omega) a2 (by omega), wr (show _ ∧ i + (j - i) / 2 + 1 ≤ _ by omega), s1202 F d s (i + (j - i) / 2) hi (by omega) (by omega), tkOut_ret, tkBool_b]
  ·simp only [hij, decide_false, cond_false]) 8 F 0 (s.heats.len : Int) (by omega) (by omega) (by omega) (by omega) (by omega)
 refine ⟨r, ?_, r1, r2, fun h => of_decide_eq_true (r3 h), fun h => ?_⟩
 ·rw [E_pf, t7632]; exact e
 ·have := of_decide_eq_false (r4 h); omega
theorem s1162 (s : Site) (lo hi : Int) (hm : Inc (heatN s) s.heats.len) (h1 : 1 ≤ s.heats.len) (h8 : s.heats.len ≤ 8) (hF : 8 < F) : (E F (d + 4)).pf 112 [.int .i64 (s.heats.len : Int), cMap 114 s, .int .i64 lo, .int .i64 hi] =
  some (bif offB (heatN s) s.heats.len lo hi then .pan (.iface 127 (.agg [.int .i64 lo])) else .ret (.tup [.int .i64 (lastIx (heatN s) lo s.heats.len : Int), .int .i64 (firstIx (heatN s) hi s.heats.len 0 : Int)])) := by
 obtain ⟨r, e, r1, r2, r3, r4⟩ := s7622 F d s lo h1 h8 hF
 obtain ⟨q, e', q1, q2, q3, q4⟩ := s7632 F d s hi h1 h8 hF
 have z1 : r = 0 ↔ lo < heatN s 0 := by
  constructor
  ·intro h; have := r3 (by omega); rw [h] at this; exact this
  ·intro h
   rcases Int.lt_or_eq_of_le r1 with h2 | h2
   ·have h3 := r4 h2
    by_cases h4 : (r - 1).toNat = 0
    ·rw [h4] at h3; omega
    ·have := hm.lt (show 0 < (r - 1).toNat by omega) (by omega); omega
   ·exact h2.symm
 have z2 : 0 < r → r - 1 = (lastIx (heatN s) lo s.heats.len : Int) := by
  intro h
  have := lastIx_eq (n := s.heats.len) (i := (r - 1).toNat) (by omega) (r4 h) fun j h2 h3 => by
   have h4 := r3 (by omega)
   rcases Nat.lt_or_ge r.toNat j with h5 | h5
   ·have := hm.lt h5 h3; omega
   ·rw [show j = r.toNat by omega]; exact h4
  omega
 have z3 : q = (s.heats.len : Int) ↔ heatN s (s.heats.len - 1) < hi := by
  constructor
  ·intro h; have := q4 (by omega); rw [show (q - 1).toNat = s.heats.len - 1 by omega] at this; exact this
  ·intro h
   rcases Int.lt_or_eq_of_le q2 with h2 | h2
   ·have h3 := q3 h2
    by_cases h4 : q.toNat = s.heats.len - 1
    ·rw [h4] at h3; omega
    ·have := hm.lt (show q.toNat < s.heats.len - 1 by omega) (by omega); omega
   ·exact h2
 have z4 : q < (s.heats.len : Int) → q = (firstIx (heatN s) hi s.heats.len 0 : Int) := by
  intro h
  have := firstIx_eq (n := s.heats.len) (i := 0) (k := q.toNat) (by omega) (by omega) (q3 h) fun j _ h3 => by
   have h4 := q4 (by omega)
   rcases Nat.lt_or_ge j (q - 1).toNat with h5 | h5
   ·have := hm.lt h5 (by omega); omega
   ·rw [show j = (q - 1).toNat by omega]; exact h4
  omega
 rw [E_pf, t1162]
 simp only [e, e', tkOut_ret, tkInt_i, decide_true, cond_true, wr (show _ ∧ r - 1 ≤ _ by omega)]
 unfold offB
 by_cases a1 : lo < heatN s 0
 ·rw [decide_eq_true a1, decide_eq_true (show r - 1 < 0 by have := z1.2 a1; omega)]; rfl
 ·rw [decide_eq_false a1, decide_eq_false (show ¬ r - 1 < 0 by have := mt z1.1 a1; omega), Bool.false_or, cond_false]
  by_cases a2 : heatN s (s.heats.len - 1) < hi
  ·rw [decide_eq_true a2, show (q == (s.heats.len : Int)) = true from beq_iff_eq.2 (z3.2 a2)]; rfl
  ·rw [decide_eq_false a2, show (q == (s.heats.len : Int)) = false from beq_eq_false_iff_ne.2 (mt z3.1 a2), z2 (by have := mt z1.1 a1; omega), ← z4 (by have := mt z3.1 a2; omega)]; rfl
end Go.Sim.Cr


namespace Go.Sim.Cr
open Go.Proofs
variable (F d : Nat)
theorem SiteF.incRow {s : Site} (h : SiteF s) : Inc (rowN s) s.rows.len := fun i hi => by
 have := h.row (i + 1) hi
 simp only [rowB, rowStep, Bool.and_eq_true, decide_eq_true_iff] at this
 exact this.2.2.2.1
theorem SiteF.incHeat {s : Site} (h : SiteF s) : Inc (heatN s) s.heats.len := fun i hi => by
 have := h.heat (i + 1) hi
 simp only [heatB, heatStep, Bool.and_eq_true, decide_eq_true_iff] at this
 exact this.2.2.1
theorem SiteF.rowOk {s : Site} (h : SiteF s) {i : Nat} (hi : i < s.rows.len) : (0 ≤ (s.rows.el i).deficit ∧ (s.rows.el i).deficit ≤ 50000) ∧ SpanIn (s.rows.el i).rate 0 100000 ∧ SpanIn (s.rows.el i).spall 0 1000 := by
 have := h.row i hi
 simp only [rowB, Bool.and_eq_true, decide_eq_true_iff] at this
 exact ⟨this.1, this.2.1, this.2.2.1⟩
theorem SiteF.heatOk {s : Site} (h : SiteF s) {i : Nat} (hi : i < s.heats.len) : (0 ≤ (s.heats.el i).warmth ∧ (s.heats.el i).warmth ≤ 10000) ∧ SpanIn (s.heats.el i).factor 0 10000 := by
 have := h.heat i hi
 simp only [heatB, Bool.and_eq_true, decide_eq_true_iff] at this
 exact ⟨this.1, this.2.1⟩
def farB (s : Site) (c : Cav) (p q : Span) : Bool := offB (rowN s) s.rows.len (c.rock - p.hi) (c.rock - p.lo) || offB (heatN s) s.heats.len q.lo q.hi
abbrev rowLo (s : Site) (c : Cav) (p : Span) : Nat := lastIx (rowN s) (c.rock - p.hi) s.rows.len
abbrev rowHi (s : Site) (c : Cav) (p : Span) : Nat := firstIx (rowN s) (c.rock - p.lo) s.rows.len 0
abbrev heatLo (s : Site) (q : Span) : Nat := lastIx (heatN s) q.lo s.heats.len
abbrev heatHi (s : Site) (q : Span) : Nat := firstIx (heatN s) q.hi s.heats.len 0
def rateOf (s : Site) (c : Cav) (p : Span) : Span := ⟨(s.rows.el (rowLo s c p)).rate.lo, (s.rows.el (rowHi s c p)).rate.hi⟩
def fallOf (s : Site) (c : Cav) (p : Span) : Span := ⟨(s.rows.el (rowLo s c p)).spall.lo, (s.rows.el (rowHi s c p)).spall.hi⟩
def factorOf (s : Site) (q : Span) : Span := ⟨(s.heats.el (heatLo s q)).factor.lo, (s.heats.el (heatHi s q)).factor.hi⟩
theorem near {num : Nat → Int} {n : Nat} {lo hi : Int} (hn : 0 < n) (h : offB num n lo hi = false) : lastIx num lo n < n ∧ firstIx num hi n 0 < n := by
 unfold offB at h
 rw [Bool.or_eq_false_iff, decide_eq_false_iff_not, decide_eq_false_iff_not] at h
 refine ⟨(lastIx_ok hn (by omega)).1, ?_⟩
 have := (@firstIx_ok num hi n 0 hn (by rw [Nat.zero_add]; omega)).2.1
 omega
theorem far_split {s : Site} {c : Cav} {p q : Span} (h : farB s c p q = false) : offB (rowN s) s.rows.len (c.rock - p.hi) (c.rock - p.lo) = false ∧ offB (heatN s) s.heats.len q.lo q.hi = false := by
 unfold farB at h
 rwa [Bool.or_eq_false_iff] at h
abbrev eSix (s : Site) (c : Cav) (p q : Span) : List V := [.int .i64 (rateOf s c p).lo, .int .i64 (rateOf s c p).hi, .int .i64 (fallOf s c p).lo, .int .i64 (fallOf s c p).hi, .int .i64 (factorOf s q).lo, .int .i64 (factorOf s q).hi]
theorem s112 (s : Site) (c : Cav) (p q : Span) (hS : SiteF s) (hc : CavOk c) (hp : SpanIn p 0 50000) (hF : 8 < F) :
  (farB s c p q = false → (E F (d + 5)).pf 93 [pSite s, .agg (eCav c), .agg (eSpan p), .agg (eSpan q)] = some (.ret (.agg (eSix s c p q)))) ∧
  (farB s c p q = true → ∃ n, (E F (d + 5)).pf 93 [pSite s, .agg (eCav c), .agg (eSpan p), .agg (eSpan q)] = some (.pan (.iface 127 (.agg [.int .i64 n])))) := by
 have hr := hc.2.2.2.1
 have w1 : IntKind.i64.wrap (c.rock - p.hi) = c.rock - p.hi := wr (by omega)
 have w2 : IntKind.i64.wrap (c.rock - p.lo) = c.rock - p.lo := wr (by omega)
 have e1 := s1161 F d s (c.rock - p.hi) (c.rock - p.lo) hS.incRow hS.rows1 hS.rows8 hF
 have e2 := s1162 F d s q.lo q.hi hS.incHeat hS.heats1 hS.heats8 hF
 rw [E_pf, t112]
 constructor
 ·intro hf
  obtain ⟨f1, f2⟩ := far_split hf
  obtain ⟨n1, n2⟩ := near hS.rows1 f1
  obtain ⟨n3, n4⟩ := near hS.heats1 f2
  rw [f1, cond_false] at e1
  rw [f2, cond_false] at e2
  simp only [w1, w2, e1, e2, tkOut_ret, tkTup_t, tkCons_c, tkInt_i, tkNil_n, Int.natCast_nonneg, Int.ofNat_lt, n1, n2, n3, n4, decide_true, cond_true, Int.toNat_natCast]
  rfl
 ·intro hf
  unfold farB at hf
  cases f1 : offB (rowN s) s.rows.len (c.rock - p.hi) (c.rock - p.lo) with
  | true =>
   rw [f1, cond_true] at e1
   simp only [w1, w2, e1, tkOut_pan, tkIfc_i]
   exact ⟨_, rfl⟩
  | false =>
   rw [f1, Bool.false_or] at hf
   rw [f1, cond_false] at e1
   rw [hf, cond_true] at e2
   simp only [w1, w2, e1, e2, tkOut_ret, tkOut_pan, tkTup_t, tkCons_c, tkInt_i, tkNil_n, tkIfc_i]
   exact ⟨_, rfl⟩
def minI (a b : Int) : Int := if a < b then a else b
def shrink (v r f k : Int) : Int := minI ((v * r * f + k) / 1000000000) v
theorem prod3 {v r f : Int} (hv : 0 ≤ v ∧ v ≤ 10000000) (hr : 0 ≤ r ∧ r ≤ 100000) (hf : 0 ≤ f ∧ f ≤ 10000) : (0 ≤ v * r ∧ v * r ≤ 1000000000000) ∧ 0 ≤ v * r * f ∧ v * r * f ≤ 10000000000000000 := by
 have h1 := mulB hv hr
 have h2 := mulB (show 0 ≤ v * r ∧ v * r ≤ 1000000000000 by omega) hf
 omega
theorem s113 (v r f k : Int) (hv : 0 ≤ v ∧ v ≤ 10000000) (hr : 0 ≤ r ∧ r ≤ 100000) (hf : 0 ≤ f ∧ f ≤ 10000) (hk : 0 ≤ k ∧ k ≤ 999999999) :
  (E F (d + 1)).pf 94 [.int .i64 v, .int .i64 r, .int .i64 f, .int .i64 k] = some (.ret (.int .i64 (shrink v r f k))) := by
 obtain ⟨h1, h2⟩ := prod3 hv hr hf
 rw [E_pf, t113, wr (show _ ∧ v * r ≤ _ by omega), wr (show _ ∧ v * r * f ≤ _ by omega), wr (show _ ∧ v * r * f + k ≤ _ by omega), Int.tdiv_eq_ediv_of_nonneg (by omega), wr (show _ ∧ (v * r * f + k) / 1000000000 ≤ _ by omega)]
 rfl
theorem shrink_ok {v r f k : Int} (hv : 0 ≤ v ∧ v ≤ 10000000) (hr : 0 ≤ r ∧ r ≤ 100000) (hf : 0 ≤ f ∧ f ≤ 10000) (hk : 0 ≤ k ∧ k ≤ 999999999) : 0 ≤ shrink v r f k ∧ shrink v r f k ≤ v := by
 obtain ⟨h1, h2⟩ := prod3 hv hr hf
 unfold shrink minI
 split <;> omega
def move1 (s : Site) (c : Cav) (x : Stt) (p q : Span) : Stt where
 rad := ⟨minI (x.rad.lo + (fallOf s c p).lo) 400000, minI (x.rad.hi + (fallOf s c p).hi) 400000⟩
 vol := ⟨x.vol.lo - shrink x.vol.lo (rateOf s c p).hi (factorOf s q).hi 999999999, x.vol.hi - shrink x.vol.hi (rateOf s c p).lo (factorOf s q).lo 0⟩
 lost := ⟨minI (x.lost.lo + shrink x.vol.lo (rateOf s c p).lo (factorOf s q).lo 0) 1000000000, minI (x.lost.hi + shrink x.vol.hi (rateOf s c p).hi (factorOf s q).hi 999999999) 1000000000⟩
theorem rates_ok {s : Site} (hS : SiteF s) {c : Cav} {p q : Span} (hf : farB s c p q = false) : (0 ≤ (rateOf s c p).lo ∧ (rateOf s c p).lo ≤ 100000) ∧ (0 ≤ (rateOf s c p).hi ∧ (rateOf s c p).hi ≤ 100000) ∧
  (0 ≤ (fallOf s c p).lo ∧ (fallOf s c p).lo ≤ 1000) ∧ (0 ≤ (fallOf s c p).hi ∧ (fallOf s c p).hi ≤ 1000) ∧ (0 ≤ (factorOf s q).lo ∧ (factorOf s q).lo ≤ 10000) ∧ (0 ≤ (factorOf s q).hi ∧ (factorOf s q).hi ≤ 10000) := by
 obtain ⟨f1, f2⟩ := far_split hf
 obtain ⟨n1, n2⟩ := near hS.rows1 f1
 obtain ⟨n3, n4⟩ := near hS.heats1 f2
 have r1 := hS.rowOk (show rowLo s c p < s.rows.len from n1)
 have r2 := hS.rowOk (show rowHi s c p < s.rows.len from n2)
 have r3 := hS.heatOk (show heatLo s q < s.heats.len from n3)
 have r4 := hS.heatOk (show heatHi s q < s.heats.len from n4)
 refine ⟨?_, ?_, ?_, ?_, ?_, ?_⟩
 ·show 0 ≤ (s.rows.el (rowLo s c p)).rate.lo ∧ (s.rows.el (rowLo s c p)).rate.lo ≤ 100000; omega
 ·show 0 ≤ (s.rows.el (rowHi s c p)).rate.hi ∧ (s.rows.el (rowHi s c p)).rate.hi ≤ 100000; omega
 ·show 0 ≤ (s.rows.el (rowLo s c p)).spall.lo ∧ (s.rows.el (rowLo s c p)).spall.lo ≤ 1000; omega
 ·show 0 ≤ (s.rows.el (rowHi s c p)).spall.hi ∧ (s.rows.el (rowHi s c p)).spall.hi ≤ 1000; omega
 ·show 0 ≤ (s.heats.el (heatLo s q)).factor.lo ∧ (s.heats.el (heatLo s q)).factor.lo ≤ 10000; omega
 ·show 0 ≤ (s.heats.el (heatHi s q)).factor.hi ∧ (s.heats.el (heatHi s q)).factor.hi ≤ 10000; omega
theorem s91 (s : Site) (i : Nat) (x : Stt) (p q : Span) (hS : SiteF s) (hi : i < s.cavs.len) (hx : SttOk x) (hp : SpanIn p 0 50000) (hF : 8 < F) :
  (farB s (s.cavs.el i) p q = false → (E F (d + 6)).pf 67 [pSite s, .int .i64 (i : Int), .agg (eStt x), .agg (eSpan p), .agg (eSpan q)] = some (.ret (.agg (eStt (move1 s (s.cavs.el i) x p q))))) ∧
  (farB s (s.cavs.el i) p q = true → ∃ n, (E F (d + 6)).pf 67 [pSite s, .int .i64 (i : Int), .agg (eStt x), .agg (eSpan p), .agg (eSpan q)] = some (.pan (.iface 127 (.agg [.int .i64 n])))) := by
 obtain ⟨g1, g2⟩ := s112 F d s (s.cavs.el i) p q hS (hS.cav i hi) hp hF
 rw [E_pf, t91]
 constructor
 ·intro hf
  obtain ⟨k1, k2, k3, k4, k5, k6⟩ := rates_ok hS hf
  have a1 := @shrink_ok x.vol.lo (rateOf s (s.cavs.el i) p).hi (factorOf s q).hi 999999999 (by omega) k2 k6 (by omega)
  have a2 := @shrink_ok x.vol.hi (rateOf s (s.cavs.el i) p).lo (factorOf s q).lo 0 (by omega) k1 k5 (by omega)
  have a3 := @shrink_ok x.vol.lo (rateOf s (s.cavs.el i) p).lo (factorOf s q).lo 0 (by omega) k1 k5 (by omega)
  have a4 := @shrink_ok x.vol.hi (rateOf s (s.cavs.el i) p).hi (factorOf s q).hi 999999999 (by omega) k2 k6 (by omega)
  simp only [Int.natCast_nonneg, Int.ofNat_lt, hi, decide_true, cond_true, Int.toNat_natCast, g1 hf, tkOut_ret, tkAgg_a, tkCons_c, tkInt_i, tkNil_n,
   s113 F (d + 4) x.vol.lo (rateOf s (s.cavs.el i) p).hi (factorOf s q).hi 999999999 (by omega) k2 k6 (by omega),
   s113 F (d + 4) x.vol.hi (rateOf s (s.cavs.el i) p).lo (factorOf s q).lo 0 (by omega) k1 k5 (by omega),
   s113 F (d + 4) x.vol.lo (rateOf s (s.cavs.el i) p).lo (factorOf s q).lo 0 (by omega) k1 k5 (by omega),
   s113 F (d + 4) x.vol.hi (rateOf s (s.cavs.el i) p).hi (factorOf s q).hi 999999999 (by omega) k2 k6 (by omega),
   wr (show _ ∧ x.rad.lo + (fallOf s (s.cavs.el i) p).lo ≤ _ by omega), wr (show _ ∧ x.rad.hi + (fallOf s (s.cavs.el i) p).hi ≤ _ by omega),
   wr (show _ ∧ x.vol.lo - shrink x.vol.lo (rateOf s (s.cavs.el i) p).hi (factorOf s q).hi 999999999 ≤ _ by omega), wr (show _ ∧ x.vol.hi - shrink x.vol.hi (rateOf s (s.cavs.el i) p).lo (factorOf s q).lo 0 ≤ _ by omega),
   wr (show _ ∧ x.lost.lo + shrink x.vol.lo (rateOf s (s.cavs.el i) p).lo (factorOf s q).lo 0 ≤ _ by omega), wr (show _ ∧ x.lost.hi + shrink x.vol.hi (rateOf s (s.cavs.el i) p).hi (factorOf s q).hi 999999999 ≤ _ by omega)]
  rfl
 ·intro hf
  obtain ⟨n, e⟩ := g2 hf
  simp only [Int.natCast_nonneg, Int.ofNat_lt, hi, decide_true, cond_true, Int.toNat_natCast, e, tkOut_pan, tkIfc_i]
  exact ⟨n, rfl⟩
end Go.Sim.Cr


namespace Go.Sim.Cr
open Go.Proofs
variable (F d : Nat)
theorem s61 (v r f : Int) (hv : 0 ≤ v ∧ v ≤ 10000000) (hr : 0 ≤ r ∧ r ≤ 100000) (hf : 0 ≤ f ∧ f ≤ 10000) : (E F (d + 1)).pf 137 [.int .i64 v, .int .i64 r, .int .i64 f] = some (.ret (.int .i64 (v * r * f / 1000000000))) := by
 obtain ⟨h1, h2⟩ := prod3 hv hr hf
 rw [E_pf, t61, wr (show _ ∧ v * r ≤ _ by omega), wr (show _ ∧ v * r * f ≤ _ by omega), Int.tdiv_eq_ediv_of_nonneg (by omega), wr (by omega)]
theorem s62 (v r f : Int) (hv : 0 ≤ v ∧ v ≤ 10000000) (hr : 0 ≤ r ∧ r ≤ 100000) (hf : 0 ≤ f ∧ f ≤ 10000) : (E F (d + 1)).pf 136 [.int .i64 v, .int .i64 r, .int .i64 f] = some (.ret (.int .i64 ((v * r * f + 999999999) / 1000000000))) := by
 obtain ⟨h1, h2⟩ := prod3 hv hr hf
 rw [E_pf, t62, wr (show _ ∧ v * r ≤ _ by omega), wr (show _ ∧ v * r * f ≤ _ by omega), wr (show _ ∧ v * r * f + 999999999 ≤ _ by omega), Int.tdiv_eq_ediv_of_nonneg (by omega), wr (by omega)]
theorem l93 (s : Site) (x : Int) (h0 : rowN s 0 ≤ x) (hB : s.rows.len < Big) : ∀ n fu, n < s.rows.len → n < fu → L93x0 (E F d) F s x fu (n : Int) = some (.ret (.agg (eRow (s.rows.el (lastIx (rowN s) x (n + 1)))))) := by
 intro n
 induction n with
 | zero =>
  intro fu h hf
  obtain ⟨fu, rfl⟩ : ∃ k, fu = k + 1 := ⟨fu - 1, by omega⟩
  rw [L93x0s]
  have e : lastIx (rowN s) x (0 + 1) = 0 := by rw [lastIx, decide_eq_true h0, cond_true]
  simp only [Int.natCast_nonneg, Int.ofNat_lt, h, decide_true, cond_true, Int.toNat_natCast, show ¬ (s.rows.el 0).deficit > x by have : (s.rows.el 0).deficit ≤ x := h0; omega, decide_false, cond_false, e]
 | succ n ih =>
  intro fu h hf
  obtain ⟨fu, rfl⟩ : ∃ k, fu = k + 1 := ⟨fu - 1, by omega⟩
  rw [L93x0s]
  simp only [Int.natCast_nonneg, Int.ofNat_lt, h, decide_true, cond_true, Int.toNat_natCast, wrP n (by omega), ih fu (by omega) (by omega)]
  by_cases hx : (s.rows.el (n + 1)).deficit ≤ x
  ·rw [lastIx.eq_2 _ _ (n + 1), decide_eq_true (show rowN s (n + 1) ≤ x from hx), cond_true, decide_eq_false (by omega), cond_false]
  ·rw [lastIx.eq_2 _ _ (n + 1), decide_eq_false (show ¬ rowN s (n + 1) ≤ x from hx), cond_false, decide_eq_true (by omega), cond_true]
theorem s93 (s : Site) (x : Int) (h0 : rowN s 0 ≤ x) (h1 : 1 ≤ s.rows.len) (h8 : s.rows.len ≤ 8) (hF : 8 < F) : (E F (d + 1)).pf 140 [.agg (eSite s), .int .i64 x] = some (.ret (.agg (eRow (s.rows.el (lastIx (rowN s) x s.rows.len))))) := by
 rw [E_pf, t93, wr (by omega), show (s.rows.len : Int) - 1 = ((s.rows.len - 1 : Nat) : Int) by omega, l93 F d s x h0 (show s.rows.len < 4611686018427387904 by omega) (s.rows.len - 1) F (by omega) (by omega), show s.rows.len - 1 + 1 = s.rows.len by omega]
theorem l94 (s : Site) (x : Int) (h0 : x ≤ rowN s (s.rows.len - 1)) (hB : s.rows.len < Big) : ∀ n i fu, s.rows.len = i + n → 0 < n → n < fu → L94x0 (E F d) F s x fu (i : Int) = some (.ret (.agg (eRow (s.rows.el (firstIx (rowN s) x n i))))) := by
 intro n
 induction n with
 | zero => intro i fu _ h; omega
 | succ n ih =>
  intro i fu h _ hf
  obtain ⟨fu, rfl⟩ : ∃ k, fu = k + 1 := ⟨fu - 1, by omega⟩
  rw [L94x0s]
  simp only [Int.natCast_nonneg, Int.ofNat_lt, show i < s.rows.len by omega, decide_true, cond_true, Int.toNat_natCast, wrS (show i < Big by omega)]
  by_cases hx : x ≤ (s.rows.el i).deficit
  ·rw [firstIx, decide_eq_true (show x ≤ rowN s i from hx), cond_true, decide_eq_false (by omega), cond_false]
  ·have hn : 0 < n := by
    rcases Nat.eq_zero_or_pos n with rfl | h'
    ·rw [show s.rows.len - 1 = i by omega] at h0; exact (hx h0).elim
    ·exact h'
   rw [firstIx, decide_eq_false (show ¬ x ≤ rowN s i from hx), cond_false, decide_eq_true (by omega), cond_true]
   exact ih (i + 1) fu (by omega) hn (by omega)
theorem s94 (s : Site) (x : Int) (h0 : x ≤ rowN s (s.rows.len - 1)) (h1 : 1 ≤ s.rows.len) (h8 : s.rows.len ≤ 8) (hF : 8 < F) : (E F (d + 1)).pf 141 [.agg (eSite s), .int .i64 x] = some (.ret (.agg (eRow (s.rows.el (firstIx (rowN s) x s.rows.len 0))))) := by
 rw [E_pf, t94]
 exact l94 F d s x h0 (show s.rows.len < 4611686018427387904 by omega) s.rows.len 0 F (by omega) (by omega) (by omega)
theorem not_off {num : Nat → Int} {n : Nat} {lo hi : Int} (h : offB num n lo hi = false) : num 0 ≤ lo ∧ hi ≤ num (n - 1) := by
 unfold offB at h
 rw [Bool.or_eq_false_iff, decide_eq_false_iff_not, decide_eq_false_iff_not] at h
 omega
theorem s58 (s : Site) (p : Span) (hS : SiteF s) (hf : offB (rowN s) s.rows.len p.lo p.hi = false) (hF : 8 < F) : (E F (d + 2)).pf 133 [.agg (eSite s), .agg (eSpan p)] =
  some (.ret (.agg [.int .i64 (s.rows.el (lastIx (rowN s) p.lo s.rows.len)).rate.lo, .int .i64 (s.rows.el (firstIx (rowN s) p.hi s.rows.len 0)).rate.hi])) := by
 obtain ⟨h1, h2⟩ := not_off hf
 rw [E_pf, t58]
 simp only [s93 F d s p.lo h1 hS.rows1 hS.rows8 hF, s94 F d s p.hi h2 hS.rows1 hS.rows8 hF, tkOut_ret, tkAgg_a, tkCons_c, tkInt_i, tkNil_n]
theorem s60 (s : Site) (p : Span) (hS : SiteF s) (hf : offB (rowN s) s.rows.len p.lo p.hi = false) (hF : 8 < F) : (E F (d + 2)).pf 135 [.agg (eSite s), .agg (eSpan p)] =
  some (.ret (.agg [.int .i64 (s.rows.el (lastIx (rowN s) p.lo s.rows.len)).spall.lo, .int .i64 (s.rows.el (firstIx (rowN s) p.hi s.rows.len 0)).spall.hi])) := by
 obtain ⟨h1, h2⟩ := not_off hf
 rw [E_pf, t60]
 simp only [s93 F d s p.lo h1 hS.rows1 hS.rows8 hF, s94 F d s p.hi h2 hS.rows1 hS.rows8 hF, tkOut_ret, tkAgg_a, tkCons_c, tkInt_i, tkNil_n]
theorem l59x1 (s : Site) (p : Span) (a : Nat) (ha : a < s.heats.len) (h0 : p.hi ≤ heatN s (s.heats.len - 1)) (hB : s.heats.len < Big) : ∀ n i fu, s.heats.len = i + n → 0 < n → n < fu →
  L59x1 (E F d) F s p fu (a : Int) (i : Int) = some (.ret (.agg [.int .i64 (s.heats.el a).factor.lo, .int .i64 (s.heats.el (firstIx (heatN s) p.hi n i)).factor.hi])) := by
 intro n
 induction n with
 | zero => intro i fu _ h; omega
 | succ n ih =>
  intro i fu h _ hf
  obtain ⟨fu, rfl⟩ : ∃ k, fu = k + 1 := ⟨fu - 1, by omega⟩
  rw [L59x1s]
  simp only [Int.natCast_nonneg, Int.ofNat_lt, ha, show i < s.heats.len by omega, decide_true, cond_true, Int.toNat_natCast, wrS (show i < Big by omega)]
  by_cases hx : p.hi ≤ (s.heats.el i).warmth
  ·rw [firstIx, decide_eq_true (show p.hi ≤ heatN s i from hx), cond_true, decide_eq_false (by omega), cond_false]
  ·have hn : 0 < n := by
    rcases Nat.eq_zero_or_pos n with rfl | h'
    ·rw [show s.heats.len - 1 = i by omega] at h0; exact (hx h0).elim
    ·exact h'
   rw [firstIx, decide_eq_false (show ¬ p.hi ≤ heatN s i from hx), cond_false, decide_eq_true (by omega), cond_true]
   exact ih (i + 1) fu (by omega) hn (by omega)
theorem l59x0 (s : Site) (p : Span) (hl : heatN s 0 ≤ p.lo) (h0 : p.hi ≤ heatN s (s.heats.len - 1)) (hB : s.heats.len < Big) (hF : s.heats.len < F) : ∀ n fu, n < s.heats.len → n < fu →
  L59x0 (E F d) F s p fu (n : Int) = some (.ret (.agg [.int .i64 (s.heats.el (lastIx (heatN s) p.lo (n + 1))).factor.lo, .int .i64 (s.heats.el (firstIx (heatN s) p.hi s.heats.len 0)).factor.hi])) := by
 intro n
 induction n with
 | zero =>
  intro fu h hf
  obtain ⟨fu, rfl⟩ : ∃ k, fu = k + 1 := ⟨fu - 1, by omega⟩
  rw [L59x0s]
  have e : lastIx (heatN s) p.lo (0 + 1) = 0 := by rw [lastIx, decide_eq_true hl, cond_true]
  simp only [Int.natCast_nonneg, Int.ofNat_lt, h, decide_true, cond_true, Int.toNat_natCast, show ¬ (s.heats.el 0).warmth > p.lo by have : (s.heats.el 0).warmth ≤ p.lo := hl; omega, decide_false, cond_false, e]
  exact l59x1 F d s p 0 h h0 hB s.heats.len 0 F (by omega) (by omega) hF
 | succ n ih =>
  intro fu h hf
  obtain ⟨fu, rfl⟩ : ∃ k, fu = k + 1 := ⟨fu - 1, by omega⟩
  rw [L59x0s]
  simp only [Int.natCast_nonneg, Int.ofNat_lt, h, decide_true, cond_true, Int.toNat_natCast, wrP n (by omega), ih fu (by omega) (by omega)]
  by_cases hx : (s.heats.el (n + 1)).warmth ≤ p.lo
  ·rw [lastIx.eq_2 _ _ (n + 1), decide_eq_true (show heatN s (n + 1) ≤ p.lo from hx), cond_true, decide_eq_false (by omega), cond_false]
   exact l59x1 F d s p (n + 1) h h0 hB s.heats.len 0 F (by omega) (by omega) hF
  ·rw [lastIx.eq_2 _ _ (n + 1), decide_eq_false (show ¬ heatN s (n + 1) ≤ p.lo from hx), cond_false, decide_eq_true (by omega), cond_true]
theorem s59 (s : Site) (q : Span) (hS : SiteF s) (hf : offB (heatN s) s.heats.len q.lo q.hi = false) (hF : 8 < F) : (E F (d + 1)).pf 134 [.agg (eSite s), .agg (eSpan q)] = some (.ret (.agg (eSpan (factorOf s q)))) := by
 obtain ⟨h1, h2⟩ := not_off hf
 have g1 := hS.heats1
 have g8 := hS.heats8
 rw [E_pf, t59, wr (by omega), show (s.heats.len : Int) - 1 = ((s.heats.len - 1 : Nat) : Int) by omega, l59x0 F d s q h1 h2 (show s.heats.len < 4611686018427387904 by omega) (by omega) (s.heats.len - 1) F (by omega) (by omega), show s.heats.len - 1 + 1 = s.heats.len by omega]
 rfl
theorem s70 (s : Site) (i : Nat) (p : Span) (hS : SiteF s) (hi : i < s.cavs.len) (hp : SpanIn p 0 50000) : (E F (d + 1)).pf 132 [.agg (eSite s), .int .i64 (i : Int), .agg (eSpan p)] =
  some (.ret (.agg [.int .i64 ((s.cavs.el i).rock - p.hi), .int .i64 ((s.cavs.el i).rock - p.lo)])) := by
 have hr := (hS.cav i hi).2.2.2.1
 rw [E_pf, t70]
 simp only [Int.natCast_nonneg, Int.ofNat_lt, hi, decide_true, cond_true, Int.toNat_natCast, wr (show _ ∧ (s.cavs.el i).rock - p.hi ≤ _ by omega), wr (show _ ∧ (s.cavs.el i).rock - p.lo ≤ _ by omega)]
theorem s32 (s : Site) (i : Nat) (p q : Span) (hS : SiteF s) (hi : i < s.cavs.len) (hp : SpanIn p 0 50000) : (E F (d + 2)).pf 126 [.agg (eSite s), .int .i64 (i : Int), .agg (eSpan p), .agg (eSpan q)] = some (.ret (.bool (farB s (s.cavs.el i) p q))) := by
 have h0 : rowN s 0 = 0 := by
  have := hS.row 0 (by have := hS.rows1; omega)
  simp only [rowB, rowStep, Bool.and_eq_true, decide_eq_true_iff] at this
  exact this.2.2.2
 have r1 := hS.rows1
 have r8 := hS.rows8
 have g1 := hS.heats1
 have g8 := hS.heats8
 rw [E_pf, t32]
 simp only [s70 F d s i p hS hi hp, tkOut_ret, tkAgg_a, tkCons_c, tkInt_i, tkNil_n, decide_true, cond_true, wr (show _ ∧ (s.rows.len : Int) - 1 ≤ _ by omega), wr (show _ ∧ (s.heats.len : Int) - 1 ≤ _ by omega),
  show (0 : Int) ≤ (s.rows.len : Int) - 1 by omega, show (s.rows.len : Int) - 1 < (s.rows.len : Int) by omega, show (0 : Int) ≤ (s.heats.len : Int) - 1 by omega, show (s.heats.len : Int) - 1 < (s.heats.len : Int) by omega,
  show (0 : Int) < (s.heats.len : Int) by omega, show ((s.rows.len : Int) - 1).toNat = s.rows.len - 1 by omega, show ((s.heats.len : Int) - 1).toNat = s.heats.len - 1 by omega, cOr]
 refine b3 ?_
 simp only [farB, offB, h0, Bool.or_assoc, gt_iff_lt]
end Go.Sim.Cr


namespace Go.Sim.Cr
open Go.Proofs
variable (F d : Nat)
def anyF (p : Nat → Bool) : Nat → Nat → Bool
 | 0, _ => false
 | n + 1, i => p i || anyF p n (i + 1)
theorem anyF_eq (p : Nat → Bool) : ∀ n i, anyF p n i = true ↔ ∃ k, i ≤ k ∧ k < i + n ∧ p k = true := by
 intro n
 induction n with
 | zero => intro i; simp only [anyF]; constructor <;> intro h
           ·cases h
           ·obtain ⟨k, h1, h2, _⟩ := h; omega
 | succ n ih =>
  intro i
  simp only [anyF, Bool.or_eq_true, ih]
  constructor
  ·rintro (h | ⟨k, h1, h2, h3⟩)
   ·exact ⟨i, Nat.le_refl _, by omega, h⟩
   ·exact ⟨k, by omega, by omega, h3⟩
  ·rintro ⟨k, h1, h2, h3⟩
   rcases Nat.eq_or_lt_of_le h1 with rfl | h4
   ·exact .inl h3
   ·exact .inr ⟨k, by omega, by omega, h3⟩
def outL {α : Type} (n : Nat) (T : Nat → α) : Sl α := ⟨false, n, fun i => T (min i (n - 1))⟩
theorem outL_el {α : Type} {n : Nat} {T : Nat → α} {i : Nat} (h : i < n) : (outL n T).el i = T i := by
 show T (min i (n - 1)) = T i
 rw [Nat.min_eq_left (by omega)]
theorem outL_len {α : Type} {n : Nat} {T : Nat → α} : (outL n T).len = n := rfl
abbrev noneRow : V := .row true 0 0 fun _ => []
theorem app_enc {α : Type} (e : α → List V) (T : Nat → α) {i : Nat} (hi : 1 ≤ i) : appGet i (fun j => e (T (min j (i - 1)))) (fun _ => e (T i)) = fun j => e (T (min j i)) := by
 funext j
 unfold appGet
 by_cases h : j < i
 ·rw [if_pos h]; show e (T (min j (i - 1))) = e (T (min j i)); rw [show min j (i - 1) = min j i by omega]
 ·rw [if_neg h]; show e (T i) = e (T (min j i)); rw [show min j i = i by omega]
theorem one_enc {α : Type} (e : α → List V) (T : Nat → α) : (fun _ : Nat => e (T 0)) = fun j => e (T (min j (1 - 1))) := by
 funext j
 show e (T 0) = e (T (min j 0))
 rw [Nat.min_zero]
theorem wr1 : IntKind.i64.wrap ((0 : Int) + 1) = ((1 : Nat) : Int) := by rw [wr (by omega)]; rfl
def mv (s : Site) (l : Sl Stt) (y : Day) (i : Nat) : Stt := move1 s (s.cavs.el i) (l.el i) (y.press.el i) (y.warm.el i)
def farAt (s : Site) (y : Day) (i : Nat) : Bool := farB s (s.cavs.el i) (y.press.el i) (y.warm.el i)
def farDay (s : Site) (y : Day) : Bool := anyF (farAt s y) s.cavs.len 0
abbrev moved (s : Site) (l : Sl Stt) (y : Day) : Sl Stt := outL l.len (mv s l y)
abbrev moveR (s : Site) (l : Sl Stt) (y : Day) : V := bif farDay s y then .tup [noneRow, .bool false] else .tup [sl eStt 6 (moved s l y), .bool true]
theorem l51 (s : Site) (l : Sl Stt) (y : Day) (hS : SiteF s) (hL : StatesOk s l) (hD : DayOk s y) (hF : 8 < F) : ∀ n i fu, l.len = i + n → n < fu → 1 ≤ i →
  L51x1 (E F (d + 6)) F s l y fu (i : Int) i i (fun j => eStt (mv s l y (min j (i - 1)))) = some (.ret (bif anyF (farAt s y) n i then .tup [noneRow, .bool false] else .tup [sl eStt 6 (moved s l y), .bool true])) := by
 have h5 := hS.cavs5
 have hl := hL.1
 have hp := hD.1.1
 have hw := hD.2.1
 intro n
 induction n with
 | zero =>
  intro i fu h hf hi
  obtain ⟨fu, rfl⟩ : ∃ k, fu = k + 1 := ⟨fu - 1, by omega⟩
  have e : l.len = i := by omega
  rw [L51x1s]
  simp only [Int.ofNat_lt, show ¬ i < l.len by omega, decide_false, cond_false, anyF, moved, outL]
  rw [e]
 | succ n ih =>
  intro i fu h hf hi
  obtain ⟨fu, rfl⟩ : ∃ k, fu = k + 1 := ⟨fu - 1, by omega⟩
  rw [L51x1s]
  obtain ⟨g1, g2⟩ := s91 F d s i (l.el i) (y.press.el i) (y.warm.el i) hS (by omega) (hL.2 i (by omega)) (hD.1.2 i (by omega)) hF
  simp only [Int.ofNat_lt, show i < l.len by omega, show i < y.press.len by omega, show i < y.warm.len by omega, decide_true, cond_true, Int.natCast_nonneg, Int.toNat_natCast, anyF]
  cases hf1 : farAt s y i with
  | true =>
   obtain ⟨m, e⟩ := g2 hf1
   simp only [e, tkOut_pan, tkIfc_i, Bool.true_or, cond_true]
   rfl
  | false =>
   simp only [g1 hf1, tkOut_ret, tkAgg_a, tkCons_c, tkInt_i, tkNil_n, show (i + 1) * 48 ≤ 140737488355328 by omega, decide_true, cond_true, wrS (show i < 4611686018427387904 by omega), Bool.false_or]
   exact (congrArg (L51x1 (E F (d + 6)) F s l y fu ((i + 1 : Nat) : Int) (i + 1) (i + 1)) (app_enc eStt (mv s l y) hi)).trans (ih (i + 1) fu (by omega) (by omega) (by omega))
theorem s51 (s : Site) (l : Sl Stt) (y : Day) (hS : SiteF s) (hL : StatesOk s l) (hD : DayOk s y) (hF : 8 < F) :
  (E F (d + 7)).pf 34 [pSite s, sl eStt 6 l, .agg (eDay y)] = some (.ret (moveR s l y)) := by
 have h5 := hS.cavs5
 have h1 := hS.cavs1
 have hl := hL.1
 have hp := hD.1.1
 have hw := hD.2.1
 rw [E_pf, t51]
 obtain ⟨fu, rfl⟩ : ∃ k, F = k + 1 := ⟨F - 1, by omega⟩
 rw [L51x0s]
 obtain ⟨n, hn⟩ : ∃ n, l.len = 1 + n := ⟨l.len - 1, by omega⟩
 obtain ⟨g1, g2⟩ := s91 (fu + 1) d s 0 (l.el 0) (y.press.el 0) (y.warm.el 0) hS (by omega) (hL.2 0 (by omega)) (hD.1.2 0 (by omega)) hF
 have z : ∀ m : Nat, 0 < m → decide ((0 : Int) < (m : Int)) = true := fun m hm => decide_eq_true (by omega)
 simp only [z l.len (by omega), z y.press.len (by omega), z y.warm.len (by omega), cond_true]
 have hc : s.cavs.len = n + 1 := by omega
 unfold moveR farDay
 rw [hc]
 simp only [anyF]
 cases hf1 : farAt s y 0 with
 | true =>
  obtain ⟨m, e⟩ := g2 hf1
  simp only [Int.natCast_zero] at e
  simp only [e, tkOut_pan, tkIfc_i, Bool.true_or, cond_true]
  rfl
 | false =>
  have e := g1 hf1
  simp only [Int.natCast_zero] at e
  simp only [e, tkOut_ret, tkAgg_a, tkCons_c, tkInt_i, tkNil_n, wr1, Bool.false_or]
  exact (congrArg (L51x1 (E (fu + 1) (d + 6)) (fu + 1) s l y fu ((1 : Nat) : Int) 1 1) (one_enc eStt (mv s l y))).trans (l51 (fu + 1) d s l y hS hL hD hF n 1 fu (by omega) (by omega) (by omega))
theorem s14 (s : Site) (l : Sl Stt) (y : Day) (hs : Small s F) (hB : l.len < Big) (hlF : l.len < F) (hB' : y.press.len < Big) (hB2 : y.warm.len < Big) (hF' : y.press.len < F) (hF2 : y.warm.len < F) (hF : 8 < F) :
  (E F (d + 8)).pf 19 [.agg (eSite s), sl eStt 6 l, .agg (eDay y)] = some (.ret (bif siteB s && (decide (StatesOk s l) && decide (DayOk s y)) then (bif farDay s y then .tup [noneRow, .int .i64 7] else .tup [sl eStt 6 (moved s l y), .int .i64 0]) else .tup [noneRow, .int .i64 2])) := by
 rw [E_pf, t14]
 simp only [s48 F (d + 1) s hs, tkOut_ret, tkBool_b, s49 F (d + 1) s l hB hlF, s50 F (d + 1) s y hB' hB2 hF' hF2, Nat.reduceAdd, Nat.add_assoc]
 cases h1 : siteB s
 ·rfl
 ·by_cases h2 : StatesOk s l
  ·by_cases h3 : DayOk s y
   ·simp only [decide_eq_true h2, decide_eq_true h3, Bool.not_true, cond_false, Bool.and_self, cond_true, s51 F d s l y ((siteB_iff s).1 h1) h2 h3 hF, tkOut_ret, moveR]
    cases farDay s y <;> rfl
   ·simp only [decide_eq_true h2, decide_eq_false h3, Bool.not_true, Bool.not_false, cond_false, cond_true, Bool.and_false]
  ·simp only [decide_eq_false h2, Bool.not_true, Bool.not_false, cond_false, cond_true, Bool.and_false, Bool.false_and]
def start (c : Cav) : Stt := ⟨c.rad, c.vol, ⟨0, 0⟩⟩
abbrev begin (s : Site) : Sl Stt := outL s.cavs.len (fun i => start (s.cavs.el i))
theorem l57 (s : Site) (h5 : s.cavs.len ≤ 5) : ∀ n i fu, s.cavs.len = i + n → n < fu → 1 ≤ i →
  L57x1 (E F d) F s fu i (i : Int) i (fun j => eStt (start (s.cavs.el (min j (i - 1))))) = some (.ret (sl eStt 6 (begin s))) := by
 intro n
 induction n with
 | zero =>
  intro i fu h hf hi
  obtain ⟨fu, rfl⟩ : ∃ k, fu = k + 1 := ⟨fu - 1, by omega⟩
  have e : s.cavs.len = i := by omega
  rw [L57x1s]
  simp only [Int.ofNat_lt, show ¬ i < s.cavs.len by omega, decide_false, cond_false, begin, outL]
  rw [e]
 | succ n ih =>
  intro i fu h hf hi
  obtain ⟨fu, rfl⟩ : ∃ k, fu = k + 1 := ⟨fu - 1, by omega⟩
  rw [L57x1s]
  simp only [Int.ofNat_lt, show i < s.cavs.len by omega, decide_true, cond_true, Int.natCast_nonneg, Int.toNat_natCast, show (i + 1) * 48 ≤ 140737488355328 by omega, wrS (show i < 4611686018427387904 by omega)]
  exact (congrArg (L57x1 (E F d) F s fu (i + 1) ((i + 1 : Nat) : Int) (i + 1)) (app_enc eStt (fun i => start (s.cavs.el i)) hi)).trans (ih (i + 1) fu (by omega) (by omega) (by omega))
theorem s57 (s : Site) (h1 : 1 ≤ s.cavs.len) (h5 : s.cavs.len ≤ 5) (hF : 8 < F) : (E F (d + 1)).pf 38 [pSite s] = some (.ret (sl eStt 6 (begin s))) := by
 rw [E_pf, t57]
 obtain ⟨fu, rfl⟩ : ∃ k, F = k + 1 := ⟨F - 1, by omega⟩
 rw [L57x0s]
 have z : ∀ m : Nat, 0 < m → decide ((0 : Int) < (m : Int)) = true := fun m hm => decide_eq_true (by omega)
 simp only [z s.cavs.len (by omega), cond_true, wr1]
 exact (congrArg (L57x1 (E (fu + 1) d) (fu + 1) s fu 1 ((1 : Nat) : Int) 1) (one_enc eStt (fun i => start (s.cavs.el i)))).trans (l57 (fu + 1) d s h5 (s.cavs.len - 1) 1 fu (by omega) (by omega) (by omega))
theorem s24 (s : Site) (hs : Small s F) (hF : 8 < F) : (E F (d + 7)).pf 17 [.agg (eSite s)] = some (.ret (bif siteB s then .tup [sl eStt 6 (begin s), .int .i64 0] else .tup [noneRow, .int .i64 2])) := by
 rw [E_pf, t24]
 simp only [s48 F d s hs, tkOut_ret, tkBool_b]
 cases h1 : siteB s
 ·rfl
 ·have hS := (siteB_iff s).1 h1
  simp only [s57 F (d + 5) s hS.cavs1 hS.cavs5 hF, tkOut_ret, tkRow_r]
  rfl
theorem l38 (s : Site) (h5 : s.cavs.len ≤ 5) : ∀ n i fu, s.cavs.len = i + n → n < fu → 1 ≤ i →
  L38x1 (E F d) F s fu i (i : Int) i (fun j => eStt (start (s.cavs.el (min j (i - 1))))) = some (.ret (sl eStt 6 (begin s))) := by
 intro n
 induction n with
 | zero =>
  intro i fu h hf hi
  obtain ⟨fu, rfl⟩ : ∃ k, fu = k + 1 := ⟨fu - 1, by omega⟩
  have e : s.cavs.len = i := by omega
  rw [L38x1s]
  simp only [Int.ofNat_lt, show ¬ i < s.cavs.len by omega, decide_false, cond_false, begin, outL]
  rw [e]
 | succ n ih =>
  intro i fu h hf hi
  obtain ⟨fu, rfl⟩ : ∃ k, fu = k + 1 := ⟨fu - 1, by omega⟩
  rw [L38x1s]
  simp only [Int.ofNat_lt, show i < s.cavs.len by omega, decide_true, cond_true, Int.natCast_nonneg, Int.toNat_natCast, show (i + 1) * 48 ≤ 140737488355328 by omega, show (decide (1 < 19) && decide (17 < 19)) = true from rfl, wrS (show i < 4611686018427387904 by omega)]
  exact (congrArg (L38x1 (E F d) F s fu (i + 1) ((i + 1 : Nat) : Int) (i + 1)) (app_enc eStt (fun i => start (s.cavs.el i)) hi)).trans (ih (i + 1) fu (by omega) (by omega) (by omega))
theorem s38 (s : Site) (h1 : 1 ≤ s.cavs.len) (h5 : s.cavs.len ≤ 5) (hF : 8 < F) : (E F (d + 1)).pf 115 [.agg (eSite s)] = some (.ret (sl eStt 6 (begin s))) := by
 rw [E_pf, t38]
 obtain ⟨fu, rfl⟩ : ∃ k, F = k + 1 := ⟨F - 1, by omega⟩
 rw [L38x0s]
 have z : ∀ m : Nat, 0 < m → decide ((0 : Int) < (m : Int)) = true := fun m hm => decide_eq_true (by omega)
 simp only [z s.cavs.len (by omega), cond_true, wr1, show (decide (17 < 19) && true) = true from rfl, show (decide (1 < 19) && true) = true from rfl]
 exact (congrArg (L38x1 (E (fu + 1) d) (fu + 1) s fu 1 ((1 : Nat) : Int) 1) (one_enc eStt (fun i => start (s.cavs.el i)))).trans (l38 (fu + 1) d s h5 (s.cavs.len - 1) 1 fu (by omega) (by omega) (by omega))
theorem upDown (v : Int) {r f : Int} (hv : 0 ≤ v ∧ v ≤ 10000000) (hr : 0 ≤ r ∧ r ≤ 100000) (hf : 0 ≤ f ∧ f ≤ 10000) : 0 ≤ v * r * f ∧ v * r * f ≤ v * 1000000000 := by
 have h2 := mulB hr hf
 have h3 := mulB hv (show 0 ≤ r * f ∧ r * f ≤ 1000000000 by omega)
 have h4 : v * (r * f) ≤ v * 1000000000 := Int.mul_le_mul_of_nonneg_left (by omega) hv.1
 rw [Int.mul_assoc]
 omega
theorem stt_eq {a b c d e f : Int} {x : Stt} (h1 : a = x.rad.lo) (h2 : b = x.rad.hi) (h3 : c = x.vol.lo) (h4 : d = x.vol.hi) (h5 : e = x.lost.lo) (h6 : f = x.lost.hi) : [V.int .i64 a, .int .i64 b, .int .i64 c, .int .i64 d, .int .i64 e, .int .i64 f] = eStt x := by
 subst h1 h2 h3 h4 h5 h6; rfl
theorem s56 (s : Site) (i : Nat) (x : Stt) (p q : Span) (hS : SiteF s) (hi : i < s.cavs.len) (hx : SttOk x) (hp : SpanIn p 0 50000) (hf : farB s (s.cavs.el i) p q = false) (hF : 8 < F) :
  (E F (d + 3)).pf 127 [.agg (eSite s), .int .i64 (i : Int), .agg (eStt x), .agg (eSpan p), .agg (eSpan q)] = some (.ret (.agg (eStt (move1 s (s.cavs.el i) x p q)))) := by
 obtain ⟨f1, f2⟩ := far_split hf
 obtain ⟨k1, k2, k3, k4, k5, k6⟩ := rates_ok hS hf
 have e58 : (E F (d + 2)).pf 133 [.agg (eSite s), .agg [.int .i64 ((s.cavs.el i).rock - p.hi), .int .i64 ((s.cavs.el i).rock - p.lo)]] = some (.ret (.agg [.int .i64 (rateOf s (s.cavs.el i) p).lo, .int .i64 (rateOf s (s.cavs.el i) p).hi])) := s58 F d s ⟨_, _⟩ hS f1 hF
 have e60 : (E F (d + 2)).pf 135 [.agg (eSite s), .agg [.int .i64 ((s.cavs.el i).rock - p.hi), .int .i64 ((s.cavs.el i).rock - p.lo)]] = some (.ret (.agg [.int .i64 (fallOf s (s.cavs.el i) p).lo, .int .i64 (fallOf s (s.cavs.el i) p).hi])) := s60 F d s ⟨_, _⟩ hS f1 hF
 have a1 := upDown x.vol.lo (show 0 ≤ x.vol.lo ∧ x.vol.lo ≤ 10000000 by omega) k2 k6
 have a2 := upDown x.vol.hi (show 0 ≤ x.vol.hi ∧ x.vol.hi ≤ 10000000 by omega) k1 k5
 have a3 := upDown x.vol.lo (show 0 ≤ x.vol.lo ∧ x.vol.lo ≤ 10000000 by omega) k1 k5
 have a4 := upDown x.vol.hi (show 0 ≤ x.vol.hi ∧ x.vol.hi ≤ 10000000 by omega) k2 k6
 rw [E_pf, t56]
 simp only [s70 F (d + 1) s i p hS hi hp, e58, e60, s59 F (d + 1) s q hS f2 hF, tkOut_ret, tkAgg_a, tkCons_c, tkInt_i, tkNil_n, decide_true, cond_true,
  s62 F (d + 1) x.vol.lo (rateOf s (s.cavs.el i) p).hi (factorOf s q).hi (by omega) k2 k6, s61 F (d + 1) x.vol.hi (rateOf s (s.cavs.el i) p).lo (factorOf s q).lo (by omega) k1 k5,
  s61 F (d + 1) x.vol.lo (rateOf s (s.cavs.el i) p).lo (factorOf s q).lo (by omega) k1 k5, s62 F (d + 1) x.vol.hi (rateOf s (s.cavs.el i) p).hi (factorOf s q).hi (by omega) k2 k6]
 refine congrArg (fun l => some (Out.ret (V.agg l))) ?_
 refine stt_eq ?_ ?_ ?_ ?_ ?_ ?_
 ·rw [wr (by omega)]; rfl
 ·rw [wr (by omega)]; rfl
 ·rw [wr (by omega)]; show _ = x.vol.lo - shrink _ _ _ _; unfold shrink minI; split <;> split <;> omega
 ·rw [wr (by omega)]; show _ = x.vol.hi - shrink _ _ _ _; unfold shrink minI; split <;> split <;> omega
 ·rw [wr (by omega)]; show _ = minI (x.lost.lo + shrink _ _ _ _) _; unfold shrink minI; split <;> split <;> split <;> omega
 ·rw [wr (by split <;> omega)]; rfl
end Go.Sim.Cr


namespace Go.Sim.Cr
open Go.Proofs
variable (F d : Nat)
theorem l21 (s : Site) (l : Sl Stt) (y : Day) (hS : SiteF s) (hL : StatesOk s l) (hD : DayOk s y) (hF : 8 < F) : ∀ n i fu, l.len = i + n → n < fu → 1 ≤ i →
  L21x1 (E F (d + 3)) F s l y fu i (i : Int) i (fun j => eStt (mv s l y (min j (i - 1)))) = some (.ret (bif anyF (farAt s y) n i then .tup [noneRow, .bool false] else .tup [sl eStt 6 (moved s l y), .bool true])) := by
 have h5 := hS.cavs5
 have hl := hL.1
 have hp := hD.1.1
 have hw := hD.2.1
 intro n
 induction n with
 | zero =>
  intro i fu h hf hi
  obtain ⟨fu, rfl⟩ : ∃ k, fu = k + 1 := ⟨fu - 1, by omega⟩
  have e : l.len = i := by omega
  rw [L21x1s]
  simp only [Int.ofNat_lt, show ¬ i < l.len by omega, decide_false, cond_false, anyF, moved, outL]
  rw [e]
 | succ n ih =>
  intro i fu h hf hi
  obtain ⟨fu, rfl⟩ : ∃ k, fu = k + 1 := ⟨fu - 1, by omega⟩
  rw [L21x1s]
  have g := s32 F (d + 1) s i (y.press.el i) (y.warm.el i) hS (by omega) (hD.1.2 i (by omega))
  simp only [Int.ofNat_lt, show i < l.len by omega, show i < y.press.len by omega, show i < y.warm.len by omega, decide_true, cond_true, Int.natCast_nonneg, Int.toNat_natCast, anyF, g, tkOut_ret, tkBool_b]
  cases hf1 : farAt s y i with
  | true =>
   simp only [show farB s (s.cavs.el i) (y.press.el i) (y.warm.el i) = true from hf1, cond_true, Bool.true_or]
  | false =>
   simp only [show farB s (s.cavs.el i) (y.press.el i) (y.warm.el i) = false from hf1, cond_false, s56 F d s i (l.el i) (y.press.el i) (y.warm.el i) hS (by omega) (hL.2 i (by omega)) (hD.1.2 i (by omega)) hf1 hF,
    tkOut_ret, tkAgg_a, tkCons_c, tkInt_i, tkNil_n, show (i + 1) * 48 ≤ 140737488355328 by omega, decide_true, cond_true, wrS (show i < 4611686018427387904 by omega), Bool.false_or]
   exact (congrArg (L21x1 (E F (d + 3)) F s l y fu (i + 1) ((i + 1 : Nat) : Int) (i + 1)) (app_enc eStt (mv s l y) hi)).trans (ih (i + 1) fu (by omega) (by omega) (by omega))
theorem s21 (s : Site) (l : Sl Stt) (y : Day) (hS : SiteF s) (hL : StatesOk s l) (hD : DayOk s y) (hF : 8 < F) :
  (E F (d + 4)).pf 116 [.agg (eSite s), sl eStt 6 l, .agg (eDay y)] = some (.ret (moveR s l y)) := by
 have h5 := hS.cavs5
 have h1 := hS.cavs1
 have hl := hL.1
 have hp := hD.1.1
 have hw := hD.2.1
 rw [E_pf, t21]
 obtain ⟨fu, rfl⟩ : ∃ k, F = k + 1 := ⟨F - 1, by omega⟩
 rw [L21x0s]
 obtain ⟨n, hn⟩ : ∃ n, l.len = 1 + n := ⟨l.len - 1, by omega⟩
 have g : (E (fu + 1) (d + 3)).pf 126 [.agg (eSite s), .int .i64 0, .agg (eSpan (y.press.el 0)), .agg (eSpan (y.warm.el 0))] = _ := s32 (fu + 1) (d + 1) s 0 (y.press.el 0) (y.warm.el 0) hS (by omega) (hD.1.2 0 (by omega))
 have z : ∀ m : Nat, 0 < m → decide ((0 : Int) < (m : Int)) = true := fun m hm => decide_eq_true (by omega)
 simp only [z l.len (by omega), z y.press.len (by omega), z y.warm.len (by omega), cond_true, g, tkOut_ret, tkBool_b]
 have hc : s.cavs.len = n + 1 := by omega
 unfold moveR farDay
 rw [hc]
 simp only [anyF]
 cases hf1 : farAt s y 0 with
 | true =>
  simp only [show farB s (s.cavs.el 0) (y.press.el 0) (y.warm.el 0) = true from hf1, cond_true, Bool.true_or]
 | false =>
  have e : (E (fu + 1) (d + 3)).pf 127 [.agg (eSite s), .int .i64 0, .agg (eStt (l.el 0)), .agg (eSpan (y.press.el 0)), .agg (eSpan (y.warm.el 0))] = _ := s56 (fu + 1) d s 0 (l.el 0) (y.press.el 0) (y.warm.el 0) hS (by omega) (hL.2 0 (by omega)) (hD.1.2 0 (by omega)) hf1 hF
  simp only [show farB s (s.cavs.el 0) (y.press.el 0) (y.warm.el 0) = false from hf1, cond_false, e, tkOut_ret, tkAgg_a, tkCons_c, tkInt_i, tkNil_n, wr1, Bool.false_or]
  exact (congrArg (L21x1 (E (fu + 1) (d + 3)) (fu + 1) s l y fu 1 ((1 : Nat) : Int) 1) (one_enc eStt (mv s l y))).trans (l21 (fu + 1) d s l y hS hL hD hF n 1 fu (by omega) (by omega) (by omega))
end Go.Sim.Cr


namespace Go.Sim.Cr
open Go.Proofs
variable (F d : Nat)
section
variable {α : Type} (e : α → List V) (z : α)
def gl (ms : List α) : Nat → List V := fun j => e (ms.getD j (ms.getLastD z))
abbrev rowL (wd : Nat) (ms : List α) : V := .row ms.isEmpty ms.length (bif ms.isEmpty then 0 else wd) (bif ms.isEmpty then (fun _ => []) else gl e z ms)
theorem rowL_ne {wd : Nat} {ms : List α} {n : Nat} (hn : ms.length = n) (h : 1 ≤ n) : rowL e z wd ms = .row false n wd (gl e z ms) := by
 subst hn
 cases ms with
 | nil => simp at h
 | cons m ms => rfl
variable {e z}
theorem gl_one {l : List V} {m : α} (hl : l = e m) : (fun _ : Nat => l) = gl e z [m] := by
 subst hl
 funext j
 unfold gl
 cases j <;> rfl
theorem gl_snoc {l : List V} {m : α} {ms : List α} {k : Nat} (hk : ms.length = k) (hl : l = e m) : appGet k (gl e z ms) (fun _ => l) = gl e z (ms ++ [m]) := by
 subst hl hk
 funext j
 unfold appGet gl
 rw [List.getLastD_concat, List.getD_eq_getElem?_getD, List.getD_eq_getElem?_getD]
 by_cases h : j < ms.length
 ·rw [if_pos h, List.getElem?_append_left h, List.getElem?_eq_getElem h]; rfl
 ·rw [if_neg h, List.getElem?_append_right (by omega)]
  rcases Nat.eq_zero_or_pos (j - ms.length) with h0 | h0
  ·rw [h0]; rfl
  ·rw [List.getElem?_eq_none (by simp; omega)]; rfl
end
abbrev zMark : Mark := ⟨0, 0, false, false⟩
abbrev rowM (ms : List Mark) : V := rowL eMark zMark 4 ms
def ixM (is : Mark → Bool) (ms : List Mark) : Int := ixF (fun j => is (ms.getD j (ms.getLastD zMark))) ms.length 0
theorem ixF_find (is : Mark → Bool) (ms : List Mark) (z : Mark) : ∀ n i, ms.length = i + n → ((ms.drop i).find? is = none ∧ ixF (fun j => is (ms.getD j z)) n i = -1) ∨
  ∃ (j : Nat) (m : Mark), (ms.drop i).find? is = some m ∧ ixF (fun j => is (ms.getD j z)) n i = (j : Int) ∧ j < ms.length ∧ ms.getD j z = m := by
 intro n
 induction n with
 | zero => intro i h; left; rw [List.drop_of_length_le (by omega)]; exact ⟨rfl, rfl⟩
 | succ n ih =>
  intro i h
  rw [List.drop_eq_getElem_cons (show i < ms.length by omega)]
  have hg : ms.getD i z = ms[i] := by rw [List.getD_eq_getElem?_getD, List.getElem?_eq_getElem (by omega)]; rfl
  simp only [ixF, hg, List.find?_cons]
  cases hi : is ms[i] with
  | true => right; exact ⟨i, ms[i], rfl, by rw [cond_true], by omega, hg⟩
  | false =>
   rcases ih (i + 1) (by omega) with ⟨h1, h2⟩ | ⟨j, m, h1, h2, h3, h4⟩
   ·left; exact ⟨h1, by rw [cond_false]; exact h2⟩
   ·right; exact ⟨j, m, h1, by rw [cond_false]; exact h2, h3, h4⟩
theorem ixM_find (is : Mark → Bool) (ms : List Mark) : (ms.find? is = none ∧ ixM is ms = -1) ∨
  ∃ (j : Nat) (m : Mark), ms.find? is = some m ∧ ixM is ms = (j : Int) ∧ j < ms.length ∧ ms.getD j (ms.getLastD zMark) = m :=
 ixF_find is ms (ms.getLastD zMark) ms.length 0 (by omega)
theorem s66 (m : Mark) : (E F (d + 1)).pf 48 [.agg (eMark m)] = some (.ret (.bool m.possible)) := by rw [E_pf, t66]
theorem s67 (m : Mark) : (E F (d + 1)).pf 49 [.agg (eMark m)] = some (.ret (.bool m.certain)) := by rw [E_pf, t67]
theorem l1021 (l : Sl Mark) (hB : l.len < Big) : ∀ n i fu, l.len = i + n → n < fu → L1021x0 (E F (d + 1)) F l fu (i : Int) = some (.ret (.int .i64 (ixF (fun j => (l.el j).possible) n i))) := by
 intro n
 induction n with
 | zero =>
  intro i fu h hf
  obtain ⟨fu, rfl⟩ : ∃ k, fu = k + 1 := ⟨fu - 1, by omega⟩
  rw [L1021x0s]
  simp only [Int.ofNat_lt, show ¬ i < l.len by omega, decide_false, cond_false, ixF]
 | succ n ih =>
  intro i fu h hf
  obtain ⟨fu, rfl⟩ : ∃ k, fu = k + 1 := ⟨fu - 1, by omega⟩
  rw [L1021x0s]
  simp only [Int.ofNat_lt, show i < l.len by omega, decide_true, cond_true, Int.natCast_nonneg, Int.toNat_natCast, s66, tkOut_ret, tkBool_b, ixF, wrS (show i < Big by omega), ih (i + 1) fu (by omega) (by omega)]
  cases (l.el i).possible <;> rfl
theorem l1022 (l : Sl Mark) (hB : l.len < Big) : ∀ n i fu, l.len = i + n → n < fu → L1022x0 (E F (d + 1)) F l fu (i : Int) = some (.ret (.int .i64 (ixF (fun j => (l.el j).certain) n i))) := by
 intro n
 induction n with
 | zero =>
  intro i fu h hf
  obtain ⟨fu, rfl⟩ : ∃ k, fu = k + 1 := ⟨fu - 1, by omega⟩
  rw [L1022x0s]
  simp only [Int.ofNat_lt, show ¬ i < l.len by omega, decide_false, cond_false, ixF]
 | succ n ih =>
  intro i fu h hf
  obtain ⟨fu, rfl⟩ : ∃ k, fu = k + 1 := ⟨fu - 1, by omega⟩
  rw [L1022x0s]
  simp only [Int.ofNat_lt, show i < l.len by omega, decide_true, cond_true, Int.natCast_nonneg, Int.toNat_natCast, s67, tkOut_ret, tkBool_b, ixF, wrS (show i < Big by omega), ih (i + 1) fu (by omega) (by omega)]
  cases (l.el i).certain <;> rfl
theorem s102a (ms : List Mark) (hB : ms.length < Big) (hF : ms.length < F) : (E F (d + 2)).pf 74 [rowM ms, .fn (.func 48) [] []] = some (.ret (.int .i64 (ixM Mark.possible ms))) := by
 rw [E_pf]
 cases ms with
 | nil =>
  refine (t1023 (E F (d + 1)) F).trans ?_
  obtain ⟨fu, rfl⟩ : ∃ k, F = k + 1 := ⟨F - 1, by simp at hF; omega⟩
  rw [L1023x0s]; rfl
 | cons m ms =>
  refine (t1021 (E F (d + 1)) F ⟨false, (m :: ms).length, fun j => (m :: ms).getD j ((m :: ms).getLastD zMark)⟩).trans ?_
  exact l1021 F d ⟨false, (m :: ms).length, fun j => (m :: ms).getD j ((m :: ms).getLastD zMark)⟩ hB (m :: ms).length 0 F (by simp) hF
theorem s102b (ms : List Mark) (hB : ms.length < Big) (hF : ms.length < F) : (E F (d + 2)).pf 74 [rowM ms, .fn (.func 49) [] []] = some (.ret (.int .i64 (ixM Mark.certain ms))) := by
 rw [E_pf]
 cases ms with
 | nil =>
  refine (t1024 (E F (d + 1)) F).trans ?_
  obtain ⟨fu, rfl⟩ : ∃ k, F = k + 1 := ⟨F - 1, by simp at hF; omega⟩
  rw [L1024x0s]; rfl
 | cons m ms =>
  refine (t1022 (E F (d + 1)) F ⟨false, (m :: ms).length, fun j => (m :: ms).getD j ((m :: ms).getLastD zMark)⟩).trans ?_
  exact l1022 F d ⟨false, (m :: ms).length, fun j => (m :: ms).getD j ((m :: ms).getLastD zMark)⟩ hB (m :: ms).length 0 F (by simp) hF
abbrev pTod (s : Site) (y : Day) (B C : V) : V := .rptr 1 5 (fun _ => [pSite s, sl eSpan 2 y.press, sl eSpan 2 y.warm, B, C]) 0 0
theorem zlt {m : Nat} (hm : 0 < m) : decide ((0 : Int) < (m : Int)) = true := decide_eq_true (by omega)
def gateM (s : Site) (y : Day) (i : Nat) : Mark :=
 ⟨i, 0, decide ((y.press.el i).lo < (s.cavs.el i).gate.lo) || decide ((y.press.el i).hi > (s.cavs.el i).gate.hi), decide ((y.press.el i).hi < (s.cavs.el i).gate.lo) || decide ((y.press.el i).lo > (s.cavs.el i).gate.hi)⟩
theorem l97 (s : Site) (y : Day) (B C : V) (h5 : s.cavs.len ≤ 5) (hp : y.press.len = s.cavs.len) : ∀ n i fu (acc : List Mark), s.cavs.len = i + n → n < fu → acc.length = i → 1 ≤ i →
  L97x1 (E F d) F s y B C fu i (i : Int) i (gl eMark zMark acc) = some (.ret (rowM (acc ++ (List.range' i n).map (gateM s y)))) := by
 intro n
 induction n with
 | zero =>
  intro i fu acc h hf ha hi
  obtain ⟨fu, rfl⟩ : ∃ k, fu = k + 1 := ⟨fu - 1, by omega⟩
  rw [L97x1s]
  simp only [Int.ofNat_lt, show ¬ i < s.cavs.len by omega, decide_false, cond_false, List.range'_zero, List.map_nil, List.append_nil]
  rw [rowM, rowL_ne eMark zMark ha hi]
 | succ n ih =>
  intro i fu acc h hf ha hi
  obtain ⟨fu, rfl⟩ : ∃ k, fu = k + 1 := ⟨fu - 1, by omega⟩
  rw [L97x1s]
  simp only [Int.ofNat_lt, show i < s.cavs.len by omega, show i < y.press.len by omega, decide_true, cond_true, Int.natCast_nonneg, Int.toNat_natCast, show (i + 1) * 24 ≤ 140737488355328 by omega, wrS (show i < 4611686018427387904 by omega)]
  rw [List.range'_succ, List.map_cons, List.append_cons]
  cases h1 : decide ((y.press.el i).lo < (s.cavs.el i).gate.lo) <;> cases h2 : decide ((y.press.el i).hi < (s.cavs.el i).gate.lo) <;> simp only [cond_true, cond_false] <;>
   exact (congrArg (L97x1 (E F d) F s y B C fu (i + 1) ((i + 1 : Nat) : Int) (i + 1)) (gl_snoc ha (by simp [gateM, h1, h2]))).trans (ih (i + 1) fu _ (by omega) (by omega) (by simp [ha]) (by omega))
theorem wrLen {n : Nat} (h1 : 1 ≤ n) (h2 : n < 4611686018427387904) : IntKind.i64.wrap ((n : Int) - 1) = ((n - 1 : Nat) : Int) := by rw [wr (by omega)]; omega
theorem fin96 (T : Nat → Mark) (n : Nat) : [T 0] ++ (List.range' 1 n).map T = (List.range' 0 (n + 1)).map T := by
 rw [List.range'_succ, List.map_cons]; rfl
theorem s97 (s : Site) (y : Day) (B C : V) (h1 : 1 ≤ s.cavs.len) (h5 : s.cavs.len ≤ 5) (hp : y.press.len = s.cavs.len) (hF : 8 < F) :
  (E F (d + 1)).pf 69 [pTod s y B C] = some (.ret (rowM ((List.range' 0 s.cavs.len).map (gateM s y)))) := by
 obtain ⟨n, hn⟩ : ∃ n, s.cavs.len = n + 1 := ⟨s.cavs.len - 1, by omega⟩
 obtain ⟨fu, rfl⟩ : ∃ k, F = k + 1 := ⟨F - 1, by omega⟩
 rw [E_pf, t97, L97x0s]
 simp only [zlt (show 0 < s.cavs.len by omega), zlt (show 0 < y.press.len by omega), cond_true, wr1]
 rw [hn, ← fin96]
 cases h1 : decide ((y.press.el 0).lo < (s.cavs.el 0).gate.lo) <;> cases h2 : decide ((y.press.el 0).hi < (s.cavs.el 0).gate.lo) <;> simp only [cond_true, cond_false] <;>
  exact (congrArg (L97x1 (E (fu + 1) d) (fu + 1) s y B C fu 1 ((1 : Nat) : Int) 1) (gl_one (by simp [gateM, h1, h2]))).trans (l97 (fu + 1) d s y B C h5 hp n 1 fu [gateM s y 0] (by omega) (by omega) rfl (by omega))
def outB (s : Site) (c : Cav) (p q : Span) : Bool := decide (p.hi > c.rock) || (decide (c.rock - p.lo > rowN s (s.rows.len - 1)) || (decide (q.lo < heatN s 0) || decide (q.hi > heatN s (s.heats.len - 1))))
theorem outB_far {s : Site} (hS : SiteF s) (c : Cav) (p q : Span) : outB s c p q = farB s c p q := by
 have h0 : rowN s 0 = 0 := by
  have := hS.row 0 (by have := hS.rows1; omega)
  simp only [rowB, rowStep, Bool.and_eq_true, decide_eq_true_iff] at this
  exact this.2.2.2
 unfold outB farB offB
 rw [h0]
 apply b2
 simp only [Bool.or_eq_true, decide_eq_true_iff]
 omega
def outM (s : Site) (y : Day) (i : Nat) : Mark := ⟨i, 0, farAt s y i, false⟩
theorem outM_eq {s : Site} (hS : SiteF s) (y : Day) (i : Nat) : outM s y i = ⟨i, 0, outB s (s.cavs.el i) (y.press.el i) (y.warm.el i), false⟩ := by
 rw [outB_far hS]; rfl
theorem l96 (s : Site) (y : Day) (B C : V) (hS : SiteF s) (hp : y.press.len = s.cavs.len) (hw : y.warm.len = s.cavs.len) (hD : DayOk s y) : ∀ n i fu (acc : List Mark), s.cavs.len = i + n → n < fu → acc.length = i → 1 ≤ i →
  L96x1 (E F d) F s y B C fu i (i : Int) i (gl eMark zMark acc) = some (.ret (rowM (acc ++ (List.range' i n).map (outM s y)))) := by
 have h5 := hS.cavs5
 have r1 := hS.rows1
 have r8 := hS.rows8
 have t1 := hS.heats1
 have t8 := hS.heats8
 intro n
 induction n with
 | zero =>
  intro i fu acc h hf ha hi
  obtain ⟨fu, rfl⟩ : ∃ k, fu = k + 1 := ⟨fu - 1, by omega⟩
  rw [L96x1s]
  simp only [Int.ofNat_lt, show ¬ i < s.cavs.len by omega, decide_false, cond_false, List.range'_zero, List.map_nil, List.append_nil]
  rw [rowM, rowL_ne eMark zMark ha hi]
 | succ n ih =>
  intro i fu acc h hf ha hi
  obtain ⟨fu, rfl⟩ : ∃ k, fu = k + 1 := ⟨fu - 1, by omega⟩
  rw [L96x1s]
  have hr := (hS.cav i (by omega)).2.2.2.1
  have hq := hD.1.2 i (by omega)
  simp only [Int.ofNat_lt, show i < s.cavs.len by omega, show i < y.press.len by omega, show i < y.warm.len by omega, decide_true, cond_true, Int.natCast_nonneg, Int.toNat_natCast, show (i + 1) * 24 ≤ 140737488355328 by omega, wrS (show i < 4611686018427387904 by omega),
   wr (show _ ∧ (s.cavs.el i).rock - (y.press.el i).lo ≤ _ by omega), wrLen r1 (show s.rows.len < 4611686018427387904 by omega), wrLen t1 (show s.heats.len < 4611686018427387904 by omega),
   show s.rows.len - 1 < s.rows.len by omega, show s.heats.len - 1 < s.heats.len by omega, zlt (show 0 < s.heats.len by omega)]
  rw [List.range'_succ, List.map_cons, List.append_cons]
  have key : ∀ b, b = outB s (s.cavs.el i) (y.press.el i) (y.warm.el i) → L96x1 (E F d) F s y B C fu (i + 1) ((i + 1 : Nat) : Int) (i + 1) (appGet i (gl eMark zMark acc) fun _ => [.int .i64 (i : Int), .int .i64 0, .bool b, .bool false]) = some (.ret (rowM (acc ++ [outM s y i] ++ (List.range' (i + 1) n).map (outM s y)))) := fun b hb =>
   (congrArg (L96x1 (E F d) F s y B C fu (i + 1) ((i + 1 : Nat) : Int) (i + 1)) (gl_snoc (m := outM s y i) ha (by rw [outM_eq hS, hb]))).trans (ih (i + 1) fu _ (by omega) (by omega) (by simp [ha]) (by omega))
  cases h1 : decide ((y.press.el i).hi > (s.cavs.el i).rock) with
  | true => simp only [cond_true]; exact key true (by unfold outB; rw [h1]; rfl)
  | false =>
   simp only [cond_false]
   cases h2 : decide ((s.cavs.el i).rock - (y.press.el i).lo > (s.rows.el (s.rows.len - 1)).deficit) with
   | true => simp only [cond_true]; exact key true (by unfold outB rowN; rw [h1, h2]; rfl)
   | false =>
    simp only [cond_false]
    cases h3 : decide ((y.warm.el i).lo < (s.heats.el 0).warmth) with
    | true => simp only [cond_true]; exact key true (by unfold outB rowN heatN; rw [h1, h2, h3]; rfl)
    | false => simp only [cond_false]; exact key _ (by unfold outB rowN heatN; rw [h1, h2, h3]; rfl)
theorem s96 (s : Site) (y : Day) (B C : V) (hS : SiteF s) (hD : DayOk s y) (hF : 8 < F) :
  (E F (d + 1)).pf 68 [pTod s y B C] = some (.ret (rowM ((List.range' 0 s.cavs.len).map (outM s y)))) := by
 have h1 := hS.cavs1
 have h5 := hS.cavs5
 have r1 := hS.rows1
 have r8 := hS.rows8
 have t1 := hS.heats1
 have t8 := hS.heats8
 have hp := hD.1.1
 have hw := hD.2.1
 obtain ⟨n, hn⟩ : ∃ n, s.cavs.len = n + 1 := ⟨s.cavs.len - 1, by omega⟩
 obtain ⟨fu, rfl⟩ : ∃ k, F = k + 1 := ⟨F - 1, by omega⟩
 have hr := (hS.cav 0 (by omega)).2.2.2.1
 have hq := hD.1.2 0 (by omega)
 rw [E_pf, t96, L96x0s]
 simp only [zlt (show 0 < s.cavs.len by omega), zlt (show 0 < y.press.len by omega), zlt (show 0 < y.warm.len by omega), cond_true, wr1, Int.ofNat_lt, decide_true, Int.natCast_nonneg, Int.toNat_natCast,
  wr (show _ ∧ (s.cavs.el 0).rock - (y.press.el 0).lo ≤ _ by omega), wrLen r1 (show s.rows.len < 4611686018427387904 by omega), wrLen t1 (show s.heats.len < 4611686018427387904 by omega),
  show s.rows.len - 1 < s.rows.len by omega, show s.heats.len - 1 < s.heats.len by omega, zlt (show 0 < s.heats.len by omega)]
 rw [hn, ← fin96]
 have key : ∀ b, b = outB s (s.cavs.el 0) (y.press.el 0) (y.warm.el 0) → L96x1 (E (fu + 1) d) (fu + 1) s y B C fu 1 ((1 : Nat) : Int) 1 (fun _ => [.int .i64 0, .int .i64 0, .bool b, .bool false]) = some (.ret (rowM ([outM s y 0] ++ (List.range' 1 n).map (outM s y)))) := fun b hb =>
  (congrArg (L96x1 (E (fu + 1) d) (fu + 1) s y B C fu 1 ((1 : Nat) : Int) 1) (gl_one (m := outM s y 0) (by rw [outM_eq hS, hb]; rfl))).trans (l96 (fu + 1) d s y B C hS hp hw hD n 1 fu [outM s y 0] (by omega) (by omega) rfl (by omega))
 cases h1 : decide ((y.press.el 0).hi > (s.cavs.el 0).rock) with
 | true => simp only [cond_true]; exact key true (by unfold outB; rw [h1]; rfl)
 | false =>
  simp only [cond_false]
  cases h2 : decide ((s.cavs.el 0).rock - (y.press.el 0).lo > (s.rows.el (s.rows.len - 1)).deficit) with
  | true => simp only [cond_true]; exact key true (by unfold outB rowN; rw [h1, h2]; rfl)
  | false =>
   simp only [cond_false]
   cases h3 : decide ((y.warm.el 0).lo < (s.heats.el 0).warmth) with
   | true => simp only [cond_true]; exact key true (by unfold outB rowN heatN; rw [h1, h2, h3]; rfl)
   | false => simp only [cond_false]; exact key _ (by unfold outB rowN heatN; rw [h1, h2, h3]; rfl)
def maxI (a b : Int) : Int := if a < b then b else a
def fastM (s : Site) (y : Day) (b : Sl Span) (i : Nat) : Mark :=
 ⟨i, 0, decide (maxI ((y.press.el i).hi - (b.el i).lo) ((b.el i).hi - (y.press.el i).lo) > (s.cavs.el i).change), decide (maxI ((y.press.el i).lo - (b.el i).hi) ((b.el i).lo - (y.press.el i).hi) > (s.cavs.el i).change)⟩
theorem l98 (s : Site) (y : Day) (b : Sl Span) (B C : V) (h5 : s.cavs.len ≤ 5) (hD : DayOk s y) (hb : b.len = s.cavs.len) (hq : ∀ i, i < b.len → SpanIn (b.el i) 0 50000) : ∀ n i fu (acc : List Mark), s.cavs.len = i + n → n < fu → acc.length = i → 1 ≤ i →
  L98x1 (E F d) F s y B C fu i b.nl b.len 2 (fun i => eSpan (b.el i)) (b.len : Int) (i : Int) i (gl eMark zMark acc) = some (.ret (rowM (acc ++ (List.range' i n).map (fastM s y b)))) := by
 have hp := hD.1.1
 intro n
 induction n with
 | zero =>
  intro i fu acc h hf ha hi
  obtain ⟨fu, rfl⟩ : ∃ k, fu = k + 1 := ⟨fu - 1, by omega⟩
  rw [L98x1s]
  simp only [Int.ofNat_lt, show ¬ i < b.len by omega, decide_false, cond_false, List.range'_zero, List.map_nil, List.append_nil]
  rw [rowM, rowL_ne eMark zMark ha hi]
 | succ n ih =>
  intro i fu acc h hf ha hi
  obtain ⟨fu, rfl⟩ : ∃ k, fu = k + 1 := ⟨fu - 1, by omega⟩
  rw [L98x1s]
  have q1 := hD.1.2 i (by omega)
  have q2 := hq i (by omega)
  simp only [Int.ofNat_lt, show i < s.cavs.len by omega, show i < b.len by omega, show i < y.press.len by omega, decide_true, cond_true, Int.natCast_nonneg, Int.toNat_natCast, show (i + 1) * 24 ≤ 140737488355328 by omega, wrS (show i < 4611686018427387904 by omega),
   List.take, List.length, tkCons_c, tkInt_i, tkNil_n, beq_self_eq_true,
   wr (show _ ∧ (y.press.el i).hi - (b.el i).lo ≤ _ by omega), wr (show _ ∧ (y.press.el i).lo - (b.el i).hi ≤ _ by omega), wr (show _ ∧ (b.el i).hi - (y.press.el i).lo ≤ _ by omega), wr (show _ ∧ (b.el i).lo - (y.press.el i).hi ≤ _ by omega)]
  rw [List.range'_succ, List.map_cons, List.append_cons]
  exact (congrArg (L98x1 (E F d) F s y B C fu (i + 1) b.nl b.len 2 (fun i => eSpan (b.el i)) (b.len : Int) ((i + 1 : Nat) : Int) (i + 1)) (gl_snoc (m := fastM s y b i) ha rfl)).trans (ih (i + 1) fu _ (by omega) (by omega) (by simp [ha]) (by omega))
theorem s98 (s : Site) (y : Day) (b : Sl Span) (C : V) (h1 : 1 ≤ s.cavs.len) (h5 : s.cavs.len ≤ 5) (hD : DayOk s y) (hb : b.len = s.cavs.len) (hq : ∀ i, i < b.len → SpanIn (b.el i) 0 50000) (hF : 8 < F) :
  (E F (d + 1)).pf 70 [pTod s y (sl eSpan 2 b) C] = some (.ret (rowM ((List.range' 0 s.cavs.len).map (fastM s y b)))) := by
 have hp := hD.1.1
 obtain ⟨n, hn⟩ : ∃ n, s.cavs.len = n + 1 := ⟨s.cavs.len - 1, by omega⟩
 obtain ⟨fu, rfl⟩ : ∃ k, F = k + 1 := ⟨F - 1, by omega⟩
 have q1 := hD.1.2 0 (by omega)
 have q2 := hq 0 (by omega)
 rw [E_pf, t98]
 simp only [tkRow_r]
 rw [L98x0s]
 simp only [zlt (show 0 < s.cavs.len by omega), zlt (show 0 < b.len by omega), zlt (show 0 < y.press.len by omega), cond_true, wr1, decide_true,
   List.take, List.length, tkCons_c, tkInt_i, tkNil_n, beq_self_eq_true,
   wr (show _ ∧ (y.press.el 0).hi - (b.el 0).lo ≤ _ by omega), wr (show _ ∧ (y.press.el 0).lo - (b.el 0).hi ≤ _ by omega), wr (show _ ∧ (b.el 0).hi - (y.press.el 0).lo ≤ _ by omega), wr (show _ ∧ (b.el 0).lo - (y.press.el 0).hi ≤ _ by omega)]
 rw [hn, ← fin96]
 exact (congrArg (L98x1 (E (fu + 1) d) (fu + 1) s y (sl eSpan 2 b) C fu 1 b.nl b.len 2 (fun i => eSpan (b.el i)) (b.len : Int) ((1 : Nat) : Int) 1) (gl_one (m := fastM s y b 0) (by simp only [fastM, maxI, Int.natCast_zero]; rfl))).trans (l98 (fu + 1) d s y b (sl eSpan 2 b) C h5 hD hb hq n 1 fu [fastM s y b 0] (by omega) (by omega) rfl (by omega))
theorem s98n (s : Site) (y : Day) (C : V) (hF : 8 < F) : (E F (d + 1)).pf 70 [pTod s y noneRow C] = some (.ret (rowM [])) := by
 obtain ⟨fu, rfl⟩ : ∃ k, F = k + 1 := ⟨F - 1, by omega⟩
 rw [E_pf, t98]
 simp only [tkRow_r]
 rw [L98x0s]
 rfl
def smallM (s : Site) (m : Sl Stt) (i : Nat) : Mark := ⟨i, 0, decide ((m.el i).vol.lo < (s.cavs.el i).floor), decide ((m.el i).vol.hi < (s.cavs.el i).floor)⟩
theorem l99 (s : Site) (y : Day) (m : Sl Stt) (B C : V) (h5 : s.cavs.len ≤ 5) (hb : m.len = s.cavs.len) : ∀ n i fu (acc : List Mark), s.cavs.len = i + n → n < fu → acc.length = i → 1 ≤ i →
  L99x1 (E F d) F s y B C fu i m.nl m.len 6 (fun i => eStt (m.el i)) (m.len : Int) (i : Int) i (gl eMark zMark acc) = some (.ret (rowM (acc ++ (List.range' i n).map (smallM s m)))) := by
 intro n
 induction n with
 | zero =>
  intro i fu acc h hf ha hi
  obtain ⟨fu, rfl⟩ : ∃ k, fu = k + 1 := ⟨fu - 1, by omega⟩
  rw [L99x1s]
  simp only [Int.ofNat_lt, show ¬ i < m.len by omega, decide_false, cond_false, List.range'_zero, List.map_nil, List.append_nil]
  rw [rowM, rowL_ne eMark zMark ha hi]
 | succ n ih =>
  intro i fu acc h hf ha hi
  obtain ⟨fu, rfl⟩ : ∃ k, fu = k + 1 := ⟨fu - 1, by omega⟩
  rw [L99x1s]
  simp only [Int.ofNat_lt, show i < s.cavs.len by omega, show i < m.len by omega, decide_true, cond_true, Int.natCast_nonneg, Int.toNat_natCast, show (i + 1) * 24 ≤ 140737488355328 by omega, wrS (show i < 4611686018427387904 by omega),
   List.take, List.length, tkCons_c, tkInt_i, tkNil_n, beq_self_eq_true]
  rw [List.range'_succ, List.map_cons, List.append_cons]
  exact (congrArg (L99x1 (E F d) F s y B C fu (i + 1) m.nl m.len 6 (fun i => eStt (m.el i)) (m.len : Int) ((i + 1 : Nat) : Int) (i + 1)) (gl_snoc (m := smallM s m i) ha rfl)).trans (ih (i + 1) fu _ (by omega) (by omega) (by simp [ha]) (by omega))
theorem s99 (s : Site) (y : Day) (m : Sl Stt) (B : V) (h1 : 1 ≤ s.cavs.len) (h5 : s.cavs.len ≤ 5) (hb : m.len = s.cavs.len) (hF : 8 < F) :
  (E F (d + 1)).pf 71 [pTod s y B (sl eStt 6 m)] = some (.ret (rowM ((List.range' 0 s.cavs.len).map (smallM s m)))) := by
 obtain ⟨n, hn⟩ : ∃ n, s.cavs.len = n + 1 := ⟨s.cavs.len - 1, by omega⟩
 obtain ⟨fu, rfl⟩ : ∃ k, F = k + 1 := ⟨F - 1, by omega⟩
 rw [E_pf, t99]
 simp only [tkRow_r]
 rw [L99x0s]
 simp only [zlt (show 0 < s.cavs.len by omega), zlt (show 0 < m.len by omega), cond_true, wr1, decide_true, List.take, List.length, tkCons_c, tkInt_i, tkNil_n, beq_self_eq_true]
 rw [hn, ← fin96]
 exact (congrArg (L99x1 (E (fu + 1) d) (fu + 1) s y B (sl eStt 6 m) fu 1 m.nl m.len 6 (fun i => eStt (m.el i)) (m.len : Int) ((1 : Nat) : Int) 1) (gl_one (m := smallM s m 0) (by simp only [smallM, Int.natCast_zero]))).trans (l99 (fu + 1) d s y m B (sl eStt 6 m) h5 hb n 1 fu [smallM s m 0] (by omega) (by omega) rfl (by omega))
theorem s99n (s : Site) (y : Day) (B : V) (hF : 8 < F) : (E F (d + 1)).pf 71 [pTod s y B noneRow] = some (.ret (rowM [])) := by
 obtain ⟨fu, rfl⟩ : ∃ k, F = k + 1 := ⟨F - 1, by omega⟩
 rw [E_pf, t99]
 simp only [tkRow_r]
 rw [L99x0s]
 rfl
end Go.Sim.Cr


namespace Go.Sim.Cr
open Go.Proofs
variable (F d : Nat)
def sunkM (s : Site) (m : Sl Stt) (i : Nat) : Mark :=
 ⟨i, 0, decide ((sunk s m (s.houses.el i).x (s.houses.el i).y).hi > (s.houses.el i).most), decide ((sunk s m (s.houses.el i).x (s.houses.el i).y).lo > (s.houses.el i).most)⟩
theorem l101 (s : Site) (y : Day) (m : Sl Stt) (B : V) (hS : SiteF s) (hL : StatesOk s m) (hF : 8 < F) : ∀ n i fu (acc : List Mark), s.houses.len = i + n → n < fu → acc.length = i → 1 ≤ i →
  L101x1 (E F (d + 2)) F s y B (sl eStt 6 m) fu i (i : Int) i (gl eMark zMark acc) = some (.ret (rowM (acc ++ (List.range' i n).map (sunkM s m)))) := by
 have h5 := hS.houses5
 intro n
 induction n with
 | zero =>
  intro i fu acc h hf ha hi
  obtain ⟨fu, rfl⟩ : ∃ k, fu = k + 1 := ⟨fu - 1, by omega⟩
  rw [L101x1s]
  simp only [Int.ofNat_lt, show ¬ i < s.houses.len by omega, decide_false, cond_false, List.range'_zero, List.map_nil, List.append_nil]
  rw [rowM, rowL_ne eMark zMark ha hi]
 | succ n ih =>
  intro i fu acc h hf ha hi
  obtain ⟨fu, rfl⟩ : ∃ k, fu = k + 1 := ⟨fu - 1, by omega⟩
  rw [L101x1s]
  have hp : Place (s.houses.el i).x (s.houses.el i).y := (hS.house i (by omega)).1
  simp only [Int.ofNat_lt, show i < s.houses.len by omega, decide_true, cond_true, Int.natCast_nonneg, Int.toNat_natCast, show (i + 1) * 24 ≤ 140737488355328 by omega, wrS (show i < 4611686018427387904 by omega),
   tkRow_r, s53 F d s m _ _ hS hL hp hF, tkOut_ret, tkAgg_a, tkCons_c, tkInt_i, tkNil_n]
  rw [List.range'_succ, List.map_cons, List.append_cons]
  exact (congrArg (L101x1 (E F (d + 2)) F s y B (sl eStt 6 m) fu (i + 1) ((i + 1 : Nat) : Int) (i + 1)) (gl_snoc (m := sunkM s m i) ha rfl)).trans (ih (i + 1) fu _ (by omega) (by omega) (by simp [ha]) (by omega))
theorem s101 (s : Site) (y : Day) (m : Sl Stt) (B : V) (hS : SiteF s) (hL : StatesOk s m) (hm : m.nl = false) (hF : 8 < F) :
  (E F (d + 3)).pf 73 [pTod s y B (sl eStt 6 m)] = some (.ret (rowM ((List.range' 0 s.houses.len).map (sunkM s m)))) := by
 have h5 := hS.houses5
 obtain ⟨fu, rfl⟩ : ∃ k, F = k + 1 := ⟨F - 1, by omega⟩
 obtain ⟨nl, ml, me⟩ := m
 obtain rfl : nl = false := hm
 rw [E_pf, t101]
 simp only [tkRow_r, cond_false]
 rw [L101x0s]
 rcases Nat.eq_zero_or_pos s.houses.len with h0 | h0
 ·rw [h0]; rfl
 ·obtain ⟨n, hn⟩ : ∃ n, s.houses.len = n + 1 := ⟨s.houses.len - 1, by omega⟩
  have hp : Place (s.houses.el 0).x (s.houses.el 0).y := (hS.house 0 (by omega)).1
  have e := s53 (fu + 1) d s ⟨false, ml, me⟩ _ _ hS hL hp hF
  simp only [zlt h0, cond_true, wr1, tkRow_r, e, tkOut_ret, tkAgg_a, tkCons_c, tkInt_i, tkNil_n, decide_true]
  rw [hn, ← fin96]
  exact (congrArg (L101x1 (E (fu + 1) (d + 2)) (fu + 1) s y B (sl eStt 6 ⟨false, ml, me⟩) fu 1 ((1 : Nat) : Int) 1) (gl_one (m := sunkM s ⟨false, ml, me⟩ 0) (by simp only [sunkM, Int.natCast_zero]))).trans (l101 (fu + 1) d s y ⟨false, ml, me⟩ B hS hL hF n 1 fu [sunkM s ⟨false, ml, me⟩ 0] (by omega) (by omega) rfl (by omega))
theorem s101n (s : Site) (y : Day) (B : V) : (E F (d + 1)).pf 73 [pTod s y B noneRow] = some (.ret (rowM [])) := by
 rw [E_pf, t101]
 rfl
noncomputable def thinM (s : Site) (m : Sl Stt) (i j : Nat) : Mark :=
 ⟨i, j, decide (distI (s.cavs.el i) (s.cavs.el j) - (m.el i).rad.hi - (m.el j).rad.hi < s.wall), decide (distI (s.cavs.el i) (s.cavs.el j) - (m.el i).rad.lo - (m.el j).rad.lo < s.wall)⟩
noncomputable def pairsM (s : Site) (m : Sl Stt) : Nat → Nat → List Mark
 | 0, _ => []
 | k + 1, i => (List.range' (i + 1) k).map (thinM s m i) ++ pairsM s m k (i + 1)
variable (s : Site) (y : Day) (m : Sl Stt) (B : V)
noncomputable abbrev LB2 (m0 fu : Nat) (i j : Nat) (acc : List Mark) : Option Out :=
 L100x2 (E F (d + 4)) F s y B (sl eStt 6 m) m0 fu (i : Int) (j : Int) (i : Int) acc.length acc.length (gl eMark zMark acc) m.nl m.len 6 (fun i => eStt (m.el i)) m.nl
noncomputable abbrev LB3 (fu : Nat) (i : Nat) (acc : List Mark) : Option Out :=
 L100x3 (E F (d + 4)) F s y B (sl eStt 6 m) fu (i : Int) acc.length acc.length (gl eMark zMark acc) m.nl m.len 6 (fun i => eStt (m.el i)) m.nl
theorem in2 (hS : SiteF s) (hL : StatesOk s m) (hF : 67108864 < F) (m0 i : Nat) (P : List Mark) (M : Nat) (hM : M ≤ 100) (hi : i < s.cavs.len) (hO : ∀ acc, 1 ≤ acc.length → acc.length ≤ M → LB3 F d s y m B m0 (i + 1) acc = some (.ret (rowM (acc ++ P)))) :
  ∀ r j fu (acc : List Mark), s.cavs.len = j + r → r < fu → i < j → 1 ≤ acc.length → acc.length + r ≤ M → LB2 F d s y m B m0 fu i j acc = some (.ret (rowM (acc ++ ((List.range' j r).map (thinM s m i) ++ P)))) := by
 have h5 := hS.cavs5
 have hl := hL.1
 intro r
 induction r with
 | zero =>
  intro j fu acc h hf hij ha hb
  obtain ⟨fu, rfl⟩ : ∃ k, fu = k + 1 := ⟨fu - 1, by omega⟩
  unfold LB2
  rw [L100x2s]
  simp only [Int.ofNat_lt, show ¬ j < s.cavs.len by omega, decide_false, cond_false, wrS (show i < 4611686018427387904 by omega), List.range'_zero, List.map_nil, List.nil_append]
  exact hO acc ha (by omega)
 | succ r ih =>
  intro j fu acc h hf hij ha hb
  obtain ⟨fu, rfl⟩ : ∃ k, fu = k + 1 := ⟨fu - 1, by omega⟩
  unfold LB2
  rw [L100x2s]
  have a1 := (hL.2 i (by omega)).1
  have a2 := (hL.2 j (by omega)).1
  have p1 := (hS.cav i hi).1
  have p2 := (hS.cav j (by omega)).1
  simp only [Int.ofNat_lt, show j < s.cavs.len by omega, show j < m.len by omega, show i < m.len by omega, decide_true, cond_true, Int.natCast_nonneg, Int.toNat_natCast, tkRow_r, beq_self_eq_true, List.take, List.length, tkCons_c, tkInt_i, tkNil_n,
   s73 F d s i j (m.el i).rad.hi (m.el j).rad.hi hi (by omega) p1 p2 (by omega) (by omega) hF, s73 F d s i j (m.el i).rad.lo (m.el j).rad.lo hi (by omega) p1 p2 (by omega) (by omega) hF, tkOut_ret, show (acc.length + 1) * 24 ≤ 140737488355328 by omega, wrS (show j < 4611686018427387904 by omega)]
  rw [List.range'_succ, List.map_cons, List.cons_append, List.append_cons]
  have g := ih (j + 1) fu (acc ++ [thinM s m i j]) (by omega) (by omega) (by omega) (by simp) (by simp; omega)
  unfold LB2 at g
  rw [show (acc ++ [thinM s m i j]).length = acc.length + 1 by simp] at g
  exact (congrArg (fun G => L100x2 (E F (d + 4)) F s y B (sl eStt 6 m) m0 fu (i : Int) ((j + 1 : Nat) : Int) (i : Int) (acc.length + 1) (acc.length + 1) G m.nl m.len 6 (fun i => eStt (m.el i)) m.nl) (gl_snoc (m := thinM s m i j) rfl rfl)).trans g
theorem out3 (hS : SiteF s) (hL : StatesOk s m) (hF : 67108864 < F) : ∀ k i fu (acc : List Mark), s.cavs.len = i + k → k < fu → 1 ≤ acc.length → acc.length + 10 * k ≤ 100 →
  LB3 F d s y m B fu i acc = some (.ret (rowM (acc ++ pairsM s m k i))) := by
 have h5 := hS.cavs5
 intro k
 induction k with
 | zero =>
  intro i fu acc h hf ha hb
  obtain ⟨fu, rfl⟩ : ∃ k, fu = k + 1 := ⟨fu - 1, by omega⟩
  unfold LB3
  rw [L100x3s]
  simp only [Int.ofNat_lt, show ¬ i < s.cavs.len by omega, decide_false, cond_false, pairsM, List.append_nil]
  rw [rowM, rowL_ne eMark zMark rfl ha]
 | succ k ih =>
  intro i fu acc h hf ha hb
  obtain ⟨fu, rfl⟩ : ∃ k, fu = k + 1 := ⟨fu - 1, by omega⟩
  unfold LB3
  rw [L100x3s]
  simp only [Int.ofNat_lt, show i < s.cavs.len by omega, decide_true, cond_true, wrS (show i < 4611686018427387904 by omega), pairsM]
  exact in2 F d s y m B hS hL hF fu i (pairsM s m k (i + 1)) (100 - 10 * k) (by omega) (by omega) (fun acc' h1 h2 => ih (i + 1) fu acc' (by omega) (by omega) h1 (by omega)) k (i + 1) F acc (by omega) (by omega) (by omega) ha (by omega)
noncomputable abbrev LB0 (fu : Nat) (i : Nat) : Option Out :=
 L100x0 (E F (d + 4)) F s y B (sl eStt 6 m) fu (i : Int) m.nl m.len 6 (fun i => eStt (m.el i)) m.nl
noncomputable abbrev LB1 (m0 fu : Nat) (i j : Nat) : Option Out :=
 L100x1 (E F (d + 4)) F s y B (sl eStt 6 m) m0 fu (i : Int) (j : Int) (i : Int) m.nl m.len 6 (fun i => eStt (m.el i)) m.nl
theorem in1 (hS : SiteF s) (hL : StatesOk s m) (hF : 67108864 < F) (m0 i k : Nat) (hi : s.cavs.len = i + 1 + k) (hk : k < m0) (hO : LB0 F d s y m B m0 (i + 1) = some (.ret (rowM (pairsM s m k (i + 1))))) :
  ∀ r j fu, s.cavs.len = j + r → r < fu → i < j → LB1 F d s y m B m0 fu i j = some (.ret (rowM ((List.range' j r).map (thinM s m i) ++ pairsM s m k (i + 1)))) := by
 have h5 := hS.cavs5
 have hl := hL.1
 intro r
 cases r with
 | zero =>
  intro j fu h hf hij
  obtain ⟨fu, rfl⟩ : ∃ k, fu = k + 1 := ⟨fu - 1, by omega⟩
  unfold LB1
  rw [L100x1s]
  simp only [Int.ofNat_lt, show ¬ j < s.cavs.len by omega, decide_false, cond_false, wrS (show i < 4611686018427387904 by omega), List.range'_zero, List.map_nil, List.nil_append]
  exact hO
 | succ r =>
  intro j fu h hf hij
  obtain ⟨fu, rfl⟩ : ∃ k, fu = k + 1 := ⟨fu - 1, by omega⟩
  unfold LB1
  rw [L100x1s]
  have a1 := (hL.2 i (by omega)).1
  have a2 := (hL.2 j (by omega)).1
  have p1 := (hS.cav i (by omega)).1
  have p2 := (hS.cav j (by omega)).1
  simp only [Int.ofNat_lt, show j < s.cavs.len by omega, show j < m.len by omega, show i < m.len by omega, decide_true, cond_true, Int.natCast_nonneg, Int.toNat_natCast, tkRow_r, beq_self_eq_true, List.take, List.length, tkCons_c, tkInt_i, tkNil_n,
   s73 F d s i j (m.el i).rad.hi (m.el j).rad.hi (by omega) (by omega) p1 p2 (by omega) (by omega) hF, s73 F d s i j (m.el i).rad.lo (m.el j).rad.lo (by omega) (by omega) p1 p2 (by omega) (by omega) hF, tkOut_ret, wrS (show j < 4611686018427387904 by omega)]
  rw [List.range'_succ, List.map_cons]
  have g := in2 F d s y m B hS hL hF m0 i (pairsM s m k (i + 1)) 50 (by omega) (by omega) (fun acc' h1 h2 => out3 F d s y m B hS hL hF k (i + 1) m0 acc' (by omega) (by omega) h1 (by omega)) r (j + 1) fu [thinM s m i j] (by omega) (by omega) (by omega) (by simp) (by simp; omega)
  unfold LB2 at g
  rw [show ([thinM s m i j] : List Mark).length = 1 from rfl, List.singleton_append] at g
  rw [List.cons_append]
  exact (congrArg (fun G => L100x2 (E F (d + 4)) F s y B (sl eStt 6 m) m0 fu (i : Int) ((j + 1 : Nat) : Int) (i : Int) 1 1 G m.nl m.len 6 (fun i => eStt (m.el i)) m.nl) (gl_one (e := eMark) (z := zMark) (m := thinM s m i j) (by simp only [thinM]))).trans g
theorem out0 (hS : SiteF s) (hL : StatesOk s m) (hF : 67108864 < F) : ∀ k i fu, s.cavs.len = i + k → k < fu → LB0 F d s y m B fu i = some (.ret (rowM (pairsM s m k i))) := by
 have h5 := hS.cavs5
 intro k
 induction k with
 | zero =>
  intro i fu h hf
  obtain ⟨fu, rfl⟩ : ∃ k, fu = k + 1 := ⟨fu - 1, by omega⟩
  unfold LB0
  rw [L100x0s]
  simp only [Int.ofNat_lt, show ¬ i < s.cavs.len by omega, decide_false, cond_false, pairsM]
  rfl
 | succ k ih =>
  intro i fu h hf
  obtain ⟨fu, rfl⟩ : ∃ k, fu = k + 1 := ⟨fu - 1, by omega⟩
  unfold LB0
  rw [L100x0s]
  simp only [Int.ofNat_lt, show i < s.cavs.len by omega, decide_true, cond_true, wrS (show i < 4611686018427387904 by omega), pairsM]
  exact in1 F d s y m B hS hL hF fu i k (by omega) (by omega) (ih (i + 1) fu (by omega) (by omega)) k (i + 1) F (by omega) (by omega) (by omega)
theorem s100 (hS : SiteF s) (hL : StatesOk s m) (hm : m.nl = false) (hF : 67108864 < F) :
  (E F (d + 5)).pf 72 [pTod s y B (sl eStt 6 m)] = some (.ret (rowM (pairsM s m s.cavs.len 0))) := by
 have h5 := hS.cavs5
 rw [E_pf, t100]
 simp only [tkRow_r]
 have g := out0 F d s y m B hS hL hF s.cavs.len 0 F (by omega) (by omega)
 unfold LB0 at g
 rw [hm, cond_false]
 simp only [hm] at g
 exact g
theorem s100n : (E F (d + 1)).pf 72 [pTod s y B noneRow] = some (.ret (rowM [])) := by
 rw [E_pf, t100]
 rfl
end Go.Sim.Cr
