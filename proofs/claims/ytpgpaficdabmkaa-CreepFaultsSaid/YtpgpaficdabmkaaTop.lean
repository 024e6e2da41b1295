/-
  CreepFaults holds for every input: called with any site and any days, the law returns true, and its arguments read behind the call as before. No condition.
-/
import Derived.Test.YtpgpaficdabmkaaAe
import Derived.KernelRfl
set_option linter.unusedVariables false
set_option linter.unusedSimpArgs false
set_option linter.unusedSectionVars false
/-
  What the evaluator says of these functions (printed by a private program; each row is checked by the kernel).
-/
set_option maxRecDepth 100000
namespace Go.Sim.Cr
open Go.Proofs

noncomputable def L68x0 (env : Env) (F : Nat) (s : Site) (n : Int) (ds : Sl Day) (l : Sl Stt) (b : Bool) (fu : Nat) (i0 : Int) : Option Out := atLoop Try.prog (cfg F) env 68 [.r, .r, .l, .r, .d] [] fu { tm := tmL 186 0 [(2, (.bool b)), (3, (.optr 0 0 0)), (4, (.optr 1 0 0)), (6, (.optr 2 0 0)), (8, (.optr 3 0 0)), (9, (.int .i64 i0))], hp := [(.box 28 (eSite s) true), (.box 127 [(.int .i64 n), (sl eDay 2 ds), (sl eStt 6 l)] true), (.box 71 [(.int .i64 (0 : Int)), (.int .i64 (0 : Int)), (.int .i64 (0 : Int)), (.int .i64 (0 : Int))] true), (.box 32 [(sl eSpan 2 (Day.press (Sl.el ds (Int.toNat n)))), (sl eSpan 2 (Day.warm (Sl.el ds (Int.toNat n))))] true)] }
noncomputable def L68x1 (env : Env) (F : Nat) (s : Site) (n : Int) (ds : Sl Day) (l : Sl Stt) (b : Bool) (fu : Nat) (i0 : Int) : Option Out := atLoop Try.prog (cfg F) env 68 [.r, .r, .r, .l, .r, .d] [] fu { tm := tmL 186 0 [(2, (.bool b)), (3, (.optr 0 0 0)), (4, (.optr 1 0 0)), (6, (.optr 2 0 0)), (8, (.optr 3 0 0)), (10, (.int .i64 i0))], hp := [(.box 28 (eSite s) true), (.box 127 [(.int .i64 n), (sl eDay 2 ds), (sl eStt 6 l)] true), (.box 71 [(.int .i64 (0 : Int)), (.int .i64 (0 : Int)), (.int .i64 (0 : Int)), (.int .i64 (0 : Int))] true), (.box 32 [(sl eSpan 2 (Day.press (Sl.el ds (Int.toNat n)))), (sl eSpan 2 (Day.warm (Sl.el ds (Int.toNat n))))] true)] }
noncomputable def L68x2 (env : Env) (F : Nat) (s : Site) (n : Int) (ds : Sl Day) (l : Sl Stt) (b : Bool) (fu : Nat) (i0 : Int) : Option Out := atLoop Try.prog (cfg F) env 68 [.r, .r, .r, .r, .l, .r, .d] [] fu { tm := tmL 186 0 [(2, (.bool b)), (3, (.optr 0 0 0)), (4, (.optr 1 0 0)), (6, (.optr 2 0 0)), (8, (.optr 3 0 0)), (13, (.int .i64 i0))], hp := [(.box 28 (eSite s) true), (.box 127 [(.int .i64 n), (sl eDay 2 ds), (sl eStt 6 l)] true), (.box 71 [(.int .i64 (0 : Int)), (.int .i64 (0 : Int)), (.int .i64 (0 : Int)), (.int .i64 (0 : Int))] true), (.box 32 [(sl eSpan 2 (Day.press (Sl.el ds (Int.toNat n)))), (sl eSpan 2 (Day.warm (Sl.el ds (Int.toNat n))))] true)] }
theorem t68 (env : Env) (F : Nat) (s : Site) (n : Int) (ds : Sl Day) (l : Sl Stt) (b : Bool) : (evFun Try.prog (cfg F) env 68 [(.agg (eSite s)), (.agg [(.int .i64 n), (sl eDay 2 ds), (sl eStt 6 l)]), (.bool b)]) =
  (bif (decide ((0 : Int) ≤ n)) then (bif (decide (n < (((Sl.len ds) : Nat) : Int))) then (L68x0 env F s n ds l b F (0 : Int))
    else none)
  else none) := by kernel_rfl
theorem L68x0s (env : Env) (F : Nat) (s : Site) (n : Int) (ds : Sl Day) (l : Sl Stt) (b : Bool) (fu : Nat) (i0 : Int) : L68x0 env F s n ds l b (fu + 1) i0 =
  (bif (decide (i0 < (((Sl.len (Site.cavs s)) : Nat) : Int))) then (bif (!b) then (bif (decide ((0 : Int) ≤ i0)) then (bif (decide (i0 < (((Sl.len (Day.press (Sl.el ds (Int.toNat n)))) : Nat) : Int))) then (bif (decide ((0 : Int) ≤ i0)) then (bif (decide (i0 < (((Sl.len (Day.warm (Sl.el ds (Int.toNat n)))) : Nat) : Int))) then (tkOut (env 32 [(.agg (eSite s)), (.int .i64 i0), (.agg (eSpan (Sl.el (Day.press (Sl.el ds (Int.toNat n))) (Int.toNat i0)))), (.agg (eSpan (Sl.el (Day.warm (Sl.el ds (Int.toNat n))) (Int.toNat i0))))]) none (fun v9 => (tkBool v9 none fun b10 => (bif b10 then some (.ret (.tup [(.agg [(.int .i64 n), (.int .i64 (2 : Int)), (.int .i64 i0), (.int .i64 (0 : Int))]), (.bool true)]))
                  else (L68x0 env F s n ds l b fu (IntKind.wrap .i64 (i0 + (1 : Int)))))))
              (fun p9 => (tkIfc p9 none fun t10 x11 => (bif (flatP (.iface t10 x11)) then some (.pan (.iface t10 x11))
                  else none))))
            else none)
          else none)
        else none)
      else none)
    else (L68x1 env F s n ds l b F (0 : Int)))
  else (L68x1 env F s n ds l b F (0 : Int))) := by kernel_rfl
theorem L68x1s (env : Env) (F : Nat) (s : Site) (n : Int) (ds : Sl Day) (l : Sl Stt) (b : Bool) (fu : Nat) (i0 : Int) : L68x1 env F s n ds l b (fu + 1) i0 =
  (bif (decide (i0 < (((Sl.len (Site.cavs s)) : Nat) : Int))) then (bif (decide ((0 : Int) ≤ i0)) then (bif (decide (i0 < (((Sl.len (Day.press (Sl.el ds (Int.toNat n)))) : Nat) : Int))) then (bif (decide ((0 : Int) ≤ i0)) then (bif (decide (i0 < (((Sl.len (Site.cavs s)) : Nat) : Int))) then (bif (!b) then (bif (decide ((Span.lo (Sl.el (Day.press (Sl.el ds (Int.toNat n))) (Int.toNat i0))) < (Span.lo (Cav.gate (Sl.el (Site.cavs s) (Int.toNat i0)))))) then some (.ret (.tup [(.agg [(.int .i64 n), (.int .i64 (3 : Int)), (.int .i64 i0), (.int .i64 (0 : Int))]), (.bool true)]))
              else (bif (decide ((Span.hi (Sl.el (Day.press (Sl.el ds (Int.toNat n))) (Int.toNat i0))) > (Span.hi (Cav.gate (Sl.el (Site.cavs s) (Int.toNat i0)))))) then some (.ret (.tup [(.agg [(.int .i64 n), (.int .i64 (3 : Int)), (.int .i64 i0), (.int .i64 (0 : Int))]), (.bool true)]))
                else (bif b then (bif (decide ((Span.hi (Sl.el (Day.press (Sl.el ds (Int.toNat n))) (Int.toNat i0))) < (Span.lo (Cav.gate (Sl.el (Site.cavs s) (Int.toNat i0)))))) then some (.ret (.tup [(.agg [(.int .i64 n), (.int .i64 (3 : Int)), (.int .i64 i0), (.int .i64 (0 : Int))]), (.bool true)]))
                    else (bif (decide ((Span.lo (Sl.el (Day.press (Sl.el ds (Int.toNat n))) (Int.toNat i0))) > (Span.hi (Cav.gate (Sl.el (Site.cavs s) (Int.toNat i0)))))) then some (.ret (.tup [(.agg [(.int .i64 n), (.int .i64 (3 : Int)), (.int .i64 i0), (.int .i64 (0 : Int))]), (.bool true)]))
                      else (L68x1 env F s n ds l b fu (IntKind.wrap .i64 (i0 + (1 : Int))))))
                  else (L68x1 env F s n ds l b fu (IntKind.wrap .i64 (i0 + (1 : Int)))))))
            else (bif b then (bif (decide ((Span.hi (Sl.el (Day.press (Sl.el ds (Int.toNat n))) (Int.toNat i0))) < (Span.lo (Cav.gate (Sl.el (Site.cavs s) (Int.toNat i0)))))) then some (.ret (.tup [(.agg [(.int .i64 n), (.int .i64 (3 : Int)), (.int .i64 i0), (.int .i64 (0 : Int))]), (.bool true)]))
                else (bif (decide ((Span.lo (Sl.el (Day.press (Sl.el ds (Int.toNat n))) (Int.toNat i0))) > (Span.hi (Cav.gate (Sl.el (Site.cavs s) (Int.toNat i0)))))) then some (.ret (.tup [(.agg [(.int .i64 n), (.int .i64 (3 : Int)), (.int .i64 i0), (.int .i64 (0 : Int))]), (.bool true)]))
                  else (L68x1 env F s n ds l b fu (IntKind.wrap .i64 (i0 + (1 : Int))))))
              else (L68x1 env F s n ds l b fu (IntKind.wrap .i64 (i0 + (1 : Int))))))
          else none)
        else none)
      else none)
    else none)
  else (L68x2 env F s n ds l b F (0 : Int))) := by kernel_rfl
theorem L68x2s (env : Env) (F : Nat) (s : Site) (n : Int) (ds : Sl Day) (l : Sl Stt) (b : Bool) (fu : Nat) (i0 : Int) : L68x2 env F s n ds l b (fu + 1) i0 =
  (bif (decide (i0 < (((Sl.len (Site.cavs s)) : Nat) : Int))) then (bif (decide (n > (0 : Int))) then (bif (decide ((0 : Int) ≤ i0)) then (bif (decide (i0 < (((Sl.len (Day.press (Sl.el ds (Int.toNat n)))) : Nat) : Int))) then (bif (decide ((0 : Int) ≤ (IntKind.wrap .i64 (n - (1 : Int))))) then (bif (decide ((IntKind.wrap .i64 (n - (1 : Int))) < (((Sl.len ds) : Nat) : Int))) then (bif (decide ((0 : Int) ≤ i0)) then (bif (decide (i0 < (((Sl.len (Day.press (Sl.el ds (Int.toNat (IntKind.wrap .i64 (n - (1 : Int))))))) : Nat) : Int))) then (bif (decide ((0 : Int) ≤ i0)) then (bif (decide (i0 < (((Sl.len (Site.cavs s)) : Nat) : Int))) then (bif (!b) then (bif (decide ((IntKind.wrap .i64 ((Span.hi (Sl.el (Day.press (Sl.el ds (Int.toNat n))) (Int.toNat i0))) - (Span.lo (Sl.el (Day.press (Sl.el ds (Int.toNat (IntKind.wrap .i64 (n - (1 : Int)))))) (Int.toNat i0))))) > (Cav.change (Sl.el (Site.cavs s) (Int.toNat i0))))) then some (.ret (.tup [(.agg [(.int .i64 n), (.int .i64 (4 : Int)), (.int .i64 i0), (.int .i64 (0 : Int))]), (.bool true)]))
                        else (bif (decide ((IntKind.wrap .i64 ((Span.hi (Sl.el (Day.press (Sl.el ds (Int.toNat (IntKind.wrap .i64 (n - (1 : Int)))))) (Int.toNat i0))) - (Span.lo (Sl.el (Day.press (Sl.el ds (Int.toNat n))) (Int.toNat i0))))) > (Cav.change (Sl.el (Site.cavs s) (Int.toNat i0))))) then some (.ret (.tup [(.agg [(.int .i64 n), (.int .i64 (4 : Int)), (.int .i64 i0), (.int .i64 (0 : Int))]), (.bool true)]))
                          else (bif b then (bif (decide ((IntKind.wrap .i64 ((Span.lo (Sl.el (Day.press (Sl.el ds (Int.toNat n))) (Int.toNat i0))) - (Span.hi (Sl.el (Day.press (Sl.el ds (Int.toNat (IntKind.wrap .i64 (n - (1 : Int)))))) (Int.toNat i0))))) > (Cav.change (Sl.el (Site.cavs s) (Int.toNat i0))))) then some (.ret (.tup [(.agg [(.int .i64 n), (.int .i64 (4 : Int)), (.int .i64 i0), (.int .i64 (0 : Int))]), (.bool true)]))
                              else (bif (decide ((IntKind.wrap .i64 ((Span.lo (Sl.el (Day.press (Sl.el ds (Int.toNat (IntKind.wrap .i64 (n - (1 : Int)))))) (Int.toNat i0))) - (Span.hi (Sl.el (Day.press (Sl.el ds (Int.toNat n))) (Int.toNat i0))))) > (Cav.change (Sl.el (Site.cavs s) (Int.toNat i0))))) then some (.ret (.tup [(.agg [(.int .i64 n), (.int .i64 (4 : Int)), (.int .i64 i0), (.int .i64 (0 : Int))]), (.bool true)]))
                                else (L68x2 env F s n ds l b fu (IntKind.wrap .i64 (i0 + (1 : Int))))))
                            else (L68x2 env F s n ds l b fu (IntKind.wrap .i64 (i0 + (1 : Int)))))))
                      else (bif b then (bif (decide ((IntKind.wrap .i64 ((Span.lo (Sl.el (Day.press (Sl.el ds (Int.toNat n))) (Int.toNat i0))) - (Span.hi (Sl.el (Day.press (Sl.el ds (Int.toNat (IntKind.wrap .i64 (n - (1 : Int)))))) (Int.toNat i0))))) > (Cav.change (Sl.el (Site.cavs s) (Int.toNat i0))))) then some (.ret (.tup [(.agg [(.int .i64 n), (.int .i64 (4 : Int)), (.int .i64 i0), (.int .i64 (0 : Int))]), (.bool true)]))
                          else (bif (decide ((IntKind.wrap .i64 ((Span.lo (Sl.el (Day.press (Sl.el ds (Int.toNat (IntKind.wrap .i64 (n - (1 : Int)))))) (Int.toNat i0))) - (Span.hi (Sl.el (Day.press (Sl.el ds (Int.toNat n))) (Int.toNat i0))))) > (Cav.change (Sl.el (Site.cavs s) (Int.toNat i0))))) then some (.ret (.tup [(.agg [(.int .i64 n), (.int .i64 (4 : Int)), (.int .i64 i0), (.int .i64 (0 : Int))]), (.bool true)]))
                            else (L68x2 env F s n ds l b fu (IntKind.wrap .i64 (i0 + (1 : Int))))))
                        else (L68x2 env F s n ds l b fu (IntKind.wrap .i64 (i0 + (1 : Int))))))
                    else none)
                  else none)
                else none)
              else none)
            else none)
          else none)
        else none)
      else none)
    else some (.ret (.tup [(.agg [(.int .i64 (0 : Int)), (.int .i64 (0 : Int)), (.int .i64 (0 : Int)), (.int .i64 (0 : Int))]), (.bool false)])))
  else some (.ret (.tup [(.agg [(.int .i64 (0 : Int)), (.int .i64 (0 : Int)), (.int .i64 (0 : Int)), (.int .i64 (0 : Int))]), (.bool false)]))) := by kernel_rfl

noncomputable def L69x0 (env : Env) (F : Nat) (s : Site) (n : Int) (ds : Sl Day) (l : Sl Stt) (b : Bool) (fu : Nat) (i0 : Int) : Option Out := atLoop Try.prog (cfg F) env 69 [.r, .l, .r, .d] [] fu { tm := tmL 112 0 [(2, (.bool b)), (3, (.optr 0 0 0)), (4, (.optr 1 0 0)), (6, (.optr 2 0 0)), (8, (.int .i64 i0))], hp := [(.box 28 (eSite s) true), (.box 127 [(.int .i64 n), (sl eDay 2 ds), (sl eStt 6 l)] true), (.box 71 [(.int .i64 (0 : Int)), (.int .i64 (0 : Int)), (.int .i64 (0 : Int)), (.int .i64 (0 : Int))] true)] }
noncomputable def L69x1 (env : Env) (F : Nat) (s : Site) (n : Int) (ds : Sl Day) (l : Sl Stt) (b : Bool) (fu : Nat) (i0 : Int) : Option Out := atLoop Try.prog (cfg F) env 69 [.r, .r, .l, .r, .d] [] fu { tm := tmL 112 0 [(2, (.bool b)), (3, (.optr 0 0 0)), (4, (.optr 1 0 0)), (6, (.optr 2 0 0)), (9, (.int .i64 i0))], hp := [(.box 28 (eSite s) true), (.box 127 [(.int .i64 n), (sl eDay 2 ds), (sl eStt 6 l)] true), (.box 71 [(.int .i64 (0 : Int)), (.int .i64 (0 : Int)), (.int .i64 (0 : Int)), (.int .i64 (0 : Int))] true)] }
noncomputable def L69x2 (env : Env) (F : Nat) (s : Site) (n : Int) (ds : Sl Day) (l : Sl Stt) (b : Bool) (m0 : Nat) (fu : Nat) (i0 : Int) (i1 : Int) : Option Out := atLoop Try.prog (cfg F) env 69 [.r, .r, .l, .r, .d, .d, .r, .l, .d, .r, .d] [m0] fu { tm := tmL 112 0 [(2, (.bool b)), (3, (.optr 0 0 0)), (4, (.optr 1 0 0)), (6, (.optr 2 0 0)), (9, (.int .i64 i0)), (10, (.int .i64 i1))], hp := [(.box 28 (eSite s) true), (.box 127 [(.int .i64 n), (sl eDay 2 ds), (sl eStt 6 l)] true), (.box 71 [(.int .i64 (0 : Int)), (.int .i64 (0 : Int)), (.int .i64 (0 : Int)), (.int .i64 (0 : Int))] true)] }
noncomputable def L69x3 (env : Env) (F : Nat) (s : Site) (n : Int) (ds : Sl Day) (l : Sl Stt) (b : Bool) (fu : Nat) (i0 : Int) : Option Out := atLoop Try.prog (cfg F) env 69 [.r, .r, .r, .l, .r, .d] [] fu { tm := tmL 112 0 [(2, (.bool b)), (3, (.optr 0 0 0)), (4, (.optr 1 0 0)), (6, (.optr 2 0 0)), (11, (.int .i64 i0))], hp := [(.box 28 (eSite s) true), (.box 127 [(.int .i64 n), (sl eDay 2 ds), (sl eStt 6 l)] true), (.box 71 [(.int .i64 (0 : Int)), (.int .i64 (0 : Int)), (.int .i64 (0 : Int)), (.int .i64 (0 : Int))] true)] }
theorem t69 (env : Env) (F : Nat) (s : Site) (n : Int) (ds : Sl Day) (l : Sl Stt) (b : Bool) : (evFun Try.prog (cfg F) env 69 [(.agg (eSite s)), (.agg [(.int .i64 n), (sl eDay 2 ds), (sl eStt 6 l)]), (.bool b)]) =
  (L69x0 env F s n ds l b F (0 : Int)) := by kernel_rfl
theorem L69x0s (env : Env) (F : Nat) (s : Site) (n : Int) (ds : Sl Day) (l : Sl Stt) (b : Bool) (fu : Nat) (i0 : Int) : L69x0 env F s n ds l b (fu + 1) i0 =
  (bif (decide (i0 < (((Sl.len l) : Nat) : Int))) then (bif (decide ((0 : Int) ≤ i0)) then (bif (decide (i0 < (((Sl.len l) : Nat) : Int))) then (tkOut (env 103 [(.agg (eSpan (Stt.vol (Sl.el l (Int.toNat i0))))), (.bool b)]) none (fun v9 => (tkInt v9 none fun q10 n11 => (bif (decide ((0 : Int) ≤ i0)) then (bif (decide (i0 < (((Sl.len (Site.cavs s)) : Nat) : Int))) then (bif (decide (q10 = .i64)) then (bif (decide (n11 < (Cav.floor (Sl.el (Site.cavs s) (Int.toNat i0))))) then some (.ret (.tup [(.agg [(.int .i64 n), (.int .i64 (5 : Int)), (.int .i64 i0), (.int .i64 (0 : Int))]), (.bool true)]))
                  else (L69x0 env F s n ds l b fu (IntKind.wrap .i64 (i0 + (1 : Int)))))
                else none)
              else none)
            else none)))
        (fun p9 => (tkIfc p9 none fun t10 x11 => (bif (flatP (.iface t10 x11)) then none
            else none))))
      else none)
    else none)
  else (L69x1 env F s n ds l b F (0 : Int))) := by kernel_rfl
theorem L69x1s (env : Env) (F : Nat) (s : Site) (n : Int) (ds : Sl Day) (l : Sl Stt) (b : Bool) (fu : Nat) (i0 : Int) : L69x1 env F s n ds l b (fu + 1) i0 =
  (bif (decide (i0 < (((Sl.len l) : Nat) : Int))) then (L69x2 env F s n ds l b fu F i0 (IntKind.wrap .i64 (i0 + (1 : Int))))
  else (L69x3 env F s n ds l b F (0 : Int))) := by kernel_rfl
theorem L69x2s (env : Env) (F : Nat) (s : Site) (n : Int) (ds : Sl Day) (l : Sl Stt) (b : Bool) (m0 : Nat) (fu : Nat) (i0 : Int) (i1 : Int) : L69x2 env F s n ds l b m0 (fu + 1) i0 i1 =
  (bif (decide (i1 < (((Sl.len l) : Nat) : Int))) then (bif (decide ((0 : Int) ≤ i0)) then (bif (decide (i0 < (((Sl.len l) : Nat) : Int))) then (bif (decide ((0 : Int) ≤ i1)) then (bif (decide (i1 < (((Sl.len l) : Nat) : Int))) then (tkOut (env 40 [(.agg (eSite s)), (.int .i64 i0), (.int .i64 i1), (.agg (eSpan (Stt.rad (Sl.el l (Int.toNat i0))))), (.agg (eSpan (Stt.rad (Sl.el l (Int.toNat i1)))))]) none (fun v11 => (tkAgg v11 none fun l12 => (tkCons l12 none fun v13 r14 => (tkInt v13 none fun q15 n16 => (tkCons r14 none fun v17 r18 => (tkInt v17 none fun q19 n20 => (tkNil r18 none ((tkOut (env 103 [(.agg [(.int q15 n16), (.int q19 n20)]), (.bool b)]) none (fun v21 => (tkInt v21 none fun q22 n23 => (bif (decide (q22 = .i64)) then (bif (decide (n23 < (Site.wall s))) then some (.ret (.tup [(.agg [(.int .i64 n), (.int .i64 (6 : Int)), (.int .i64 i0), (.int .i64 i1)]), (.bool true)]))
                                else (L69x2 env F s n ds l b m0 fu i0 (IntKind.wrap .i64 (i1 + (1 : Int)))))
                              else none)))
                          (fun p21 => (tkIfc p21 none fun t22 x23 => (bif (flatP (.iface t22 x23)) then none
                              else none))))))))))))
            (fun p11 => (tkIfc p11 none fun t12 x13 => (bif (flatP (.iface t12 x13)) then none
                else none))))
          else none)
        else none)
      else none)
    else none)
  else (L69x1 env F s n ds l b m0 (IntKind.wrap .i64 (i0 + (1 : Int))))) := by kernel_rfl
theorem L69x3s (env : Env) (F : Nat) (s : Site) (n : Int) (ds : Sl Day) (l : Sl Stt) (b : Bool) (fu : Nat) (i0 : Int) : L69x3 env F s n ds l b (fu + 1) i0 =
  (bif (decide (i0 < (((Sl.len (Site.houses s)) : Nat) : Int))) then (bif (decide ((0 : Int) ≤ i0)) then (bif (decide (i0 < (((Sl.len (Site.houses s)) : Nat) : Int))) then (tkOut (env 19 [(.agg (eSite s)), (sl eStt 6 l), (.int .i64 (House.x (Sl.el (Site.houses s) (Int.toNat i0)))), (.int .i64 (House.y (Sl.el (Site.houses s) (Int.toNat i0))))]) none (fun v9 => (tkAgg v9 none fun l10 => (tkCons l10 none fun v11 r12 => (tkInt v11 none fun q13 n14 => (tkCons r12 none fun v15 r16 => (tkInt v15 none fun q17 n18 => (tkNil r16 none ((tkOut (env 103 [(.agg [(.int q13 n14), (.int q17 n18)]), (.bool (!b))]) none (fun v19 => (tkInt v19 none fun q20 n21 => (bif (decide (q20 = .i64)) then (bif (decide (n21 > (House.most (Sl.el (Site.houses s) (Int.toNat i0))))) then some (.ret (.tup [(.agg [(.int .i64 n), (.int .i64 (7 : Int)), (.int .i64 i0), (.int .i64 (0 : Int))]), (.bool true)]))
                            else (L69x3 env F s n ds l b fu (IntKind.wrap .i64 (i0 + (1 : Int)))))
                          else none)))
                      (fun p19 => (tkIfc p19 none fun t20 x21 => (bif (flatP (.iface t20 x21)) then none
                          else none))))))))))))
        (fun p9 => (tkIfc p9 none fun t10 x11 => (bif (flatP (.iface t10 x11)) then none
            else none))))
      else none)
    else none)
  else some (.ret (.tup [(.agg [(.int .i64 (0 : Int)), (.int .i64 (0 : Int)), (.int .i64 (0 : Int)), (.int .i64 (0 : Int))]), (.bool false)]))) := by kernel_rfl

end Go.Sim.Cr

/-
  The specification's faults, in plain terms.
-/
namespace Go.Sim.Cr
open Go.Proofs
variable (F d : Nat)
def isM (b : Bool) (m : Mark) : Bool := bif b then m.certain else m.possible
abbrev eFaultZ (f : Option Fault) : V := match f with | some f => .tup [.agg (eFault f), .bool true] | none => .tup [.agg (eFault ⟨0, 0, 0, 0⟩), .bool false]
theorem fR_cons {n k : Int} {is : Mark → Bool} {m : Mark} {ms : List Mark} {r : List (Int × List Mark)} : faultR n is ((k, m :: ms) :: r) = bif is m then some ⟨n, k, m.at_, m.wth⟩ else faultR n is ((k, ms) :: r) := by
  simp only [faultR, List.find?_cons]
  cases is m <;> rfl
theorem fR_nil {n k : Int} {is : Mark → Bool} {r : List (Int × List Mark)} : faultR n is ((k, []) :: r) = faultR n is r := rfl
theorem s103 (a c : Int) (b : Bool) : E F (d + 1) 103 [.agg [.int .i64 a, .int .i64 c], .bool b] = some (.ret (.int .i64 (bif b then c else a))) := by
  have h := t103 (E F d) F ⟨a, c⟩ b
  rw [E_succ]
  refine h.trans ?_
  cases b <;> rfl
theorem maxI_gt (a b c : Int) : decide (maxI a b > c) = (decide (a > c) || decide (b > c)) := by
  apply b2
  simp only [Bool.or_eq_true, decide_eq_true_iff]
  unfold maxI
  split <;> omega
def prevOf (l : Sl Day) : Nat → Option (Sl Span)
  | 0 => none
  | k + 1 => some (l.el k).press
theorem predK (k : Nat) (h : k < 4611686018427387904) : IntKind.i64.wrap (((k + 1 : Nat) : Int) - 1) = (k : Int) := by rw [wr (by omega)]; omega
theorem l68x2z (s : Site) (ds : Sl Day) (l : Sl Stt) (b : Bool) (i fu : Nat) : L68x2 (E F d) F s ((0 : Nat) : Int) ds l b (fu + 1) (i : Int) = some (.ret (eFaultZ none)) := by
  rw [L68x2s]
  cases decide ((i : Int) < (s.cavs.len : Int)) <;> rfl
theorem l68x2 (s : Site) (ds : Sl Day) (l : Sl Stt) (b : Bool) (k : Nat) (hS : SiteF s) (hD : DaysOk s ds) (hk : k + 1 < ds.len) (hB : ds.len ≤ 100) : ∀ r i fu, s.cavs.len = i + r → r < fu →
    L68x2 (E F d) F s ((k + 1 : Nat) : Int) ds l b fu (i : Int) = some (.ret (eFaultZ (faultR ((k + 1 : Nat) : Int) (isM b) [(4, (List.range' i r).map (fastM s (ds.el (k + 1)) (ds.el k).press))]))) := by
  have h5 := hS.cavs5
  intro r
  induction r with
  | zero =>
    intro i fu h hf
    obtain ⟨fu, rfl⟩ : ∃ k, fu = k + 1 := ⟨fu - 1, by omega⟩
    rw [L68x2s]
    simp only [Int.ofNat_lt, show ¬ i < s.cavs.len by omega, decide_false, cond_false, List.range'_zero, List.map_nil]
    rfl
  | succ r ih =>
    intro i fu h hf
    obtain ⟨fu, rfl⟩ : ∃ k, fu = k + 1 := ⟨fu - 1, by omega⟩
    rw [L68x2s]
    have d1 := hD (k + 1) hk
    have d2 := hD k (by omega)
    have q1 := d1.1.2 i (by have := d1.1.1; omega)
    have q2 := d2.1.2 i (by have := d2.1.1; omega)
    have l1 := d1.1.1
    have l2 := d2.1.1
    simp only [Int.ofNat_lt, show i < s.cavs.len by omega, show i < (ds.el (k + 1)).press.len by omega, show i < (ds.el k).press.len by omega, show k < ds.len by omega, gt0, decide_true, cond_true, Int.natCast_nonneg, Int.toNat_natCast, predK k (by omega), wrS (show i < 4611686018427387904 by omega),
      wr (show _ ∧ ((ds.el (k + 1)).press.el i).hi - ((ds.el k).press.el i).lo ≤ _ by omega), wr (show _ ∧ ((ds.el k).press.el i).hi - ((ds.el (k + 1)).press.el i).lo ≤ _ by omega), wr (show _ ∧ ((ds.el (k + 1)).press.el i).lo - ((ds.el k).press.el i).hi ≤ _ by omega), wr (show _ ∧ ((ds.el k).press.el i).lo - ((ds.el (k + 1)).press.el i).hi ≤ _ by omega), ih (i + 1) fu (by omega) (by omega)]
    rw [List.range'_succ, List.map_cons, fR_cons]
    cases b with
    | false =>
      rw [show isM false (fastM s (ds.el (k + 1)) (ds.el k).press i) = _ from maxI_gt _ _ _]
      cases decide (((ds.el (k + 1)).press.el i).hi - ((ds.el k).press.el i).lo > (s.cavs.el i).change) <;> cases decide (((ds.el k).press.el i).hi - ((ds.el (k + 1)).press.el i).lo > (s.cavs.el i).change) <;> rfl
    | true =>
      rw [show isM true (fastM s (ds.el (k + 1)) (ds.el k).press i) = _ from maxI_gt _ _ _]
      cases decide (((ds.el (k + 1)).press.el i).lo - ((ds.el k).press.el i).hi > (s.cavs.el i).change) <;> cases decide (((ds.el k).press.el i).lo - ((ds.el (k + 1)).press.el i).hi > (s.cavs.el i).change) <;> rfl
theorem l68x1 (s : Site) (ds : Sl Day) (l : Sl Stt) (b : Bool) (n : Nat) (hS : SiteF s) (hy : DayOk s (ds.el n)) (rest : List (Int × List Mark)) (hR : L68x2 (E F d) F s (n : Int) ds l b F 0 = some (.ret (eFaultZ (faultR (n : Int) (isM b) rest)))) : ∀ r i fu, s.cavs.len = i + r → r < fu →
    L68x1 (E F d) F s (n : Int) ds l b fu (i : Int) = some (.ret (eFaultZ (faultR (n : Int) (isM b) ((3, (List.range' i r).map (gateM s (ds.el n))) :: rest)))) := by
  have h5 := hS.cavs5
  intro r
  induction r with
  | zero =>
    intro i fu h hf
    obtain ⟨fu, rfl⟩ : ∃ k, fu = k + 1 := ⟨fu - 1, by omega⟩
    rw [L68x1s]
    simp only [Int.ofNat_lt, show ¬ i < s.cavs.len by omega, decide_false, cond_false, List.range'_zero, List.map_nil, fR_nil, hR]
  | succ r ih =>
    intro i fu h hf
    obtain ⟨fu, rfl⟩ : ∃ k, fu = k + 1 := ⟨fu - 1, by omega⟩
    rw [L68x1s]
    have l1 := hy.1.1
    simp only [Int.ofNat_lt, show i < s.cavs.len by omega, show i < (ds.el n).press.len by omega, decide_true, cond_true, Int.natCast_nonneg, Int.toNat_natCast, wrS (show i < 4611686018427387904 by omega), ih (i + 1) fu (by omega) (by omega)]
    rw [List.range'_succ, List.map_cons, fR_cons]
    cases b with
    | false =>
      rw [show isM false (gateM s (ds.el n) i) = (decide (((ds.el n).press.el i).lo < (s.cavs.el i).gate.lo) || decide (((ds.el n).press.el i).hi > (s.cavs.el i).gate.hi)) from rfl]
      cases decide (((ds.el n).press.el i).lo < (s.cavs.el i).gate.lo) <;> cases decide (((ds.el n).press.el i).hi > (s.cavs.el i).gate.hi) <;> rfl
    | true =>
      rw [show isM true (gateM s (ds.el n) i) = (decide (((ds.el n).press.el i).hi < (s.cavs.el i).gate.lo) || decide (((ds.el n).press.el i).lo > (s.cavs.el i).gate.hi)) from rfl]
      cases decide (((ds.el n).press.el i).hi < (s.cavs.el i).gate.lo) <;> cases decide (((ds.el n).press.el i).lo > (s.cavs.el i).gate.hi) <;> rfl
theorem out_none (s : Site) (y : Day) (n k : Int) (rest : List (Int × List Mark)) : ∀ r i, faultR n (isM true) ((k, (List.range' i r).map (outM s y)) :: rest) = faultR n (isM true) rest := by
  intro r
  induction r with
  | zero => intro i; rfl
  | succ r ih =>
    intro i
    rw [List.range'_succ, List.map_cons, fR_cons, ih]
    rfl
theorem l68x0 (s : Site) (ds : Sl Day) (l : Sl Stt) (b : Bool) (n : Nat) (hS : SiteF s) (hy : DayOk s (ds.el n)) (rest : List (Int × List Mark)) (hR : L68x1 (E F (d + 2)) F s (n : Int) ds l b F 0 = some (.ret (eFaultZ (faultR (n : Int) (isM b) rest)))) : ∀ r i fu, s.cavs.len = i + r → r < fu →
    L68x0 (E F (d + 2)) F s (n : Int) ds l b fu (i : Int) = some (.ret (eFaultZ (faultR (n : Int) (isM b) ((2, (List.range' i r).map (outM s (ds.el n))) :: rest)))) := by
  have h5 := hS.cavs5
  intro r
  induction r with
  | zero =>
    intro i fu h hf
    obtain ⟨fu, rfl⟩ : ∃ k, fu = k + 1 := ⟨fu - 1, by omega⟩
    rw [L68x0s]
    simp only [Int.ofNat_lt, show ¬ i < s.cavs.len by omega, decide_false, cond_false, List.range'_zero, List.map_nil, fR_nil, hR]
  | succ r ih =>
    intro i fu h hf
    obtain ⟨fu, rfl⟩ : ∃ k, fu = k + 1 := ⟨fu - 1, by omega⟩
    rw [L68x0s]
    have l1 := hy.1.1
    have l2 := hy.2.1
    cases b with
    | true =>
      simp only [Int.ofNat_lt, show i < s.cavs.len by omega, decide_true, cond_true, Bool.not_true, cond_false, hR, out_none]
    | false =>
      simp only [Int.ofNat_lt, show i < s.cavs.len by omega, show i < (ds.el n).press.len by omega, show i < (ds.el n).warm.len by omega, decide_true, cond_true, Bool.not_false, Int.natCast_nonneg, Int.toNat_natCast, wrS (show i < 4611686018427387904 by omega), ih (i + 1) fu (by omega) (by omega),
        s32 F d s i ((ds.el n).press.el i) ((ds.el n).warm.el i) hS (by omega) (hy.1.2 i (by omega)), tkOut_ret, tkBool_b]
      rw [List.range'_succ, List.map_cons, fR_cons]
      rw [show isM false (outM s (ds.el n) i) = farB s (s.cavs.el i) ((ds.el n).press.el i) ((ds.el n).warm.el i) from rfl]
      cases farB s (s.cavs.el i) ((ds.el n).press.el i) ((ds.el n).warm.el i) <;> rfl
/-- The marks that are looked for ahead of a day's states, and behind them. -/
def earlyMs (s : Site) (y : Day) (b : Option (Sl Span)) : List (Int × List Mark) :=
  [(2, (List.range' 0 s.cavs.len).map (outM s y)), (3, (List.range' 0 s.cavs.len).map (gateM s y)), (4, fastMs s y b)]
noncomputable def lateMs (s : Site) (m : Option (Sl Stt)) : List (Int × List Mark) := [(5, smallMs s m), (6, thinMs s m), (7, sunkMs s m)]
theorem marks_parts (s : Site) (y : Day) (b : Option (Sl Span)) (m : Option (Sl Stt)) : marksOf s y b m = earlyMs s y b ++ lateMs s m := rfl
theorem s68 (s : Site) (ds : Sl Day) (l : Sl Stt) (b : Bool) (n : Nat) (hS : SiteF s) (hD : DaysOk s ds) (hn : n < ds.len) (hB : ds.len ≤ 100) (hF : 8 < F) :
    E F (d + 3) 68 [.agg (eSite s), .agg [.int .i64 (n : Int), sl eDay 2 ds, sl eStt 6 l], .bool b] = some (.ret (eFaultZ (faultR (n : Int) (isM b) (earlyMs s (ds.el n) (prevOf ds n))))) := by
  have h5 := hS.cavs5
  have hy := hD n hn
  rw [E_succ, t68]
  simp only [Int.natCast_nonneg, Int.ofNat_lt, hn, decide_true, cond_true]
  have h2 : L68x2 (E F (d + 2)) F s (n : Int) ds l b F 0 = some (.ret (eFaultZ (faultR (n : Int) (isM b) [(4, fastMs s (ds.el n) (prevOf ds n))]))) := by
    cases n with
    | zero =>
      obtain ⟨fu, rfl⟩ : ∃ k, F = k + 1 := ⟨F - 1, by omega⟩
      exact l68x2z (fu + 1) (d + 2) s ds l b 0 fu
    | succ k => exact l68x2 F (d + 2) s ds l b k hS hD hn hB s.cavs.len 0 F (by omega) (by omega)
  have h1 := l68x1 F (d + 2) s ds l b n hS hy _ h2 s.cavs.len 0 F (by omega) (by omega)
  exact l68x0 F d s ds l b n hS hy _ h1 s.cavs.len 0 F (by omega) (by omega)

section
variable (s : Site) (ds : Sl Day) (m : Sl Stt) (b : Bool) (n : Int)
theorem l69x3 (hS : SiteF s) (hL : StatesOk s m) (hF : 8 < F) : ∀ r i fu, s.houses.len = i + r → r < fu →
    L69x3 (E F (d + 3)) F s n ds m b fu (i : Int) = some (.ret (eFaultZ (faultR n (isM b) [(7, (List.range' i r).map (sunkM s m))]))) := by
  have h5 := hS.houses5
  intro r
  induction r with
  | zero =>
    intro i fu h hf
    obtain ⟨fu, rfl⟩ : ∃ k, fu = k + 1 := ⟨fu - 1, by omega⟩
    rw [L69x3s]
    simp only [Int.ofNat_lt, show ¬ i < s.houses.len by omega, decide_false, cond_false, List.range'_zero, List.map_nil]
    rfl
  | succ r ih =>
    intro i fu h hf
    obtain ⟨fu, rfl⟩ : ∃ k, fu = k + 1 := ⟨fu - 1, by omega⟩
    rw [L69x3s]
    have hp : Place (s.houses.el i).x (s.houses.el i).y := (hS.house i (by omega)).1
    simp only [Int.ofNat_lt, show i < s.houses.len by omega, decide_true, cond_true, Int.natCast_nonneg, Int.toNat_natCast, wrS (show i < 4611686018427387904 by omega), s19 F (d + 1) s m _ _ hS hL hp hF, s103 F (d + 2), tkOut_ret, tkAgg_a, tkCons_c, tkInt_i, tkNil_n, ih (i + 1) fu (by omega) (by omega)]
    rw [List.range'_succ, List.map_cons, fR_cons]
    cases b with
    | false =>
      rw [show isM false (sunkM s m i) = decide ((sunk s m (s.houses.el i).x (s.houses.el i).y).hi > (s.houses.el i).most) from rfl]
      simp only [Bool.not_false, cond_true]
      cases decide ((sunk s m (s.houses.el i).x (s.houses.el i).y).hi > (s.houses.el i).most) <;> rfl
    | true =>
      rw [show isM true (sunkM s m i) = decide ((sunk s m (s.houses.el i).x (s.houses.el i).y).lo > (s.houses.el i).most) from rfl]
      simp only [Bool.not_true, cond_false]
      cases decide ((sunk s m (s.houses.el i).x (s.houses.el i).y).lo > (s.houses.el i).most) <;> rfl
theorem l69x2 (hS : SiteF s) (hL : StatesOk s m) (hF : 2147483648 < F) (m0 i : Nat) (hi : i < s.cavs.len) (P : List Mark) (rest : List (Int × List Mark)) (hO : L69x1 (E F (d + 3)) F s n ds m b m0 ((i + 1 : Nat) : Int) = some (.ret (eFaultZ (faultR n (isM b) ((6, P) :: rest))))) : ∀ r j fu, s.cavs.len = j + r → r < fu →
    L69x2 (E F (d + 3)) F s n ds m b m0 fu (i : Int) (j : Int) = some (.ret (eFaultZ (faultR n (isM b) ((6, (List.range' j r).map (thinM s m i) ++ P) :: rest)))) := by
  have h5 := hS.cavs5
  have hl := hL.1
  intro r
  induction r with
  | zero =>
    intro j fu h hf
    obtain ⟨fu, rfl⟩ : ∃ k, fu = k + 1 := ⟨fu - 1, by omega⟩
    rw [L69x2s]
    simp only [Int.ofNat_lt, show ¬ j < m.len by omega, decide_false, cond_false, List.range'_zero, List.map_nil, List.nil_append, wrS (show i < 4611686018427387904 by omega), hO]
  | succ r ih =>
    intro j fu h hf
    obtain ⟨fu, rfl⟩ : ∃ k, fu = k + 1 := ⟨fu - 1, by omega⟩
    rw [L69x2s]
    have a1 := (hL.2 i (by omega)).1
    have a2 := (hL.2 j (by omega)).1
    have p1 := (hS.cav i hi).1
    have p2 := (hS.cav j (by omega)).1
    simp only [Int.ofNat_lt, show j < m.len by omega, show i < m.len by omega, decide_true, cond_true, Int.natCast_nonneg, Int.toNat_natCast, wrS (show j < 4611686018427387904 by omega), s40 F d s i j (m.el i).rad (m.el j).rad hi (by omega) p1 p2 (by omega) (by omega) hF, s103 F (d + 2), tkOut_ret, tkAgg_a, tkCons_c, tkInt_i, tkNil_n, ih (j + 1) fu (by omega) (by omega)]
    rw [List.range'_succ, List.map_cons, List.cons_append, fR_cons]
    cases b with
    | false =>
      rw [show isM false (thinM s m i j) = decide (distI (s.cavs.el i) (s.cavs.el j) - (m.el i).rad.hi - (m.el j).rad.hi < s.wall) from rfl]
      simp only [cond_false]
      cases decide (distI (s.cavs.el i) (s.cavs.el j) - (m.el i).rad.hi - (m.el j).rad.hi < s.wall) <;> rfl
    | true =>
      rw [show isM true (thinM s m i j) = decide (distI (s.cavs.el i) (s.cavs.el j) - (m.el i).rad.lo - (m.el j).rad.lo < s.wall) from rfl]
      simp only [cond_true]
      cases decide (distI (s.cavs.el i) (s.cavs.el j) - (m.el i).rad.lo - (m.el j).rad.lo < s.wall) <;> rfl
theorem l69x1 (hS : SiteF s) (hL : StatesOk s m) (hF : 2147483648 < F) (rest : List (Int × List Mark)) (hR : L69x3 (E F (d + 3)) F s n ds m b F 0 = some (.ret (eFaultZ (faultR n (isM b) rest)))) : ∀ k i fu, s.cavs.len = i + k → k < fu →
    L69x1 (E F (d + 3)) F s n ds m b fu (i : Int) = some (.ret (eFaultZ (faultR n (isM b) ((6, pairsM s m k i) :: rest)))) := by
  have h5 := hS.cavs5
  have hl := hL.1
  intro k
  induction k with
  | zero =>
    intro i fu h hf
    obtain ⟨fu, rfl⟩ : ∃ k, fu = k + 1 := ⟨fu - 1, by omega⟩
    rw [L69x1s]
    simp only [Int.ofNat_lt, show ¬ i < m.len by omega, decide_false, cond_false, pairsM, fR_nil, hR]
  | succ k ih =>
    intro i fu h hf
    obtain ⟨fu, rfl⟩ : ∃ k, fu = k + 1 := ⟨fu - 1, by omega⟩
    rw [L69x1s]
    simp only [Int.ofNat_lt, show i < m.len by omega, decide_true, cond_true, wrS (show i < 4611686018427387904 by omega), pairsM]
    exact l69x2 F d s ds m b n hS hL hF fu i (by omega) _ rest (ih (i + 1) fu (by omega) (by omega)) k (i + 1) F (by omega) (by omega)
theorem l69x0 (hS : SiteF s) (hL : StatesOk s m) (rest : List (Int × List Mark)) (hR : L69x1 (E F (d + 3)) F s n ds m b F 0 = some (.ret (eFaultZ (faultR n (isM b) rest)))) : ∀ r i fu, s.cavs.len = i + r → r < fu →
    L69x0 (E F (d + 3)) F s n ds m b fu (i : Int) = some (.ret (eFaultZ (faultR n (isM b) ((5, (List.range' i r).map (smallM s m)) :: rest)))) := by
  have h5 := hS.cavs5
  have hl := hL.1
  intro r
  induction r with
  | zero =>
    intro i fu h hf
    obtain ⟨fu, rfl⟩ : ∃ k, fu = k + 1 := ⟨fu - 1, by omega⟩
    rw [L69x0s]
    simp only [Int.ofNat_lt, show ¬ i < m.len by omega, decide_false, cond_false, List.range'_zero, List.map_nil, fR_nil, hR]
  | succ r ih =>
    intro i fu h hf
    obtain ⟨fu, rfl⟩ : ∃ k, fu = k + 1 := ⟨fu - 1, by omega⟩
    rw [L69x0s]
    simp only [Int.ofNat_lt, show i < m.len by omega, show i < s.cavs.len by omega, decide_true, cond_true, Int.natCast_nonneg, Int.toNat_natCast, wrS (show i < 4611686018427387904 by omega), s103 F (d + 2), tkOut_ret, tkInt_i, ih (i + 1) fu (by omega) (by omega)]
    rw [List.range'_succ, List.map_cons, fR_cons]
    cases b with
    | false =>
      rw [show isM false (smallM s m i) = decide ((m.el i).vol.lo < (s.cavs.el i).floor) from rfl]
      simp only [cond_false]
      cases decide ((m.el i).vol.lo < (s.cavs.el i).floor) <;> rfl
    | true =>
      rw [show isM true (smallM s m i) = decide ((m.el i).vol.hi < (s.cavs.el i).floor) from rfl]
      simp only [cond_true]
      cases decide ((m.el i).vol.hi < (s.cavs.el i).floor) <;> rfl
theorem s69 (hS : SiteF s) (hL : StatesOk s m) (hF : 2147483648 < F) :
    E F (d + 4) 69 [.agg (eSite s), .agg [.int .i64 n, sl eDay 2 ds, sl eStt 6 m], .bool b] = some (.ret (eFaultZ (faultR n (isM b) (lateMs s (some m))))) := by
  have h5 := hS.cavs5
  have h6 := hS.houses5
  rw [E_succ, t69]
  have h3 := l69x3 F d s ds m b n hS hL (by omega) s.houses.len 0 F (by omega) (by omega)
  have h1 := l69x1 F d s ds m b n hS hL hF _ h3 s.cavs.len 0 F (by omega) (by omega)
  exact l69x0 F d s ds m b n hS hL _ h1 s.cavs.len 0 F (by omega) (by omega)
end
end Go.Sim.Cr

/-
  The specification's faults are the program's.
-/
namespace Go.Sim.Cr
open Go.Proofs
variable (F d : Nat)
/-- The first possible, or the first certain fault of the days from one on, as the specification looks for it. -/
noncomputable def refFrom (s : Site) (l : Sl Day) (c : Bool) : Nat → Nat → Sl Stt → Fault
  | 0, _, _ => fineF
  | r + 1, i, now => bif farDay s (l.el i) && c then fineF else
      match faultR (i : Int) (isM c) (earlyMs s (l.el i) (prevOf l i)) with
      | some f => f
      | none => match faultR (i : Int) (isM c) (lateMs s (some (moved s now (l.el i)))) with
        | some f => f
        | none => refFrom s l c r (i + 1) (moved s now (l.el i))
theorem find_some {is : Mark → Bool} {ms : List Mark} (h : ∃ m ∈ ms, is m = true) : ∃ m, ms.find? is = some m := by
  cases e : ms.find? is with
  | some m => exact ⟨m, rfl⟩
  | none =>
    obtain ⟨m, h1, h2⟩ := h
    have := List.find?_eq_none.1 e m h1
    rw [h2] at this
    exact (this rfl).elim
theorem far_early {s : Site} {y : Day} (h : farDay s y = true) (n : Int) (b : Option (Sl Span)) : ∃ f, faultR n (isM false) (earlyMs s y b) = some f := by
  obtain ⟨k, _, hk, e⟩ := (anyF_eq _ _ _).1 h
  obtain ⟨m, hm⟩ := find_some (is := isM false) (ms := (List.range' 0 s.cavs.len).map (outM s y)) ⟨outM s y k, List.mem_map_of_mem (by rw [List.mem_range']; exact ⟨k, by omega, by omega⟩), e⟩
  refine ⟨⟨n, 2, m.at_, m.wth⟩, ?_⟩
  unfold earlyMs
  rw [faultR, hm]
theorem l31 (s : Site) (l : Sl Day) (c : Bool) (hS : SiteF s) (hD : DaysOk s l) (hB : l.len ≤ 100) (hF : 2147483648 < F) : ∀ r i fu (now : Sl Stt), l.len = i + r → r < fu → StatesOk s now →
    L31x0 (E F (d + 4)) F s l c fu now.nl now.len 6 (fun i => eStt (now.el i)) (i : Int) = some (.ret (.agg (eFault (refFrom s l c r i now)))) := by
  intro r
  induction r with
  | zero =>
    intro i fu now h hf hn
    obtain ⟨fu, rfl⟩ : ∃ k, fu = k + 1 := ⟨fu - 1, by omega⟩
    rw [L31x0s]
    simp only [Int.ofNat_lt, show ¬ i < l.len by omega, decide_false, cond_false, refFrom]
  | succ r ih =>
    intro i fu now h hf hn
    obtain ⟨fu, rfl⟩ : ∃ k, fu = k + 1 := ⟨fu - 1, by omega⟩
    rw [L31x0s]
    have hy := hD i (by omega)
    have e21 := s21 F d s now (l.el i) hS hn hy (by omega)
    have e68 := s68 F (d + 1) s l now c i hS hD (by omega) hB (by omega)
    simp only [Int.ofNat_lt, show i < l.len by omega, decide_true, cond_true, Int.natCast_nonneg, Int.toNat_natCast, e21, e68, tkOut_ret, wrS (show i < 4611686018427387904 by omega), moveR, refFrom]
    cases hfd : farDay s (l.el i) with
    | true =>
      simp only [cond_true, tkTup_t, tkCons_c, tkRow_r, tkBool_b, tkNil_n, Bool.not_false]
      cases c with
      | true => simp only [cond_true, Bool.and_self]
      | false =>
        obtain ⟨f, hf'⟩ := far_early hfd (i : Int) (prevOf l i)
        simp only [cond_false, cond_true, Bool.and_false, hf', tkTup_t, tkCons_c, tkAgg_a, tkInt_i, tkBool_b, tkNil_n]
    | false =>
      have hmv := moved_ok hS hn hy hfd
      have e69 := s69 F d s l (moved s now (l.el i)) c (i : Int) hS hmv hF
      have nx := ih (i + 1) fu (moved s now (l.el i)) (by omega) (by omega) hmv
      simp only [cond_false, tkTup_t, tkCons_c, tkRow_r, tkBool_b, tkNil_n, Bool.not_true, Bool.false_and]
      cases faultR (i : Int) (isM c) (earlyMs s (l.el i) (prevOf l i)) with
      | some f => simp only [tkTup_t, tkCons_c, tkAgg_a, tkInt_i, tkBool_b, tkNil_n, cond_true]
      | none =>
        simp only [tkTup_t, tkCons_c, tkAgg_a, tkInt_i, tkBool_b, tkNil_n, cond_false, e69, tkOut_ret]
        cases faultR (i : Int) (isM c) (lateMs s (some (moved s now (l.el i)))) with
        | some f => simp only [tkTup_t, tkCons_c, tkAgg_a, tkInt_i, tkBool_b, tkNil_n, cond_true]
        | none =>
          simp only [tkTup_t, tkCons_c, tkAgg_a, tkInt_i, tkBool_b, tkNil_n, cond_false]
          exact nx
theorem s31 (s : Site) (l : Sl Day) (c : Bool) (hS : SiteF s) (hD : DaysOk s l) (hB : l.len ≤ 100) (hF : 2147483648 < F) :
    E F (d + 5) 31 [.agg (eSite s), sl eDay 2 l, .bool c] = some (.ret (.agg (eFault (refFrom s l c l.len 0 (begin s))))) := by
  rw [E_succ, t31]
  simp only [s38 F (d + 3) s hS.cavs1 hS.cavs5 (by omega), tkOut_ret, tkRow_r]
  exact l31 F d s l c hS hD hB hF l.len 0 F (begin s) (by omega) (by omega) (begin_ok hS)

theorem faultR_append (n : Int) (is : Mark → Bool) : ∀ A B : List (Int × List Mark), faultR n is (A ++ B) = match faultR n is A with | some f => some f | none => faultR n is B := by
  intro A B
  induction A with
  | nil => rfl
  | cons a A ih =>
    obtain ⟨k, ms⟩ := a
    rw [List.cons_append]
    cases e : ms.find? is with
    | some m => rw [fR_some e, fR_some e]
    | none => rw [fR_none e, fR_none e]; exact ih
theorem late_none (s : Site) (n : Int) (is : Mark → Bool) : faultR n is (lateMs s none) = none := rfl
/-- What is certain is possible. -/
def Sure (mss : List (Int × List Mark)) : Prop := ∀ p ∈ mss, ∀ m ∈ p.2, m.certain = true → m.possible = true
theorem sure_some {n : Int} : ∀ {mss : List (Int × List Mark)}, Sure mss → (∃ f, faultR n (isM true) mss = some f) → ∃ f, faultR n (isM false) mss = some f := by
  intro mss
  induction mss with
  | nil => rintro _ ⟨f, h⟩; cases h
  | cons a mss ih =>
    obtain ⟨k, ms⟩ := a
    rintro hs ⟨f, h⟩
    unfold faultR at h ⊢
    cases e : ms.find? (isM false) with
    | some m => exact ⟨_, rfl⟩
    | none =>
      have e2 : ms.find? (isM true) = none := by
        rw [List.find?_eq_none] at e ⊢
        intro m hm hc
        exact e m hm (hs (k, ms) (by simp) m hm hc)
      rw [e2] at h
      exact ih (fun p hp => hs p (by simp [hp])) ⟨f, h⟩
theorem sunkFrom_le {s : Site} {m : Sl Stt} (hS : SiteF s) (hL : StatesOk s m) (x y : Int) : ∀ r i a b, m.len = i + r → a ≤ b → (sunkFrom s m x y r i a b).lo ≤ (sunkFrom s m x y r i a b).hi := by
  intro r
  induction r with
  | zero => intro i a b _ h; exact h
  | succ r ih =>
    intro i a b h hab
    refine ih (i + 1) _ _ (by omega) ?_
    have hq := shareOf_ok hS (s.cavs.el i) x y
    have hv := (hL.2 i (by omega)).2.2
    have h1 : (m.el i).lost.lo * (shareOf s (s.cavs.el i) x y).lo ≤ (m.el i).lost.hi * (shareOf s (s.cavs.el i) x y).hi := Int.mul_le_mul hv.2.1 hq.2.1 hq.1 (by omega)
    have h2 : (m.el i).lost.lo * (shareOf s (s.cavs.el i) x y).lo / 1000000 ≤ ((m.el i).lost.hi * (shareOf s (s.cavs.el i) x y).hi + 999999) / 1000000 := Int.ediv_le_ediv (by omega) (by omega)
    omega
theorem sunk_le {s : Site} {m : Sl Stt} (hS : SiteF s) (hL : StatesOk s m) (x y : Int) : (sunk s m x y).lo ≤ (sunk s m x y).hi := sunkFrom_le hS hL x y m.len 0 0 0 (by omega) (Int.le_refl _)
theorem pairs_sure {s : Site} {m : Sl Stt} (hL : StatesOk s m) : ∀ k i, s.cavs.len = i + k → ∀ x ∈ pairsM s m k i, x.certain = true → x.possible = true := by
  intro k
  induction k with
  | zero => intro i _ x hx; cases hx
  | succ k ih =>
    intro i h x hx
    rw [pairsM, List.mem_append] at hx
    rcases hx with hx | hx
    · obtain ⟨j, hj, rfl⟩ := List.mem_map.1 hx
      rw [List.mem_range'] at hj
      obtain ⟨q, hq, rfl⟩ := hj
      have hl := hL.1
      have a1 := (hL.2 i (by omega)).1
      have a2 := (hL.2 (i + 1 + 1 * q) (by omega)).1
      simp only [thinM, decide_eq_true_iff]
      omega
    · exact ih (i + 1) (by omega) x hx
theorem early_sure {s : Site} {y : Day} {b : Option (Sl Span)} (hD : DayOk s y) (hb : ∀ x, b = some x → x.len = s.cavs.len ∧ ∀ i, i < x.len → SpanIn (x.el i) 0 50000) : Sure (earlyMs s y b) := by
  have hp := hD.1.1
  intro p hp' m hm
  simp only [earlyMs, List.mem_cons, List.not_mem_nil, or_false] at hp'
  rcases hp' with rfl | rfl | rfl
  · obtain ⟨j, _, rfl⟩ := List.mem_map.1 hm
    intro h; cases h
  · obtain ⟨j, hj, rfl⟩ := List.mem_map.1 hm
    rw [List.mem_range'] at hj
    obtain ⟨q, hq, rfl⟩ := hj
    have := hD.1.2 (0 + 1 * q) (by omega)
    simp only [gateM, Bool.or_eq_true, decide_eq_true_iff]
    omega
  · cases b with
    | none => cases hm
    | some x =>
      obtain ⟨j, hj, rfl⟩ := List.mem_map.1 hm
      rw [List.mem_range'] at hj
      obtain ⟨q, hq, rfl⟩ := hj
      obtain ⟨g1, g2⟩ := hb x rfl
      have a1 := hD.1.2 (0 + 1 * q) (by omega)
      have a2 := g2 (0 + 1 * q) (by omega)
      simp only [fastM, maxI_gt, Bool.or_eq_true, decide_eq_true_iff]
      omega
theorem late_sure {s : Site} {m : Sl Stt} (hS : SiteF s) (hL : StatesOk s m) : Sure (lateMs s (some m)) := by
  have hl := hL.1
  intro p hp' x hx
  simp only [lateMs, List.mem_cons, List.not_mem_nil, or_false] at hp'
  rcases hp' with rfl | rfl | rfl
  · obtain ⟨j, hj, rfl⟩ := List.mem_map.1 hx
    rw [List.mem_range'] at hj
    obtain ⟨q, hq, rfl⟩ := hj
    have := (hL.2 (0 + 1 * q) (by omega)).2.1
    simp only [smallM, decide_eq_true_iff]
    omega
  · exact pairs_sure hL s.cavs.len 0 (by omega) x hx
  · obtain ⟨j, hj, rfl⟩ := List.mem_map.1 hx
    have := sunk_le hS hL (s.houses.el j).x (s.houses.el j).y
    simp only [sunkM, decide_eq_true_iff]
    omega
theorem isM_f : isM false = Mark.possible := rfl
theorem isM_t : isM true = Mark.certain := rfl
theorem prev_ok {s : Site} {l : Sl Day} (hD : DaysOk s l) {i : Nat} (hi : i ≤ l.len) : ∀ x, prevOf l i = some x → x.len = s.cavs.len ∧ ∀ j, j < x.len → SpanIn (x.el j) 0 50000 := by
  intro x hx
  cases i with
  | zero => cases hx
  | succ k =>
    injection hx with hx
    subst hx
    exact (hD k (by omega)).1
theorem faults_from {s : Site} {l : Sl Day} (hS : SiteF s) (hD : DaysOk s l) : ∀ r i now (found : Bool) (may : Fault), l.len = i + r → StatesOk s now → (found = false → may = fineF) →
    faultsFrom s l r i (prevOf l i) now found may fineF = (bif found then may else refFrom s l false r i now, refFrom s l true r i now) := by
  intro r
  induction r with
  | zero =>
    intro i now found may h hn hf
    cases found with
    | true => rfl
    | false => rw [hf rfl]; rfl
  | succ r ih =>
    intro i now found may h hn hf
    have hy := hD i (by omega)
    have he := early_sure (b := prevOf l i) hy (prev_ok hD (by omega))
    unfold faultsFrom refFrom
    dsimp only
    cases hfd : farDay s (l.el i) with
    | true =>
      simp only [cond_true, Bool.and_true, Bool.and_false, cond_false, marks_parts, faultR_append, ← isM_f, late_none]
      obtain ⟨f, e⟩ := far_early hfd (i : Int) (prevOf l i)
      rw [e]
      rfl
    | false =>
      have hmv := moved_ok hS hn hy hfd
      have hl := late_sure hS hmv
      have nx := fun fd my => ih (i + 1) (moved s now (l.el i)) fd my (by omega) hmv
      have pv : prevOf l (i + 1) = some (l.el i).press := rfl
      rw [pv] at nx
      simp only [cond_false, Bool.false_and, marks_parts, faultR_append, ← isM_f, ← isM_t]
      have se := sure_some (n := (i : Int)) he
      have sl' := sure_some (n := (i : Int)) hl
      cases e1 : faultR (i : Int) (isM true) (earlyMs s (l.el i) (prevOf l i)) with
      | some f =>
        obtain ⟨g, e2⟩ := se ⟨f, e1⟩
        rw [e2]
        cases found <;> rfl
      | none =>
        cases e3 : faultR (i : Int) (isM true) (lateMs s (some (moved s now (l.el i)))) with
        | some f =>
          obtain ⟨g, e4⟩ := sl' ⟨f, e3⟩
          rw [e4]
          cases faultR (i : Int) (isM false) (earlyMs s (l.el i) (prevOf l i)) <;> cases found <;> rfl
        | none =>
          cases faultR (i : Int) (isM false) (earlyMs s (l.el i) (prevOf l i)) with
          | some g =>
            refine (nx _ _ ?_).trans ?_
            · cases found <;> intro h <;> cases h
            · cases found <;> rfl
          | none =>
            cases faultR (i : Int) (isM false) (lateMs s (some (moved s now (l.el i)))) with
            | some g =>
              refine (nx _ _ ?_).trans ?_
              · cases found <;> intro h <;> cases h
              · cases found <;> rfl
            | none =>
              refine (nx _ _ ?_).trans ?_
              · cases found with
                | true => intro h; cases h
                | false => intro _; rfl
              · cases found <;> rfl
theorem faults_eq {s : Site} {l : Sl Day} (hS : SiteF s) (hD : DaysOk s l) : faults s l = (refFrom s l false l.len 0 (begin s), refFrom s l true l.len 0 (begin s)) :=
  faults_from hS hD l.len 0 (begin s) false fineF (by omega) (begin_ok hS) (fun _ => rfl)
end Go.Sim.Cr

/-
  CreepFaults: the law answers true.
-/
namespace Go.Sim.Cr
open Go.Proofs
variable (F d : Nat)
theorem eqF4 (a b c e : Int) : ((a == a) && ((b == b) && ((c == c) && ((e == e) && true)))) = true := by simp
theorem z33 : ((3 : Int) == 3) = true := rfl
theorem l5xend (s : Site) (l : Sl Day) (e : Int) (he : (e == 0) = false) (hF : 2147483648 < F) (i3 : Int) (fu : Nat) :
    L5x0 (E F (d + 11)) F s l (fu + 1) .i64 e e i3 .i64 0 .i64 0 .i64 0 .i64 0 .i64 0 .i64 0 .i64 0 .i64 0 = some (.ret (.bool true)) := by
  have k := s13 F d (by omega)
  rw [L5x0s]
  have e2 : (e == e) = true := by simp
  simp only [he, bne, Bool.not_false, pF, pT, decide_true, e2, eqF4, k, pOut, pBool]
  cases decide (i3 < (l.len : Int)) <;> rfl
theorem l5xno (s : Site) (l : Sl Day) (hl : ShortD l) (hs : Small s F) (hF : 2147483648 < F) : ∀ r i fu, l.len = i + r → r < fu → l.len ≤ 100 → ¬ (∀ k, i ≤ k → k < l.len → DayOk s (l.el k)) →
    L5x0 (E F (d + 11)) F s l fu .i64 2 0 (i : Int) .i64 0 .i64 0 .i64 0 .i64 0 .i64 0 .i64 0 .i64 0 .i64 0 = some (.ret (.bool true)) := by
  intro r
  induction r with
  | zero => intro i fu h hf hb hn; exact (hn fun k h1 h2 => by omega).elim
  | succ r ih =>
    intro i fu h hf hb hn
    obtain ⟨fu, rfl⟩ : ∃ k, fu = k + 1 := ⟨fu - 1, by omega⟩
    rw [L5x0s]
    simp only [Int.ofNat_lt, show i < l.len by omega, decide_true, pT, z00, Int.natCast_nonneg, Int.toNat_natCast, s20 F (d + 9) s (l.el i) hs.cavs hs.cavsF, pOut, pBool, wrS (show i < 4611686018427387904 by omega)]
    by_cases hd : DayOk s (l.el i)
    · simp only [decide_eq_true hd, Bool.not_true, pF]
      exact ih (i + 1) fu (by omega) (by omega) hb fun hx => hn fun k h1 h2 => by
        rcases Nat.eq_or_lt_of_le h1 with rfl | h3
        · exact hd
        · exact hx k h3 h2
    · simp only [decide_eq_false hd, Bool.not_false, pT]
      obtain ⟨fu, rfl⟩ : ∃ k, fu = k + 1 := ⟨fu - 1, by omega⟩
      exact l5xend F d s l 2 rfl hF _ fu
theorem l5xyes (s : Site) (l : Sl Day) (hs : Small s F) (hS : SiteF s) (hD : DaysOk s l) (hb : l.len ≤ 100) (hF : 2147483648 < F) (a b : Fault) (ha : a = refFrom s l false l.len 0 (begin s)) (hb' : b = refFrom s l true l.len 0 (begin s)) : ∀ r i fu, l.len = i + r → r < fu →
    L5x0 (E F (d + 11)) F s l fu .i64 0 0 (i : Int) .i64 a.day .i64 a.rule .i64 a.of .i64 a.wth .i64 b.day .i64 b.rule .i64 b.of .i64 b.wth = some (.ret (.bool true)) := by
  have k := s13 F d (by omega)
  intro r
  induction r with
  | zero =>
    intro i fu h hf
    obtain ⟨fu, rfl⟩ : ∃ k, fu = k + 1 := ⟨fu - 1, by omega⟩
    rw [L5x0s]
    have e1 := s31 F (d + 6) s l false hS hD hb hF
    have e2 := s31 F (d + 6) s l true hS hD hb hF
    rw [← ha] at e1
    rw [← hb'] at e2
    simp only [Int.ofNat_lt, show ¬ i < l.len by omega, decide_false, pF, z00, bne, Bool.not_true, decide_true, pT, e1, e2, pOut, pAgg, pCons, pInt, pNil, eqF4, k, pBool]
  | succ r ih =>
    intro i fu h hf
    obtain ⟨fu, rfl⟩ : ∃ k, fu = k + 1 := ⟨fu - 1, by omega⟩
    rw [L5x0s]
    simp only [Int.ofNat_lt, show i < l.len by omega, decide_true, pT, z00, Int.natCast_nonneg, Int.toNat_natCast, s20 F (d + 9) s (l.el i) hs.cavs hs.cavsF, pOut, pBool, wrS (show i < 4611686018427387904 by omega), decide_eq_true (hD i (by omega)), Bool.not_true, pF]
    exact ih (i + 1) fu (by omega) (by omega)
set_option maxRecDepth 100000 in
theorem s5 (s : Site) (l : Sl Day) (hlm : l.len ≤ 1000000000000000) (hF : 1000000000000001 < F) : E F (d + 12) 5 [.agg (eSite s), sl eDay 2 l] = some (.ret (.bool true)) := by
  have k := s13 F d (by omega)
  rw [E_succ, t5]
  simp only [s11 F (d + 10), pOut, pBool]
  by_cases h0 : ShortS s
  · have hs := small_of F h0 (by omega)
    have hB : l.len < Big := by show l.len < 4611686018427387904; omega
    simp only [decide_eq_true h0, Bool.not_true, pF, s12 F (d + 10) l 12 hB (by omega), pOut, pBool]
    by_cases h2 : Few l 12
    · have h65 : l.len ≤ 65 := by have := h2.2; omega
      have e30 := s30 F (d + 1) s l hs h2.1 hB (by omega) (by omega)
      have e16 := s16 F (d + 8) s hs
      simp only [decide_eq_true h2, Bool.not_true, pF, e30, e16, pOut, pBool]
      have ec : decide ((l.len : Int) > 60) = decide (60 < l.len) := by apply b2; simp only [decide_eq_true_iff]; omega
      obtain ⟨fu, hfu⟩ : ∃ k, F = k + 1 := ⟨F - 1, by omega⟩
      rw [ec]
      by_cases h3 : 60 < l.len
      · have g := l5xend F d s l 3 rfl (by omega) 0 fu
        rw [← hfu] at g
        simp only [decide_eq_true h3, pT, pTup, pCons, pAgg, pInt, pNil]
        exact g
      · cases h4 : siteB s with
        | false =>
          have g := l5xend F d s l 2 rfl (by omega) 0 fu
          rw [← hfu] at g
          simp only [decide_eq_false h3, Bool.false_and, pF, pTup, pCons, pAgg, pInt, pNil, Bool.not_false, pT]
          exact g
        | true =>
          have hS := (siteB_iff s).1 h4
          by_cases h5 : DaysOk s l
          · have g := l5xyes F d s l hs hS h5 (by omega) (by omega) (faults s l).1 (faults s l).2 (by rw [faults_eq hS h5]) (by rw [faults_eq hS h5]) l.len 0 F (by omega) (by omega)
            simp only [decide_eq_false h3, decide_eq_true h5, Bool.and_self, pF, pT, pTup, pCons, pAgg, pInt, pNil, Bool.not_true]
            exact g
          · have g := l5xno F d s l h2.1 hs (by omega) l.len 0 F (by omega) (by omega) (by omega) (fun hx => h5 fun i hi => hx i (Nat.zero_le _) hi)
            simp only [decide_eq_false h3, decide_eq_false h5, Bool.and_false, pF, pTup, pCons, pAgg, pInt, pNil, Bool.not_true]
            exact g
    · simp only [decide_eq_false h2, Bool.not_false, pT, k, pOut, pBool]
  · simp only [decide_eq_false h0, Bool.not_false, pT, k, pOut, pBool]
end Go.Sim.Cr

/-
  CreepFaults: the row.
-/
namespace Go.Proofs.Ytpgpaficdabmkaa
open Go.ChangeShapes Go.WideShapes Go.ChangeAt Go.RowKit Go.Sim Go.Sim.Cr
set_option maxRecDepth 100000 in
theorem creepFaults_fit (cs : List V) (h : ArgsFit [(true, shSite), (false, [.row shDay])] cs) : E 2000000000000000 12 5 cs = some (.ret (.bool true)) := by
  obtain ⟨l0, cs0, rfl, h0, g0⟩ := h
  obtain ⟨s1, c1, cs1, e1, rfl, h1, g1⟩ := g0
  injection e1 with e1 _; subst e1
  obtain rfl : cs1 = [] := g1
  obtain ⟨a0, rfl⟩ := decSite l0 h0
  obtain ⟨a1, rfl, m1, n1⟩ := fitRow decDay h1
  exact s5 2000000000000000 0 a0 a1 (by omega) (by omega)
set_option maxRecDepth 100000 in
theorem creepFaults_lifted (os : Os) (started : os.Started) (H : Type) (enc : TypeId × Value → H) :
    ReturnsInHanded {} Try.checked os 5 .any (Rows.creepFaultsSpec.pre6 enc Try.prog Try.f5 Rows.creepFaultsRow.domain false) (Rows.creepFaultsSpec.post enc Try.prog Try.f5 false true false false) := by
  refine returnsInHanded_of_change_sized (C := Try.checked) own started (by kernel_rfl) Try.func5
    (ChangeSpec.witness6 (enc := enc) (C := Try.checked) false ⟨#[], #[.agg #[.slice none 0 0, .slice none 0 0, .slice none 0 0, .int .i64 0, .slice none 0 0, .slice none 0 0], .slice none 0 0], []⟩ 8 (by kernel_rfl) (by kernel_rfl) (by kernel_rfl) (by kernel_rfl)) ?_
  intro W base args ds gs before hval hW _ hwt _
  exact law_contract (tb := 4) (okE 2000000000000000 12) (by kernel_rfl) creepFaults_fit
    ⟨rfl, fun H ds h => by match ds, h with | [_, _], _ => exact ⟨rfl, rfl, rfl⟩⟩ (by kernel_rfl) (by kernel_rfl) laid (by decide +kernel) W base args ds gs before hval hW hwt
theorem creepFaults_holds : Rows.CreepFaultsSaid :=
  OpenClaim.holds_of_wide 5 Try.f5 rfl rfl rfl rfl rfl rfl rfl ⟨rfl, rfl, rfl, rfl, rfl⟩ rfl rfl rfl rfl rfl (by kernel_rfl) Try.func5 (by kernel_rfl)
    (of_decide_eq_true (by kernel_rfl)) (by unfold Func.isWrapper; first | (rw [if_pos (by decide +kernel)]; kernel_rfl) | (rw [if_neg (by decide +kernel)]; exact ⟨rfl, rfl⟩))
    (fun os started H enc _ => creepFaults_lifted os started H enc)
#print axioms creepFaults_holds
end Go.Proofs.Ytpgpaficdabmkaa
