/-
  CreepMore holds for every input: called with any site, states, day, percentages and place, the law returns true, and its arguments read behind the call as before. No condition.
-/
import Derived.Test.YtpgpaficdabmkaaAe
import Derived.KernelRfl
set_option linter.unusedVariables false
set_option linter.unusedSimpArgs false
set_option linter.unusedSectionVars false
/-
  What the evaluator says of these functions (printed by a private program; each row is checked by the kernel).
-/
set_option maxRecDepth 100000
namespace Go.Sim.Cr
open Go.Proofs

theorem t34 (env : Env) (F : Nat) (p : Span) (a : Int) (b : Int) : (evFun Try.prog (cfg F) env 34 [(.agg (eSpan p)), (.int .i64 a), (.int .i64 b)]) =
  (tkOut (env 25 [(.agg (eSpan p)), (.int .i64 a)]) none (fun v5 => (tkInt v5 none fun q6 n7 => (tkOut (env 25 [(.agg (eSpan p)), (.int .i64 b)]) none (fun v8 => (tkInt v8 none fun q9 n10 => some (.ret (.agg [(.int q6 n7), (.int q9 n10)]))))
      (fun p8 => (tkIfc p8 none fun t9 x10 => (bif (flatP (.iface t9 x10)) then some (.pan (.iface t9 x10))
          else none))))))
  (fun p5 => (tkIfc p5 none fun t6 x7 => (bif (flatP (.iface t6 x7)) then none
      else none)))) := by kernel_rfl

noncomputable def L7x0 (env : Env) (F : Nat) (s : Site) (l : Sl Stt) (d : Day) (lo : Int) (hi : Int) (x : Int) (y : Int) (fu : Nat) (b0 : Bool) (k1 : Nat) (k2 : Nat) (g3 : Nat → List V) : Option Out := atLoop Try.prog (cfg F) env 7 [.r, .r, .r, .r, .r, .r, .l, .r, .d] [] fu { tm := tmL 277 0 [(1, (sl eStt 6 l)), (3, (.int .i64 lo)), (4, (.int .i64 hi)), (5, (.int .i64 x)), (6, (.int .i64 y)), (7, (.optr 0 0 0)), (9, (.optr 1 0 0)), (15, (.row b0 k1 k2 g3)), (17, (.optr 2 0 0)), (18, (.row true 0 0 (fun u14 => []))), (19, (.int .i64 (0 : Int)))], hp := [(.box 28 (eSite s) true), (.box 32 [(sl eSpan 2 (Day.press d)), (sl eSpan 2 (Day.warm d))] true), (.box 32 [(.row true 0 0 (fun u14 => [])), (.row true 0 0 (fun u14 => []))] true)] }
noncomputable def L7x1 (env : Env) (F : Nat) (s : Site) (l : Sl Stt) (d : Day) (lo : Int) (hi : Int) (x : Int) (y : Int) (fu : Nat) (b0 : Bool) (k1 : Nat) (k2 : Nat) (g3 : Nat → List V) (k4 : Nat) (i5 : Int) (k6 : Nat) (k7 : Nat) (k8 : Nat) (g9 : Nat → List V) (k10 : Nat) (g11 : Nat → List V) (k12 : Nat) (g13 : Nat → List V) : Option Out := atLoop Try.prog (cfg F) env 7 [.r, .r, .r, .r, .r, .r, .l, .r, .d] [] fu { tm := tmL 277 0 [(1, (sl eStt 6 l)), (3, (.int .i64 lo)), (4, (.int .i64 hi)), (5, (.int .i64 x)), (6, (.int .i64 y)), (7, (.optr 0 0 0)), (9, (.optr 1 0 0)), (15, (.row b0 k1 k2 g3)), (17, (.optr 2 0 0)), (18, (.osl 3 0 k4)), (19, (.int .i64 i5))], hp := [(.box 28 (eSite s) true), (.box 32 [(sl eSpan 2 (Day.press d)), (sl eSpan 2 (Day.warm d))] true), (.box 32 [(.osl 4 0 k6), (.osl 5 0 k7)] true), (.arr 65 6 k8 g9 true), (.arr 41 2 k10 g11 true), (.arr 41 2 k12 g13 true)] }
noncomputable def L7x2 (env : Env) (F : Nat) (s : Site) (l : Sl Stt) (d : Day) (lo : Int) (hi : Int) (x : Int) (y : Int) (fu : Nat) (b0 : Bool) (k1 : Nat) (k2 : Nat) (g3 : Nat → List V) (b4 : Bool) (k5 : Nat) (k6 : Nat) (g7 : Nat → List V) (i8 : Int) : Option Out := atLoop Try.prog (cfg F) env 7 [.r, .r, .r, .r, .r, .r, .r, .r, .r, .l, .r, .d] [] fu { tm := tmL 277 0 [(1, (sl eStt 6 l)), (5, (.int .i64 x)), (6, (.int .i64 y)), (7, (.optr 0 0 0)), (15, (.row b0 k1 k2 g3)), (20, (.row b4 k5 k6 g7)), (22, (.int .i64 i8))], hp := [(.box 28 (eSite s) true)] }
theorem t7 (env : Env) (F : Nat) (s : Site) (l : Sl Stt) (d : Day) (lo : Int) (hi : Int) (x : Int) (y : Int) : (evFun Try.prog (cfg F) env 7 [(.agg (eSite s)), (sl eStt 6 l), (.agg (eDay d)), (.int .i64 lo), (.int .i64 hi), (.int .i64 x), (.int .i64 y)]) =
  (tkOut (env 11 [(.agg (eSite s))]) none (fun v9 => (tkBool v9 none fun b10 => (bif (!b10) then (tkOut (env 13 []) none (fun v11 => (tkBool v11 none fun b12 => some (.ret (.bool b12))))
        (fun p11 => (tkIfc p11 none fun t12 x13 => (bif (flatP (.iface t12 x13)) then some (.pan (.iface t12 x13))
            else none))))
      else (tkOut (env 16 [(.agg (eSite s))]) none (fun v11 => (tkBool v11 none fun b12 => (bif (!b12) then (tkOut (env 13 []) none (fun v13 => (tkBool v13 none fun b14 => some (.ret (.bool b14))))
              (fun p13 => (tkIfc p13 none fun t14 x15 => (bif (flatP (.iface t14 x15)) then some (.pan (.iface t14 x15))
                  else none))))
            else (tkOut (env 17 [(.agg (eSite s)), (sl eStt 6 l)]) none (fun v13 => (tkBool v13 none fun b14 => (bif (!b14) then (tkOut (env 13 []) none (fun v15 => (tkBool v15 none fun b16 => some (.ret (.bool b16))))
                    (fun p15 => (tkIfc p15 none fun t16 x17 => (bif (flatP (.iface t16 x17)) then some (.pan (.iface t16 x17))
                        else none))))
                  else (tkOut (env 20 [(.agg (eSite s)), (.agg [(sl eSpan 2 (Day.press d)), (sl eSpan 2 (Day.warm d))])]) none (fun v15 => (tkBool v15 none fun b16 => (bif (!b16) then (tkOut (env 13 []) none (fun v17 => (tkBool v17 none fun b18 => some (.ret (.bool b18))))
                          (fun p17 => (tkIfc p17 none fun t18 x19 => (bif (flatP (.iface t18 x19)) then some (.pan (.iface t18 x19))
                              else none))))
                        else (bif (decide (lo < (0 : Int))) then (tkOut (env 13 []) none (fun v17 => (tkBool v17 none fun b18 => some (.ret (.bool b18))))
                            (fun p17 => (tkIfc p17 none fun t18 x19 => (bif (flatP (.iface t18 x19)) then some (.pan (.iface t18 x19))
                                else none))))
                          else (bif (decide (lo > hi)) then (tkOut (env 13 []) none (fun v17 => (tkBool v17 none fun b18 => some (.ret (.bool b18))))
                              (fun p17 => (tkIfc p17 none fun t18 x19 => (bif (flatP (.iface t18 x19)) then some (.pan (.iface t18 x19))
                                  else none))))
                            else (bif (decide (hi > (100 : Int))) then (tkOut (env 13 []) none (fun v17 => (tkBool v17 none fun b18 => some (.ret (.bool b18))))
                                (fun p17 => (tkIfc p17 none fun t18 x19 => (bif (flatP (.iface t18 x19)) then some (.pan (.iface t18 x19))
                                    else none))))
                              else (tkOut (env 18 [(.int .i64 x), (.int .i64 y)]) none (fun v17 => (tkBool v17 none fun b18 => (bif (!b18) then (tkOut (env 13 []) none (fun v19 => (tkBool v19 none fun b20 => some (.ret (.bool b20))))
                                      (fun p19 => (tkIfc p19 none fun t20 x21 => (bif (flatP (.iface t20 x21)) then some (.pan (.iface t20 x21))
                                          else none))))
                                    else (tkOut (env 14 [(.agg (eSite s)), (sl eStt 6 l), (.agg [(sl eSpan 2 (Day.press d)), (sl eSpan 2 (Day.warm d))])]) none (fun v19 => (tkTup v19 none fun l20 => (tkCons l20 none fun v21 r22 => (tkRow v21 none fun nl23 n24 wd25 g26 => (tkCons r22 none fun v27 r28 => (tkInt v27 none fun q29 n30 => (tkNil r28 none ((bif (decide (q29 = .i64)) then (bif (n30 != (0 : Int)) then (bif (decide (q29 = .i64)) then (bif (n30 == (7 : Int)) then (tkOut (env 13 []) none (fun v31 => (tkBool v31 none fun b32 => some (.ret (.bool b32))))
                                                            (fun p31 => (tkIfc p31 none fun t32 x33 => (bif (flatP (.iface t32 x33)) then some (.pan (.iface t32 x33))
                                                                else none))))
                                                          else some (.ret (.bool false)))
                                                        else none)
                                                      else (L7x0 env F s l d lo hi x y F nl23 n24 wd25 g26))
                                                    else none)))))))))
                                      (fun p19 => (tkIfc p19 none fun t20 x21 => (bif (flatP (.iface t20 x21)) then some (.pan (.iface t20 x21))
                                          else none)))))))
                                (fun p17 => (tkIfc p17 none fun t18 x19 => (bif (flatP (.iface t18 x19)) then some (.pan (.iface t18 x19))
                                    else none))))))))))
                    (fun p15 => (tkIfc p15 none fun t16 x17 => (bif (flatP (.iface t16 x17)) then some (.pan (.iface t16 x17))
                        else none)))))))
              (fun p13 => (tkIfc p13 none fun t14 x15 => (bif (flatP (.iface t14 x15)) then some (.pan (.iface t14 x15))
                  else none)))))))
        (fun p11 => (tkIfc p11 none fun t12 x13 => (bif (flatP (.iface t12 x13)) then some (.pan (.iface t12 x13))
            else none)))))))
  (fun p9 => (tkIfc p9 none fun t10 x11 => (bif (flatP (.iface t10 x11)) then some (.pan (.iface t10 x11))
      else none)))) := by kernel_rfl
theorem L7x0s (env : Env) (F : Nat) (s : Site) (l : Sl Stt) (d : Day) (lo : Int) (hi : Int) (x : Int) (y : Int) (fu : Nat) (b0 : Bool) (k1 : Nat) (k2 : Nat) (g3 : Nat → List V) : L7x0 env F s l d lo hi x y (fu + 1) b0 k1 k2 g3 =
  (bif (decide ((0 : Int) < (((Sl.len l) : Nat) : Int))) then (bif (decide ((0 : Int) < (((Sl.len (Day.press d)) : Nat) : Int))) then (tkOut (env 34 [(.agg (eSpan (Sl.el (Day.press d) 0))), (.int .i64 lo), (.int .i64 hi)]) none (fun v14 => (tkAgg v14 none fun l15 => (tkCons l15 none fun v16 r17 => (tkInt v16 none fun q18 n19 => (tkCons r17 none fun v20 r21 => (tkInt v20 none fun q22 n23 => (tkNil r21 none ((bif (decide ((0 : Int) < (((Sl.len (Day.warm d)) : Nat) : Int))) then (tkOut (env 34 [(.agg (eSpan (Sl.el (Day.warm d) 0))), (.int .i64 lo), (.int .i64 hi)]) none (fun v24 => (tkAgg v24 none fun l25 => (tkCons l25 none fun v26 r27 => (tkInt v26 none fun q28 n29 => (tkCons r27 none fun v30 r31 => (tkInt v30 none fun q32 n33 => (tkNil r31 none ((bif (decide ((0 : Int) < (((Sl.len l) : Nat) : Int))) then (tkOut (env 34 [(.agg (eSpan (Stt.rad (Sl.el l 0)))), (.int .i64 lo), (.int .i64 hi)]) none (fun v34 => (tkAgg v34 none fun l35 => (tkCons l35 none fun v36 r37 => (tkInt v36 none fun q38 n39 => (tkCons r37 none fun v40 r41 => (tkInt v40 none fun q42 n43 => (tkNil r41 none ((bif (decide ((0 : Int) < (((Sl.len l) : Nat) : Int))) then (tkOut (env 34 [(.agg (eSpan (Stt.vol (Sl.el l 0)))), (.int .i64 lo), (.int .i64 hi)]) none (fun v44 => (tkAgg v44 none fun l45 => (tkCons l45 none fun v46 r47 => (tkInt v46 none fun q48 n49 => (tkCons r47 none fun v50 r51 => (tkInt v50 none fun q52 n53 => (tkNil r51 none ((bif (decide ((0 : Int) < (((Sl.len l) : Nat) : Int))) then (tkOut (env 34 [(.agg (eSpan (Stt.lost (Sl.el l 0)))), (.int .i64 lo), (.int .i64 hi)]) none (fun v54 => (tkAgg v54 none fun l55 => (tkCons l55 none fun v56 r57 => (tkInt v56 none fun q58 n59 => (tkCons r57 none fun v60 r61 => (tkInt v60 none fun q62 n63 => (tkNil r61 none ((L7x1 env F s l d lo hi x y fu b0 k1 k2 g3 1 (IntKind.wrap .i64 ((0 : Int) + (1 : Int))) 1 1 1 (fun u64 => [(.int q38 n39), (.int q42 n43), (.int q48 n49), (.int q52 n53), (.int q58 n59), (.int q62 n63)]) 1 (fun u64 => [(.int q18 n19), (.int q22 n23)]) 1 (fun u64 => [(.int q28 n29), (.int q32 n33)]))))))))))
                                                                      (fun p54 => (tkIfc p54 none fun t55 x56 => (bif (flatP (.iface t55 x56)) then some (.pan (.iface t55 x56))
                                                                          else none))))
                                                                    else none)))))))))
                                                      (fun p44 => (tkIfc p44 none fun t45 x46 => (bif (flatP (.iface t45 x46)) then none
                                                          else none))))
                                                    else none)))))))))
                                      (fun p34 => (tkIfc p34 none fun t35 x36 => (bif (flatP (.iface t35 x36)) then none
                                          else none))))
                                    else none)))))))))
                      (fun p24 => (tkIfc p24 none fun t25 x26 => (bif (flatP (.iface t25 x26)) then none
                          else none))))
                    else none)))))))))
      (fun p14 => (tkIfc p14 none fun t15 x16 => (bif (flatP (.iface t15 x16)) then none
          else none))))
    else none)
  else (tkOut (env 14 [(.agg (eSite s)), (.row true 0 0 (fun u14 => [])), (.agg [(.row true 0 0 (fun u14 => [])), (.row true 0 0 (fun u14 => []))])]) none (fun v14 => (tkTup v14 none fun l15 => (tkCons l15 none fun v16 r17 => (tkRow v16 none fun nl18 n19 wd20 g21 => (tkCons r17 none fun v22 r23 => (tkInt v22 none fun q24 n25 => (tkNil r23 none ((bif (decide (q24 = .i64)) then (bif (n25 != (0 : Int)) then some (.ret (.bool false))
                    else (bif (((k1 : Nat) : Int) != (((Sl.len l) : Nat) : Int)) then some (.ret (.bool false))
                      else (bif (((n19 : Nat) : Int) != (((Sl.len l) : Nat) : Int)) then some (.ret (.bool false))
                        else (L7x2 env F s l d lo hi x y F b0 k1 k2 g3 nl18 n19 wd20 g21 (0 : Int)))))
                  else none)))))))))
    (fun p14 => (tkIfc p14 none fun t15 x16 => (bif (flatP (.iface t15 x16)) then some (.pan (.iface t15 x16))
        else none))))) := by kernel_rfl
theorem L7x1s (env : Env) (F : Nat) (s : Site) (l : Sl Stt) (d : Day) (lo : Int) (hi : Int) (x : Int) (y : Int) (fu : Nat) (b0 : Bool) (k1 : Nat) (k2 : Nat) (g3 : Nat → List V) (k4 : Nat) (i5 : Int) (k6 : Nat) (k7 : Nat) (k8 : Nat) (g9 : Nat → List V) (k10 : Nat) (g11 : Nat → List V) (k12 : Nat) (g13 : Nat → List V) : L7x1 env F s l d lo hi x y (fu + 1) b0 k1 k2 g3 k4 i5 k6 k7 k8 g9 k10 g11 k12 g13 =
  (bif (decide (i5 < (((Sl.len l) : Nat) : Int))) then (bif (decide ((0 : Int) ≤ i5)) then (bif (decide (i5 < (((Sl.len (Day.press d)) : Nat) : Int))) then (tkOut (env 34 [(.agg (eSpan (Sl.el (Day.press d) (Int.toNat i5)))), (.int .i64 lo), (.int .i64 hi)]) none (fun v24 => (tkAgg v24 none fun l25 => (tkCons l25 none fun v26 r27 => (tkInt v26 none fun q28 n29 => (tkCons r27 none fun v30 r31 => (tkInt v30 none fun q32 n33 => (tkNil r31 none ((bif (decide (((k6 + 1) * 16) ≤ 140737488355328)) then (bif (decide ((0 : Int) ≤ i5)) then (bif (decide (i5 < (((Sl.len (Day.warm d)) : Nat) : Int))) then (tkOut (env 34 [(.agg (eSpan (Sl.el (Day.warm d) (Int.toNat i5)))), (.int .i64 lo), (.int .i64 hi)]) none (fun v34 => (tkAgg v34 none fun l35 => (tkCons l35 none fun v36 r37 => (tkInt v36 none fun q38 n39 => (tkCons r37 none fun v40 r41 => (tkInt v40 none fun q42 n43 => (tkNil r41 none ((bif (decide (((k7 + 1) * 16) ≤ 140737488355328)) then (bif (decide ((0 : Int) ≤ i5)) then (bif (decide (i5 < (((Sl.len l) : Nat) : Int))) then (tkOut (env 34 [(.agg (eSpan (Stt.rad (Sl.el l (Int.toNat i5))))), (.int .i64 lo), (.int .i64 hi)]) none (fun v44 => (tkAgg v44 none fun l45 => (tkCons l45 none fun v46 r47 => (tkInt v46 none fun q48 n49 => (tkCons r47 none fun v50 r51 => (tkInt v50 none fun q52 n53 => (tkNil r51 none ((bif (decide ((0 : Int) ≤ i5)) then (bif (decide (i5 < (((Sl.len l) : Nat) : Int))) then (tkOut (env 34 [(.agg (eSpan (Stt.vol (Sl.el l (Int.toNat i5))))), (.int .i64 lo), (.int .i64 hi)]) none (fun v54 => (tkAgg v54 none fun l55 => (tkCons l55 none fun v56 r57 => (tkInt v56 none fun q58 n59 => (tkCons r57 none fun v60 r61 => (tkInt v60 none fun q62 n63 => (tkNil r61 none ((bif (decide ((0 : Int) ≤ i5)) then (bif (decide (i5 < (((Sl.len l) : Nat) : Int))) then (tkOut (env 34 [(.agg (eSpan (Stt.lost (Sl.el l (Int.toNat i5))))), (.int .i64 lo), (.int .i64 hi)]) none (fun v64 => (tkAgg v64 none fun l65 => (tkCons l65 none fun v66 r67 => (tkInt v66 none fun q68 n69 => (tkCons r67 none fun v70 r71 => (tkInt v70 none fun q72 n73 => (tkNil r71 none ((bif (decide (((k4 + 1) * 48) ≤ 140737488355328)) then (L7x1 env F s l d lo hi x y fu b0 k1 k2 g3 (k4 + 1) (IntKind.wrap .i64 (i5 + (1 : Int))) (k6 + 1) (k7 + 1) (k4 + 1) (appGet k4 g9 (fun u74 => [(.int q48 n49), (.int q52 n53), (.int q58 n59), (.int q62 n63), (.int q68 n69), (.int q72 n73)])) (k6 + 1) (appGet k6 g11 (fun u74 => [(.int q28 n29), (.int q32 n33)])) (k7 + 1) (appGet k7 g13 (fun u74 => [(.int q38 n39), (.int q42 n43)])))
                                                                                                  else none)))))))))
                                                                                    (fun p64 => (tkIfc p64 none fun t65 x66 => (bif (flatP (.iface t65 x66)) then some (.pan (.iface t65 x66))
                                                                                        else none))))
                                                                                  else none)
                                                                                else none)))))))))
                                                                  (fun p54 => (tkIfc p54 none fun t55 x56 => (bif (flatP (.iface t55 x56)) then none
                                                                      else none))))
                                                                else none)
                                                              else none)))))))))
                                                (fun p44 => (tkIfc p44 none fun t45 x46 => (bif (flatP (.iface t45 x46)) then none
                                                    else none))))
                                              else none)
                                            else none)
                                          else none)))))))))
                            (fun p34 => (tkIfc p34 none fun t35 x36 => (bif (flatP (.iface t35 x36)) then none
                                else none))))
                          else none)
                        else none)
                      else none)))))))))
        (fun p24 => (tkIfc p24 none fun t25 x26 => (bif (flatP (.iface t25 x26)) then none
            else none))))
      else none)
    else none)
  else (tkOut (env 14 [(.agg (eSite s)), (.row false k4 6 (fun u24 => (g9 u24))), (.agg [(.row false k6 2 (fun u24 => (g11 u24))), (.row false k7 2 (fun u24 => (g13 u24)))])]) none (fun v24 => (tkTup v24 none fun l25 => (tkCons l25 none fun v26 r27 => (tkRow v26 none fun nl28 n29 wd30 g31 => (tkCons r27 none fun v32 r33 => (tkInt v32 none fun q34 n35 => (tkNil r33 none ((bif (decide (q34 = .i64)) then (bif (n35 != (0 : Int)) then some (.ret (.bool false))
                    else (bif (((k1 : Nat) : Int) != (((Sl.len l) : Nat) : Int)) then some (.ret (.bool false))
                      else (bif (((n29 : Nat) : Int) != (((Sl.len l) : Nat) : Int)) then some (.ret (.bool false))
                        else (L7x2 env F s l d lo hi x y F b0 k1 k2 g3 nl28 n29 wd30 g31 (0 : Int)))))
                  else none)))))))))
    (fun p24 => (tkIfc p24 none fun t25 x26 => (bif (flatP (.iface t25 x26)) then some (.pan (.iface t25 x26))
        else none))))) := by kernel_rfl
theorem L7x2s (env : Env) (F : Nat) (s : Site) (l : Sl Stt) (d : Day) (lo : Int) (hi : Int) (x : Int) (y : Int) (fu : Nat) (b0 : Bool) (k1 : Nat) (k2 : Nat) (g3 : Nat → List V) (b4 : Bool) (k5 : Nat) (k6 : Nat) (g7 : Nat → List V) (i8 : Int) : L7x2 env F s l d lo hi x y (fu + 1) b0 k1 k2 g3 b4 k5 k6 g7 i8 =
  (bif (decide (i8 < ((k5 : Nat) : Int))) then (bif (k6 == 6) then (bif (decide ((0 : Int) ≤ i8)) then (bif (decide (i8 < ((k5 : Nat) : Int))) then (bif ((List.length (List.take 2 (g7 (Int.toNat i8)))) == 2) then (tkCons (List.take 2 (g7 (Int.toNat i8))) none fun v19 r20 => (tkInt v19 none fun q21 n22 => (tkCons r20 none fun v23 r24 => (tkInt v23 none fun q25 n26 => (tkNil r24 none ((bif (k2 == 6) then (bif (decide ((0 : Int) ≤ i8)) then (bif (decide (i8 < ((k1 : Nat) : Int))) then (bif ((List.length (List.take 2 (g3 (Int.toNat i8)))) == 2) then (tkCons (List.take 2 (g3 (Int.toNat i8))) none fun v27 r28 => (tkInt v27 none fun q29 n30 => (tkCons r28 none fun v31 r32 => (tkInt v31 none fun q33 n34 => (tkNil r32 none ((tkOut (env 35 [(.agg [(.int q21 n22), (.int q25 n26)]), (.agg [(.int q29 n30), (.int q33 n34)])]) none (fun v35 => (tkBool v35 none fun b36 => (bif (!b36) then some (.ret (.bool false))
                                            else (bif (k6 == 6) then (bif (decide ((0 : Int) ≤ i8)) then (bif (decide (i8 < ((k5 : Nat) : Int))) then (bif ((List.length (List.take 2 (List.drop 2 (g7 (Int.toNat i8))))) == 2) then (tkCons (List.take 2 (List.drop 2 (g7 (Int.toNat i8)))) none fun v37 r38 => (tkInt v37 none fun q39 n40 => (tkCons r38 none fun v41 r42 => (tkInt v41 none fun q43 n44 => (tkNil r42 none ((bif (k2 == 6) then (bif (decide ((0 : Int) ≤ i8)) then (bif (decide (i8 < ((k1 : Nat) : Int))) then (bif ((List.length (List.take 2 (List.drop 2 (g3 (Int.toNat i8))))) == 2) then (tkCons (List.take 2 (List.drop 2 (g3 (Int.toNat i8)))) none fun v45 r46 => (tkInt v45 none fun q47 n48 => (tkCons r46 none fun v49 r50 => (tkInt v49 none fun q51 n52 => (tkNil r50 none ((tkOut (env 35 [(.agg [(.int q39 n40), (.int q43 n44)]), (.agg [(.int q47 n48), (.int q51 n52)])]) none (fun v53 => (tkBool v53 none fun b54 => (bif (!b54) then some (.ret (.bool false))
                                                                                      else (bif (k6 == 6) then (bif (decide ((0 : Int) ≤ i8)) then (bif (decide (i8 < ((k5 : Nat) : Int))) then (bif ((List.length (List.take 2 (List.drop 4 (g7 (Int.toNat i8))))) == 2) then (tkCons (List.take 2 (List.drop 4 (g7 (Int.toNat i8)))) none fun v55 r56 => (tkInt v55 none fun q57 n58 => (tkCons r56 none fun v59 r60 => (tkInt v59 none fun q61 n62 => (tkNil r60 none ((bif (k2 == 6) then (bif (decide ((0 : Int) ≤ i8)) then (bif (decide (i8 < ((k1 : Nat) : Int))) then (bif ((List.length (List.take 2 (List.drop 4 (g3 (Int.toNat i8))))) == 2) then (tkCons (List.take 2 (List.drop 4 (g3 (Int.toNat i8)))) none fun v63 r64 => (tkInt v63 none fun q65 n66 => (tkCons r64 none fun v67 r68 => (tkInt v67 none fun q69 n70 => (tkNil r68 none ((tkOut (env 35 [(.agg [(.int q57 n58), (.int q61 n62)]), (.agg [(.int q65 n66), (.int q69 n70)])]) none (fun v71 => (tkBool v71 none fun b72 => (bif (!b72) then some (.ret (.bool false))
                                                                                                                                else (bif (k2 == 6) then (bif (decide ((0 : Int) ≤ i8)) then (bif (decide (i8 < ((k1 : Nat) : Int))) then (tkCons (List.drop 5 (g3 (Int.toNat i8))) none fun v73 r74 => (tkInt v73 none fun q75 n76 => (bif (decide ((0 : Int) ≤ i8)) then (bif (decide (i8 < (((Sl.len l) : Nat) : Int))) then (bif (decide (q75 = .i64)) then (bif (decide ((0 : Int) ≤ i8)) then (bif (decide (i8 < (((Sl.len l) : Nat) : Int))) then (bif (decide (q75 = .i64)) then (bif (decide ((IntKind.wrap q75 (n76 - (Span.hi (Stt.lost (Sl.el l (Int.toNat i8)))))) > (Span.hi (Stt.vol (Sl.el l (Int.toNat i8)))))) then some (.ret (.bool false))
                                                                                                                                                        else (bif (k2 == 6) then (bif (decide ((0 : Int) ≤ i8)) then (bif (decide (i8 < ((k1 : Nat) : Int))) then (tkCons (List.drop 3 (g3 (Int.toNat i8))) none fun v77 r78 => (tkInt v77 none fun q79 n80 => (bif (decide ((0 : Int) ≤ i8)) then (bif (decide (i8 < (((Sl.len l) : Nat) : Int))) then (bif (decide (q79 = .i64)) then (bif (decide (n80 > (Span.hi (Stt.vol (Sl.el l (Int.toNat i8)))))) then some (.ret (.bool false))
                                                                                                                                                                          else (L7x2 env F s l d lo hi x y fu b0 k1 k2 g3 b4 k5 k6 g7 (IntKind.wrap .i64 (i8 + (1 : Int)))))
                                                                                                                                                                        else none)
                                                                                                                                                                      else none)
                                                                                                                                                                    else none)))
                                                                                                                                                              else none)
                                                                                                                                                            else none)
                                                                                                                                                          else none))
                                                                                                                                                      else none)
                                                                                                                                                    else none)
                                                                                                                                                  else none)
                                                                                                                                                else none)
                                                                                                                                              else none)
                                                                                                                                            else none)))
                                                                                                                                      else none)
                                                                                                                                    else none)
                                                                                                                                  else none))))
                                                                                                                            (fun p71 => (tkIfc p71 none fun t72 x73 => (bif (flatP (.iface t72 x73)) then some (.pan (.iface t72 x73))
                                                                                                                                else none))))))))))
                                                                                                                else none)
                                                                                                              else none)
                                                                                                            else none)
                                                                                                          else none)))))))
                                                                                              else none)
                                                                                            else none)
                                                                                          else none)
                                                                                        else none))))
                                                                                  (fun p53 => (tkIfc p53 none fun t54 x55 => (bif (flatP (.iface t54 x55)) then some (.pan (.iface t54 x55))
                                                                                      else none))))))))))
                                                                      else none)
                                                                    else none)
                                                                  else none)
                                                                else none)))))))
                                                    else none)
                                                  else none)
                                                else none)
                                              else none))))
                                        (fun p35 => (tkIfc p35 none fun t36 x37 => (bif (flatP (.iface t36 x37)) then some (.pan (.iface t36 x37))
                                            else none))))))))))
                            else none)
                          else none)
                        else none)
                      else none)))))))
          else none)
        else none)
      else none)
    else none)
  else (tkOut (env 15 [(.agg (eSite s)), (.row b0 k1 k2 g3), (.int .i64 x), (.int .i64 y)]) none (fun v19 => (tkTup v19 none fun l20 => (tkCons l20 none fun v21 r22 => (tkAgg v21 none fun l23 => (tkCons l23 none fun v24 r25 => (tkInt v24 none fun q26 n27 => (tkCons r25 none fun v28 r29 => (tkInt v28 none fun q30 n31 => (tkNil r29 none ((tkCons r22 none fun v32 r33 => (tkInt v32 none fun q34 n35 => (tkNil r33 none ((tkOut (env 15 [(.agg (eSite s)), (.row b4 k5 k6 g7), (.int .i64 x), (.int .i64 y)]) none (fun v36 => (tkTup v36 none fun l37 => (tkCons l37 none fun v38 r39 => (tkAgg v38 none fun l40 => (tkCons l40 none fun v41 r42 => (tkInt v41 none fun q43 n44 => (tkCons r42 none fun v45 r46 => (tkInt v45 none fun q47 n48 => (tkNil r46 none ((tkCons r39 none fun v49 r50 => (tkInt v49 none fun q51 n52 => (tkNil r50 none ((bif (decide (q34 = .i64)) then (bif (n35 == (0 : Int)) then (bif (decide (q51 = .i64)) then (bif (n52 == (0 : Int)) then (tkOut (env 35 [(.agg [(.int q43 n44), (.int q47 n48)]), (.agg [(.int q26 n27), (.int q30 n31)])]) none (fun v53 => (tkBool v53 none fun b54 => (bif b54 then (tkOut (env 13 []) none (fun v55 => (tkBool v55 none fun b56 => some (.ret (.bool b56))))
                                                                  (fun p55 => (tkIfc p55 none fun t56 x57 => (bif (flatP (.iface t56 x57)) then some (.pan (.iface t56 x57))
                                                                      else none))))
                                                                else some (.ret (.bool false)))))
                                                            (fun p53 => (tkIfc p53 none fun t54 x55 => (bif (flatP (.iface t54 x55)) then some (.pan (.iface t54 x55))
                                                                else none))))
                                                          else some (.ret (.bool false)))
                                                        else none)
                                                      else some (.ret (.bool false)))
                                                    else none)))))))))))))))
                            (fun p36 => (tkIfc p36 none fun t37 x38 => (bif (flatP (.iface t37 x38)) then some (.pan (.iface t37 x38))
                                else none))))))))))))))))))
    (fun p19 => (tkIfc p19 none fun t20 x21 => (bif (flatP (.iface t20 x21)) then some (.pan (.iface t20 x21))
        else none))))) := by kernel_rfl

end Go.Sim.Cr

/-
  Parts of spans.
-/
namespace Go.Sim.Cr
open Go.Proofs
variable (F d : Nat)
/-- What lies so many percent of the way. -/
def partS (p : Span) (n : Int) : Int := p.lo + (p.hi - p.lo) * n / 100
abbrev narrowS (p : Span) (a b : Int) : Span := ⟨partS p a, partS p b⟩
theorem partS_ok {p : Span} {n : Int} (h : p.lo ≤ p.hi) (hn : 0 ≤ n ∧ n ≤ 100) : p.lo ≤ partS p n ∧ partS p n ≤ p.hi := by
  have h1 := mulB (show 0 ≤ p.hi - p.lo ∧ p.hi - p.lo ≤ p.hi - p.lo by omega) hn
  unfold partS
  omega
theorem partS_mono {p : Span} {a b : Int} (h : p.lo ≤ p.hi) (hab : a ≤ b) : partS p a ≤ partS p b := by
  have h1 : (p.hi - p.lo) * a ≤ (p.hi - p.lo) * b := Int.mul_le_mul_of_nonneg_left hab (by omega)
  have h2 : (p.hi - p.lo) * a / 100 ≤ (p.hi - p.lo) * b / 100 := Int.ediv_le_ediv (by omega) h1
  unfold partS
  omega
theorem s25 (p : Span) (n : Int) (hp : SpanIn p 0 1000000000) (hn : 0 ≤ n ∧ n ≤ 100) : E F (d + 1) 25 [.agg (eSpan p), .int .i64 n] = some (.ret (.int .i64 (partS p n))) := by
  have h1 := mulB (show 0 ≤ p.hi - p.lo ∧ p.hi - p.lo ≤ 1000000000 by omega) hn
  have h2 := partS_ok hp.2.1 hn
  unfold partS at h2 ⊢
  rw [E_succ, t25, wr (n := p.hi - p.lo) (by omega), wr (n := (p.hi - p.lo) * n) (by omega), Int.tdiv_eq_ediv_of_nonneg h1.1, wr (n := (p.hi - p.lo) * n / 100) (by omega), wr (by omega)]
theorem s34 (p : Span) (a b : Int) (hp : SpanIn p 0 1000000000) (ha : 0 ≤ a ∧ a ≤ 100) (hb : 0 ≤ b ∧ b ≤ 100) : E F (d + 2) 34 [.agg (eSpan p), .int .i64 a, .int .i64 b] = some (.ret (.agg (eSpan (narrowS p a b)))) := by
  rw [E_succ, t34]
  simp only [s25 F d p a hp ha, s25 F d p b hp hb, tkOut_ret, tkInt_i]
end Go.Sim.Cr

/-
  CreepMore: what is known better.
-/
namespace Go.Sim.Cr
open Go.Proofs
variable (F d : Nat)
def betterS (l : Sl Stt) (a b : Int) (i : Nat) : Stt := ⟨narrowS (l.el i).rad a b, narrowS (l.el i).vol a b, narrowS (l.el i).lost a b⟩
def betterP (y : Day) (a b : Int) (i : Nat) : Span := narrowS (y.press.el i) a b
def betterW (y : Day) (a b : Int) (i : Nat) : Span := narrowS (y.warm.el i) a b
theorem narrow_ok {p : Span} {a b A B : Int} (hp : SpanIn p A B) (ha : 0 ≤ a) (hab : a ≤ b) (hb : b ≤ 100) : SpanIn (narrowS p a b) A B ∧ Sub (narrowS p a b) p := by
  have h1 := partS_ok (n := a) hp.2.1 (by omega)
  have h2 := partS_ok (n := b) hp.2.1 (by omega)
  have h3 := partS_mono (a := a) (b := b) hp.2.1 hab
  refine ⟨⟨?_, ?_, ?_⟩, ?_, ?_⟩ <;> simp only [narrowS] <;> omega
theorem sunkFrom_sub {s : Site} (hS : SiteF s) {m n : Sl Stt} (x y : Int) (hm : ∀ i, i < m.len → SttOk (m.el i)) (hn : ∀ i, i < m.len → SttOk (n.el i)) (hs : ∀ i, i < m.len → Sub (n.el i).lost (m.el i).lost) : ∀ r i a b a' b', m.len = i + r → a ≤ a' → b' ≤ b →
    (sunkFrom s m x y r i a b).lo ≤ (sunkFrom s n x y r i a' b').lo ∧ (sunkFrom s n x y r i a' b').hi ≤ (sunkFrom s m x y r i a b).hi := by
  intro r
  induction r with
  | zero => intro i a b a' b' _ h1 h2; exact ⟨h1, h2⟩
  | succ r ih =>
    intro i a b a' b' h h1 h2
    have hq := shareOf_ok hS (s.cavs.el i) x y
    have v1 := (hm i (by omega)).2.2
    have v2 := (hn i (by omega)).2.2
    have v3 := hs i (by omega)
    have m1 : (m.el i).lost.lo * (shareOf s (s.cavs.el i) x y).lo ≤ (n.el i).lost.lo * (shareOf s (s.cavs.el i) x y).lo := Int.mul_le_mul_of_nonneg_right v3.1 hq.1
    have m2 : (n.el i).lost.hi * (shareOf s (s.cavs.el i) x y).hi ≤ (m.el i).lost.hi * (shareOf s (s.cavs.el i) x y).hi := Int.mul_le_mul_of_nonneg_right v3.2 (by omega)
    have d1 : (m.el i).lost.lo * (shareOf s (s.cavs.el i) x y).lo / 1000000 ≤ (n.el i).lost.lo * (shareOf s (s.cavs.el i) x y).lo / 1000000 := Int.ediv_le_ediv (by omega) m1
    have d2 : ((n.el i).lost.hi * (shareOf s (s.cavs.el i) x y).hi + 999999) / 1000000 ≤ ((m.el i).lost.hi * (shareOf s (s.cavs.el i) x y).hi + 999999) / 1000000 := Int.ediv_le_ediv (by omega) (by omega)
    exact ih (i + 1) _ _ _ _ (by omega) (by omega) (by omega)
end Go.Sim.Cr

/-
  CreepMore: the law answers true.
-/
namespace Go.Sim.Cr
open Go.Proofs
variable (F d : Nat)
theorem s35r (a b c e : Int) : E F (d + 1) 35 [.agg [.int .i64 a, .int .i64 b], .agg [.int .i64 c, .int .i64 e]] = some (.ret (.bool (decide (c ≤ a ∧ b ≤ e)))) := s35 F d ⟨a, b⟩ ⟨c, e⟩
theorem l7x2 (s : Site) (l : Sl Stt) (y : Day) (lo hi x z : Int) (m n : Sl Stt) (hs : Small s F) (hS : SiteF s) (hp : Place x z) (hL : StatesOk s l) (hM : StatesOk s m) (hN : StatesOk s n) (hsub : ∀ i, i < l.len → SubS (n.el i) (m.el i)) (hlost : ∀ i, i < l.len → (m.el i).lost.hi - (l.el i).lost.hi ≤ (l.el i).vol.hi ∧ (m.el i).vol.hi ≤ (l.el i).vol.hi) (hF : 2147483648 < F) : ∀ r i fu, l.len = i + r → r < fu →
    L7x2 (E F (d + 11)) F s l y lo hi x z fu m.nl m.len 6 (fun i => eStt (m.el i)) n.nl n.len 6 (fun i => eStt (n.el i)) (i : Int) = some (.ret (.bool true)) := by
  have k := s13 F d (by omega)
  have h5 := hS.cavs5
  have hl := hL.1
  have hm := hM.1
  have hn := hN.1
  intro r
  induction r with
  | zero =>
    intro i fu h hf
    obtain ⟨fu, rfl⟩ : ∃ k, fu = k + 1 := ⟨fu - 1, by omega⟩
    rw [L7x2s]
    have e1 := s15 F (d + 4) s m x z hs (show m.len < 4611686018427387904 by omega) (by omega) (by omega)
    have e2 := s15 F (d + 4) s n x z hs (show n.len < 4611686018427387904 by omega) (by omega) (by omega)
    have hSb := (siteB_iff s).2 hS
    rw [hSb, decide_eq_true hM, decide_eq_true hp] at e1
    rw [hSb, decide_eq_true hN, decide_eq_true hp] at e2
    have hsk := sunkFrom_sub hS (m := m) (n := n) x z (fun i hi => hM.2 i hi) (fun i hi => hN.2 i (by omega)) (fun i hi => (hsub i (by omega)).2.2) m.len 0 0 0 0 0 (by omega) (Int.le_refl _) (Int.le_refl _)
    have hw : decide ((sunk s m x z).lo ≤ (sunk s n x z).lo ∧ (sunk s n x z).hi ≤ (sunk s m x z).hi) = true := by
      refine decide_eq_true ?_
      unfold sunk
      rw [show n.len = m.len by omega]
      exact hsk
    simp only [Int.ofNat_lt, show ¬ i < n.len by omega, decide_false, pF, e1, e2, Bool.and_self, pT, pOut, pTup, pCons, pAgg, pInt, pNil, decide_true, z00, s35r F (d + 10), pBool, hw, k]
  | succ r ih =>
    intro i fu h hf
    obtain ⟨fu, rfl⟩ : ∃ k, fu = k + 1 := ⟨fu - 1, by omega⟩
    rw [L7x2s]
    obtain ⟨a1, a2, a3⟩ := hsub i (by omega)
    obtain ⟨b1, b2'⟩ := hlost i (by omega)
    have v1 := (hM.2 i (by omega)).2.2
    have v2 := (hL.2 i (by omega)).2.2
    simp only [Int.ofNat_lt, show i < n.len by omega, show i < m.len by omega, show i < l.len by omega, decide_true, pT, Int.natCast_nonneg, Int.toNat_natCast, beq_self_eq_true, List.take, List.drop, List.length, pCons, pInt, pNil, s35r F (d + 10), pOut, pBool, decide_eq_true a1, decide_eq_true a2, decide_eq_true a3, Bool.not_true, pF,
      wr (show _ ∧ (m.el i).lost.hi - (l.el i).lost.hi ≤ _ by omega), decide_eq_false (show ¬ (m.el i).lost.hi - (l.el i).lost.hi > (l.el i).vol.hi by omega), decide_eq_false (show ¬ (m.el i).vol.hi > (l.el i).vol.hi by omega), wrS (show i < 4611686018427387904 by omega)]
    exact ih (i + 1) fu (by omega) (by omega)
end Go.Sim.Cr

/-
  CreepMore: the law answers true.
-/
namespace Go.Sim.Cr
open Go.Proofs
variable (F d : Nat)
section
variable (s : Site) (l : Sl Stt) (y : Day) (lo hi x z : Int)
abbrev betterL : Sl Stt := outL l.len (betterS l lo hi)
abbrev betterD : Day := ⟨outL l.len (betterP y lo hi), outL l.len (betterW y lo hi)⟩
theorem better_ok (hS : SiteF s) (hL : StatesOk s l) (hD : DayOk s y) (h0 : 0 ≤ lo) (h1 : lo ≤ hi) (h2 : hi ≤ 100) (hf : farDay s y = false) :
    StatesOk s (betterL l lo hi) ∧ DayOk s (betterD l y lo hi) ∧ farDay s (betterD l y lo hi) = false ∧ ∀ i, i < l.len → SubS (mv s (betterL l lo hi) (betterD l y lo hi) i) (mv s l y i) := by
  have hl := hL.1
  have hp := hD.1.1
  have hw := hD.2.1
  have eS : ∀ i, i < l.len → (betterL l lo hi).el i = betterS l lo hi i := fun i hi' => outL_el hi'
  have eP : ∀ i, i < l.len → (betterD l y lo hi).press.el i = betterP y lo hi i := fun i hi' => outL_el hi'
  have eW : ∀ i, i < l.len → (betterD l y lo hi).warm.el i = betterW y lo hi i := fun i hi' => outL_el hi'
  have nS : ∀ i, i < l.len → SttOk (betterS l lo hi i) ∧ SubS (betterS l lo hi i) (l.el i) := fun i hi' => by
    obtain ⟨a, b, c⟩ := hL.2 i hi'
    obtain ⟨a1, a2⟩ := narrow_ok a h0 h1 h2
    obtain ⟨b1, b2⟩ := narrow_ok b h0 h1 h2
    obtain ⟨c1, c2⟩ := narrow_ok c h0 h1 h2
    exact ⟨⟨a1, b1, c1⟩, a2, b2, c2⟩
  have nP : ∀ i, i < l.len → SpanIn (betterP y lo hi i) 0 50000 ∧ Sub (betterP y lo hi i) (y.press.el i) := fun i hi' => narrow_ok (hD.1.2 i (by omega)) h0 h1 h2
  have nW : ∀ i, i < l.len → SpanIn (betterW y lo hi i) 0 10000 ∧ Sub (betterW y lo hi i) (y.warm.el i) := fun i hi' => narrow_ok (hD.2.2 i (by omega)) h0 h1 h2
  have near : ∀ i, i < l.len → farB s (s.cavs.el i) (y.press.el i) (y.warm.el i) = false := fun i hi' => by
    cases e : farB s (s.cavs.el i) (y.press.el i) (y.warm.el i) with
    | false => rfl
    | true =>
      have : farDay s y = true := (anyF_eq _ _ _).2 ⟨i, Nat.zero_le _, by omega, e⟩
      rw [hf] at this; cases this
  refine ⟨⟨hl, fun i hi' => ?_⟩, ⟨⟨hl, fun i hi' => ?_⟩, hl, fun i hi' => ?_⟩, ?_, fun i hi' => ?_⟩
  · rw [eS i hi']; exact (nS i hi').1
  · rw [eP i hi']; exact (nP i hi').1
  · rw [eW i hi']; exact (nW i hi').1
  · cases e : farDay s (betterD l y lo hi) with
    | false => rfl
    | true =>
      obtain ⟨i, _, hi', e2⟩ := (anyF_eq _ _ _).1 e
      have hi2 : i < l.len := by omega
      unfold farAt at e2
      rw [eP i hi2, eW i hi2, far_sub (near i hi2) (nP i hi2).2 (nW i hi2).2] at e2
      cases e2
  · unfold mv
    rw [eS i hi', eP i hi', eW i hi']
    exact move1xsub hS (hL.2 i hi') (nS i hi').1 (nP i hi').1.2.1 (nW i hi').1.2.1 (near i hi') (nS i hi').2 (nP i hi').2 (nW i hi').2
end
end Go.Sim.Cr

/-
  CreepMore: the law answers true.
-/
namespace Go.Sim.Cr
open Go.Proofs
variable (F d : Nat)
section
variable (s : Site) (l : Sl Stt) (y : Day) (lo hi x z : Int)
theorem l7x1 (hs : Small s F) (hS : SiteF s) (hp : Place x z) (hL : StatesOk s l) (hD : DayOk s y) (h0 : 0 ≤ lo) (h1 : lo ≤ hi) (h2 : hi ≤ 100) (hfd : farDay s y = false) (hF : 2147483648 < F) : ∀ r i fu, l.len = i + r → r < fu → 1 ≤ i →
    L7x1 (E F (d + 11)) F s l y lo hi x z fu (moved s l y).nl (moved s l y).len 6 (fun i => eStt ((moved s l y).el i)) i (i : Int) i i i (fun j => eStt (betterS l lo hi (min j (i - 1)))) i (fun j => eSpan (betterP y lo hi (min j (i - 1)))) i (fun j => eSpan (betterW y lo hi (min j (i - 1)))) = some (.ret (.bool true)) := by
  have h5 := hS.cavs5
  have hl := hL.1
  have hpl := hD.1.1
  have hwl := hD.2.1
  intro r
  induction r with
  | zero =>
    intro i fu h hf hi1
    obtain ⟨fu, rfl⟩ : ∃ k, fu = k + 1 := ⟨fu - 1, by omega⟩
    obtain rfl : i = l.len := by omega
    obtain ⟨b1, b2', b3', b4⟩ := better_ok s l y lo hi hS hL hD h0 h1 h2 hfd
    have hM := moved_ok hS hL hD hfd
    have hN := moved_ok hS b1 b2' b3'
    have e14 := s14 F (d + 3) s (betterL l lo hi) (betterD l y lo hi) hs (show l.len < 4611686018427387904 by omega) (show l.len < F by omega) (show l.len < 4611686018427387904 by omega) (show l.len < 4611686018427387904 by omega) (show l.len < F by omega) (show l.len < F by omega) (by omega)
    rw [(siteB_iff s).2 hS, decide_eq_true b1, decide_eq_true b2', b3'] at e14
    have e14' : E F (d + 11) 14 [.agg (eSite s), .row false l.len 6 (fun j => eStt (betterS l lo hi (min j (l.len - 1)))), .agg [.row false l.len 2 (fun j => eSpan (betterP y lo hi (min j (l.len - 1)))), .row false l.len 2 (fun j => eSpan (betterW y lo hi (min j (l.len - 1))))]] = some (.ret (.tup [sl eStt 6 (moved s (betterL l lo hi) (betterD l y lo hi)), .int .i64 0])) := e14
    rw [L7x1s]
    have hb : (((l.len : Nat) : Int) == (l.len : Int)) = true := by simp
    simp only [Int.ofNat_lt, Nat.lt_irrefl, decide_false, pF, e14', pOut, pTup, pCons, pRow, pInt, pNil, decide_true, pT, z00, bne, Bool.not_true, outL_len, hb]
    have hml : ∀ i, i < l.len → (moved s l y).el i = mv s l y i := fun i hi' => outL_el hi'
    have hnl : ∀ i, i < l.len → (moved s (betterL l lo hi) (betterD l y lo hi)).el i = mv s (betterL l lo hi) (betterD l y lo hi) i := fun i hi' => outL_el (n := l.len) hi'
    exact l7x2 F d s l y lo hi x z (moved s l y) (moved s (betterL l lo hi) (betterD l y lo hi)) hs hS hp hL hM hN (fun i hi' => by rw [hml i hi', hnl i hi']; exact b4 i hi')
      (fun i hi' => by
        rw [hml i hi']
        have hx := hL.2 i hi'
        have nf : farB s (s.cavs.el i) (y.press.el i) (y.warm.el i) = false := by
          cases e : farB s (s.cavs.el i) (y.press.el i) (y.warm.el i) with
          | false => rfl
          | true =>
            have : farDay s y = true := (anyF_eq _ _ _).2 ⟨i, Nat.zero_le _, by omega, e⟩
            rw [hfd] at this; cases this
        obtain ⟨k1, k2, k3, k4, k5, k6⟩ := rates_ok hS nf
        have q1 := @shrink_ok (l.el i).vol.hi (rateOf s (s.cavs.el i) (y.press.el i)).lo (factorOf s (y.warm.el i)).lo 0 (by omega) k1 k5 (by omega)
        have q2 := @shrink_ok (l.el i).vol.hi (rateOf s (s.cavs.el i) (y.press.el i)).hi (factorOf s (y.warm.el i)).hi 999999999 (by omega) k2 k6 (by omega)
        refine ⟨?_, ?_⟩
        · show minI _ 1000000000 - _ ≤ _
          unfold minI; split <;> omega
        · show (l.el i).vol.hi - _ ≤ _
          omega) hF l.len 0 F (by omega) (by omega)
  | succ r ih =>
    intro i fu h hf hi1
    obtain ⟨fu, rfl⟩ : ∃ k, fu = k + 1 := ⟨fu - 1, by omega⟩
    rw [L7x1s]
    have hx := hL.2 i (by omega)
    have q1 := hD.1.2 i (by omega)
    have q2 := hD.2.2 i (by omega)
    simp only [Int.ofNat_lt, show i < l.len by omega, show i < y.press.len by omega, show i < y.warm.len by omega, decide_true, pT, Int.natCast_nonneg, Int.toNat_natCast,
      s34 F (d + 9) (y.press.el i) lo hi (by omega) (by omega) (by omega), s34 F (d + 9) (y.warm.el i) lo hi (by omega) (by omega) (by omega), s34 F (d + 9) (l.el i).rad lo hi (by omega) (by omega) (by omega), s34 F (d + 9) (l.el i).vol lo hi (by omega) (by omega) (by omega), s34 F (d + 9) (l.el i).lost lo hi (by omega) (by omega) (by omega),
      pOut, pAgg, pCons, pInt, pNil, show (i + 1) * 16 ≤ 140737488355328 by omega, show (i + 1) * 48 ≤ 140737488355328 by omega, wrS (show i < 4611686018427387904 by omega)]
    have g := ih (i + 1) fu (by omega) (by omega) (by omega)
    rw [show i + 1 - 1 = i from rfl, ← app_enc eStt (betterS l lo hi) hi1, ← app_enc eSpan (betterP y lo hi) hi1, ← app_enc eSpan (betterW y lo hi) hi1] at g
    exact g
end
end Go.Sim.Cr

/-
  CreepMore: the law answers true.
-/
namespace Go.Sim.Cr
open Go.Proofs
variable (F d : Nat)
set_option maxRecDepth 100000 in
set_option maxHeartbeats 1000000 in
theorem s7 (s : Site) (l : Sl Stt) (y : Day) (lo hi x z : Int) (hlm : l.len ≤ 140737488355328) (hF : 1000000000000001 < F) : E F (d + 12) 7 [.agg (eSite s), sl eStt 6 l, .agg (eDay y), .int .i64 lo, .int .i64 hi, .int .i64 x, .int .i64 z] = some (.ret (.bool true)) := by
  have k := s13 F d (by omega)
  rw [E_succ, t7]
  simp only [s11 F (d + 10), pOut, pBool]
  by_cases h0 : ShortS s
  · have hs := small_of F h0 (by omega)
    have hB : l.len < Big := by show l.len < 4611686018427387904; omega
    have e16 := s16 F (d + 8) s hs
    have e17 := s17 F (d + 9) s l hB (by omega)
    simp only [decide_eq_true h0, Bool.not_true, pF, e16, e17, pOut, pBool]
    cases h1 : siteB s with
    | false => simp only [Bool.not_false, pT, k, pOut, pBool]
    | true =>
      have hS := (siteB_iff s).1 h1
      have h5 := hS.cavs5
      by_cases h2 : StatesOk s l
      · have hl := h2.1
        have e20 := s20 F (d + 9) s y hs.cavs hs.cavsF
        simp only [decide_eq_true h2, Bool.not_true, pF, e20, pOut, pBool]
        by_cases h3 : DayOk s y
        · have hp := h3.1.1
          have hw := h3.2.1
          simp only [decide_eq_true h3, Bool.not_true, pF]
          by_cases h4 : lo < 0
          · simp only [decide_eq_true h4, pT, k, pOut, pBool]
          · by_cases h6 : lo > hi
            · simp only [decide_eq_false h4, decide_eq_true h6, pF, pT, k, pOut, pBool]
            · by_cases h7 : hi > 100
              · simp only [decide_eq_false h4, decide_eq_false h6, decide_eq_true h7, pF, pT, k, pOut, pBool]
              · have e18 := s18 F (d + 9) x z
                simp only [decide_eq_false h4, decide_eq_false h6, decide_eq_false h7, pF, e18, pOut, pBool]
                by_cases h8 : Place x z
                · have e14 := s14 F (d + 3) s l y hs hB (by omega) (show y.press.len < 4611686018427387904 by omega) (show y.warm.len < 4611686018427387904 by omega) (by omega) (by omega) (by omega)
                  rw [h1, decide_eq_true h2, decide_eq_true h3] at e14
                  cases h9 : farDay s y with
                  | true =>
                    rw [h9] at e14
                    have z70 : ((7 : Int) == 0) = false := rfl
                    have e14' : E F (d + 11) 14 [.agg (eSite s), sl eStt 6 l, .agg [sl eSpan 2 y.press, sl eSpan 2 y.warm]] = some (.ret (.tup [noneRow, .int .i64 7])) := e14
                    simp only [decide_eq_true h8, Bool.not_true, pF, pT, e14', pOut, pTup, pCons, pRow, pInt, pNil, decide_true, bne, z70, z77, Bool.not_false, k, pBool]
                  | false =>
                    rw [h9] at e14
                    have e14' : E F (d + 11) 14 [.agg (eSite s), sl eStt 6 l, .agg [sl eSpan 2 y.press, sl eSpan 2 y.warm]] = some (.ret (.tup [sl eStt 6 (moved s l y), .int .i64 0])) := e14
                    simp only [decide_eq_true h8, Bool.not_true, pF, pT, e14', pOut, pTup, pCons, pRow, pInt, pNil, decide_true, bne, z00]
                    obtain ⟨fu, hfu⟩ : ∃ k, F = k + 1 := ⟨F - 1, by omega⟩
                    have g := L7x0s (E F (d + 11)) F s l y lo hi x z fu (moved s l y).nl (moved s l y).len 6 (fun i => eStt ((moved s l y).el i))
                    rw [← hfu] at g
                    refine g.trans ?_
                    have g1 := hS.cavs1
                    have hx := h2.2 0 (by omega)
                    have q1 := h3.1.2 0 (by omega)
                    have q2 := h3.2.2 0 (by omega)
                    simp only [zlt (show 0 < l.len by omega), zlt (show 0 < y.press.len by omega), zlt (show 0 < y.warm.len by omega), pT,
                      s34 F (d + 9) (y.press.el 0) lo hi (by omega) (by omega) (by omega), s34 F (d + 9) (y.warm.el 0) lo hi (by omega) (by omega) (by omega), s34 F (d + 9) (l.el 0).rad lo hi (by omega) (by omega) (by omega), s34 F (d + 9) (l.el 0).vol lo hi (by omega) (by omega) (by omega), s34 F (d + 9) (l.el 0).lost lo hi (by omega) (by omega) (by omega),
                      pOut, pAgg, pCons, pInt, pNil, wr1]
                    have e := l7x1 F d s l y lo hi x z hs hS h8 h2 h3 (by omega) (by omega) (by omega) h9 (by omega) (l.len - 1) 1 fu (by omega) (by omega) (Nat.le_refl _)
                    rw [← one_enc eStt (betterS l lo hi), ← one_enc eSpan (betterP y lo hi), ← one_enc eSpan (betterW y lo hi)] at e
                    exact e
                · simp only [decide_eq_false h8, Bool.not_false, pT, k, pOut, pBool]
        · simp only [decide_eq_false h3, Bool.not_false, pT, k, pOut, pBool]
      · simp only [decide_eq_false h2, Bool.not_true, Bool.not_false, pF, pT, k, pOut, pBool]
  · simp only [decide_eq_false h0, Bool.not_false, pT, k, pOut, pBool]
end Go.Sim.Cr

/-
  CreepMore: the row.
-/
namespace Go.Proofs.Ytpgpaficdabmkaa
open Go.ChangeShapes Go.WideShapes Go.ChangeAt Go.RowKit Go.Sim Go.Sim.Cr
set_option maxRecDepth 100000 in
theorem creepMore_fit (cs : List V) (h : ArgsFit [(true, shSite), (false, [.row shStt]), (true, shDay), (false, [i8]), (false, [i8]), (false, [i8]), (false, [i8])] cs) : E 2000000000000000 12 7 cs = some (.ret (.bool true)) := by
  obtain ⟨l0, cs0, rfl, h0, g0⟩ := h
  obtain ⟨s1, c1, cs1, e1, rfl, h1, g1⟩ := g0
  obtain ⟨l2, cs2, rfl, h2, g2⟩ := g1
  obtain ⟨s3, c3, cs3, e3, rfl, h3, g3⟩ := g2
  obtain ⟨s4, c4, cs4, e4, rfl, h4, g4⟩ := g3
  obtain ⟨s5, c5, cs5, e5, rfl, h5, g5⟩ := g4
  obtain ⟨s6, c6, cs6, e6, rfl, h6, g6⟩ := g5
  injection e1 with e1 _; subst e1
  injection e3 with e3 _; subst e3
  injection e4 with e4 _; subst e4
  injection e5 with e5 _; subst e5
  injection e6 with e6 _; subst e6
  obtain rfl : cs6 = [] := g6
  obtain ⟨a0, rfl⟩ := decSite l0 h0
  obtain ⟨a1, rfl, m1, n1⟩ := fitRow decStt h1
  obtain ⟨a2, rfl⟩ := decDay l2 h2
  obtain ⟨a3, rfl, m3⟩ := fitInt h3
  obtain ⟨a4, rfl, m4⟩ := fitInt h4
  obtain ⟨a5, rfl, m5⟩ := fitInt h5
  obtain ⟨a6, rfl, m6⟩ := fitInt h6
  exact s7 2000000000000000 0 a0 a1 a2 a3 a4 a5 a6 m1 (by omega)
set_option maxRecDepth 100000 in
theorem creepMore_lifted (os : Os) (started : os.Started) (H : Type) (enc : TypeId × Value → H) :
    ReturnsInHanded {} Try.checked os 7 .any (Rows.creepMoreSpec.pre6 enc Try.prog Try.f7 Rows.creepMoreRow.domain false) (Rows.creepMoreSpec.post enc Try.prog Try.f7 false true false false) := by
  refine returnsInHanded_of_change_sized (C := Try.checked) own started (by kernel_rfl) Try.func7
    (ChangeSpec.witness6 (enc := enc) (C := Try.checked) false ⟨#[], #[.agg #[.slice none 0 0, .slice none 0 0, .slice none 0 0, .int .i64 0, .slice none 0 0, .slice none 0 0], .slice none 0 0, .agg #[.slice none 0 0, .slice none 0 0], .int .i64 0, .int .i64 0, .int .i64 0, .int .i64 0], []⟩ 8 (by kernel_rfl) (by kernel_rfl) (by kernel_rfl) (by kernel_rfl)) ?_
  intro W base args ds gs before hval hW _ hwt _
  exact law_contract (tb := 4) (okE 2000000000000000 12) (by kernel_rfl) creepMore_fit
    ⟨rfl, fun H ds h => by match ds, h with | [_, _, _, _, _, _, _], _ => exact ⟨rfl, rfl, rfl⟩⟩ (by kernel_rfl) (by kernel_rfl) laid (by decide +kernel) W base args ds gs before hval hW hwt
theorem creepMore_holds : Rows.CreepMoreSaid :=
  OpenClaim.holds_of_wide 7 Try.f7 rfl rfl rfl rfl rfl rfl rfl ⟨rfl, rfl, rfl, rfl, rfl⟩ rfl rfl rfl rfl rfl (by kernel_rfl) Try.func7 (by kernel_rfl)
    (of_decide_eq_true (by kernel_rfl)) (by unfold Func.isWrapper; first | (rw [if_pos (by decide +kernel)]; kernel_rfl) | (rw [if_neg (by decide +kernel)]; exact ⟨rfl, rfl⟩))
    (fun os started H enc _ => creepMore_lifted os started H enc)
#print axioms creepMore_holds
end Go.Proofs.Ytpgpaficdabmkaa
