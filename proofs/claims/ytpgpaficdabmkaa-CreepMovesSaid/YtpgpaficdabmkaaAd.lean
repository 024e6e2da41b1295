import Derived.Test.YtpgpaficdabmkaaAc
import Derived.KernelRfl
set_option linter.unusedVariables false
set_option linter.unusedSimpArgs false
set_option linter.unusedSectionVars false
/-
  What the evaluator says of these functions (printed by a private program; each row is checked by the kernel).
-/
set_option maxRecDepth 100000
namespace Go.Sim.Cr
open Go.Proofs

theorem t56 (env : Env) (F : Nat) (s : Site) (c : Int) (x : Stt) (p : Span) (q : Span) : (evFun Try.prog (cfg F) env 56 [(.agg (eSite s)), (.int .i64 c), (.agg (eStt x)), (.agg (eSpan p)), (.agg (eSpan q))]) =
  (tkOut (env 70 [(.agg (eSite s)), (.int .i64 c), (.agg (eSpan p))]) none (fun v7 => (tkAgg v7 none fun l8 => (tkCons l8 none fun v9 r10 => (tkInt v9 none fun q11 n12 => (tkCons r10 none fun v13 r14 => (tkInt v13 none fun q15 n16 => (tkNil r14 none ((tkOut (env 58 [(.agg (eSite s)), (.agg [(.int q11 n12), (.int q15 n16)])]) none (fun v17 => (tkAgg v17 none fun l18 => (tkCons l18 none fun v19 r20 => (tkInt v19 none fun q21 n22 => (tkCons r20 none fun v23 r24 => (tkInt v23 none fun q25 n26 => (tkNil r24 none ((tkOut (env 59 [(.agg (eSite s)), (.agg (eSpan q))]) none (fun v27 => (tkAgg v27 none fun l28 => (tkCons l28 none fun v29 r30 => (tkInt v29 none fun q31 n32 => (tkCons r30 none fun v33 r34 => (tkInt v33 none fun q35 n36 => (tkNil r34 none ((tkOut (env 60 [(.agg (eSite s)), (.agg [(.int q11 n12), (.int q15 n16)])]) none (fun v37 => (tkAgg v37 none fun l38 => (tkCons l38 none fun v39 r40 => (tkInt v39 none fun q41 n42 => (tkCons r40 none fun v43 r44 => (tkInt v43 none fun q45 n46 => (tkNil r44 none ((bif (decide (.i64 = q41)) then (bif (decide (.i64 = q45)) then (tkOut (env 62 [(.int .i64 (Span.lo (Stt.vol x))), (.int q25 n26), (.int q35 n36)]) none (fun v47 => (tkInt v47 none fun q48 n49 => (bif (decide (.i64 = q48)) then (tkOut (env 61 [(.int .i64 (Span.hi (Stt.vol x))), (.int q21 n22), (.int q31 n32)]) none (fun v50 => (tkInt v50 none fun q51 n52 => (bif (decide (.i64 = q51)) then (tkOut (env 61 [(.int .i64 (Span.lo (Stt.vol x))), (.int q21 n22), (.int q31 n32)]) none (fun v53 => (tkInt v53 none fun q54 n55 => (bif (decide (.i64 = q54)) then (tkOut (env 62 [(.int .i64 (Span.hi (Stt.vol x))), (.int q25 n26), (.int q35 n36)]) none (fun v56 => (tkInt v56 none fun q57 n58 => some (.ret (.agg [(.int .i64 (if (IntKind.wrap .i64 ((Span.lo (Stt.rad x)) + n42)) < (400000 : Int) then (IntKind.wrap .i64 ((Span.lo (Stt.rad x)) + n42)) else (400000 : Int))), (.int .i64 (if (IntKind.wrap .i64 ((Span.hi (Stt.rad x)) + n46)) < (400000 : Int) then (IntKind.wrap .i64 ((Span.hi (Stt.rad x)) + n46)) else (400000 : Int))), (.int .i64 (if (0 : Int) < (IntKind.wrap .i64 ((Span.lo (Stt.vol x)) - n49)) then (IntKind.wrap .i64 ((Span.lo (Stt.vol x)) - n49)) else (0 : Int))), (.int .i64 (if (0 : Int) < (IntKind.wrap .i64 ((Span.hi (Stt.vol x)) - n52)) then (IntKind.wrap .i64 ((Span.hi (Stt.vol x)) - n52)) else (0 : Int))), (.int .i64 (if (IntKind.wrap .i64 ((Span.lo (Stt.lost x)) + n55)) < (1000000000 : Int) then (IntKind.wrap .i64 ((Span.lo (Stt.lost x)) + n55)) else (1000000000 : Int))), (.int .i64 (if (IntKind.wrap .i64 ((Span.hi (Stt.lost x)) + (if n58 < (Span.hi (Stt.vol x)) then n58 else (Span.hi (Stt.vol x))))) < (1000000000 : Int) then (IntKind.wrap .i64 ((Span.hi (Stt.lost x)) + (if n58 < (Span.hi (Stt.vol x)) then n58 else (Span.hi (Stt.vol x))))) else (1000000000 : Int)))]))))
                                                                                (fun p56 => (tkIfc p56 none fun t57 x58 => (bif (flatP (.iface t57 x58)) then some (.pan (.iface t57 x58))
                                                                                    else none))))
                                                                              else none)))
                                                                          (fun p53 => (tkIfc p53 none fun t54 x55 => (bif (flatP (.iface t54 x55)) then none
                                                                              else none))))
                                                                        else none)))
                                                                    (fun p50 => (tkIfc p50 none fun t51 x52 => (bif (flatP (.iface t51 x52)) then none
                                                                        else none))))
                                                                  else none)))
                                                              (fun p47 => (tkIfc p47 none fun t48 x49 => (bif (flatP (.iface t48 x49)) then none
                                                                  else none))))
                                                            else none)
                                                          else none)))))))))
                                            (fun p37 => (tkIfc p37 none fun t38 x39 => (bif (flatP (.iface t38 x39)) then some (.pan (.iface t38 x39))
                                                else none))))))))))))
                              (fun p27 => (tkIfc p27 none fun t28 x29 => (bif (flatP (.iface t28 x29)) then none
                                  else none))))))))))))
                (fun p17 => (tkIfc p17 none fun t18 x19 => (bif (flatP (.iface t18 x19)) then none
                    else none))))))))))))
  (fun p7 => (tkIfc p7 none fun t8 x9 => (bif (flatP (.iface t8 x9)) then some (.pan (.iface t8 x9))
      else none)))) := by kernel_rfl

noncomputable def L51x0 (env : Env) (F : Nat) (s : Site) (l : Sl Stt) (d : Day) (fu : Nat) : Option Out := atLoop Try.prog (cfg F) env 51 [.r, .r, .l, .r, .d] [] fu { tm := tmL 37 0 [(0, (pSite s)), (5, (.optr 0 0 0)), (6, (.optr 1 0 0)), (7, (.optr 2 0 0)), (11, (sl eStt 6 l)), (12, (.int .i64 (((Sl.len l) : Nat) : Int))), (13, (.int .i64 (0 : Int)))], hp := [(.box 32 [(sl eSpan 2 (Day.press d)), (sl eSpan 2 (Day.warm d))] true), (.box 29 [(.row true 0 0 (fun u6 => []))] true), (.box 4 [(.bool false)] true)], df := [(.fn (.func 90) [] [(.optr 1 0 0), (.optr 2 0 0)])] }
noncomputable def L51x1 (env : Env) (F : Nat) (s : Site) (l : Sl Stt) (d : Day) (fu : Nat) (i0 : Int) (k1 : Nat) (k2 : Nat) (g3 : Nat → List V) : Option Out := atLoop Try.prog (cfg F) env 51 [.r, .r, .l, .r, .d] [] fu { tm := tmL 37 0 [(0, (pSite s)), (5, (.optr 0 0 0)), (6, (.optr 1 0 0)), (7, (.optr 2 0 0)), (11, (sl eStt 6 l)), (12, (.int .i64 (((Sl.len l) : Nat) : Int))), (13, (.int .i64 i0))], hp := [(.box 32 [(sl eSpan 2 (Day.press d)), (sl eSpan 2 (Day.warm d))] true), (.box 29 [(.osl 3 0 k1)] true), (.box 4 [(.bool false)] true), (.arr 65 6 k2 g3 true)], df := [(.fn (.func 90) [] [(.optr 1 0 0), (.optr 2 0 0)])] }
theorem t51 (env : Env) (F : Nat) (s : Site) (l : Sl Stt) (d : Day) : (evFun Try.prog (cfg F) env 51 [(pSite s), (sl eStt 6 l), (.agg (eDay d))]) =
  (L51x0 env F s l d F) := by kernel_rfl
theorem L51x0s (env : Env) (F : Nat) (s : Site) (l : Sl Stt) (d : Day) (fu : Nat) : L51x0 env F s l d (fu + 1) =
  (bif (decide ((0 : Int) < (((Sl.len l) : Nat) : Int))) then (bif (decide ((0 : Int) < (((Sl.len l) : Nat) : Int))) then (bif (decide ((0 : Int) < (((Sl.len (Day.press d)) : Nat) : Int))) then (bif (decide ((0 : Int) < (((Sl.len (Day.warm d)) : Nat) : Int))) then (tkOut (env 91 [(pSite s), (.int .i64 (0 : Int)), (.agg (eStt (Sl.el l 0))), (.agg (eSpan (Sl.el (Day.press d) 0))), (.agg (eSpan (Sl.el (Day.warm d) 0)))]) none (fun v6 => (tkAgg v6 none fun l7 => (tkCons l7 none fun v8 r9 => (tkInt v8 none fun q10 n11 => (tkCons r9 none fun v12 r13 => (tkInt v12 none fun q14 n15 => (tkCons r13 none fun v16 r17 => (tkInt v16 none fun q18 n19 => (tkCons r17 none fun v20 r21 => (tkInt v20 none fun q22 n23 => (tkCons r21 none fun v24 r25 => (tkInt v24 none fun q26 n27 => (tkCons r25 none fun v28 r29 => (tkInt v28 none fun q30 n31 => (tkNil r29 none ((L51x1 env F s l d fu (IntKind.wrap .i64 ((0 : Int) + (1 : Int))) 1 1 (fun u32 => [(.int q10 n11), (.int q14 n15), (.int q18 n19), (.int q22 n23), (.int q26 n27), (.int q30 n31)]))))))))))))))))))
          (fun p6 => (tkIfc p6 none fun t7 x8 => (bif (flatP (.iface t7 x8)) then (bif (t7 == 146) then (tkAgg x8 none fun l9 => (bif (List.all l9 (fun u10 => (Go.Sim.V.one.match_1 (fun u11 => Bool) u10 (fun u11 => false) (fun u11 => false) (fun u11 => false) (fun u11 => false) (fun u11 => true)))) then (bif ((List.length l9) == 1) then (bif (decide ((0 + (List.length l9)) ≤ 1)) then some (.ret (.tup [(.row true 0 0 (fun u10 => [])), (.bool false)]))
                        else none)
                      else none)
                    else none))
                else (bif (flatP (.iface t7 x8)) then none
                  else none))
              else none))))
        else none)
      else none)
    else none)
  else some (.ret (.tup [(.row true 0 0 (fun u6 => [])), (.bool true)]))) := by kernel_rfl
theorem L51x1s (env : Env) (F : Nat) (s : Site) (l : Sl Stt) (d : Day) (fu : Nat) (i0 : Int) (k1 : Nat) (k2 : Nat) (g3 : Nat → List V) : L51x1 env F s l d (fu + 1) i0 k1 k2 g3 =
  (bif (decide (i0 < (((Sl.len l) : Nat) : Int))) then (bif (decide ((0 : Int) ≤ i0)) then (bif (decide (i0 < (((Sl.len l) : Nat) : Int))) then (bif (decide ((0 : Int) ≤ i0)) then (bif (decide (i0 < (((Sl.len (Day.press d)) : Nat) : Int))) then (bif (decide ((0 : Int) ≤ i0)) then (bif (decide (i0 < (((Sl.len (Day.warm d)) : Nat) : Int))) then (tkOut (env 91 [(pSite s), (.int .i64 i0), (.agg (eStt (Sl.el l (Int.toNat i0)))), (.agg (eSpan (Sl.el (Day.press d) (Int.toNat i0)))), (.agg (eSpan (Sl.el (Day.warm d) (Int.toNat i0))))]) none (fun v10 => (tkAgg v10 none fun l11 => (tkCons l11 none fun v12 r13 => (tkInt v12 none fun q14 n15 => (tkCons r13 none fun v16 r17 => (tkInt v16 none fun q18 n19 => (tkCons r17 none fun v20 r21 => (tkInt v20 none fun q22 n23 => (tkCons r21 none fun v24 r25 => (tkInt v24 none fun q26 n27 => (tkCons r25 none fun v28 r29 => (tkInt v28 none fun q30 n31 => (tkCons r29 none fun v32 r33 => (tkInt v32 none fun q34 n35 => (tkNil r33 none ((bif (decide (((k1 + 1) * 48) ≤ 140737488355328)) then (L51x1 env F s l d fu (IntKind.wrap .i64 (i0 + (1 : Int))) (k1 + 1) (k1 + 1) (appGet k1 g3 (fun u36 => [(.int q14 n15), (.int q18 n19), (.int q22 n23), (.int q26 n27), (.int q30 n31), (.int q34 n35)])))
                                              else none)))))))))))))))))
                (fun p10 => (tkIfc p10 none fun t11 x12 => (bif (flatP (.iface t11 x12)) then (bif (t11 == 146) then (tkAgg x12 none fun l13 => (bif (List.all l13 (fun u14 => (Go.Sim.V.one.match_1 (fun u15 => Bool) u14 (fun u15 => false) (fun u15 => false) (fun u15 => false) (fun u15 => false) (fun u15 => true)))) then (bif ((List.length l13) == 1) then (bif (decide ((0 + (List.length l13)) ≤ 1)) then some (.ret (.tup [(.row true 0 0 (fun u14 => [])), (.bool false)]))
                              else none)
                            else none)
                          else none))
                      else (bif (flatP (.iface t11 x12)) then none
                        else none))
                    else none))))
              else none)
            else none)
          else none)
        else none)
      else none)
    else none)
  else some (.ret (.tup [(.row false k1 6 (fun u10 => (g3 u10))), (.bool true)]))) := by kernel_rfl

theorem t24 (env : Env) (F : Nat) (s : Site) : (evFun Try.prog (cfg F) env 24 [(.agg (eSite s))]) =
  (tkOut (env 48 [(.agg (eSite s))]) none (fun v3 => (tkBool v3 none fun b4 => (bif (!b4) then some (.ret (.tup [(.row true 0 0 (fun u5 => [])), (.int .i64 (2 : Int))]))
      else (tkOut (env 57 [(pSite s)]) none (fun v5 => (tkRow v5 none fun nl6 n7 wd8 g9 => some (.ret (.tup [(.row nl6 n7 wd8 g9), (.int .i64 (0 : Int))]))))
        (fun p5 => (tkIfc p5 none fun t6 x7 => (bif (flatP (.iface t6 x7)) then some (.pan (.iface t6 x7))
            else none)))))))
  (fun p3 => (tkIfc p3 none fun t4 x5 => (bif (flatP (.iface t4 x5)) then some (.pan (.iface t4 x5))
      else none)))) := by kernel_rfl

noncomputable def L21x0 (env : Env) (F : Nat) (s : Site) (l : Sl Stt) (d : Day) (fu : Nat) : Option Out := atLoop Try.prog (cfg F) env 21 [.r, .r, .l, .r, .d] [] fu { tm := tmL 50 0 [(1, (sl eStt 6 l)), (3, (.optr 0 0 0)), (5, (.optr 1 0 0)), (8, (.row true 0 0 (fun u6 => []))), (9, (.int .i64 (0 : Int)))], hp := [(.box 28 (eSite s) true), (.box 32 [(sl eSpan 2 (Day.press d)), (sl eSpan 2 (Day.warm d))] true)] }
noncomputable def L21x1 (env : Env) (F : Nat) (s : Site) (l : Sl Stt) (d : Day) (fu : Nat) (k0 : Nat) (i1 : Int) (k2 : Nat) (g3 : Nat → List V) : Option Out := atLoop Try.prog (cfg F) env 21 [.r, .r, .l, .r, .d] [] fu { tm := tmL 50 0 [(1, (sl eStt 6 l)), (3, (.optr 0 0 0)), (5, (.optr 1 0 0)), (8, (.osl 2 0 k0)), (9, (.int .i64 i1))], hp := [(.box 28 (eSite s) true), (.box 32 [(sl eSpan 2 (Day.press d)), (sl eSpan 2 (Day.warm d))] true), (.arr 65 6 k2 g3 true)] }
theorem t21 (env : Env) (F : Nat) (s : Site) (l : Sl Stt) (d : Day) : (evFun Try.prog (cfg F) env 21 [(.agg (eSite s)), (sl eStt 6 l), (.agg (eDay d))]) =
  (L21x0 env F s l d F) := by kernel_rfl
theorem L21x0s (env : Env) (F : Nat) (s : Site) (l : Sl Stt) (d : Day) (fu : Nat) : L21x0 env F s l d (fu + 1) =
  (bif (decide ((0 : Int) < (((Sl.len l) : Nat) : Int))) then (bif (decide ((0 : Int) < (((Sl.len (Day.press d)) : Nat) : Int))) then (bif (decide ((0 : Int) < (((Sl.len (Day.warm d)) : Nat) : Int))) then (tkOut (env 32 [(.agg (eSite s)), (.int .i64 (0 : Int)), (.agg (eSpan (Sl.el (Day.press d) 0))), (.agg (eSpan (Sl.el (Day.warm d) 0)))]) none (fun v6 => (tkBool v6 none fun b7 => (bif b7 then some (.ret (.tup [(.row true 0 0 (fun u8 => [])), (.bool false)]))
            else (bif (decide ((0 : Int) < (((Sl.len l) : Nat) : Int))) then (bif (decide ((0 : Int) < (((Sl.len (Day.press d)) : Nat) : Int))) then (bif (decide ((0 : Int) < (((Sl.len (Day.warm d)) : Nat) : Int))) then (tkOut (env 56 [(.agg (eSite s)), (.int .i64 (0 : Int)), (.agg (eStt (Sl.el l 0))), (.agg (eSpan (Sl.el (Day.press d) 0))), (.agg (eSpan (Sl.el (Day.warm d) 0)))]) none (fun v8 => (tkAgg v8 none fun l9 => (tkCons l9 none fun v10 r11 => (tkInt v10 none fun q12 n13 => (tkCons r11 none fun v14 r15 => (tkInt v14 none fun q16 n17 => (tkCons r15 none fun v18 r19 => (tkInt v18 none fun q20 n21 => (tkCons r19 none fun v22 r23 => (tkInt v22 none fun q24 n25 => (tkCons r23 none fun v26 r27 => (tkInt v26 none fun q28 n29 => (tkCons r27 none fun v30 r31 => (tkInt v30 none fun q32 n33 => (tkNil r31 none ((L21x1 env F s l d fu 1 (IntKind.wrap .i64 ((0 : Int) + (1 : Int))) 1 (fun u34 => [(.int q12 n13), (.int q16 n17), (.int q20 n21), (.int q24 n25), (.int q28 n29), (.int q32 n33)]))))))))))))))))))
                    (fun p8 => (tkIfc p8 none fun t9 x10 => (bif (flatP (.iface t9 x10)) then some (.pan (.iface t9 x10))
                        else none))))
                  else none)
                else none)
              else none))))
        (fun p6 => (tkIfc p6 none fun t7 x8 => (bif (flatP (.iface t7 x8)) then some (.pan (.iface t7 x8))
            else none))))
      else none)
    else none)
  else some (.ret (.tup [(.row true 0 0 (fun u6 => [])), (.bool true)]))) := by kernel_rfl
theorem L21x1s (env : Env) (F : Nat) (s : Site) (l : Sl Stt) (d : Day) (fu : Nat) (k0 : Nat) (i1 : Int) (k2 : Nat) (g3 : Nat → List V) : L21x1 env F s l d (fu + 1) k0 i1 k2 g3 =
  (bif (decide (i1 < (((Sl.len l) : Nat) : Int))) then (bif (decide ((0 : Int) ≤ i1)) then (bif (decide (i1 < (((Sl.len (Day.press d)) : Nat) : Int))) then (bif (decide ((0 : Int) ≤ i1)) then (bif (decide (i1 < (((Sl.len (Day.warm d)) : Nat) : Int))) then (tkOut (env 32 [(.agg (eSite s)), (.int .i64 i1), (.agg (eSpan (Sl.el (Day.press d) (Int.toNat i1)))), (.agg (eSpan (Sl.el (Day.warm d) (Int.toNat i1))))]) none (fun v10 => (tkBool v10 none fun b11 => (bif b11 then some (.ret (.tup [(.row true 0 0 (fun u12 => [])), (.bool false)]))
                else (bif (decide ((0 : Int) ≤ i1)) then (bif (decide (i1 < (((Sl.len l) : Nat) : Int))) then (bif (decide ((0 : Int) ≤ i1)) then (bif (decide (i1 < (((Sl.len (Day.press d)) : Nat) : Int))) then (bif (decide ((0 : Int) ≤ i1)) then (bif (decide (i1 < (((Sl.len (Day.warm d)) : Nat) : Int))) then (tkOut (env 56 [(.agg (eSite s)), (.int .i64 i1), (.agg (eStt (Sl.el l (Int.toNat i1)))), (.agg (eSpan (Sl.el (Day.press d) (Int.toNat i1)))), (.agg (eSpan (Sl.el (Day.warm d) (Int.toNat i1))))]) none (fun v12 => (tkAgg v12 none fun l13 => (tkCons l13 none fun v14 r15 => (tkInt v14 none fun q16 n17 => (tkCons r15 none fun v18 r19 => (tkInt v18 none fun q20 n21 => (tkCons r19 none fun v22 r23 => (tkInt v22 none fun q24 n25 => (tkCons r23 none fun v26 r27 => (tkInt v26 none fun q28 n29 => (tkCons r27 none fun v30 r31 => (tkInt v30 none fun q32 n33 => (tkCons r31 none fun v34 r35 => (tkInt v34 none fun q36 n37 => (tkNil r35 none ((bif (decide (((k0 + 1) * 48) ≤ 140737488355328)) then (L21x1 env F s l d fu (k0 + 1) (IntKind.wrap .i64 (i1 + (1 : Int))) (k0 + 1) (appGet k0 g3 (fun u38 => [(.int q16 n17), (.int q20 n21), (.int q24 n25), (.int q28 n29), (.int q32 n33), (.int q36 n37)])))
                                                            else none)))))))))))))))))
                              (fun p12 => (tkIfc p12 none fun t13 x14 => (bif (flatP (.iface t13 x14)) then some (.pan (.iface t13 x14))
                                  else none))))
                            else none)
                          else none)
                        else none)
                      else none)
                    else none)
                  else none))))
            (fun p10 => (tkIfc p10 none fun t11 x12 => (bif (flatP (.iface t11 x12)) then some (.pan (.iface t11 x12))
                else none))))
          else none)
        else none)
      else none)
    else none)
  else some (.ret (.tup [(.row false k0 6 (fun u10 => (g3 u10))), (.bool true)]))) := by kernel_rfl

theorem t41 (env : Env) (F : Nat) (s : Site) (c : Int) (p : Span) (q : Span) : (evFun Try.prog (cfg F) env 41 [(.agg (eSite s)), (.int .i64 c), (.agg (eSpan p)), (.agg (eSpan q))]) =
  (tkOut (env 48 [(.agg (eSite s))]) none (fun v6 => (tkBool v6 none fun b7 => (bif (!b7) then some (.ret (.tup [(.int .i64 (0 : Int)), (.int .i64 (2 : Int))]))
      else (tkOut (env 72 [(.int .i64 c), (.int .i64 (0 : Int)), (.int .i64 (IntKind.wrap .i64 ((((Sl.len (Site.cavs s)) : Nat) : Int) - (1 : Int))))]) none (fun v8 => (tkBool v8 none fun b9 => (bif (!b9) then some (.ret (.tup [(.int .i64 (0 : Int)), (.int .i64 (2 : Int))]))
            else (tkOut (env 74 [(.agg (eSpan p)), (.int .i64 (50000 : Int))]) none (fun v10 => (tkBool v10 none fun b11 => (bif (!b11) then some (.ret (.tup [(.int .i64 (0 : Int)), (.int .i64 (2 : Int))]))
                  else (tkOut (env 74 [(.agg (eSpan q)), (.int .i64 (10000 : Int))]) none (fun v12 => (tkBool v12 none fun b13 => (bif (!b13) then some (.ret (.tup [(.int .i64 (0 : Int)), (.int .i64 (2 : Int))]))
                        else (tkOut (env 75 [(pSite s), (.int .i64 c), (.agg (eSpan p)), (.agg (eSpan q)), (.int .i64 (60 : Int))]) none (fun v14 => (tkInt v14 none fun q15 n16 => some (.ret (.tup [(.int q15 n16), (.int .i64 (0 : Int))]))))
                          (fun p14 => (tkIfc p14 none fun t15 x16 => (bif (flatP (.iface t15 x16)) then some (.pan (.iface t15 x16))
                              else none)))))))
                    (fun p12 => (tkIfc p12 none fun t13 x14 => (bif (flatP (.iface t13 x14)) then some (.pan (.iface t13 x14))
                        else none)))))))
              (fun p10 => (tkIfc p10 none fun t11 x12 => (bif (flatP (.iface t11 x12)) then some (.pan (.iface t11 x12))
                  else none)))))))
        (fun p8 => (tkIfc p8 none fun t9 x10 => (bif (flatP (.iface t9 x10)) then some (.pan (.iface t9 x10))
            else none)))))))
  (fun p6 => (tkIfc p6 none fun t7 x8 => (bif (flatP (.iface t7 x8)) then some (.pan (.iface t7 x8))
      else none)))) := by kernel_rfl

end Go.Sim.Cr

/-
  Days: what 'move', 'Move', 'Begin' and their specifications answer.
-/
namespace Go.Sim.Cr
open Go.Proofs
variable (F d : Nat)
/-- Does something hold of one of so many, from one on? -/
def anyF (p : Nat → Bool) : Nat → Nat → Bool
  | 0, _ => false
  | n + 1, i => p i || anyF p n (i + 1)
theorem anyF_eq (p : Nat → Bool) : ∀ n i, anyF p n i = true ↔ ∃ k, i ≤ k ∧ k < i + n ∧ p k = true := by
  intro n
  induction n with
  | zero => intro i; simp only [anyF]; constructor <;> intro h
            · cases h
            · obtain ⟨k, h1, h2, _⟩ := h; omega
  | succ n ih =>
    intro i
    simp only [anyF, Bool.or_eq_true, ih]
    constructor
    · rintro (h | ⟨k, h1, h2, h3⟩)
      · exact ⟨i, Nat.le_refl _, by omega, h⟩
      · exact ⟨k, by omega, by omega, h3⟩
    · rintro ⟨k, h1, h2, h3⟩
      rcases Nat.eq_or_lt_of_le h1 with rfl | h4
      · exact .inl h3
      · exact .inr ⟨k, by omega, by omega, h3⟩
/-- A list that was made by appending. -/
def outL {α : Type} (n : Nat) (T : Nat → α) : Sl α := ⟨false, n, fun i => T (min i (n - 1))⟩
theorem outL_el {α : Type} {n : Nat} {T : Nat → α} {i : Nat} (h : i < n) : (outL n T).el i = T i := by
  show T (min i (n - 1)) = T i
  rw [Nat.min_eq_left (by omega)]
theorem outL_len {α : Type} {n : Nat} {T : Nat → α} : (outL n T).len = n := rfl
abbrev noneRow : V := .row true 0 0 fun _ => []
theorem app_enc {α : Type} (e : α → List V) (T : Nat → α) {i : Nat} (hi : 1 ≤ i) : appGet i (fun j => e (T (min j (i - 1)))) (fun _ => e (T i)) = fun j => e (T (min j i)) := by
  funext j
  unfold appGet
  by_cases h : j < i
  · rw [if_pos h]; show e (T (min j (i - 1))) = e (T (min j i)); rw [show min j (i - 1) = min j i by omega]
  · rw [if_neg h]; show e (T i) = e (T (min j i)); rw [show min j i = i by omega]
theorem one_enc {α : Type} (e : α → List V) (T : Nat → α) : (fun _ : Nat => e (T 0)) = fun j => e (T (min j (1 - 1))) := by
  funext j
  show e (T 0) = e (T (min j 0))
  rw [Nat.min_zero]
theorem wr1 : IntKind.i64.wrap ((0 : Int) + 1) = ((1 : Nat) : Int) := by rw [wr (by omega)]; rfl
/-- The states after a day, one by one. -/
def mv (s : Site) (l : Sl Stt) (y : Day) (i : Nat) : Stt := move1 s (s.cavs.el i) (l.el i) (y.press.el i) (y.warm.el i)
def farAt (s : Site) (y : Day) (i : Nat) : Bool := farB s (s.cavs.el i) (y.press.el i) (y.warm.el i)
def farDay (s : Site) (y : Day) : Bool := anyF (farAt s y) s.cavs.len 0
abbrev moved (s : Site) (l : Sl Stt) (y : Day) : Sl Stt := outL l.len (mv s l y)
abbrev moveR (s : Site) (l : Sl Stt) (y : Day) : V := bif farDay s y then .tup [noneRow, .bool false] else .tup [sl eStt 6 (moved s l y), .bool true]

theorem l51 (s : Site) (l : Sl Stt) (y : Day) (hS : SiteF s) (hL : StatesOk s l) (hD : DayOk s y) (hF : 8 < F) : ∀ n i fu, l.len = i + n → n < fu → 1 ≤ i →
    L51x1 (E F (d + 6)) F s l y fu (i : Int) i i (fun j => eStt (mv s l y (min j (i - 1)))) = some (.ret (bif anyF (farAt s y) n i then .tup [noneRow, .bool false] else .tup [sl eStt 6 (moved s l y), .bool true])) := by
  have h5 := hS.cavs5
  have hl := hL.1
  have hp := hD.1.1
  have hw := hD.2.1
  intro n
  induction n with
  | zero =>
    intro i fu h hf hi
    obtain ⟨fu, rfl⟩ : ∃ k, fu = k + 1 := ⟨fu - 1, by omega⟩
    have e : l.len = i := by omega
    rw [L51x1s]
    simp only [Int.ofNat_lt, show ¬ i < l.len by omega, decide_false, cond_false, anyF, moved, outL]
    rw [e]
  | succ n ih =>
    intro i fu h hf hi
    obtain ⟨fu, rfl⟩ : ∃ k, fu = k + 1 := ⟨fu - 1, by omega⟩
    rw [L51x1s]
    obtain ⟨g1, g2⟩ := s91 F d s i (l.el i) (y.press.el i) (y.warm.el i) hS (by omega) (hL.2 i (by omega)) (hD.1.2 i (by omega)) hF
    simp only [Int.ofNat_lt, show i < l.len by omega, show i < y.press.len by omega, show i < y.warm.len by omega, decide_true, cond_true, Int.natCast_nonneg, Int.toNat_natCast, anyF]
    cases hf1 : farAt s y i with
    | true =>
      obtain ⟨m, e⟩ := g2 hf1
      simp only [e, tkOut_pan, tkIfc_i, Bool.true_or, cond_true]
      rfl
    | false =>
      simp only [g1 hf1, tkOut_ret, tkAgg_a, tkCons_c, tkInt_i, tkNil_n, show (i + 1) * 48 ≤ 140737488355328 by omega, decide_true, cond_true, wrS (show i < 4611686018427387904 by omega), Bool.false_or]
      exact (congrArg (L51x1 (E F (d + 6)) F s l y fu ((i + 1 : Nat) : Int) (i + 1) (i + 1)) (app_enc eStt (mv s l y) hi)).trans (ih (i + 1) fu (by omega) (by omega) (by omega))
theorem s51 (s : Site) (l : Sl Stt) (y : Day) (hS : SiteF s) (hL : StatesOk s l) (hD : DayOk s y) (hF : 8 < F) :
    E F (d + 7) 51 [pSite s, sl eStt 6 l, .agg (eDay y)] = some (.ret (moveR s l y)) := by
  have h5 := hS.cavs5
  have h1 := hS.cavs1
  have hl := hL.1
  have hp := hD.1.1
  have hw := hD.2.1
  rw [E_succ, t51]
  obtain ⟨fu, rfl⟩ : ∃ k, F = k + 1 := ⟨F - 1, by omega⟩
  rw [L51x0s]
  obtain ⟨n, hn⟩ : ∃ n, l.len = 1 + n := ⟨l.len - 1, by omega⟩
  obtain ⟨g1, g2⟩ := s91 (fu + 1) d s 0 (l.el 0) (y.press.el 0) (y.warm.el 0) hS (by omega) (hL.2 0 (by omega)) (hD.1.2 0 (by omega)) hF
  have z : ∀ m : Nat, 0 < m → decide ((0 : Int) < (m : Int)) = true := fun m hm => decide_eq_true (by omega)
  simp only [z l.len (by omega), z y.press.len (by omega), z y.warm.len (by omega), cond_true]
  have hc : s.cavs.len = n + 1 := by omega
  unfold moveR farDay
  rw [hc]
  simp only [anyF]
  cases hf1 : farAt s y 0 with
  | true =>
    obtain ⟨m, e⟩ := g2 hf1
    simp only [Int.natCast_zero] at e
    simp only [e, tkOut_pan, tkIfc_i, Bool.true_or, cond_true]
    rfl
  | false =>
    have e := g1 hf1
    simp only [Int.natCast_zero] at e
    simp only [e, tkOut_ret, tkAgg_a, tkCons_c, tkInt_i, tkNil_n, wr1, Bool.false_or]
    exact (congrArg (L51x1 (E (fu + 1) (d + 6)) (fu + 1) s l y fu ((1 : Nat) : Int) 1 1) (one_enc eStt (mv s l y))).trans (l51 (fu + 1) d s l y hS hL hD hF n 1 fu (by omega) (by omega) (by omega))
/-- What 'Move' answers. -/
theorem s14 (s : Site) (l : Sl Stt) (y : Day) (hs : Small s F) (hB : l.len < Big) (hlF : l.len < F) (hB' : y.press.len < Big) (hB2 : y.warm.len < Big) (hF' : y.press.len < F) (hF2 : y.warm.len < F) (hF : 8 < F) :
    E F (d + 8) 14 [.agg (eSite s), sl eStt 6 l, .agg (eDay y)] = some (.ret (bif siteB s && (decide (StatesOk s l) && decide (DayOk s y)) then (bif farDay s y then .tup [noneRow, .int .i64 7] else .tup [sl eStt 6 (moved s l y), .int .i64 0]) else .tup [noneRow, .int .i64 2])) := by
  rw [E_succ, t14]
  simp only [s48 F (d + 1) s hs, tkOut_ret, tkBool_b, s49 F (d + 1) s l hB hlF, s50 F (d + 1) s y hB' hB2 hF' hF2, Nat.reduceAdd, Nat.add_assoc]
  cases h1 : siteB s
  · rfl
  · by_cases h2 : StatesOk s l
    · by_cases h3 : DayOk s y
      · simp only [decide_eq_true h2, decide_eq_true h3, Bool.not_true, cond_false, Bool.and_self, cond_true, s51 F d s l y ((siteB_iff s).1 h1) h2 h3 hF, tkOut_ret, moveR]
        cases farDay s y <;> rfl
      · simp only [decide_eq_true h2, decide_eq_false h3, Bool.not_true, Bool.not_false, cond_false, cond_true, Bool.and_false]
    · simp only [decide_eq_false h2, Bool.not_true, Bool.not_false, cond_false, cond_true, Bool.and_false, Bool.false_and]
/-- The states at first. -/
def start (c : Cav) : Stt := ⟨c.rad, c.vol, ⟨0, 0⟩⟩
abbrev begin (s : Site) : Sl Stt := outL s.cavs.len (fun i => start (s.cavs.el i))
theorem l57 (s : Site) (h5 : s.cavs.len ≤ 5) : ∀ n i fu, s.cavs.len = i + n → n < fu → 1 ≤ i →
    L57x1 (E F d) F s fu i (i : Int) i (fun j => eStt (start (s.cavs.el (min j (i - 1))))) = some (.ret (sl eStt 6 (begin s))) := by
  intro n
  induction n with
  | zero =>
    intro i fu h hf hi
    obtain ⟨fu, rfl⟩ : ∃ k, fu = k + 1 := ⟨fu - 1, by omega⟩
    have e : s.cavs.len = i := by omega
    rw [L57x1s]
    simp only [Int.ofNat_lt, show ¬ i < s.cavs.len by omega, decide_false, cond_false, begin, outL]
    rw [e]
  | succ n ih =>
    intro i fu h hf hi
    obtain ⟨fu, rfl⟩ : ∃ k, fu = k + 1 := ⟨fu - 1, by omega⟩
    rw [L57x1s]
    simp only [Int.ofNat_lt, show i < s.cavs.len by omega, decide_true, cond_true, Int.natCast_nonneg, Int.toNat_natCast, show (i + 1) * 48 ≤ 140737488355328 by omega, wrS (show i < 4611686018427387904 by omega)]
    exact (congrArg (L57x1 (E F d) F s fu (i + 1) ((i + 1 : Nat) : Int) (i + 1)) (app_enc eStt (fun i => start (s.cavs.el i)) hi)).trans (ih (i + 1) fu (by omega) (by omega) (by omega))
theorem s57 (s : Site) (h1 : 1 ≤ s.cavs.len) (h5 : s.cavs.len ≤ 5) (hF : 8 < F) : E F (d + 1) 57 [pSite s] = some (.ret (sl eStt 6 (begin s))) := by
  rw [E_succ, t57]
  obtain ⟨fu, rfl⟩ : ∃ k, F = k + 1 := ⟨F - 1, by omega⟩
  rw [L57x0s]
  have z : ∀ m : Nat, 0 < m → decide ((0 : Int) < (m : Int)) = true := fun m hm => decide_eq_true (by omega)
  simp only [z s.cavs.len (by omega), cond_true, wr1]
  exact (congrArg (L57x1 (E (fu + 1) d) (fu + 1) s fu 1 ((1 : Nat) : Int) 1) (one_enc eStt (fun i => start (s.cavs.el i)))).trans (l57 (fu + 1) d s h5 (s.cavs.len - 1) 1 fu (by omega) (by omega) (by omega))
/-- What 'Begin' answers. -/
theorem s24 (s : Site) (hs : Small s F) (hF : 8 < F) : E F (d + 7) 24 [.agg (eSite s)] = some (.ret (bif siteB s then .tup [sl eStt 6 (begin s), .int .i64 0] else .tup [noneRow, .int .i64 2])) := by
  rw [E_succ, t24]
  simp only [s48 F d s hs, tkOut_ret, tkBool_b]
  cases h1 : siteB s
  · rfl
  · have hS := (siteB_iff s).1 h1
    simp only [s57 F (d + 5) s hS.cavs1 hS.cavs5 hF, tkOut_ret, tkRow_r]
    rfl
theorem l38 (s : Site) (h5 : s.cavs.len ≤ 5) : ∀ n i fu, s.cavs.len = i + n → n < fu → 1 ≤ i →
    L38x1 (E F d) F s fu i (i : Int) i (fun j => eStt (start (s.cavs.el (min j (i - 1))))) = some (.ret (sl eStt 6 (begin s))) := by
  intro n
  induction n with
  | zero =>
    intro i fu h hf hi
    obtain ⟨fu, rfl⟩ : ∃ k, fu = k + 1 := ⟨fu - 1, by omega⟩
    have e : s.cavs.len = i := by omega
    rw [L38x1s]
    simp only [Int.ofNat_lt, show ¬ i < s.cavs.len by omega, decide_false, cond_false, begin, outL]
    rw [e]
  | succ n ih =>
    intro i fu h hf hi
    obtain ⟨fu, rfl⟩ : ∃ k, fu = k + 1 := ⟨fu - 1, by omega⟩
    rw [L38x1s]
    simp only [Int.ofNat_lt, show i < s.cavs.len by omega, decide_true, cond_true, Int.natCast_nonneg, Int.toNat_natCast, show (i + 1) * 48 ≤ 140737488355328 by omega, show (decide (1 < 19) && decide (17 < 19)) = true from rfl, wrS (show i < 4611686018427387904 by omega)]
    exact (congrArg (L38x1 (E F d) F s fu (i + 1) ((i + 1 : Nat) : Int) (i + 1)) (app_enc eStt (fun i => start (s.cavs.el i)) hi)).trans (ih (i + 1) fu (by omega) (by omega) (by omega))
theorem s38 (s : Site) (h1 : 1 ≤ s.cavs.len) (h5 : s.cavs.len ≤ 5) (hF : 8 < F) : E F (d + 1) 38 [.agg (eSite s)] = some (.ret (sl eStt 6 (begin s))) := by
  rw [E_succ, t38]
  obtain ⟨fu, rfl⟩ : ∃ k, F = k + 1 := ⟨F - 1, by omega⟩
  rw [L38x0s]
  have z : ∀ m : Nat, 0 < m → decide ((0 : Int) < (m : Int)) = true := fun m hm => decide_eq_true (by omega)
  simp only [z s.cavs.len (by omega), cond_true, wr1, show (decide (17 < 19) && true) = true from rfl, show (decide (1 < 19) && true) = true from rfl]
  exact (congrArg (L38x1 (E (fu + 1) d) (fu + 1) s fu 1 ((1 : Nat) : Int) 1) (one_enc eStt (fun i => start (s.cavs.el i)))).trans (l38 (fu + 1) d s h5 (s.cavs.len - 1) 1 fu (by omega) (by omega) (by omega))
theorem upDown (v : Int) {r f : Int} (hv : 0 ≤ v ∧ v ≤ 10000000) (hr : 0 ≤ r ∧ r ≤ 100000) (hf : 0 ≤ f ∧ f ≤ 10000) : 0 ≤ v * r * f ∧ v * r * f ≤ v * 1000000000 := by
  have h2 := mulB hr hf
  have h3 := mulB hv (show 0 ≤ r * f ∧ r * f ≤ 1000000000 by omega)
  have h4 : v * (r * f) ≤ v * 1000000000 := Int.mul_le_mul_of_nonneg_left (by omega) hv.1
  rw [Int.mul_assoc]
  omega
theorem stt_eq {a b c d e f : Int} {x : Stt} (h1 : a = x.rad.lo) (h2 : b = x.rad.hi) (h3 : c = x.vol.lo) (h4 : d = x.vol.hi) (h5 : e = x.lost.lo) (h6 : f = x.lost.hi) : [V.int .i64 a, .int .i64 b, .int .i64 c, .int .i64 d, .int .i64 e, .int .i64 f] = eStt x := by
  subst h1 h2 h3 h4 h5 h6; rfl
/-- The specification's 'Move1' is the program's. -/
theorem s56 (s : Site) (i : Nat) (x : Stt) (p q : Span) (hS : SiteF s) (hi : i < s.cavs.len) (hx : SttOk x) (hp : SpanIn p 0 50000) (hf : farB s (s.cavs.el i) p q = false) (hF : 8 < F) :
    E F (d + 3) 56 [.agg (eSite s), .int .i64 (i : Int), .agg (eStt x), .agg (eSpan p), .agg (eSpan q)] = some (.ret (.agg (eStt (move1 s (s.cavs.el i) x p q)))) := by
  obtain ⟨f1, f2⟩ := far_split hf
  obtain ⟨k1, k2, k3, k4, k5, k6⟩ := rates_ok hS hf
  have e58 : E F (d + 2) 58 [.agg (eSite s), .agg [.int .i64 ((s.cavs.el i).rock - p.hi), .int .i64 ((s.cavs.el i).rock - p.lo)]] = some (.ret (.agg [.int .i64 (rateOf s (s.cavs.el i) p).lo, .int .i64 (rateOf s (s.cavs.el i) p).hi])) := s58 F d s ⟨_, _⟩ hS f1 hF
  have e60 : E F (d + 2) 60 [.agg (eSite s), .agg [.int .i64 ((s.cavs.el i).rock - p.hi), .int .i64 ((s.cavs.el i).rock - p.lo)]] = some (.ret (.agg [.int .i64 (fallOf s (s.cavs.el i) p).lo, .int .i64 (fallOf s (s.cavs.el i) p).hi])) := s60 F d s ⟨_, _⟩ hS f1 hF
  have a1 := upDown x.vol.lo (show 0 ≤ x.vol.lo ∧ x.vol.lo ≤ 10000000 by omega) k2 k6
  have a2 := upDown x.vol.hi (show 0 ≤ x.vol.hi ∧ x.vol.hi ≤ 10000000 by omega) k1 k5
  have a3 := upDown x.vol.lo (show 0 ≤ x.vol.lo ∧ x.vol.lo ≤ 10000000 by omega) k1 k5
  have a4 := upDown x.vol.hi (show 0 ≤ x.vol.hi ∧ x.vol.hi ≤ 10000000 by omega) k2 k6
  rw [E_succ, t56]
  simp only [s70 F (d + 1) s i p hS hi hp, e58, e60, s59 F (d + 1) s q hS f2 hF, tkOut_ret, tkAgg_a, tkCons_c, tkInt_i, tkNil_n, decide_true, cond_true,
    s62 F (d + 1) x.vol.lo (rateOf s (s.cavs.el i) p).hi (factorOf s q).hi (by omega) k2 k6, s61 F (d + 1) x.vol.hi (rateOf s (s.cavs.el i) p).lo (factorOf s q).lo (by omega) k1 k5,
    s61 F (d + 1) x.vol.lo (rateOf s (s.cavs.el i) p).lo (factorOf s q).lo (by omega) k1 k5, s62 F (d + 1) x.vol.hi (rateOf s (s.cavs.el i) p).hi (factorOf s q).hi (by omega) k2 k6]
  refine congrArg (fun l => some (Out.ret (V.agg l))) ?_
  refine stt_eq ?_ ?_ ?_ ?_ ?_ ?_
  · rw [wr (by omega)]; rfl
  · rw [wr (by omega)]; rfl
  · rw [wr (by omega)]; show _ = x.vol.lo - shrink _ _ _ _; unfold shrink minI; split <;> split <;> omega
  · rw [wr (by omega)]; show _ = x.vol.hi - shrink _ _ _ _; unfold shrink minI; split <;> split <;> omega
  · rw [wr (by omega)]; show _ = minI (x.lost.lo + shrink _ _ _ _) _; unfold shrink minI; split <;> split <;> split <;> omega
  · rw [wr (by split <;> omega)]; rfl
end Go.Sim.Cr

/-
  The specification's 'Move'; 'Thick'.
-/
namespace Go.Sim.Cr
open Go.Proofs
variable (F d : Nat)
theorem l21 (s : Site) (l : Sl Stt) (y : Day) (hS : SiteF s) (hL : StatesOk s l) (hD : DayOk s y) (hF : 8 < F) : ∀ n i fu, l.len = i + n → n < fu → 1 ≤ i →
    L21x1 (E F (d + 3)) F s l y fu i (i : Int) i (fun j => eStt (mv s l y (min j (i - 1)))) = some (.ret (bif anyF (farAt s y) n i then .tup [noneRow, .bool false] else .tup [sl eStt 6 (moved s l y), .bool true])) := by
  have h5 := hS.cavs5
  have hl := hL.1
  have hp := hD.1.1
  have hw := hD.2.1
  intro n
  induction n with
  | zero =>
    intro i fu h hf hi
    obtain ⟨fu, rfl⟩ : ∃ k, fu = k + 1 := ⟨fu - 1, by omega⟩
    have e : l.len = i := by omega
    rw [L21x1s]
    simp only [Int.ofNat_lt, show ¬ i < l.len by omega, decide_false, cond_false, anyF, moved, outL]
    rw [e]
  | succ n ih =>
    intro i fu h hf hi
    obtain ⟨fu, rfl⟩ : ∃ k, fu = k + 1 := ⟨fu - 1, by omega⟩
    rw [L21x1s]
    have g := s32 F (d + 1) s i (y.press.el i) (y.warm.el i) hS (by omega) (hD.1.2 i (by omega))
    simp only [Int.ofNat_lt, show i < l.len by omega, show i < y.press.len by omega, show i < y.warm.len by omega, decide_true, cond_true, Int.natCast_nonneg, Int.toNat_natCast, anyF, g, tkOut_ret, tkBool_b]
    cases hf1 : farAt s y i with
    | true =>
      simp only [show farB s (s.cavs.el i) (y.press.el i) (y.warm.el i) = true from hf1, cond_true, Bool.true_or]
    | false =>
      simp only [show farB s (s.cavs.el i) (y.press.el i) (y.warm.el i) = false from hf1, cond_false, s56 F d s i (l.el i) (y.press.el i) (y.warm.el i) hS (by omega) (hL.2 i (by omega)) (hD.1.2 i (by omega)) hf1 hF,
        tkOut_ret, tkAgg_a, tkCons_c, tkInt_i, tkNil_n, show (i + 1) * 48 ≤ 140737488355328 by omega, decide_true, cond_true, wrS (show i < 4611686018427387904 by omega), Bool.false_or]
      exact (congrArg (L21x1 (E F (d + 3)) F s l y fu (i + 1) ((i + 1 : Nat) : Int) (i + 1)) (app_enc eStt (mv s l y) hi)).trans (ih (i + 1) fu (by omega) (by omega) (by omega))
/-- The specification's states after a day are the program's. -/
theorem s21 (s : Site) (l : Sl Stt) (y : Day) (hS : SiteF s) (hL : StatesOk s l) (hD : DayOk s y) (hF : 8 < F) :
    E F (d + 4) 21 [.agg (eSite s), sl eStt 6 l, .agg (eDay y)] = some (.ret (moveR s l y)) := by
  have h5 := hS.cavs5
  have h1 := hS.cavs1
  have hl := hL.1
  have hp := hD.1.1
  have hw := hD.2.1
  rw [E_succ, t21]
  obtain ⟨fu, rfl⟩ : ∃ k, F = k + 1 := ⟨F - 1, by omega⟩
  rw [L21x0s]
  obtain ⟨n, hn⟩ : ∃ n, l.len = 1 + n := ⟨l.len - 1, by omega⟩
  have g : E (fu + 1) (d + 3) 32 [.agg (eSite s), .int .i64 0, .agg (eSpan (y.press.el 0)), .agg (eSpan (y.warm.el 0))] = _ := s32 (fu + 1) (d + 1) s 0 (y.press.el 0) (y.warm.el 0) hS (by omega) (hD.1.2 0 (by omega))
  have z : ∀ m : Nat, 0 < m → decide ((0 : Int) < (m : Int)) = true := fun m hm => decide_eq_true (by omega)
  simp only [z l.len (by omega), z y.press.len (by omega), z y.warm.len (by omega), cond_true, g, tkOut_ret, tkBool_b]
  have hc : s.cavs.len = n + 1 := by omega
  unfold moveR farDay
  rw [hc]
  simp only [anyF]
  cases hf1 : farAt s y 0 with
  | true =>
    simp only [show farB s (s.cavs.el 0) (y.press.el 0) (y.warm.el 0) = true from hf1, cond_true, Bool.true_or]
  | false =>
    have e : E (fu + 1) (d + 3) 56 [.agg (eSite s), .int .i64 0, .agg (eStt (l.el 0)), .agg (eSpan (y.press.el 0)), .agg (eSpan (y.warm.el 0))] = _ := s56 (fu + 1) d s 0 (l.el 0) (y.press.el 0) (y.warm.el 0) hS (by omega) (hL.2 0 (by omega)) (hD.1.2 0 (by omega)) hf1 hF
    simp only [show farB s (s.cavs.el 0) (y.press.el 0) (y.warm.el 0) = false from hf1, cond_false, e, tkOut_ret, tkAgg_a, tkCons_c, tkInt_i, tkNil_n, wr1, Bool.false_or]
    exact (congrArg (L21x1 (E (fu + 1) (d + 3)) (fu + 1) s l y fu 1 ((1 : Nat) : Int) 1) (one_enc eStt (mv s l y))).trans (l21 (fu + 1) d s l y hS hL hD hF n 1 fu (by omega) (by omega) (by omega))
end Go.Sim.Cr

/-
  What the evaluator says of these functions (printed by a private program; each row is checked by the kernel).
-/
set_option maxRecDepth 100000
namespace Go.Sim.Cr
open Go.Proofs

theorem t63 (env : Env) (F : Nat) (s : Site) (l : Sl Day) : (evFun Try.prog (cfg F) env 63 [(sl eDay 2 l), (.fn (.func 64) [] [(pSite s)])]) =
  (tkOut (env 95 [(sl eDay 2 l), (.fn (.func 64) [] [(pSite s)])]) none (fun v4 => (tkInt v4 none fun q5 n6 => (bif (decide (q5 = .i64)) then some (.ret (.bool (decide (n6 ≥ (0 : Int)))))
      else none)))
  (fun p4 => (tkIfc p4 none fun t5 x6 => (bif (flatP (.iface t5 x6)) then some (.pan (.iface t5 x6))
      else none)))) := by kernel_rfl

theorem t64 (env : Env) (F : Nat) (s : Site) (d : Day) : (evFun Try.prog (cfg F) env 64 [(.agg (eDay d)), (pSite s)]) =
  (tkOut (env 50 [(.agg (eSite s)), (.agg [(sl eSpan 2 (Day.press d)), (sl eSpan 2 (Day.warm d))])]) none (fun v4 => (tkBool v4 none fun b5 => some (.ret (.bool (!b5)))))
  (fun p4 => (tkIfc p4 none fun t5 x6 => (bif (flatP (.iface t5 x6)) then some (.pan (.iface t5 x6))
      else none)))) := by kernel_rfl

noncomputable def L95x0 (env : Env) (F : Nat) (s : Site) (l : Sl Day) (fu : Nat) (i0 : Int) : Option Out := atLoop Try.prog (cfg F) env 95 [.r, .l, .r, .d] [] fu { tm := tmL 19 0 [(0, (sl eDay 2 l)), (1, (.fn (.func 64) [] [(pSite s)])), (7, (.int .i64 (((Sl.len l) : Nat) : Int))), (8, (.int .i64 i0))], hp := [] }
theorem t95 (env : Env) (F : Nat) (s : Site) (l : Sl Day) : (evFun Try.prog (cfg F) env 95 [(sl eDay 2 l), (.fn (.func 64) [] [(pSite s)])]) =
  (L95x0 env F s l F (0 : Int)) := by kernel_rfl
theorem L95x0s (env : Env) (F : Nat) (s : Site) (l : Sl Day) (fu : Nat) (i0 : Int) : L95x0 env F s l (fu + 1) i0 =
  (bif (decide (i0 < (((Sl.len l) : Nat) : Int))) then (bif (decide ((0 : Int) ≤ i0)) then (bif (decide (i0 < (((Sl.len l) : Nat) : Int))) then (tkOut (env 64 [(.agg [(sl eSpan 2 (Day.press (Sl.el l (Int.toNat i0)))), (sl eSpan 2 (Day.warm (Sl.el l (Int.toNat i0))))]), (pSite s)]) none (fun v6 => (tkBool v6 none fun b7 => (bif b7 then some (.ret (.int .i64 i0))
            else (L95x0 env F s l fu (IntKind.wrap .i64 (i0 + (1 : Int)))))))
        (fun p6 => (tkIfc p6 none fun t7 x8 => (bif (flatP (.iface t7 x8)) then some (.pan (.iface t7 x8))
            else none))))
      else none)
    else none)
  else some (.ret (.int .i64 (-(1 : Int))))) := by kernel_rfl

noncomputable def L1021x0 (env : Env) (F : Nat) (l : Sl Cr.Mark) (fu : Nat) (i0 : Int) : Option Out := atLoop Try.prog (cfg F) env 102 [.r, .l, .r, .d] [] fu { tm := tmL 19 0 [(0, (sl eMark 4 l)), (1, (.fn (.func 66) [] [])), (7, (.int .i64 (((Sl.len l) : Nat) : Int))), (8, (.int .i64 i0))], hp := [] }
theorem t1021 (env : Env) (F : Nat) (l : Sl Cr.Mark) : (evFun Try.prog (cfg F) env 102 [(sl eMark 4 l), (.fn (.func 66) [] [])]) =
  (L1021x0 env F l F (0 : Int)) := by kernel_rfl
theorem L1021x0s (env : Env) (F : Nat) (l : Sl Cr.Mark) (fu : Nat) (i0 : Int) : L1021x0 env F l (fu + 1) i0 =
  (bif (decide (i0 < (((Sl.len l) : Nat) : Int))) then (bif (decide ((0 : Int) ≤ i0)) then (bif (decide (i0 < (((Sl.len l) : Nat) : Int))) then (tkOut (env 66 [(.agg (eMark (Sl.el l (Int.toNat i0))))]) none (fun v5 => (tkBool v5 none fun b6 => (bif b6 then some (.ret (.int .i64 i0))
            else (L1021x0 env F l fu (IntKind.wrap .i64 (i0 + (1 : Int)))))))
        (fun p5 => (tkIfc p5 none fun t6 x7 => (bif (flatP (.iface t6 x7)) then some (.pan (.iface t6 x7))
            else none))))
      else none)
    else none)
  else some (.ret (.int .i64 (-(1 : Int))))) := by kernel_rfl

noncomputable def L1022x0 (env : Env) (F : Nat) (l : Sl Cr.Mark) (fu : Nat) (i0 : Int) : Option Out := atLoop Try.prog (cfg F) env 102 [.r, .l, .r, .d] [] fu { tm := tmL 19 0 [(0, (sl eMark 4 l)), (1, (.fn (.func 67) [] [])), (7, (.int .i64 (((Sl.len l) : Nat) : Int))), (8, (.int .i64 i0))], hp := [] }
theorem t1022 (env : Env) (F : Nat) (l : Sl Cr.Mark) : (evFun Try.prog (cfg F) env 102 [(sl eMark 4 l), (.fn (.func 67) [] [])]) =
  (L1022x0 env F l F (0 : Int)) := by kernel_rfl
theorem L1022x0s (env : Env) (F : Nat) (l : Sl Cr.Mark) (fu : Nat) (i0 : Int) : L1022x0 env F l (fu + 1) i0 =
  (bif (decide (i0 < (((Sl.len l) : Nat) : Int))) then (bif (decide ((0 : Int) ≤ i0)) then (bif (decide (i0 < (((Sl.len l) : Nat) : Int))) then (tkOut (env 67 [(.agg (eMark (Sl.el l (Int.toNat i0))))]) none (fun v5 => (tkBool v5 none fun b6 => (bif b6 then some (.ret (.int .i64 i0))
            else (L1022x0 env F l fu (IntKind.wrap .i64 (i0 + (1 : Int)))))))
        (fun p5 => (tkIfc p5 none fun t6 x7 => (bif (flatP (.iface t6 x7)) then some (.pan (.iface t6 x7))
            else none))))
      else none)
    else none)
  else some (.ret (.int .i64 (-(1 : Int))))) := by kernel_rfl

noncomputable def L1023x0 (env : Env) (F : Nat) (fu : Nat) : Option Out := atLoop Try.prog (cfg F) env 102 [.r, .l, .r, .d] [] fu { tm := tmL 19 0 [(0, (.row true 0 0 (fun u3 => []))), (1, (.fn (.func 66) [] [])), (7, (.int .i64 ((0 : Nat) : Int))), (8, (.int .i64 (0 : Int)))], hp := [] }
theorem t1023 (env : Env) (F : Nat) : (evFun Try.prog (cfg F) env 102 [(.row true 0 0 (fun u2 => [])), (.fn (.func 66) [] [])]) =
  (L1023x0 env F F) := by kernel_rfl
theorem L1023x0s (env : Env) (F : Nat) (fu : Nat) : L1023x0 env F (fu + 1) =
  some (.ret (.int .i64 (-(1 : Int)))) := by kernel_rfl

noncomputable def L1024x0 (env : Env) (F : Nat) (fu : Nat) : Option Out := atLoop Try.prog (cfg F) env 102 [.r, .l, .r, .d] [] fu { tm := tmL 19 0 [(0, (.row true 0 0 (fun u3 => []))), (1, (.fn (.func 67) [] [])), (7, (.int .i64 ((0 : Nat) : Int))), (8, (.int .i64 (0 : Int)))], hp := [] }
theorem t1024 (env : Env) (F : Nat) : (evFun Try.prog (cfg F) env 102 [(.row true 0 0 (fun u2 => [])), (.fn (.func 67) [] [])]) =
  (L1024x0 env F F) := by kernel_rfl
theorem L1024x0s (env : Env) (F : Nat) (fu : Nat) : L1024x0 env F (fu + 1) =
  some (.ret (.int .i64 (-(1 : Int)))) := by kernel_rfl

noncomputable def L97x0 (env : Env) (F : Nat) (s : Site) (y : Day) (B : V) (C : V) (fu : Nat) : Option Out := atLoop Try.prog (cfg F) env 97 [.r, .r, .l, .r, .d] [] fu { tm := tmL 64 0 [(0, (.rptr 1 5 (fun u7 => [(pSite s), (sl eSpan 2 (Day.press y)), (sl eSpan 2 (Day.warm y)), B, C]) 0 0)), (3, (.row true 0 0 (fun u7 => []))), (14, (sl eCav 11 (Site.cavs s))), (15, (.int .i64 (((Sl.len (Site.cavs s)) : Nat) : Int))), (16, (.int .i64 (0 : Int)))], hp := [] }
noncomputable def L97x1 (env : Env) (F : Nat) (s : Site) (y : Day) (B : V) (C : V) (fu : Nat) (k0 : Nat) (i1 : Int) (k2 : Nat) (g3 : Nat → List V) : Option Out := atLoop Try.prog (cfg F) env 97 [.r, .r, .l, .r, .d] [] fu { tm := tmL 64 0 [(0, (.rptr 1 5 (fun u11 => [(pSite s), (sl eSpan 2 (Day.press y)), (sl eSpan 2 (Day.warm y)), B, C]) 0 0)), (3, (.osl 0 0 k0)), (14, (sl eCav 11 (Site.cavs s))), (15, (.int .i64 (((Sl.len (Site.cavs s)) : Nat) : Int))), (16, (.int .i64 i1))], hp := [(.arr 124 4 k2 g3 true)] }
theorem t97 (env : Env) (F : Nat) (s : Site) (y : Day) (B : V) (C : V) : (evFun Try.prog (cfg F) env 97 [(.rptr 1 5 (fun u6 => [(pSite s), (sl eSpan 2 (Day.press y)), (sl eSpan 2 (Day.warm y)), B, C]) 0 0)]) =
  (L97x0 env F s y B C F) := by kernel_rfl
theorem L97x0s (env : Env) (F : Nat) (s : Site) (y : Day) (B : V) (C : V) (fu : Nat) : L97x0 env F s y B C (fu + 1) =
  (bif (decide ((0 : Int) < (((Sl.len (Site.cavs s)) : Nat) : Int))) then (bif (decide ((0 : Int) < (((Sl.len (Site.cavs s)) : Nat) : Int))) then (bif (decide ((0 : Int) < (((Sl.len (Day.press y)) : Nat) : Int))) then (bif (decide ((Span.lo (Sl.el (Day.press y) 0)) < (Span.lo (Cav.gate (Sl.el (Site.cavs s) 0))))) then (bif (decide ((Span.hi (Sl.el (Day.press y) 0)) < (Span.lo (Cav.gate (Sl.el (Site.cavs s) 0))))) then (L97x1 env F s y B C fu 1 (IntKind.wrap .i64 ((0 : Int) + (1 : Int))) 1 (fun u7 => [(.int .i64 (0 : Int)), (.int .i64 (0 : Int)), (.bool true), (.bool true)]))
          else (L97x1 env F s y B C fu 1 (IntKind.wrap .i64 ((0 : Int) + (1 : Int))) 1 (fun u7 => [(.int .i64 (0 : Int)), (.int .i64 (0 : Int)), (.bool true), (.bool (decide ((Span.lo (Sl.el (Day.press y) 0)) > (Span.hi (Cav.gate (Sl.el (Site.cavs s) 0))))))])))
        else (bif (decide ((Span.hi (Sl.el (Day.press y) 0)) < (Span.lo (Cav.gate (Sl.el (Site.cavs s) 0))))) then (L97x1 env F s y B C fu 1 (IntKind.wrap .i64 ((0 : Int) + (1 : Int))) 1 (fun u7 => [(.int .i64 (0 : Int)), (.int .i64 (0 : Int)), (.bool (decide ((Span.hi (Sl.el (Day.press y) 0)) > (Span.hi (Cav.gate (Sl.el (Site.cavs s) 0)))))), (.bool true)]))
          else (L97x1 env F s y B C fu 1 (IntKind.wrap .i64 ((0 : Int) + (1 : Int))) 1 (fun u7 => [(.int .i64 (0 : Int)), (.int .i64 (0 : Int)), (.bool (decide ((Span.hi (Sl.el (Day.press y) 0)) > (Span.hi (Cav.gate (Sl.el (Site.cavs s) 0)))))), (.bool (decide ((Span.lo (Sl.el (Day.press y) 0)) > (Span.hi (Cav.gate (Sl.el (Site.cavs s) 0))))))]))))
      else none)
    else none)
  else some (.ret (.row true 0 0 (fun u7 => [])))) := by kernel_rfl
theorem L97x1s (env : Env) (F : Nat) (s : Site) (y : Day) (B : V) (C : V) (fu : Nat) (k0 : Nat) (i1 : Int) (k2 : Nat) (g3 : Nat → List V) : L97x1 env F s y B C (fu + 1) k0 i1 k2 g3 =
  (bif (decide (i1 < (((Sl.len (Site.cavs s)) : Nat) : Int))) then (bif (decide ((0 : Int) ≤ i1)) then (bif (decide (i1 < (((Sl.len (Site.cavs s)) : Nat) : Int))) then (bif (decide ((0 : Int) ≤ i1)) then (bif (decide (i1 < (((Sl.len (Day.press y)) : Nat) : Int))) then (bif (decide ((Span.lo (Sl.el (Day.press y) (Int.toNat i1))) < (Span.lo (Cav.gate (Sl.el (Site.cavs s) (Int.toNat i1)))))) then (bif (decide ((Span.hi (Sl.el (Day.press y) (Int.toNat i1))) < (Span.lo (Cav.gate (Sl.el (Site.cavs s) (Int.toNat i1)))))) then (bif (decide (((k0 + 1) * 24) ≤ 140737488355328)) then (L97x1 env F s y B C fu (k0 + 1) (IntKind.wrap .i64 (i1 + (1 : Int))) (k0 + 1) (appGet k0 g3 (fun u11 => [(.int .i64 i1), (.int .i64 (0 : Int)), (.bool true), (.bool true)])))
                else none)
              else (bif (decide (((k0 + 1) * 24) ≤ 140737488355328)) then (L97x1 env F s y B C fu (k0 + 1) (IntKind.wrap .i64 (i1 + (1 : Int))) (k0 + 1) (appGet k0 g3 (fun u11 => [(.int .i64 i1), (.int .i64 (0 : Int)), (.bool true), (.bool (decide ((Span.lo (Sl.el (Day.press y) (Int.toNat i1))) > (Span.hi (Cav.gate (Sl.el (Site.cavs s) (Int.toNat i1)))))))])))
                else none))
            else (bif (decide ((Span.hi (Sl.el (Day.press y) (Int.toNat i1))) < (Span.lo (Cav.gate (Sl.el (Site.cavs s) (Int.toNat i1)))))) then (bif (decide (((k0 + 1) * 24) ≤ 140737488355328)) then (L97x1 env F s y B C fu (k0 + 1) (IntKind.wrap .i64 (i1 + (1 : Int))) (k0 + 1) (appGet k0 g3 (fun u11 => [(.int .i64 i1), (.int .i64 (0 : Int)), (.bool (decide ((Span.hi (Sl.el (Day.press y) (Int.toNat i1))) > (Span.hi (Cav.gate (Sl.el (Site.cavs s) (Int.toNat i1))))))), (.bool true)])))
                else none)
              else (bif (decide (((k0 + 1) * 24) ≤ 140737488355328)) then (L97x1 env F s y B C fu (k0 + 1) (IntKind.wrap .i64 (i1 + (1 : Int))) (k0 + 1) (appGet k0 g3 (fun u11 => [(.int .i64 i1), (.int .i64 (0 : Int)), (.bool (decide ((Span.hi (Sl.el (Day.press y) (Int.toNat i1))) > (Span.hi (Cav.gate (Sl.el (Site.cavs s) (Int.toNat i1))))))), (.bool (decide ((Span.lo (Sl.el (Day.press y) (Int.toNat i1))) > (Span.hi (Cav.gate (Sl.el (Site.cavs s) (Int.toNat i1)))))))])))
                else none)))
          else none)
        else none)
      else none)
    else none)
  else some (.ret (.row false k0 4 (fun u11 => (g3 u11))))) := by kernel_rfl

noncomputable def L99x0 (env : Env) (F : Nat) (s : Site) (y : Day) (B : V) (C : V) (fu : Nat) (b0 : Bool) (k1 : Nat) (k2 : Nat) (g3 : Nat → List V) (i4 : Int) : Option Out := atLoop Try.prog (cfg F) env 99 [.r, .r, .l, .r, .d] [] fu { tm := tmL 46 0 [(0, (.rptr 1 5 (fun u12 => [(pSite s), (sl eSpan 2 (Day.press y)), (sl eSpan 2 (Day.warm y)), B, C]) 0 0)), (3, (.row true 0 0 (fun u12 => []))), (10, (.row b0 k1 k2 g3)), (11, (.int .i64 i4)), (12, (.int .i64 (0 : Int)))], hp := [] }
noncomputable def L99x1 (env : Env) (F : Nat) (s : Site) (y : Day) (B : V) (C : V) (fu : Nat) (k0 : Nat) (b1 : Bool) (k2 : Nat) (k3 : Nat) (g4 : Nat → List V) (i5 : Int) (i6 : Int) (k7 : Nat) (g8 : Nat → List V) : Option Out := atLoop Try.prog (cfg F) env 99 [.r, .r, .l, .r, .d] [] fu { tm := tmL 46 0 [(0, (.rptr 1 5 (fun u16 => [(pSite s), (sl eSpan 2 (Day.press y)), (sl eSpan 2 (Day.warm y)), B, C]) 0 0)), (3, (.osl 0 0 k0)), (10, (.row b1 k2 k3 g4)), (11, (.int .i64 i5)), (12, (.int .i64 i6))], hp := [(.arr 124 4 k7 g8 true)] }
theorem t99 (env : Env) (F : Nat) (s : Site) (y : Day) (B : V) (C : V) : (evFun Try.prog (cfg F) env 99 [(.rptr 1 5 (fun u6 => [(pSite s), (sl eSpan 2 (Day.press y)), (sl eSpan 2 (Day.warm y)), B, C]) 0 0)]) =
  (tkRow C none fun nl6 n7 wd8 g9 => (L99x0 env F s y B C F nl6 n7 wd8 g9 ((n7 : Nat) : Int))) := by kernel_rfl
theorem L99x0s (env : Env) (F : Nat) (s : Site) (y : Day) (B : V) (C : V) (fu : Nat) (b0 : Bool) (k1 : Nat) (k2 : Nat) (g3 : Nat → List V) (i4 : Int) : L99x0 env F s y B C (fu + 1) b0 k1 k2 g3 i4 =
  (bif (decide ((0 : Int) < i4)) then (bif (k2 == 6) then (bif (decide ((0 : Int) < ((k1 : Nat) : Int))) then (bif ((List.length (List.take 6 (g3 0))) == 6) then (tkCons (List.take 6 (g3 0)) none fun v12 r13 => (tkInt v12 none fun q14 n15 => (tkCons r13 none fun v16 r17 => (tkInt v16 none fun q18 n19 => (tkCons r17 none fun v20 r21 => (tkInt v20 none fun q22 n23 => (tkCons r21 none fun v24 r25 => (tkInt v24 none fun q26 n27 => (tkCons r25 none fun v28 r29 => (tkInt v28 none fun q30 n31 => (tkCons r29 none fun v32 r33 => (tkInt v32 none fun q34 n35 => (tkNil r33 none ((bif (decide ((0 : Int) < (((Sl.len (Site.cavs s)) : Nat) : Int))) then (bif (decide (q22 = .i64)) then (bif (decide (q26 = .i64)) then (L99x1 env F s y B C fu 1 b0 k1 k2 g3 i4 (IntKind.wrap .i64 ((0 : Int) + (1 : Int))) 1 (fun u36 => [(.int .i64 (0 : Int)), (.int .i64 (0 : Int)), (.bool (decide (n23 < (Cav.floor (Sl.el (Site.cavs s) 0))))), (.bool (decide (n27 < (Cav.floor (Sl.el (Site.cavs s) 0)))))]))
                                        else none)
                                      else none)
                                    else none)))))))))))))))
        else none)
      else none)
    else none)
  else some (.ret (.row true 0 0 (fun u12 => [])))) := by kernel_rfl
theorem L99x1s (env : Env) (F : Nat) (s : Site) (y : Day) (B : V) (C : V) (fu : Nat) (k0 : Nat) (b1 : Bool) (k2 : Nat) (k3 : Nat) (g4 : Nat → List V) (i5 : Int) (i6 : Int) (k7 : Nat) (g8 : Nat → List V) : L99x1 env F s y B C (fu + 1) k0 b1 k2 k3 g4 i5 i6 k7 g8 =
  (bif (decide (i6 < i5)) then (bif (k3 == 6) then (bif (decide ((0 : Int) ≤ i6)) then (bif (decide (i6 < ((k2 : Nat) : Int))) then (bif ((List.length (List.take 6 (g4 (Int.toNat i6)))) == 6) then (tkCons (List.take 6 (g4 (Int.toNat i6))) none fun v16 r17 => (tkInt v16 none fun q18 n19 => (tkCons r17 none fun v20 r21 => (tkInt v20 none fun q22 n23 => (tkCons r21 none fun v24 r25 => (tkInt v24 none fun q26 n27 => (tkCons r25 none fun v28 r29 => (tkInt v28 none fun q30 n31 => (tkCons r29 none fun v32 r33 => (tkInt v32 none fun q34 n35 => (tkCons r33 none fun v36 r37 => (tkInt v36 none fun q38 n39 => (tkNil r37 none ((bif (decide ((0 : Int) ≤ i6)) then (bif (decide (i6 < (((Sl.len (Site.cavs s)) : Nat) : Int))) then (bif (decide (q26 = .i64)) then (bif (decide (q30 = .i64)) then (bif (decide (((k0 + 1) * 24) ≤ 140737488355328)) then (L99x1 env F s y B C fu (k0 + 1) b1 k2 k3 g4 i5 (IntKind.wrap .i64 (i6 + (1 : Int))) (k0 + 1) (appGet k0 g8 (fun u40 => [(.int .i64 i6), (.int .i64 (0 : Int)), (.bool (decide (n27 < (Cav.floor (Sl.el (Site.cavs s) (Int.toNat i6)))))), (.bool (decide (n31 < (Cav.floor (Sl.el (Site.cavs s) (Int.toNat i6))))))])))
                                              else none)
                                            else none)
                                          else none)
                                        else none)
                                      else none)))))))))))))))
          else none)
        else none)
      else none)
    else none)
  else some (.ret (.row false k0 4 (fun u16 => (g8 u16))))) := by kernel_rfl

noncomputable def L101x0 (env : Env) (F : Nat) (s : Site) (y : Day) (B : V) (C : V) (fu : Nat) : Option Out := atLoop Try.prog (cfg F) env 101 [.r, .r, .r, .l, .r, .d] [] fu { tm := tmL 56 0 [(0, (.rptr 1 5 (fun u7 => [(pSite s), (sl eSpan 2 (Day.press y)), (sl eSpan 2 (Day.warm y)), B, C]) 0 0)), (3, (.row true 0 0 (fun u7 => []))), (19, (sl eHouse 3 (Site.houses s))), (20, (.int .i64 (((Sl.len (Site.houses s)) : Nat) : Int))), (21, (.int .i64 (0 : Int)))], hp := [] }
noncomputable def L101x1 (env : Env) (F : Nat) (s : Site) (y : Day) (B : V) (C : V) (fu : Nat) (k0 : Nat) (i1 : Int) (k2 : Nat) (g3 : Nat → List V) : Option Out := atLoop Try.prog (cfg F) env 101 [.r, .r, .r, .l, .r, .d] [] fu { tm := tmL 56 0 [(0, (.rptr 1 5 (fun u11 => [(pSite s), (sl eSpan 2 (Day.press y)), (sl eSpan 2 (Day.warm y)), B, C]) 0 0)), (3, (.osl 0 0 k0)), (19, (sl eHouse 3 (Site.houses s))), (20, (.int .i64 (((Sl.len (Site.houses s)) : Nat) : Int))), (21, (.int .i64 i1))], hp := [(.arr 124 4 k2 g3 true)] }
theorem t101 (env : Env) (F : Nat) (s : Site) (y : Day) (B : V) (C : V) : (evFun Try.prog (cfg F) env 101 [(.rptr 1 5 (fun u6 => [(pSite s), (sl eSpan 2 (Day.press y)), (sl eSpan 2 (Day.warm y)), B, C]) 0 0)]) =
  (tkRow C none fun nl6 n7 wd8 g9 => (bif nl6 then some (.ret (.row true 0 0 (fun u10 => [])))
    else (L101x0 env F s y B C F))) := by kernel_rfl
theorem L101x0s (env : Env) (F : Nat) (s : Site) (y : Day) (B : V) (C : V) (fu : Nat) : L101x0 env F s y B C (fu + 1) =
  (bif (decide ((0 : Int) < (((Sl.len (Site.houses s)) : Nat) : Int))) then (bif (decide ((0 : Int) < (((Sl.len (Site.houses s)) : Nat) : Int))) then (tkRow C none fun nl7 n8 wd9 g10 => (tkOut (env 53 [(pSite s), (.row nl7 n8 wd9 g10), (.int .i64 (House.x (Sl.el (Site.houses s) 0))), (.int .i64 (House.y (Sl.el (Site.houses s) 0)))]) none (fun v11 => (tkAgg v11 none fun l12 => (tkCons l12 none fun v13 r14 => (tkInt v13 none fun q15 n16 => (tkCons r14 none fun v17 r18 => (tkInt v17 none fun q19 n20 => (tkNil r18 none ((bif (decide (q19 = .i64)) then (bif (decide (q15 = .i64)) then (L101x1 env F s y B C fu 1 (IntKind.wrap .i64 ((0 : Int) + (1 : Int))) 1 (fun u21 => [(.int .i64 (0 : Int)), (.int .i64 (0 : Int)), (.bool (decide (n20 > (House.most (Sl.el (Site.houses s) 0))))), (.bool (decide (n16 > (House.most (Sl.el (Site.houses s) 0)))))]))
                        else none)
                      else none)))))))))
        (fun p11 => (tkIfc p11 none fun t12 x13 => (bif (flatP (.iface t12 x13)) then some (.pan (.iface t12 x13))
            else none)))))
    else none)
  else some (.ret (.row true 0 0 (fun u7 => [])))) := by kernel_rfl
theorem L101x1s (env : Env) (F : Nat) (s : Site) (y : Day) (B : V) (C : V) (fu : Nat) (k0 : Nat) (i1 : Int) (k2 : Nat) (g3 : Nat → List V) : L101x1 env F s y B C (fu + 1) k0 i1 k2 g3 =
  (bif (decide (i1 < (((Sl.len (Site.houses s)) : Nat) : Int))) then (bif (decide ((0 : Int) ≤ i1)) then (bif (decide (i1 < (((Sl.len (Site.houses s)) : Nat) : Int))) then (tkRow C none fun nl11 n12 wd13 g14 => (tkOut (env 53 [(pSite s), (.row nl11 n12 wd13 g14), (.int .i64 (House.x (Sl.el (Site.houses s) (Int.toNat i1)))), (.int .i64 (House.y (Sl.el (Site.houses s) (Int.toNat i1))))]) none (fun v15 => (tkAgg v15 none fun l16 => (tkCons l16 none fun v17 r18 => (tkInt v17 none fun q19 n20 => (tkCons r18 none fun v21 r22 => (tkInt v21 none fun q23 n24 => (tkNil r22 none ((bif (decide (q23 = .i64)) then (bif (decide (q19 = .i64)) then (bif (decide (((k0 + 1) * 24) ≤ 140737488355328)) then (L101x1 env F s y B C fu (k0 + 1) (IntKind.wrap .i64 (i1 + (1 : Int))) (k0 + 1) (appGet k0 g3 (fun u25 => [(.int .i64 i1), (.int .i64 (0 : Int)), (.bool (decide (n24 > (House.most (Sl.el (Site.houses s) (Int.toNat i1)))))), (.bool (decide (n20 > (House.most (Sl.el (Site.houses s) (Int.toNat i1))))))])))
                            else none)
                          else none)
                        else none)))))))))
          (fun p15 => (tkIfc p15 none fun t16 x17 => (bif (flatP (.iface t16 x17)) then some (.pan (.iface t16 x17))
              else none)))))
      else none)
    else none)
  else some (.ret (.row false k0 4 (fun u11 => (g3 u11))))) := by kernel_rfl

noncomputable def L98x0 (env : Env) (F : Nat) (s : Site) (y : Day) (B : V) (C : V) (fu : Nat) (b0 : Bool) (k1 : Nat) (k2 : Nat) (g3 : Nat → List V) (i4 : Int) : Option Out := atLoop Try.prog (cfg F) env 98 [.r, .r, .l, .r, .d] [] fu { tm := tmL 71 0 [(0, (.rptr 1 5 (fun u12 => [(pSite s), (sl eSpan 2 (Day.press y)), (sl eSpan 2 (Day.warm y)), B, C]) 0 0)), (3, (.row true 0 0 (fun u12 => []))), (11, (.row b0 k1 k2 g3)), (12, (.int .i64 i4)), (13, (.int .i64 (0 : Int)))], hp := [] }
noncomputable def L98x1 (env : Env) (F : Nat) (s : Site) (y : Day) (B : V) (C : V) (fu : Nat) (k0 : Nat) (b1 : Bool) (k2 : Nat) (k3 : Nat) (g4 : Nat → List V) (i5 : Int) (i6 : Int) (k7 : Nat) (g8 : Nat → List V) : Option Out := atLoop Try.prog (cfg F) env 98 [.r, .r, .l, .r, .d] [] fu { tm := tmL 71 0 [(0, (.rptr 1 5 (fun u16 => [(pSite s), (sl eSpan 2 (Day.press y)), (sl eSpan 2 (Day.warm y)), B, C]) 0 0)), (3, (.osl 0 0 k0)), (11, (.row b1 k2 k3 g4)), (12, (.int .i64 i5)), (13, (.int .i64 i6))], hp := [(.arr 124 4 k7 g8 true)] }
theorem t98 (env : Env) (F : Nat) (s : Site) (y : Day) (B : V) (C : V) : (evFun Try.prog (cfg F) env 98 [(.rptr 1 5 (fun u6 => [(pSite s), (sl eSpan 2 (Day.press y)), (sl eSpan 2 (Day.warm y)), B, C]) 0 0)]) =
  (tkRow B none fun nl6 n7 wd8 g9 => (L98x0 env F s y B C F nl6 n7 wd8 g9 ((n7 : Nat) : Int))) := by kernel_rfl
theorem L98x0s (env : Env) (F : Nat) (s : Site) (y : Day) (B : V) (C : V) (fu : Nat) (b0 : Bool) (k1 : Nat) (k2 : Nat) (g3 : Nat → List V) (i4 : Int) : L98x0 env F s y B C (fu + 1) b0 k1 k2 g3 i4 =
  (bif (decide ((0 : Int) < i4)) then (bif (k2 == 2) then (bif (decide ((0 : Int) < ((k1 : Nat) : Int))) then (bif ((List.length (List.take 2 (g3 0))) == 2) then (tkCons (List.take 2 (g3 0)) none fun v12 r13 => (tkInt v12 none fun q14 n15 => (tkCons r13 none fun v16 r17 => (tkInt v16 none fun q18 n19 => (tkNil r17 none ((bif (decide ((0 : Int) < (((Sl.len (Day.press y)) : Nat) : Int))) then (bif (decide ((0 : Int) < (((Sl.len (Site.cavs s)) : Nat) : Int))) then (bif (decide (.i64 = q14)) then (bif (decide (q18 = .i64)) then (bif (decide (.i64 = q18)) then (bif (decide (q14 = .i64)) then (L98x1 env F s y B C fu 1 b0 k1 k2 g3 i4 (IntKind.wrap .i64 ((0 : Int) + (1 : Int))) 1 (fun u20 => [(.int .i64 (0 : Int)), (.int .i64 (0 : Int)), (.bool (decide ((if (IntKind.wrap .i64 ((Span.hi (Sl.el (Day.press y) 0)) - n15)) < (IntKind.wrap q18 (n19 - (Span.lo (Sl.el (Day.press y) 0)))) then (IntKind.wrap q18 (n19 - (Span.lo (Sl.el (Day.press y) 0)))) else (IntKind.wrap .i64 ((Span.hi (Sl.el (Day.press y) 0)) - n15))) > (Cav.change (Sl.el (Site.cavs s) 0))))), (.bool (decide ((if (IntKind.wrap .i64 ((Span.lo (Sl.el (Day.press y) 0)) - n19)) < (IntKind.wrap q14 (n15 - (Span.hi (Sl.el (Day.press y) 0)))) then (IntKind.wrap q14 (n15 - (Span.hi (Sl.el (Day.press y) 0)))) else (IntKind.wrap .i64 ((Span.lo (Sl.el (Day.press y) 0)) - n19))) > (Cav.change (Sl.el (Site.cavs s) 0)))))]))
                              else none)
                            else none)
                          else none)
                        else none)
                      else none)
                    else none)))))))
        else none)
      else none)
    else none)
  else some (.ret (.row true 0 0 (fun u12 => [])))) := by kernel_rfl
theorem L98x1s (env : Env) (F : Nat) (s : Site) (y : Day) (B : V) (C : V) (fu : Nat) (k0 : Nat) (b1 : Bool) (k2 : Nat) (k3 : Nat) (g4 : Nat → List V) (i5 : Int) (i6 : Int) (k7 : Nat) (g8 : Nat → List V) : L98x1 env F s y B C (fu + 1) k0 b1 k2 k3 g4 i5 i6 k7 g8 =
  (bif (decide (i6 < i5)) then (bif (k3 == 2) then (bif (decide ((0 : Int) ≤ i6)) then (bif (decide (i6 < ((k2 : Nat) : Int))) then (bif ((List.length (List.take 2 (g4 (Int.toNat i6)))) == 2) then (tkCons (List.take 2 (g4 (Int.toNat i6))) none fun v16 r17 => (tkInt v16 none fun q18 n19 => (tkCons r17 none fun v20 r21 => (tkInt v20 none fun q22 n23 => (tkNil r21 none ((bif (decide ((0 : Int) ≤ i6)) then (bif (decide (i6 < (((Sl.len (Day.press y)) : Nat) : Int))) then (bif (decide ((0 : Int) ≤ i6)) then (bif (decide (i6 < (((Sl.len (Site.cavs s)) : Nat) : Int))) then (bif (decide (.i64 = q18)) then (bif (decide (q22 = .i64)) then (bif (decide (.i64 = q22)) then (bif (decide (q18 = .i64)) then (bif (decide (((k0 + 1) * 24) ≤ 140737488355328)) then (L98x1 env F s y B C fu (k0 + 1) b1 k2 k3 g4 i5 (IntKind.wrap .i64 (i6 + (1 : Int))) (k0 + 1) (appGet k0 g8 (fun u24 => [(.int .i64 i6), (.int .i64 (0 : Int)), (.bool (decide ((if (IntKind.wrap .i64 ((Span.hi (Sl.el (Day.press y) (Int.toNat i6))) - n19)) < (IntKind.wrap q22 (n23 - (Span.lo (Sl.el (Day.press y) (Int.toNat i6))))) then (IntKind.wrap q22 (n23 - (Span.lo (Sl.el (Day.press y) (Int.toNat i6))))) else (IntKind.wrap .i64 ((Span.hi (Sl.el (Day.press y) (Int.toNat i6))) - n19))) > (Cav.change (Sl.el (Site.cavs s) (Int.toNat i6)))))), (.bool (decide ((if (IntKind.wrap .i64 ((Span.lo (Sl.el (Day.press y) (Int.toNat i6))) - n23)) < (IntKind.wrap q18 (n19 - (Span.hi (Sl.el (Day.press y) (Int.toNat i6))))) then (IntKind.wrap q18 (n19 - (Span.hi (Sl.el (Day.press y) (Int.toNat i6))))) else (IntKind.wrap .i64 ((Span.lo (Sl.el (Day.press y) (Int.toNat i6))) - n23))) > (Cav.change (Sl.el (Site.cavs s) (Int.toNat i6))))))])))
                                      else none)
                                    else none)
                                  else none)
                                else none)
                              else none)
                            else none)
                          else none)
                        else none)
                      else none)))))))
          else none)
        else none)
      else none)
    else none)
  else some (.ret (.row false k0 4 (fun u16 => (g8 u16))))) := by kernel_rfl

noncomputable def L96x0 (env : Env) (F : Nat) (s : Site) (y : Day) (B : V) (C : V) (fu : Nat) : Option Out := atLoop Try.prog (cfg F) env 96 [.r, .r, .l, .r, .d] [] fu { tm := tmL 123 0 [(0, (.rptr 1 5 (fun u7 => [(pSite s), (sl eSpan 2 (Day.press y)), (sl eSpan 2 (Day.warm y)), B, C]) 0 0)), (3, (.row true 0 0 (fun u7 => []))), (16, (sl eCav 11 (Site.cavs s))), (17, (.int .i64 (((Sl.len (Site.cavs s)) : Nat) : Int))), (18, (.int .i64 (0 : Int)))], hp := [] }
noncomputable def L96x1 (env : Env) (F : Nat) (s : Site) (y : Day) (B : V) (C : V) (fu : Nat) (k0 : Nat) (i1 : Int) (k2 : Nat) (g3 : Nat → List V) : Option Out := atLoop Try.prog (cfg F) env 96 [.r, .r, .l, .r, .d] [] fu { tm := tmL 123 0 [(0, (.rptr 1 5 (fun u11 => [(pSite s), (sl eSpan 2 (Day.press y)), (sl eSpan 2 (Day.warm y)), B, C]) 0 0)), (3, (.osl 0 0 k0)), (16, (sl eCav 11 (Site.cavs s))), (17, (.int .i64 (((Sl.len (Site.cavs s)) : Nat) : Int))), (18, (.int .i64 i1))], hp := [(.arr 124 4 k2 g3 true)] }
theorem t96 (env : Env) (F : Nat) (s : Site) (y : Day) (B : V) (C : V) : (evFun Try.prog (cfg F) env 96 [(.rptr 1 5 (fun u6 => [(pSite s), (sl eSpan 2 (Day.press y)), (sl eSpan 2 (Day.warm y)), B, C]) 0 0)]) =
  (L96x0 env F s y B C F) := by kernel_rfl
theorem L96x0s (env : Env) (F : Nat) (s : Site) (y : Day) (B : V) (C : V) (fu : Nat) : L96x0 env F s y B C (fu + 1) =
  (bif (decide ((0 : Int) < (((Sl.len (Site.cavs s)) : Nat) : Int))) then (bif (decide ((0 : Int) < (((Sl.len (Site.cavs s)) : Nat) : Int))) then (bif (decide ((0 : Int) < (((Sl.len (Day.press y)) : Nat) : Int))) then (bif (decide ((0 : Int) < (((Sl.len (Day.warm y)) : Nat) : Int))) then (bif (decide ((Span.hi (Sl.el (Day.press y) 0)) > (Cav.rock (Sl.el (Site.cavs s) 0)))) then (L96x1 env F s y B C fu 1 (IntKind.wrap .i64 ((0 : Int) + (1 : Int))) 1 (fun u7 => [(.int .i64 (0 : Int)), (.int .i64 (0 : Int)), (.bool true), (.bool false)]))
          else (bif (decide ((0 : Int) ≤ (IntKind.wrap .i64 ((((Sl.len (Site.rows s)) : Nat) : Int) - (1 : Int))))) then (bif (decide ((IntKind.wrap .i64 ((((Sl.len (Site.rows s)) : Nat) : Int) - (1 : Int))) < (((Sl.len (Site.rows s)) : Nat) : Int))) then (bif (decide ((IntKind.wrap .i64 ((Cav.rock (Sl.el (Site.cavs s) 0)) - (Span.lo (Sl.el (Day.press y) 0)))) > (Row.deficit (Sl.el (Site.rows s) (Int.toNat (IntKind.wrap .i64 ((((Sl.len (Site.rows s)) : Nat) : Int) - (1 : Int)))))))) then (L96x1 env F s y B C fu 1 (IntKind.wrap .i64 ((0 : Int) + (1 : Int))) 1 (fun u7 => [(.int .i64 (0 : Int)), (.int .i64 (0 : Int)), (.bool true), (.bool false)]))
                else (bif (decide ((0 : Int) < (((Sl.len (Site.heats s)) : Nat) : Int))) then (bif (decide ((Span.lo (Sl.el (Day.warm y) 0)) < (Heat.warmth (Sl.el (Site.heats s) 0)))) then (L96x1 env F s y B C fu 1 (IntKind.wrap .i64 ((0 : Int) + (1 : Int))) 1 (fun u7 => [(.int .i64 (0 : Int)), (.int .i64 (0 : Int)), (.bool true), (.bool false)]))
                    else (bif (decide ((0 : Int) ≤ (IntKind.wrap .i64 ((((Sl.len (Site.heats s)) : Nat) : Int) - (1 : Int))))) then (bif (decide ((IntKind.wrap .i64 ((((Sl.len (Site.heats s)) : Nat) : Int) - (1 : Int))) < (((Sl.len (Site.heats s)) : Nat) : Int))) then (L96x1 env F s y B C fu 1 (IntKind.wrap .i64 ((0 : Int) + (1 : Int))) 1 (fun u7 => [(.int .i64 (0 : Int)), (.int .i64 (0 : Int)), (.bool (decide ((Span.hi (Sl.el (Day.warm y) 0)) > (Heat.warmth (Sl.el (Site.heats s) (Int.toNat (IntKind.wrap .i64 ((((Sl.len (Site.heats s)) : Nat) : Int) - (1 : Int))))))))), (.bool false)]))
                        else none)
                      else none))
                  else none))
              else none)
            else none))
        else none)
      else none)
    else none)
  else some (.ret (.row true 0 0 (fun u7 => [])))) := by kernel_rfl
theorem L96x1s (env : Env) (F : Nat) (s : Site) (y : Day) (B : V) (C : V) (fu : Nat) (k0 : Nat) (i1 : Int) (k2 : Nat) (g3 : Nat → List V) : L96x1 env F s y B C (fu + 1) k0 i1 k2 g3 =
  (bif (decide (i1 < (((Sl.len (Site.cavs s)) : Nat) : Int))) then (bif (decide ((0 : Int) ≤ i1)) then (bif (decide (i1 < (((Sl.len (Site.cavs s)) : Nat) : Int))) then (bif (decide ((0 : Int) ≤ i1)) then (bif (decide (i1 < (((Sl.len (Day.press y)) : Nat) : Int))) then (bif (decide ((0 : Int) ≤ i1)) then (bif (decide (i1 < (((Sl.len (Day.warm y)) : Nat) : Int))) then (bif (decide ((Span.hi (Sl.el (Day.press y) (Int.toNat i1))) > (Cav.rock (Sl.el (Site.cavs s) (Int.toNat i1))))) then (bif (decide (((k0 + 1) * 24) ≤ 140737488355328)) then (L96x1 env F s y B C fu (k0 + 1) (IntKind.wrap .i64 (i1 + (1 : Int))) (k0 + 1) (appGet k0 g3 (fun u11 => [(.int .i64 i1), (.int .i64 (0 : Int)), (.bool true), (.bool false)])))
                  else none)
                else (bif (decide ((0 : Int) ≤ (IntKind.wrap .i64 ((((Sl.len (Site.rows s)) : Nat) : Int) - (1 : Int))))) then (bif (decide ((IntKind.wrap .i64 ((((Sl.len (Site.rows s)) : Nat) : Int) - (1 : Int))) < (((Sl.len (Site.rows s)) : Nat) : Int))) then (bif (decide ((IntKind.wrap .i64 ((Cav.rock (Sl.el (Site.cavs s) (Int.toNat i1))) - (Span.lo (Sl.el (Day.press y) (Int.toNat i1))))) > (Row.deficit (Sl.el (Site.rows s) (Int.toNat (IntKind.wrap .i64 ((((Sl.len (Site.rows s)) : Nat) : Int) - (1 : Int)))))))) then (bif (decide (((k0 + 1) * 24) ≤ 140737488355328)) then (L96x1 env F s y B C fu (k0 + 1) (IntKind.wrap .i64 (i1 + (1 : Int))) (k0 + 1) (appGet k0 g3 (fun u11 => [(.int .i64 i1), (.int .i64 (0 : Int)), (.bool true), (.bool false)])))
                        else none)
                      else (bif (decide ((0 : Int) < (((Sl.len (Site.heats s)) : Nat) : Int))) then (bif (decide ((Span.lo (Sl.el (Day.warm y) (Int.toNat i1))) < (Heat.warmth (Sl.el (Site.heats s) 0)))) then (bif (decide (((k0 + 1) * 24) ≤ 140737488355328)) then (L96x1 env F s y B C fu (k0 + 1) (IntKind.wrap .i64 (i1 + (1 : Int))) (k0 + 1) (appGet k0 g3 (fun u11 => [(.int .i64 i1), (.int .i64 (0 : Int)), (.bool true), (.bool false)])))
                            else none)
                          else (bif (decide ((0 : Int) ≤ (IntKind.wrap .i64 ((((Sl.len (Site.heats s)) : Nat) : Int) - (1 : Int))))) then (bif (decide ((IntKind.wrap .i64 ((((Sl.len (Site.heats s)) : Nat) : Int) - (1 : Int))) < (((Sl.len (Site.heats s)) : Nat) : Int))) then (bif (decide (((k0 + 1) * 24) ≤ 140737488355328)) then (L96x1 env F s y B C fu (k0 + 1) (IntKind.wrap .i64 (i1 + (1 : Int))) (k0 + 1) (appGet k0 g3 (fun u11 => [(.int .i64 i1), (.int .i64 (0 : Int)), (.bool (decide ((Span.hi (Sl.el (Day.warm y) (Int.toNat i1))) > (Heat.warmth (Sl.el (Site.heats s) (Int.toNat (IntKind.wrap .i64 ((((Sl.len (Site.heats s)) : Nat) : Int) - (1 : Int))))))))), (.bool false)])))
                                else none)
                              else none)
                            else none))
                        else none))
                    else none)
                  else none))
              else none)
            else none)
          else none)
        else none)
      else none)
    else none)
  else some (.ret (.row false k0 4 (fun u11 => (g3 u11))))) := by kernel_rfl

end Go.Sim.Cr

/-
  What the evaluator says of these functions (printed by a private program; each row is checked by the kernel).
-/
set_option maxRecDepth 100000
namespace Go.Sim.Cr
open Go.Proofs

noncomputable def L100x0 (env : Env) (F : Nat) (s : Site) (y : Day) (B : V) (C : V) (fu : Nat) (i0 : Int) (b1 : Bool) (k2 : Nat) (k3 : Nat) (g4 : Nat → List V) (b5 : Bool) : Option Out := atLoop Try.prog (cfg F) env 100 [.r, .r, .r, .l, .r, .d, .g 114, .r, .d] [] fu { tm := tmL 39 0 [(0, (.rptr 1 5 (fun u13 => [(pSite s), (sl eSpan 2 (Day.press y)), (sl eSpan 2 (Day.warm y)), B, C]) 0 0)), (1, (.yld 0)), (14, (.int .i64 (((Sl.len (Site.cavs s)) : Nat) : Int))), (15, (.int .i64 i0))], hp := [.lp, (.box 118 [(.rptr 1 5 (fun u13 => [(pSite s), (sl eSpan 2 (Day.press y)), (sl eSpan 2 (Day.warm y)), B, C]) 0 0)] true), (.box 153 [(.row true 0 0 (fun u13 => []))] true)], ext := [(.yld 0), (.rptr 1 5 (fun u13 => [(pSite s), (sl eSpan 2 (Day.press y)), (sl eSpan 2 (Day.warm y)), B, C]) 0 0), (.optr 1 0 0), (.row true 0 0 (fun u13 => [])), (.optr 2 0 0), .undef, .undef, .undef, .undef, (.rptr 1 5 (fun u13 => [(pSite s), (sl eSpan 2 (Day.press y)), (sl eSpan 2 (Day.warm y)), B, C]) 0 0), (.rptr 1 5 (fun u13 => [(pSite s), (sl eSpan 2 (Day.press y)), (sl eSpan 2 (Day.warm y)), B, C]) 0 0), (.rptr 1 5 (fun u13 => [(pSite s), (sl eSpan 2 (Day.press y)), (sl eSpan 2 (Day.warm y)), B, C]) 0 4), (.row b1 k2 k3 g4), (.bool b5), (.rptr 1 5 (fun u13 => [(pSite s), (sl eSpan 2 (Day.press y)), (sl eSpan 2 (Day.warm y)), B, C]) 0 0), (.fn (.func 114) [(.rptr 1 5 (fun u13 => [(pSite s), (sl eSpan 2 (Day.press y)), (sl eSpan 2 (Day.warm y)), B, C]) 0 0)] []), .undef, .undef, .undef, .undef, .undef, .undef, .undef, .undef, .undef, .undef, .undef, .undef, .undef, .undef, .undef, .undef, .undef, .undef, .undef, .undef, .undef, .undef, .undef, .undef, .undef, .undef, .undef, .undef, .undef, .undef, .undef, .undef, .undef, .undef, .undef, .undef, .undef, .undef, .undef, .undef, .undef, .undef, .undef, .undef, .undef, .undef, .undef, .undef, .undef, .undef, .undef, .undef, .undef, .undef, .undef, .undef, .undef, .undef, .undef, .undef, .undef, .undef, .undef, .undef, .undef] }
noncomputable def L100x1 (env : Env) (F : Nat) (s : Site) (y : Day) (B : V) (C : V) (m0 : Nat) (fu : Nat) (i0 : Int) (i1 : Int) (i2 : Int) (b3 : Bool) (k4 : Nat) (k5 : Nat) (g6 : Nat → List V) (b7 : Bool) : Option Out := atLoop Try.prog (cfg F) env 100 [.r, .r, .r, .l, .r, .d, .g 114, .r, .d, .d, .r, .r, .l, .d, .r, .r, .d] [m0] fu { tm := tmL 39 0 [(0, (.rptr 1 5 (fun u16 => [(pSite s), (sl eSpan 2 (Day.press y)), (sl eSpan 2 (Day.warm y)), B, C]) 0 0)), (1, (.yld 0)), (4, (.int .i64 i0)), (5, (.int .i64 i1)), (14, (.int .i64 (((Sl.len (Site.cavs s)) : Nat) : Int))), (15, (.int .i64 i2))], hp := [.lp, (.box 118 [(.rptr 1 5 (fun u16 => [(pSite s), (sl eSpan 2 (Day.press y)), (sl eSpan 2 (Day.warm y)), B, C]) 0 0)] true), (.box 153 [(.row true 0 0 (fun u16 => []))] true)], ext := [(.yld 0), (.rptr 1 5 (fun u16 => [(pSite s), (sl eSpan 2 (Day.press y)), (sl eSpan 2 (Day.warm y)), B, C]) 0 0), (.optr 1 0 0), (.row true 0 0 (fun u16 => [])), (.optr 2 0 0), .undef, .undef, .undef, .undef, (.rptr 1 5 (fun u16 => [(pSite s), (sl eSpan 2 (Day.press y)), (sl eSpan 2 (Day.warm y)), B, C]) 0 0), (.rptr 1 5 (fun u16 => [(pSite s), (sl eSpan 2 (Day.press y)), (sl eSpan 2 (Day.warm y)), B, C]) 0 0), (.rptr 1 5 (fun u16 => [(pSite s), (sl eSpan 2 (Day.press y)), (sl eSpan 2 (Day.warm y)), B, C]) 0 4), (.row b3 k4 k5 g6), (.bool b7), (.rptr 1 5 (fun u16 => [(pSite s), (sl eSpan 2 (Day.press y)), (sl eSpan 2 (Day.warm y)), B, C]) 0 0), (.fn (.func 114) [(.rptr 1 5 (fun u16 => [(pSite s), (sl eSpan 2 (Day.press y)), (sl eSpan 2 (Day.warm y)), B, C]) 0 0)] []), .undef, .undef, .undef, .undef, .undef, .undef, .undef, .undef, .undef, .undef, .undef, .undef, .undef, .undef, .undef, .undef, .undef, .undef, .undef, .undef, .undef, .undef, .undef, .undef, .undef, .undef, .undef, .undef, .undef, .undef, .undef, .undef, .undef, .undef, .undef, .undef, .undef, .undef, .undef, .undef, .undef, .undef, .undef, .undef, .undef, .undef, .undef, .undef, .undef, .undef, .undef, .undef, .undef, .undef, .undef, .undef, .undef, .undef, .undef, .undef, .undef, .undef, .undef, .undef, .undef] }
noncomputable def L100x2 (env : Env) (F : Nat) (s : Site) (y : Day) (B : V) (C : V) (m0 : Nat) (fu : Nat) (i0 : Int) (i1 : Int) (i2 : Int) (k3 : Nat) (k4 : Nat) (g5 : Nat → List V) (b6 : Bool) (k7 : Nat) (k8 : Nat) (g9 : Nat → List V) (b10 : Bool) : Option Out := atLoop Try.prog (cfg F) env 100 [.r, .r, .r, .l, .r, .d, .g 114, .r, .d, .d, .r, .r, .l, .d, .r, .r, .d] [m0] fu { tm := tmL 39 0 [(0, (.rptr 1 5 (fun u19 => [(pSite s), (sl eSpan 2 (Day.press y)), (sl eSpan 2 (Day.warm y)), B, C]) 0 0)), (1, (.yld 0)), (4, (.int .i64 i0)), (5, (.int .i64 i1)), (14, (.int .i64 (((Sl.len (Site.cavs s)) : Nat) : Int))), (15, (.int .i64 i2))], hp := [.lp, (.box 118 [(.rptr 1 5 (fun u19 => [(pSite s), (sl eSpan 2 (Day.press y)), (sl eSpan 2 (Day.warm y)), B, C]) 0 0)] true), (.box 153 [(.osl 3 0 k3)] true), (.arr 124 4 k4 g5 true)], ext := [(.yld 0), (.rptr 1 5 (fun u19 => [(pSite s), (sl eSpan 2 (Day.press y)), (sl eSpan 2 (Day.warm y)), B, C]) 0 0), (.optr 1 0 0), (.row true 0 0 (fun u19 => [])), (.optr 2 0 0), .undef, .undef, .undef, .undef, (.rptr 1 5 (fun u19 => [(pSite s), (sl eSpan 2 (Day.press y)), (sl eSpan 2 (Day.warm y)), B, C]) 0 0), (.rptr 1 5 (fun u19 => [(pSite s), (sl eSpan 2 (Day.press y)), (sl eSpan 2 (Day.warm y)), B, C]) 0 0), (.rptr 1 5 (fun u19 => [(pSite s), (sl eSpan 2 (Day.press y)), (sl eSpan 2 (Day.warm y)), B, C]) 0 4), (.row b6 k7 k8 g9), (.bool b10), (.rptr 1 5 (fun u19 => [(pSite s), (sl eSpan 2 (Day.press y)), (sl eSpan 2 (Day.warm y)), B, C]) 0 0), (.fn (.func 114) [(.rptr 1 5 (fun u19 => [(pSite s), (sl eSpan 2 (Day.press y)), (sl eSpan 2 (Day.warm y)), B, C]) 0 0)] []), .undef, .undef, .undef, .undef, .undef, .undef, .undef, .undef, .undef, .undef, .undef, .undef, .undef, .undef, .undef, .undef, .undef, .undef, .undef, .undef, .undef, .undef, .undef, .undef, .undef, .undef, .undef, .undef, .undef, .undef, .undef, .undef, .undef, .undef, .undef, .undef, .undef, .undef, .undef, .undef, .undef, .undef, .undef, .undef, .undef, .undef, .undef, .undef, .undef, .undef, .undef, .undef, .undef, .undef, .undef, .undef, .undef, .undef, .undef, .undef, .undef, .undef, .undef, .undef, .undef] }
noncomputable def L100x3 (env : Env) (F : Nat) (s : Site) (y : Day) (B : V) (C : V) (fu : Nat) (i0 : Int) (k1 : Nat) (k2 : Nat) (g3 : Nat → List V) (b4 : Bool) (k5 : Nat) (k6 : Nat) (g7 : Nat → List V) (b8 : Bool) : Option Out := atLoop Try.prog (cfg F) env 100 [.r, .r, .r, .l, .r, .d, .g 114, .r, .d] [] fu { tm := tmL 39 0 [(0, (.rptr 1 5 (fun u16 => [(pSite s), (sl eSpan 2 (Day.press y)), (sl eSpan 2 (Day.warm y)), B, C]) 0 0)), (1, (.yld 0)), (14, (.int .i64 (((Sl.len (Site.cavs s)) : Nat) : Int))), (15, (.int .i64 i0))], hp := [.lp, (.box 118 [(.rptr 1 5 (fun u16 => [(pSite s), (sl eSpan 2 (Day.press y)), (sl eSpan 2 (Day.warm y)), B, C]) 0 0)] true), (.box 153 [(.osl 3 0 k1)] true), (.arr 124 4 k2 g3 true)], ext := [(.yld 0), (.rptr 1 5 (fun u16 => [(pSite s), (sl eSpan 2 (Day.press y)), (sl eSpan 2 (Day.warm y)), B, C]) 0 0), (.optr 1 0 0), (.row true 0 0 (fun u16 => [])), (.optr 2 0 0), .undef, .undef, .undef, .undef, (.rptr 1 5 (fun u16 => [(pSite s), (sl eSpan 2 (Day.press y)), (sl eSpan 2 (Day.warm y)), B, C]) 0 0), (.rptr 1 5 (fun u16 => [(pSite s), (sl eSpan 2 (Day.press y)), (sl eSpan 2 (Day.warm y)), B, C]) 0 0), (.rptr 1 5 (fun u16 => [(pSite s), (sl eSpan 2 (Day.press y)), (sl eSpan 2 (Day.warm y)), B, C]) 0 4), (.row b4 k5 k6 g7), (.bool b8), (.rptr 1 5 (fun u16 => [(pSite s), (sl eSpan 2 (Day.press y)), (sl eSpan 2 (Day.warm y)), B, C]) 0 0), (.fn (.func 114) [(.rptr 1 5 (fun u16 => [(pSite s), (sl eSpan 2 (Day.press y)), (sl eSpan 2 (Day.warm y)), B, C]) 0 0)] []), .undef, .undef, .undef, .undef, .undef, .undef, .undef, .undef, .undef, .undef, .undef, .undef, .undef, .undef, .undef, .undef, .undef, .undef, .undef, .undef, .undef, .undef, .undef, .undef, .undef, .undef, .undef, .undef, .undef, .undef, .undef, .undef, .undef, .undef, .undef, .undef, .undef, .undef, .undef, .undef, .undef, .undef, .undef, .undef, .undef, .undef, .undef, .undef, .undef, .undef, .undef, .undef, .undef, .undef, .undef, .undef, .undef, .undef, .undef, .undef, .undef, .undef, .undef, .undef, .undef] }
theorem t100 (env : Env) (F : Nat) (s : Site) (y : Day) (B : V) (C : V) : (evFun Try.prog (cfg F) env 100 [(.rptr 1 5 (fun u6 => [(pSite s), (sl eSpan 2 (Day.press y)), (sl eSpan 2 (Day.warm y)), B, C]) 0 0)]) =
  (tkRow C none fun nl6 n7 wd8 g9 => (bif nl6 then some (.ret (.row true 0 0 (fun u10 => [])))
    else (L100x0 env F s y B C F (0 : Int) nl6 n7 wd8 g9 nl6))) := by kernel_rfl
theorem L100x0s (env : Env) (F : Nat) (s : Site) (y : Day) (B : V) (C : V) (fu : Nat) (i0 : Int) (b1 : Bool) (k2 : Nat) (k3 : Nat) (g4 : Nat → List V) (b5 : Bool) : L100x0 env F s y B C (fu + 1) i0 b1 k2 k3 g4 b5 =
  (bif (decide (i0 < (((Sl.len (Site.cavs s)) : Nat) : Int))) then (L100x1 env F s y B C fu F i0 (IntKind.wrap .i64 (i0 + (1 : Int))) i0 b1 k2 k3 g4 b5)
  else some (.ret (.row true 0 0 (fun u13 => [])))) := by kernel_rfl
theorem L100x1s (env : Env) (F : Nat) (s : Site) (y : Day) (B : V) (C : V) (m0 : Nat) (fu : Nat) (i0 : Int) (i1 : Int) (i2 : Int) (b3 : Bool) (k4 : Nat) (k5 : Nat) (g6 : Nat → List V) (b7 : Bool) : L100x1 env F s y B C m0 (fu + 1) i0 i1 i2 b3 k4 k5 g6 b7 =
  (bif (decide (i1 < (((Sl.len (Site.cavs s)) : Nat) : Int))) then (tkRow C none fun nl16 n17 wd18 g19 => (bif (wd18 == 6) then (bif (decide ((0 : Int) ≤ i0)) then (bif (decide (i0 < ((n17 : Nat) : Int))) then (bif ((List.length (List.take 2 (g19 (Int.toNat i0)))) == 2) then (tkCons (List.take 2 (g19 (Int.toNat i0))) none fun v20 r21 => (tkInt v20 none fun q22 n23 => (tkCons r21 none fun v24 r25 => (tkInt v24 none fun q26 n27 => (tkNil r25 none ((tkRow C none fun nl28 n29 wd30 g31 => (bif (wd30 == 6) then (bif (decide ((0 : Int) ≤ i1)) then (bif (decide (i1 < ((n29 : Nat) : Int))) then (bif ((List.length (List.take 2 (g31 (Int.toNat i1)))) == 2) then (tkCons (List.take 2 (g31 (Int.toNat i1))) none fun v32 r33 => (tkInt v32 none fun q34 n35 => (tkCons r33 none fun v36 r37 => (tkInt v36 none fun q38 n39 => (tkNil r37 none ((tkOut (env 73 [(pSite s), (.int .i64 i0), (.int .i64 i1), (.int q26 n27), (.int q38 n39)]) none (fun v40 => (tkInt v40 none fun q41 n42 => (bif (decide (q41 = .i64)) then (tkOut (env 73 [(pSite s), (.int .i64 i0), (.int .i64 i1), (.int q22 n23), (.int q34 n35)]) none (fun v43 => (tkInt v43 none fun q44 n45 => (bif (decide (q44 = .i64)) then (L100x2 env F s y B C m0 fu i0 (IntKind.wrap .i64 (i1 + (1 : Int))) i2 1 1 (fun u46 => [(.int .i64 i0), (.int .i64 i1), (.bool (decide (n42 < (Site.wall s)))), (.bool (decide (n45 < (Site.wall s))))]) b3 k4 k5 g6 b7)
                                                      else none)))
                                                  (fun p43 => (tkIfc p43 none fun t44 x45 => (bif (flatP (.iface t44 x45)) then none
                                                      else none))))
                                                else none)))
                                            (fun p40 => (tkIfc p40 none fun t41 x42 => (bif (flatP (.iface t41 x42)) then none
                                                else none))))))))))
                                else none)
                              else none)
                            else none)
                          else none))))))))
            else none)
          else none)
        else none)
      else none))
  else (L100x0 env F s y B C m0 (IntKind.wrap .i64 (i2 + (1 : Int))) b3 k4 k5 g6 b7)) := by kernel_rfl
theorem L100x2s (env : Env) (F : Nat) (s : Site) (y : Day) (B : V) (C : V) (m0 : Nat) (fu : Nat) (i0 : Int) (i1 : Int) (i2 : Int) (k3 : Nat) (k4 : Nat) (g5 : Nat → List V) (b6 : Bool) (k7 : Nat) (k8 : Nat) (g9 : Nat → List V) (b10 : Bool) : L100x2 env F s y B C m0 (fu + 1) i0 i1 i2 k3 k4 g5 b6 k7 k8 g9 b10 =
  (bif (decide (i1 < (((Sl.len (Site.cavs s)) : Nat) : Int))) then (tkRow C none fun nl19 n20 wd21 g22 => (bif (wd21 == 6) then (bif (decide ((0 : Int) ≤ i0)) then (bif (decide (i0 < ((n20 : Nat) : Int))) then (bif ((List.length (List.take 2 (g22 (Int.toNat i0)))) == 2) then (tkCons (List.take 2 (g22 (Int.toNat i0))) none fun v23 r24 => (tkInt v23 none fun q25 n26 => (tkCons r24 none fun v27 r28 => (tkInt v27 none fun q29 n30 => (tkNil r28 none ((tkRow C none fun nl31 n32 wd33 g34 => (bif (wd33 == 6) then (bif (decide ((0 : Int) ≤ i1)) then (bif (decide (i1 < ((n32 : Nat) : Int))) then (bif ((List.length (List.take 2 (g34 (Int.toNat i1)))) == 2) then (tkCons (List.take 2 (g34 (Int.toNat i1))) none fun v35 r36 => (tkInt v35 none fun q37 n38 => (tkCons r36 none fun v39 r40 => (tkInt v39 none fun q41 n42 => (tkNil r40 none ((tkOut (env 73 [(pSite s), (.int .i64 i0), (.int .i64 i1), (.int q29 n30), (.int q41 n42)]) none (fun v43 => (tkInt v43 none fun q44 n45 => (bif (decide (q44 = .i64)) then (tkOut (env 73 [(pSite s), (.int .i64 i0), (.int .i64 i1), (.int q25 n26), (.int q37 n38)]) none (fun v46 => (tkInt v46 none fun q47 n48 => (bif (decide (q47 = .i64)) then (bif (decide (((k3 + 1) * 24) ≤ 140737488355328)) then (L100x2 env F s y B C m0 fu i0 (IntKind.wrap .i64 (i1 + (1 : Int))) i2 (k3 + 1) (k3 + 1) (appGet k3 g5 (fun u49 => [(.int .i64 i0), (.int .i64 i1), (.bool (decide (n45 < (Site.wall s)))), (.bool (decide (n48 < (Site.wall s))))])) b6 k7 k8 g9 b10)
                                                        else none)
                                                      else none)))
                                                  (fun p46 => (tkIfc p46 none fun t47 x48 => (bif (flatP (.iface t47 x48)) then none
                                                      else none))))
                                                else none)))
                                            (fun p43 => (tkIfc p43 none fun t44 x45 => (bif (flatP (.iface t44 x45)) then none
                                                else none))))))))))
                                else none)
                              else none)
                            else none)
                          else none))))))))
            else none)
          else none)
        else none)
      else none))
  else (L100x3 env F s y B C m0 (IntKind.wrap .i64 (i2 + (1 : Int))) k3 k4 g5 b6 k7 k8 g9 b10)) := by kernel_rfl
theorem L100x3s (env : Env) (F : Nat) (s : Site) (y : Day) (B : V) (C : V) (fu : Nat) (i0 : Int) (k1 : Nat) (k2 : Nat) (g3 : Nat → List V) (b4 : Bool) (k5 : Nat) (k6 : Nat) (g7 : Nat → List V) (b8 : Bool) : L100x3 env F s y B C (fu + 1) i0 k1 k2 g3 b4 k5 k6 g7 b8 =
  (bif (decide (i0 < (((Sl.len (Site.cavs s)) : Nat) : Int))) then (L100x2 env F s y B C fu F i0 (IntKind.wrap .i64 (i0 + (1 : Int))) i0 k1 k2 g3 b4 k5 k6 g7 b8)
  else some (.ret (.row false k1 4 (fun u16 => (g3 u16))))) := by kernel_rfl

theorem t651 (env : Env) (F : Nat) (s : Site) (y : Day) (B : V) (C : V) (n : Int) : (evFun Try.prog (cfg (F + 7)) env 65 [(.rptr 1 5 (fun u7 => [(pSite s), (sl eSpan 2 (Day.press y)), (sl eSpan 2 (Day.warm y)), B, C]) 0 0), (.int .i64 n), (.fn (.func 66) [] [])]) =
  (tkOut (env 96 [(.rptr 1 5 (fun u7 => [(pSite s), (sl eSpan 2 (Day.press y)), (sl eSpan 2 (Day.warm y)), B, C]) 0 0)]) none (fun v7 => (tkRow v7 none fun nl8 n9 wd10 g11 => (tkOut (env 102 [(.row nl8 n9 wd10 g11), (.fn (.func 66) [] [])]) none (fun v12 => (tkInt v12 none fun q13 n14 => (bif (decide (q13 = .i64)) then (bif (decide (n14 ≥ (0 : Int))) then (bif (wd10 == 4) then (bif (decide ((0 : Int) ≤ n14)) then (bif (decide (n14 < ((n9 : Nat) : Int))) then (tkCons (g11 (Int.toNat n14)) none fun v15 r16 => (tkInt v15 none fun q17 n18 => (bif (wd10 == 4) then (bif (decide ((0 : Int) ≤ n14)) then (bif (decide (n14 < ((n9 : Nat) : Int))) then (tkCons (List.drop 1 (g11 (Int.toNat n14))) none fun v19 r20 => (tkInt v19 none fun q21 n22 => some (.ret (.tup [(.agg [(.int .i64 n), (.int .i64 (IntKind.wrap .i64 ((2 : Int) + (0 : Int)))), (.int q17 n18), (.int q21 n22)]), (.bool true)]))))
                            else none)
                          else none)
                        else none)))
                  else none)
                else none)
              else none)
            else (tkOut (env 97 [(.rptr 1 5 (fun u15 => [(pSite s), (sl eSpan 2 (Day.press y)), (sl eSpan 2 (Day.warm y)), B, C]) 0 0)]) none (fun v15 => (tkRow v15 none fun nl16 n17 wd18 g19 => (tkOut (env 102 [(.row nl16 n17 wd18 g19), (.fn (.func 66) [] [])]) none (fun v20 => (tkInt v20 none fun q21 n22 => (bif (decide (q21 = .i64)) then (bif (decide (n22 ≥ (0 : Int))) then (bif (wd18 == 4) then (bif (decide ((0 : Int) ≤ n22)) then (bif (decide (n22 < ((n17 : Nat) : Int))) then (tkCons (g19 (Int.toNat n22)) none fun v23 r24 => (tkInt v23 none fun q25 n26 => (bif (wd18 == 4) then (bif (decide ((0 : Int) ≤ n22)) then (bif (decide (n22 < ((n17 : Nat) : Int))) then (tkCons (List.drop 1 (g19 (Int.toNat n22))) none fun v27 r28 => (tkInt v27 none fun q29 n30 => some (.ret (.tup [(.agg [(.int .i64 n), (.int .i64 (IntKind.wrap .i64 ((2 : Int) + (IntKind.wrap .i64 ((0 : Int) + (1 : Int)))))), (.int q25 n26), (.int q29 n30)]), (.bool true)]))))
                                        else none)
                                      else none)
                                    else none)))
                              else none)
                            else none)
                          else none)
                        else (tkOut (env 98 [(.rptr 1 5 (fun u23 => [(pSite s), (sl eSpan 2 (Day.press y)), (sl eSpan 2 (Day.warm y)), B, C]) 0 0)]) none (fun v23 => (tkRow v23 none fun nl24 n25 wd26 g27 => (tkOut (env 102 [(.row nl24 n25 wd26 g27), (.fn (.func 66) [] [])]) none (fun v28 => (tkInt v28 none fun q29 n30 => (bif (decide (q29 = .i64)) then (bif (decide (n30 ≥ (0 : Int))) then (bif (wd26 == 4) then (bif (decide ((0 : Int) ≤ n30)) then (bif (decide (n30 < ((n25 : Nat) : Int))) then (tkCons (g27 (Int.toNat n30)) none fun v31 r32 => (tkInt v31 none fun q33 n34 => (bif (wd26 == 4) then (bif (decide ((0 : Int) ≤ n30)) then (bif (decide (n30 < ((n25 : Nat) : Int))) then (tkCons (List.drop 1 (g27 (Int.toNat n30))) none fun v35 r36 => (tkInt v35 none fun q37 n38 => some (.ret (.tup [(.agg [(.int .i64 n), (.int .i64 (IntKind.wrap .i64 ((2 : Int) + (IntKind.wrap .i64 ((IntKind.wrap .i64 ((0 : Int) + (1 : Int))) + (1 : Int)))))), (.int q33 n34), (.int q37 n38)]), (.bool true)]))))
                                                    else none)
                                                  else none)
                                                else none)))
                                          else none)
                                        else none)
                                      else none)
                                    else (tkOut (env 99 [(.rptr 1 5 (fun u31 => [(pSite s), (sl eSpan 2 (Day.press y)), (sl eSpan 2 (Day.warm y)), B, C]) 0 0)]) none (fun v31 => (tkRow v31 none fun nl32 n33 wd34 g35 => (tkOut (env 102 [(.row nl32 n33 wd34 g35), (.fn (.func 66) [] [])]) none (fun v36 => (tkInt v36 none fun q37 n38 => (bif (decide (q37 = .i64)) then (bif (decide (n38 ≥ (0 : Int))) then (bif (wd34 == 4) then (bif (decide ((0 : Int) ≤ n38)) then (bif (decide (n38 < ((n33 : Nat) : Int))) then (tkCons (g35 (Int.toNat n38)) none fun v39 r40 => (tkInt v39 none fun q41 n42 => (bif (wd34 == 4) then (bif (decide ((0 : Int) ≤ n38)) then (bif (decide (n38 < ((n33 : Nat) : Int))) then (tkCons (List.drop 1 (g35 (Int.toNat n38))) none fun v43 r44 => (tkInt v43 none fun q45 n46 => some (.ret (.tup [(.agg [(.int .i64 n), (.int .i64 (IntKind.wrap .i64 ((2 : Int) + (IntKind.wrap .i64 ((IntKind.wrap .i64 ((IntKind.wrap .i64 ((0 : Int) + (1 : Int))) + (1 : Int))) + (1 : Int)))))), (.int q41 n42), (.int q45 n46)]), (.bool true)]))))
                                                                else none)
                                                              else none)
                                                            else none)))
                                                      else none)
                                                    else none)
                                                  else none)
                                                else (tkOut (env 100 [(.rptr 1 5 (fun u39 => [(pSite s), (sl eSpan 2 (Day.press y)), (sl eSpan 2 (Day.warm y)), B, C]) 0 0)]) none (fun v39 => (tkRow v39 none fun nl40 n41 wd42 g43 => (tkOut (env 102 [(.row nl40 n41 wd42 g43), (.fn (.func 66) [] [])]) none (fun v44 => (tkInt v44 none fun q45 n46 => (bif (decide (q45 = .i64)) then (bif (decide (n46 ≥ (0 : Int))) then (bif (wd42 == 4) then (bif (decide ((0 : Int) ≤ n46)) then (bif (decide (n46 < ((n41 : Nat) : Int))) then (tkCons (g43 (Int.toNat n46)) none fun v47 r48 => (tkInt v47 none fun q49 n50 => (bif (wd42 == 4) then (bif (decide ((0 : Int) ≤ n46)) then (bif (decide (n46 < ((n41 : Nat) : Int))) then (tkCons (List.drop 1 (g43 (Int.toNat n46))) none fun v51 r52 => (tkInt v51 none fun q53 n54 => some (.ret (.tup [(.agg [(.int .i64 n), (.int .i64 (IntKind.wrap .i64 ((2 : Int) + (IntKind.wrap .i64 ((IntKind.wrap .i64 ((IntKind.wrap .i64 ((IntKind.wrap .i64 ((0 : Int) + (1 : Int))) + (1 : Int))) + (1 : Int))) + (1 : Int)))))), (.int q49 n50), (.int q53 n54)]), (.bool true)]))))
                                                                            else none)
                                                                          else none)
                                                                        else none)))
                                                                  else none)
                                                                else none)
                                                              else none)
                                                            else (tkOut (env 101 [(.rptr 1 5 (fun u47 => [(pSite s), (sl eSpan 2 (Day.press y)), (sl eSpan 2 (Day.warm y)), B, C]) 0 0)]) none (fun v47 => (tkRow v47 none fun nl48 n49 wd50 g51 => (tkOut (env 102 [(.row nl48 n49 wd50 g51), (.fn (.func 66) [] [])]) none (fun v52 => (tkInt v52 none fun q53 n54 => (bif (decide (q53 = .i64)) then (bif (decide (n54 ≥ (0 : Int))) then (bif (wd50 == 4) then (bif (decide ((0 : Int) ≤ n54)) then (bif (decide (n54 < ((n49 : Nat) : Int))) then (tkCons (g51 (Int.toNat n54)) none fun v55 r56 => (tkInt v55 none fun q57 n58 => (bif (wd50 == 4) then (bif (decide ((0 : Int) ≤ n54)) then (bif (decide (n54 < ((n49 : Nat) : Int))) then (tkCons (List.drop 1 (g51 (Int.toNat n54))) none fun v59 r60 => (tkInt v59 none fun q61 n62 => some (.ret (.tup [(.agg [(.int .i64 n), (.int .i64 (IntKind.wrap .i64 ((2 : Int) + (IntKind.wrap .i64 ((IntKind.wrap .i64 ((IntKind.wrap .i64 ((IntKind.wrap .i64 ((IntKind.wrap .i64 ((0 : Int) + (1 : Int))) + (1 : Int))) + (1 : Int))) + (1 : Int))) + (1 : Int)))))), (.int q57 n58), (.int q61 n62)]), (.bool true)]))))
                                                                                        else none)
                                                                                      else none)
                                                                                    else none)))
                                                                              else none)
                                                                            else none)
                                                                          else none)
                                                                        else some (.ret (.tup [(.agg [(.int .i64 (0 : Int)), (.int .i64 (1 : Int)), (.int .i64 (0 : Int)), (.int .i64 (0 : Int))]), (.bool false)])))
                                                                      else none)))
                                                                  (fun p52 => (tkIfc p52 none fun t53 x54 => (bif (flatP (.iface t53 x54)) then some (.pan (.iface t53 x54))
                                                                      else none))))))
                                                              (fun p47 => (tkIfc p47 none fun t48 x49 => (bif (flatP (.iface t48 x49)) then some (.pan (.iface t48 x49))
                                                                  else none)))))
                                                          else none)))
                                                      (fun p44 => (tkIfc p44 none fun t45 x46 => (bif (flatP (.iface t45 x46)) then some (.pan (.iface t45 x46))
                                                          else none))))))
                                                  (fun p39 => (tkIfc p39 none fun t40 x41 => (bif (flatP (.iface t40 x41)) then some (.pan (.iface t40 x41))
                                                      else none)))))
                                              else none)))
                                          (fun p36 => (tkIfc p36 none fun t37 x38 => (bif (flatP (.iface t37 x38)) then some (.pan (.iface t37 x38))
                                              else none))))))
                                      (fun p31 => (tkIfc p31 none fun t32 x33 => (bif (flatP (.iface t32 x33)) then some (.pan (.iface t32 x33))
                                          else none)))))
                                  else none)))
                              (fun p28 => (tkIfc p28 none fun t29 x30 => (bif (flatP (.iface t29 x30)) then some (.pan (.iface t29 x30))
                                  else none))))))
                          (fun p23 => (tkIfc p23 none fun t24 x25 => (bif (flatP (.iface t24 x25)) then some (.pan (.iface t24 x25))
                              else none)))))
                      else none)))
                  (fun p20 => (tkIfc p20 none fun t21 x22 => (bif (flatP (.iface t21 x22)) then some (.pan (.iface t21 x22))
                      else none))))))
              (fun p15 => (tkIfc p15 none fun t16 x17 => (bif (flatP (.iface t16 x17)) then some (.pan (.iface t16 x17))
                  else none)))))
          else none)))
      (fun p12 => (tkIfc p12 none fun t13 x14 => (bif (flatP (.iface t13 x14)) then some (.pan (.iface t13 x14))
          else none))))))
  (fun p7 => (tkIfc p7 none fun t8 x9 => (bif (flatP (.iface t8 x9)) then some (.pan (.iface t8 x9))
      else none)))) := by kernel_rfl

theorem t652 (env : Env) (F : Nat) (s : Site) (y : Day) (B : V) (C : V) (n : Int) : (evFun Try.prog (cfg (F + 7)) env 65 [(.rptr 1 5 (fun u7 => [(pSite s), (sl eSpan 2 (Day.press y)), (sl eSpan 2 (Day.warm y)), B, C]) 0 0), (.int .i64 n), (.fn (.func 67) [] [])]) =
  (tkOut (env 96 [(.rptr 1 5 (fun u7 => [(pSite s), (sl eSpan 2 (Day.press y)), (sl eSpan 2 (Day.warm y)), B, C]) 0 0)]) none (fun v7 => (tkRow v7 none fun nl8 n9 wd10 g11 => (tkOut (env 102 [(.row nl8 n9 wd10 g11), (.fn (.func 67) [] [])]) none (fun v12 => (tkInt v12 none fun q13 n14 => (bif (decide (q13 = .i64)) then (bif (decide (n14 ≥ (0 : Int))) then (bif (wd10 == 4) then (bif (decide ((0 : Int) ≤ n14)) then (bif (decide (n14 < ((n9 : Nat) : Int))) then (tkCons (g11 (Int.toNat n14)) none fun v15 r16 => (tkInt v15 none fun q17 n18 => (bif (wd10 == 4) then (bif (decide ((0 : Int) ≤ n14)) then (bif (decide (n14 < ((n9 : Nat) : Int))) then (tkCons (List.drop 1 (g11 (Int.toNat n14))) none fun v19 r20 => (tkInt v19 none fun q21 n22 => some (.ret (.tup [(.agg [(.int .i64 n), (.int .i64 (IntKind.wrap .i64 ((2 : Int) + (0 : Int)))), (.int q17 n18), (.int q21 n22)]), (.bool true)]))))
                            else none)
                          else none)
                        else none)))
                  else none)
                else none)
              else none)
            else (tkOut (env 97 [(.rptr 1 5 (fun u15 => [(pSite s), (sl eSpan 2 (Day.press y)), (sl eSpan 2 (Day.warm y)), B, C]) 0 0)]) none (fun v15 => (tkRow v15 none fun nl16 n17 wd18 g19 => (tkOut (env 102 [(.row nl16 n17 wd18 g19), (.fn (.func 67) [] [])]) none (fun v20 => (tkInt v20 none fun q21 n22 => (bif (decide (q21 = .i64)) then (bif (decide (n22 ≥ (0 : Int))) then (bif (wd18 == 4) then (bif (decide ((0 : Int) ≤ n22)) then (bif (decide (n22 < ((n17 : Nat) : Int))) then (tkCons (g19 (Int.toNat n22)) none fun v23 r24 => (tkInt v23 none fun q25 n26 => (bif (wd18 == 4) then (bif (decide ((0 : Int) ≤ n22)) then (bif (decide (n22 < ((n17 : Nat) : Int))) then (tkCons (List.drop 1 (g19 (Int.toNat n22))) none fun v27 r28 => (tkInt v27 none fun q29 n30 => some (.ret (.tup [(.agg [(.int .i64 n), (.int .i64 (IntKind.wrap .i64 ((2 : Int) + (IntKind.wrap .i64 ((0 : Int) + (1 : Int)))))), (.int q25 n26), (.int q29 n30)]), (.bool true)]))))
                                        else none)
                                      else none)
                                    else none)))
                              else none)
                            else none)
                          else none)
                        else (tkOut (env 98 [(.rptr 1 5 (fun u23 => [(pSite s), (sl eSpan 2 (Day.press y)), (sl eSpan 2 (Day.warm y)), B, C]) 0 0)]) none (fun v23 => (tkRow v23 none fun nl24 n25 wd26 g27 => (tkOut (env 102 [(.row nl24 n25 wd26 g27), (.fn (.func 67) [] [])]) none (fun v28 => (tkInt v28 none fun q29 n30 => (bif (decide (q29 = .i64)) then (bif (decide (n30 ≥ (0 : Int))) then (bif (wd26 == 4) then (bif (decide ((0 : Int) ≤ n30)) then (bif (decide (n30 < ((n25 : Nat) : Int))) then (tkCons (g27 (Int.toNat n30)) none fun v31 r32 => (tkInt v31 none fun q33 n34 => (bif (wd26 == 4) then (bif (decide ((0 : Int) ≤ n30)) then (bif (decide (n30 < ((n25 : Nat) : Int))) then (tkCons (List.drop 1 (g27 (Int.toNat n30))) none fun v35 r36 => (tkInt v35 none fun q37 n38 => some (.ret (.tup [(.agg [(.int .i64 n), (.int .i64 (IntKind.wrap .i64 ((2 : Int) + (IntKind.wrap .i64 ((IntKind.wrap .i64 ((0 : Int) + (1 : Int))) + (1 : Int)))))), (.int q33 n34), (.int q37 n38)]), (.bool true)]))))
                                                    else none)
                                                  else none)
                                                else none)))
                                          else none)
                                        else none)
                                      else none)
                                    else (tkOut (env 99 [(.rptr 1 5 (fun u31 => [(pSite s), (sl eSpan 2 (Day.press y)), (sl eSpan 2 (Day.warm y)), B, C]) 0 0)]) none (fun v31 => (tkRow v31 none fun nl32 n33 wd34 g35 => (tkOut (env 102 [(.row nl32 n33 wd34 g35), (.fn (.func 67) [] [])]) none (fun v36 => (tkInt v36 none fun q37 n38 => (bif (decide (q37 = .i64)) then (bif (decide (n38 ≥ (0 : Int))) then (bif (wd34 == 4) then (bif (decide ((0 : Int) ≤ n38)) then (bif (decide (n38 < ((n33 : Nat) : Int))) then (tkCons (g35 (Int.toNat n38)) none fun v39 r40 => (tkInt v39 none fun q41 n42 => (bif (wd34 == 4) then (bif (decide ((0 : Int) ≤ n38)) then (bif (decide (n38 < ((n33 : Nat) : Int))) then (tkCons (List.drop 1 (g35 (Int.toNat n38))) none fun v43 r44 => (tkInt v43 none fun q45 n46 => some (.ret (.tup [(.agg [(.int .i64 n), (.int .i64 (IntKind.wrap .i64 ((2 : Int) + (IntKind.wrap .i64 ((IntKind.wrap .i64 ((IntKind.wrap .i64 ((0 : Int) + (1 : Int))) + (1 : Int))) + (1 : Int)))))), (.int q41 n42), (.int q45 n46)]), (.bool true)]))))
                                                                else none)
                                                              else none)
                                                            else none)))
                                                      else none)
                                                    else none)
                                                  else none)
                                                else (tkOut (env 100 [(.rptr 1 5 (fun u39 => [(pSite s), (sl eSpan 2 (Day.press y)), (sl eSpan 2 (Day.warm y)), B, C]) 0 0)]) none (fun v39 => (tkRow v39 none fun nl40 n41 wd42 g43 => (tkOut (env 102 [(.row nl40 n41 wd42 g43), (.fn (.func 67) [] [])]) none (fun v44 => (tkInt v44 none fun q45 n46 => (bif (decide (q45 = .i64)) then (bif (decide (n46 ≥ (0 : Int))) then (bif (wd42 == 4) then (bif (decide ((0 : Int) ≤ n46)) then (bif (decide (n46 < ((n41 : Nat) : Int))) then (tkCons (g43 (Int.toNat n46)) none fun v47 r48 => (tkInt v47 none fun q49 n50 => (bif (wd42 == 4) then (bif (decide ((0 : Int) ≤ n46)) then (bif (decide (n46 < ((n41 : Nat) : Int))) then (tkCons (List.drop 1 (g43 (Int.toNat n46))) none fun v51 r52 => (tkInt v51 none fun q53 n54 => some (.ret (.tup [(.agg [(.int .i64 n), (.int .i64 (IntKind.wrap .i64 ((2 : Int) + (IntKind.wrap .i64 ((IntKind.wrap .i64 ((IntKind.wrap .i64 ((IntKind.wrap .i64 ((0 : Int) + (1 : Int))) + (1 : Int))) + (1 : Int))) + (1 : Int)))))), (.int q49 n50), (.int q53 n54)]), (.bool true)]))))
                                                                            else none)
                                                                          else none)
                                                                        else none)))
                                                                  else none)
                                                                else none)
                                                              else none)
                                                            else (tkOut (env 101 [(.rptr 1 5 (fun u47 => [(pSite s), (sl eSpan 2 (Day.press y)), (sl eSpan 2 (Day.warm y)), B, C]) 0 0)]) none (fun v47 => (tkRow v47 none fun nl48 n49 wd50 g51 => (tkOut (env 102 [(.row nl48 n49 wd50 g51), (.fn (.func 67) [] [])]) none (fun v52 => (tkInt v52 none fun q53 n54 => (bif (decide (q53 = .i64)) then (bif (decide (n54 ≥ (0 : Int))) then (bif (wd50 == 4) then (bif (decide ((0 : Int) ≤ n54)) then (bif (decide (n54 < ((n49 : Nat) : Int))) then (tkCons (g51 (Int.toNat n54)) none fun v55 r56 => (tkInt v55 none fun q57 n58 => (bif (wd50 == 4) then (bif (decide ((0 : Int) ≤ n54)) then (bif (decide (n54 < ((n49 : Nat) : Int))) then (tkCons (List.drop 1 (g51 (Int.toNat n54))) none fun v59 r60 => (tkInt v59 none fun q61 n62 => some (.ret (.tup [(.agg [(.int .i64 n), (.int .i64 (IntKind.wrap .i64 ((2 : Int) + (IntKind.wrap .i64 ((IntKind.wrap .i64 ((IntKind.wrap .i64 ((IntKind.wrap .i64 ((IntKind.wrap .i64 ((0 : Int) + (1 : Int))) + (1 : Int))) + (1 : Int))) + (1 : Int))) + (1 : Int)))))), (.int q57 n58), (.int q61 n62)]), (.bool true)]))))
                                                                                        else none)
                                                                                      else none)
                                                                                    else none)))
                                                                              else none)
                                                                            else none)
                                                                          else none)
                                                                        else some (.ret (.tup [(.agg [(.int .i64 (0 : Int)), (.int .i64 (1 : Int)), (.int .i64 (0 : Int)), (.int .i64 (0 : Int))]), (.bool false)])))
                                                                      else none)))
                                                                  (fun p52 => (tkIfc p52 none fun t53 x54 => (bif (flatP (.iface t53 x54)) then some (.pan (.iface t53 x54))
                                                                      else none))))))
                                                              (fun p47 => (tkIfc p47 none fun t48 x49 => (bif (flatP (.iface t48 x49)) then some (.pan (.iface t48 x49))
                                                                  else none)))))
                                                          else none)))
                                                      (fun p44 => (tkIfc p44 none fun t45 x46 => (bif (flatP (.iface t45 x46)) then some (.pan (.iface t45 x46))
                                                          else none))))))
                                                  (fun p39 => (tkIfc p39 none fun t40 x41 => (bif (flatP (.iface t40 x41)) then some (.pan (.iface t40 x41))
                                                      else none)))))
                                              else none)))
                                          (fun p36 => (tkIfc p36 none fun t37 x38 => (bif (flatP (.iface t37 x38)) then some (.pan (.iface t37 x38))
                                              else none))))))
                                      (fun p31 => (tkIfc p31 none fun t32 x33 => (bif (flatP (.iface t32 x33)) then some (.pan (.iface t32 x33))
                                          else none)))))
                                  else none)))
                              (fun p28 => (tkIfc p28 none fun t29 x30 => (bif (flatP (.iface t29 x30)) then some (.pan (.iface t29 x30))
                                  else none))))))
                          (fun p23 => (tkIfc p23 none fun t24 x25 => (bif (flatP (.iface t24 x25)) then some (.pan (.iface t24 x25))
                              else none)))))
                      else none)))
                  (fun p20 => (tkIfc p20 none fun t21 x22 => (bif (flatP (.iface t21 x22)) then some (.pan (.iface t21 x22))
                      else none))))))
              (fun p15 => (tkIfc p15 none fun t16 x17 => (bif (flatP (.iface t16 x17)) then some (.pan (.iface t16 x17))
                  else none)))))
          else none)))
      (fun p12 => (tkIfc p12 none fun t13 x14 => (bif (flatP (.iface t13 x14)) then some (.pan (.iface t13 x14))
          else none))))))
  (fun p7 => (tkIfc p7 none fun t8 x9 => (bif (flatP (.iface t8 x9)) then some (.pan (.iface t8 x9))
      else none)))) := by kernel_rfl

end Go.Sim.Cr

/-
  Marks of a day: what the rules of the program answer, in plain terms.
-/
namespace Go.Sim.Cr
open Go.Proofs
variable (F d : Nat)
section
variable {α : Type} (e : α → List V) (z : α)
/-- The elements of a list; beyond its end the last one. -/
def gl (ms : List α) : Nat → List V := fun j => e (ms.getD j (ms.getLastD z))
/-- A list as a slice; the empty one is nil. -/
abbrev rowL (wd : Nat) (ms : List α) : V := .row ms.isEmpty ms.length (bif ms.isEmpty then 0 else wd) (bif ms.isEmpty then (fun _ => []) else gl e z ms)
theorem rowL_ne {wd : Nat} {ms : List α} {n : Nat} (hn : ms.length = n) (h : 1 ≤ n) : rowL e z wd ms = .row false n wd (gl e z ms) := by
  subst hn
  cases ms with
  | nil => simp at h
  | cons m ms => rfl
variable {e z}
theorem gl_one {l : List V} {m : α} (hl : l = e m) : (fun _ : Nat => l) = gl e z [m] := by
  subst hl
  funext j
  unfold gl
  cases j <;> rfl
theorem gl_snoc {l : List V} {m : α} {ms : List α} {k : Nat} (hk : ms.length = k) (hl : l = e m) : appGet k (gl e z ms) (fun _ => l) = gl e z (ms ++ [m]) := by
  subst hl hk
  funext j
  unfold appGet gl
  rw [List.getLastD_concat, List.getD_eq_getElem?_getD, List.getD_eq_getElem?_getD]
  by_cases h : j < ms.length
  · rw [if_pos h, List.getElem?_append_left h, List.getElem?_eq_getElem h]; rfl
  · rw [if_neg h, List.getElem?_append_right (by omega)]
    rcases Nat.eq_zero_or_pos (j - ms.length) with h0 | h0
    · rw [h0]; rfl
    · rw [List.getElem?_eq_none (by simp; omega)]; rfl
end
abbrev zMark : Mark := ⟨0, 0, false, false⟩
abbrev rowM (ms : List Mark) : V := rowL eMark zMark 4 ms
/-- The first index of a mark of which something holds. -/
def ixM (is : Mark → Bool) (ms : List Mark) : Int := ixF (fun j => is (ms.getD j (ms.getLastD zMark))) ms.length 0
theorem ixF_find (is : Mark → Bool) (ms : List Mark) (z : Mark) : ∀ n i, ms.length = i + n → ((ms.drop i).find? is = none ∧ ixF (fun j => is (ms.getD j z)) n i = -1) ∨
    ∃ (j : Nat) (m : Mark), (ms.drop i).find? is = some m ∧ ixF (fun j => is (ms.getD j z)) n i = (j : Int) ∧ j < ms.length ∧ ms.getD j z = m := by
  intro n
  induction n with
  | zero => intro i h; left; rw [List.drop_of_length_le (by omega)]; exact ⟨rfl, rfl⟩
  | succ n ih =>
    intro i h
    rw [List.drop_eq_getElem_cons (show i < ms.length by omega)]
    have hg : ms.getD i z = ms[i] := by rw [List.getD_eq_getElem?_getD, List.getElem?_eq_getElem (by omega)]; rfl
    simp only [ixF, hg, List.find?_cons]
    cases hi : is ms[i] with
    | true => right; exact ⟨i, ms[i], rfl, by rw [cond_true], by omega, hg⟩
    | false =>
      rcases ih (i + 1) (by omega) with ⟨h1, h2⟩ | ⟨j, m, h1, h2, h3, h4⟩
      · left; exact ⟨h1, by rw [cond_false]; exact h2⟩
      · right; exact ⟨j, m, h1, by rw [cond_false]; exact h2, h3, h4⟩
theorem ixM_find (is : Mark → Bool) (ms : List Mark) : (ms.find? is = none ∧ ixM is ms = -1) ∨
    ∃ (j : Nat) (m : Mark), ms.find? is = some m ∧ ixM is ms = (j : Int) ∧ j < ms.length ∧ ms.getD j (ms.getLastD zMark) = m :=
  ixF_find is ms (ms.getLastD zMark) ms.length 0 (by omega)

theorem s66 (m : Mark) : E F (d + 1) 66 [.agg (eMark m)] = some (.ret (.bool m.possible)) := by rw [E_succ, t66]
theorem s67 (m : Mark) : E F (d + 1) 67 [.agg (eMark m)] = some (.ret (.bool m.certain)) := by rw [E_succ, t67]
theorem l1021 (l : Sl Mark) (hB : l.len < Big) : ∀ n i fu, l.len = i + n → n < fu → L1021x0 (E F (d + 1)) F l fu (i : Int) = some (.ret (.int .i64 (ixF (fun j => (l.el j).possible) n i))) := by
  intro n
  induction n with
  | zero =>
    intro i fu h hf
    obtain ⟨fu, rfl⟩ : ∃ k, fu = k + 1 := ⟨fu - 1, by omega⟩
    rw [L1021x0s]
    simp only [Int.ofNat_lt, show ¬ i < l.len by omega, decide_false, cond_false, ixF]
  | succ n ih =>
    intro i fu h hf
    obtain ⟨fu, rfl⟩ : ∃ k, fu = k + 1 := ⟨fu - 1, by omega⟩
    rw [L1021x0s]
    simp only [Int.ofNat_lt, show i < l.len by omega, decide_true, cond_true, Int.natCast_nonneg, Int.toNat_natCast, s66, tkOut_ret, tkBool_b, ixF, wrS (show i < Big by omega), ih (i + 1) fu (by omega) (by omega)]
    cases (l.el i).possible <;> rfl
theorem l1022 (l : Sl Mark) (hB : l.len < Big) : ∀ n i fu, l.len = i + n → n < fu → L1022x0 (E F (d + 1)) F l fu (i : Int) = some (.ret (.int .i64 (ixF (fun j => (l.el j).certain) n i))) := by
  intro n
  induction n with
  | zero =>
    intro i fu h hf
    obtain ⟨fu, rfl⟩ : ∃ k, fu = k + 1 := ⟨fu - 1, by omega⟩
    rw [L1022x0s]
    simp only [Int.ofNat_lt, show ¬ i < l.len by omega, decide_false, cond_false, ixF]
  | succ n ih =>
    intro i fu h hf
    obtain ⟨fu, rfl⟩ : ∃ k, fu = k + 1 := ⟨fu - 1, by omega⟩
    rw [L1022x0s]
    simp only [Int.ofNat_lt, show i < l.len by omega, decide_true, cond_true, Int.natCast_nonneg, Int.toNat_natCast, s67, tkOut_ret, tkBool_b, ixF, wrS (show i < Big by omega), ih (i + 1) fu (by omega) (by omega)]
    cases (l.el i).certain <;> rfl
/-- 'IndexFunc' of marks: fn 66 looks at what is possible, fn 67 at what is certain. -/
theorem s102a (ms : List Mark) (hB : ms.length < Big) (hF : ms.length < F) : E F (d + 2) 102 [rowM ms, .fn (.func 66) [] []] = some (.ret (.int .i64 (ixM Mark.possible ms))) := by
  rw [E_succ]
  cases ms with
  | nil =>
    refine (t1023 (E F (d + 1)) F).trans ?_
    obtain ⟨fu, rfl⟩ : ∃ k, F = k + 1 := ⟨F - 1, by simp at hF; omega⟩
    rw [L1023x0s]; rfl
  | cons m ms =>
    refine (t1021 (E F (d + 1)) F ⟨false, (m :: ms).length, fun j => (m :: ms).getD j ((m :: ms).getLastD zMark)⟩).trans ?_
    exact l1021 F d ⟨false, (m :: ms).length, fun j => (m :: ms).getD j ((m :: ms).getLastD zMark)⟩ hB (m :: ms).length 0 F (by simp) hF
theorem s102b (ms : List Mark) (hB : ms.length < Big) (hF : ms.length < F) : E F (d + 2) 102 [rowM ms, .fn (.func 67) [] []] = some (.ret (.int .i64 (ixM Mark.certain ms))) := by
  rw [E_succ]
  cases ms with
  | nil =>
    refine (t1024 (E F (d + 1)) F).trans ?_
    obtain ⟨fu, rfl⟩ : ∃ k, F = k + 1 := ⟨F - 1, by simp at hF; omega⟩
    rw [L1024x0s]; rfl
  | cons m ms =>
    refine (t1022 (E F (d + 1)) F ⟨false, (m :: ms).length, fun j => (m :: ms).getD j ((m :: ms).getLastD zMark)⟩).trans ?_
    exact l1022 F d ⟨false, (m :: ms).length, fun j => (m :: ms).getD j ((m :: ms).getLastD zMark)⟩ hB (m :: ms).length 0 F (by simp) hF
abbrev pTod (s : Site) (y : Day) (B C : V) : V := .rptr 1 5 (fun _ => [pSite s, sl eSpan 2 y.press, sl eSpan 2 y.warm, B, C]) 0 0
theorem zlt {m : Nat} (hm : 0 < m) : decide ((0 : Int) < (m : Int)) = true := decide_eq_true (by omega)

def gateM (s : Site) (y : Day) (i : Nat) : Mark :=
  ⟨i, 0, decide ((y.press.el i).lo < (s.cavs.el i).gate.lo) || decide ((y.press.el i).hi > (s.cavs.el i).gate.hi), decide ((y.press.el i).hi < (s.cavs.el i).gate.lo) || decide ((y.press.el i).lo > (s.cavs.el i).gate.hi)⟩
theorem l97 (s : Site) (y : Day) (B C : V) (h5 : s.cavs.len ≤ 5) (hp : y.press.len = s.cavs.len) : ∀ n i fu (acc : List Mark), s.cavs.len = i + n → n < fu → acc.length = i → 1 ≤ i →
    L97x1 (E F d) F s y B C fu i (i : Int) i (gl eMark zMark acc) = some (.ret (rowM (acc ++ (List.range' i n).map (gateM s y)))) := by
  intro n
  induction n with
  | zero =>
    intro i fu acc h hf ha hi
    obtain ⟨fu, rfl⟩ : ∃ k, fu = k + 1 := ⟨fu - 1, by omega⟩
    rw [L97x1s]
    simp only [Int.ofNat_lt, show ¬ i < s.cavs.len by omega, decide_false, cond_false, List.range'_zero, List.map_nil, List.append_nil]
    rw [rowM, rowL_ne eMark zMark ha hi]
  | succ n ih =>
    intro i fu acc h hf ha hi
    obtain ⟨fu, rfl⟩ : ∃ k, fu = k + 1 := ⟨fu - 1, by omega⟩
    rw [L97x1s]
    simp only [Int.ofNat_lt, show i < s.cavs.len by omega, show i < y.press.len by omega, decide_true, cond_true, Int.natCast_nonneg, Int.toNat_natCast, show (i + 1) * 24 ≤ 140737488355328 by omega, wrS (show i < 4611686018427387904 by omega)]
    rw [List.range'_succ, List.map_cons, List.append_cons]
    cases h1 : decide ((y.press.el i).lo < (s.cavs.el i).gate.lo) <;> cases h2 : decide ((y.press.el i).hi < (s.cavs.el i).gate.lo) <;> simp only [cond_true, cond_false] <;>
      exact (congrArg (L97x1 (E F d) F s y B C fu (i + 1) ((i + 1 : Nat) : Int) (i + 1)) (gl_snoc ha (by simp [gateM, h1, h2]))).trans (ih (i + 1) fu _ (by omega) (by omega) (by simp [ha]) (by omega))
theorem wrLen {n : Nat} (h1 : 1 ≤ n) (h2 : n < 4611686018427387904) : IntKind.i64.wrap ((n : Int) - 1) = ((n - 1 : Nat) : Int) := by rw [wr (by omega)]; omega
theorem fin96 (T : Nat → Mark) (n : Nat) : [T 0] ++ (List.range' 1 n).map T = (List.range' 0 (n + 1)).map T := by
  rw [List.range'_succ, List.map_cons]; rfl
theorem s97 (s : Site) (y : Day) (B C : V) (h1 : 1 ≤ s.cavs.len) (h5 : s.cavs.len ≤ 5) (hp : y.press.len = s.cavs.len) (hF : 8 < F) :
    E F (d + 1) 97 [pTod s y B C] = some (.ret (rowM ((List.range' 0 s.cavs.len).map (gateM s y)))) := by
  obtain ⟨n, hn⟩ : ∃ n, s.cavs.len = n + 1 := ⟨s.cavs.len - 1, by omega⟩
  obtain ⟨fu, rfl⟩ : ∃ k, F = k + 1 := ⟨F - 1, by omega⟩
  rw [E_succ, t97, L97x0s]
  simp only [zlt (show 0 < s.cavs.len by omega), zlt (show 0 < y.press.len by omega), cond_true, wr1]
  rw [hn, ← fin96]
  cases h1 : decide ((y.press.el 0).lo < (s.cavs.el 0).gate.lo) <;> cases h2 : decide ((y.press.el 0).hi < (s.cavs.el 0).gate.lo) <;> simp only [cond_true, cond_false] <;>
    exact (congrArg (L97x1 (E (fu + 1) d) (fu + 1) s y B C fu 1 ((1 : Nat) : Int) 1) (gl_one (by simp [gateM, h1, h2]))).trans (l97 (fu + 1) d s y B C h5 hp n 1 fu [gateM s y 0] (by omega) (by omega) rfl (by omega))

/-- A number is beyond the tables. -/
def outB (s : Site) (c : Cav) (p q : Span) : Bool := decide (p.hi > c.rock) || (decide (c.rock - p.lo > rowN s (s.rows.len - 1)) || (decide (q.lo < heatN s 0) || decide (q.hi > heatN s (s.heats.len - 1))))
theorem outB_far {s : Site} (hS : SiteF s) (c : Cav) (p q : Span) : outB s c p q = farB s c p q := by
  have h0 : rowN s 0 = 0 := by
    have := hS.row 0 (by have := hS.rows1; omega)
    simp only [rowB, rowStep, Bool.and_eq_true, decide_eq_true_iff] at this
    exact this.2.2.2
  unfold outB farB offB
  rw [h0]
  apply b2
  simp only [Bool.or_eq_true, decide_eq_true_iff]
  omega
def outM (s : Site) (y : Day) (i : Nat) : Mark := ⟨i, 0, farAt s y i, false⟩
theorem outM_eq {s : Site} (hS : SiteF s) (y : Day) (i : Nat) : outM s y i = ⟨i, 0, outB s (s.cavs.el i) (y.press.el i) (y.warm.el i), false⟩ := by
  rw [outB_far hS]; rfl
theorem l96 (s : Site) (y : Day) (B C : V) (hS : SiteF s) (hp : y.press.len = s.cavs.len) (hw : y.warm.len = s.cavs.len) (hD : DayOk s y) : ∀ n i fu (acc : List Mark), s.cavs.len = i + n → n < fu → acc.length = i → 1 ≤ i →
    L96x1 (E F d) F s y B C fu i (i : Int) i (gl eMark zMark acc) = some (.ret (rowM (acc ++ (List.range' i n).map (outM s y)))) := by
  have h5 := hS.cavs5
  have r1 := hS.rows1
  have r8 := hS.rows8
  have t1 := hS.heats1
  have t8 := hS.heats8
  intro n
  induction n with
  | zero =>
    intro i fu acc h hf ha hi
    obtain ⟨fu, rfl⟩ : ∃ k, fu = k + 1 := ⟨fu - 1, by omega⟩
    rw [L96x1s]
    simp only [Int.ofNat_lt, show ¬ i < s.cavs.len by omega, decide_false, cond_false, List.range'_zero, List.map_nil, List.append_nil]
    rw [rowM, rowL_ne eMark zMark ha hi]
  | succ n ih =>
    intro i fu acc h hf ha hi
    obtain ⟨fu, rfl⟩ : ∃ k, fu = k + 1 := ⟨fu - 1, by omega⟩
    rw [L96x1s]
    have hr := (hS.cav i (by omega)).2.2.2.1
    have hq := hD.1.2 i (by omega)
    simp only [Int.ofNat_lt, show i < s.cavs.len by omega, show i < y.press.len by omega, show i < y.warm.len by omega, decide_true, cond_true, Int.natCast_nonneg, Int.toNat_natCast, show (i + 1) * 24 ≤ 140737488355328 by omega, wrS (show i < 4611686018427387904 by omega),
      wr (show _ ∧ (s.cavs.el i).rock - (y.press.el i).lo ≤ _ by omega), wrLen r1 (show s.rows.len < 4611686018427387904 by omega), wrLen t1 (show s.heats.len < 4611686018427387904 by omega),
      show s.rows.len - 1 < s.rows.len by omega, show s.heats.len - 1 < s.heats.len by omega, zlt (show 0 < s.heats.len by omega)]
    rw [List.range'_succ, List.map_cons, List.append_cons]
    have key : ∀ b, b = outB s (s.cavs.el i) (y.press.el i) (y.warm.el i) → L96x1 (E F d) F s y B C fu (i + 1) ((i + 1 : Nat) : Int) (i + 1) (appGet i (gl eMark zMark acc) fun _ => [.int .i64 (i : Int), .int .i64 0, .bool b, .bool false]) = some (.ret (rowM (acc ++ [outM s y i] ++ (List.range' (i + 1) n).map (outM s y)))) := fun b hb =>
      (congrArg (L96x1 (E F d) F s y B C fu (i + 1) ((i + 1 : Nat) : Int) (i + 1)) (gl_snoc (m := outM s y i) ha (by rw [outM_eq hS, hb]))).trans (ih (i + 1) fu _ (by omega) (by omega) (by simp [ha]) (by omega))
    cases h1 : decide ((y.press.el i).hi > (s.cavs.el i).rock) with
    | true => simp only [cond_true]; exact key true (by unfold outB; rw [h1]; rfl)
    | false =>
      simp only [cond_false]
      cases h2 : decide ((s.cavs.el i).rock - (y.press.el i).lo > (s.rows.el (s.rows.len - 1)).deficit) with
      | true => simp only [cond_true]; exact key true (by unfold outB rowN; rw [h1, h2]; rfl)
      | false =>
        simp only [cond_false]
        cases h3 : decide ((y.warm.el i).lo < (s.heats.el 0).warmth) with
        | true => simp only [cond_true]; exact key true (by unfold outB rowN heatN; rw [h1, h2, h3]; rfl)
        | false => simp only [cond_false]; exact key _ (by unfold outB rowN heatN; rw [h1, h2, h3]; rfl)
theorem s96 (s : Site) (y : Day) (B C : V) (hS : SiteF s) (hD : DayOk s y) (hF : 8 < F) :
    E F (d + 1) 96 [pTod s y B C] = some (.ret (rowM ((List.range' 0 s.cavs.len).map (outM s y)))) := by
  have h1 := hS.cavs1
  have h5 := hS.cavs5
  have r1 := hS.rows1
  have r8 := hS.rows8
  have t1 := hS.heats1
  have t8 := hS.heats8
  have hp := hD.1.1
  have hw := hD.2.1
  obtain ⟨n, hn⟩ : ∃ n, s.cavs.len = n + 1 := ⟨s.cavs.len - 1, by omega⟩
  obtain ⟨fu, rfl⟩ : ∃ k, F = k + 1 := ⟨F - 1, by omega⟩
  have hr := (hS.cav 0 (by omega)).2.2.2.1
  have hq := hD.1.2 0 (by omega)
  rw [E_succ, t96, L96x0s]
  simp only [zlt (show 0 < s.cavs.len by omega), zlt (show 0 < y.press.len by omega), zlt (show 0 < y.warm.len by omega), cond_true, wr1, Int.ofNat_lt, decide_true, Int.natCast_nonneg, Int.toNat_natCast,
    wr (show _ ∧ (s.cavs.el 0).rock - (y.press.el 0).lo ≤ _ by omega), wrLen r1 (show s.rows.len < 4611686018427387904 by omega), wrLen t1 (show s.heats.len < 4611686018427387904 by omega),
    show s.rows.len - 1 < s.rows.len by omega, show s.heats.len - 1 < s.heats.len by omega, zlt (show 0 < s.heats.len by omega)]
  rw [hn, ← fin96]
  have key : ∀ b, b = outB s (s.cavs.el 0) (y.press.el 0) (y.warm.el 0) → L96x1 (E (fu + 1) d) (fu + 1) s y B C fu 1 ((1 : Nat) : Int) 1 (fun _ => [.int .i64 0, .int .i64 0, .bool b, .bool false]) = some (.ret (rowM ([outM s y 0] ++ (List.range' 1 n).map (outM s y)))) := fun b hb =>
    (congrArg (L96x1 (E (fu + 1) d) (fu + 1) s y B C fu 1 ((1 : Nat) : Int) 1) (gl_one (m := outM s y 0) (by rw [outM_eq hS, hb]; rfl))).trans (l96 (fu + 1) d s y B C hS hp hw hD n 1 fu [outM s y 0] (by omega) (by omega) rfl (by omega))
  cases h1 : decide ((y.press.el 0).hi > (s.cavs.el 0).rock) with
  | true => simp only [cond_true]; exact key true (by unfold outB; rw [h1]; rfl)
  | false =>
    simp only [cond_false]
    cases h2 : decide ((s.cavs.el 0).rock - (y.press.el 0).lo > (s.rows.el (s.rows.len - 1)).deficit) with
    | true => simp only [cond_true]; exact key true (by unfold outB rowN; rw [h1, h2]; rfl)
    | false =>
      simp only [cond_false]
      cases h3 : decide ((y.warm.el 0).lo < (s.heats.el 0).warmth) with
      | true => simp only [cond_true]; exact key true (by unfold outB rowN heatN; rw [h1, h2, h3]; rfl)
      | false => simp only [cond_false]; exact key _ (by unfold outB rowN heatN; rw [h1, h2, h3]; rfl)

def maxI (a b : Int) : Int := if a < b then b else a
def fastM (s : Site) (y : Day) (b : Sl Span) (i : Nat) : Mark :=
  ⟨i, 0, decide (maxI ((y.press.el i).hi - (b.el i).lo) ((b.el i).hi - (y.press.el i).lo) > (s.cavs.el i).change), decide (maxI ((y.press.el i).lo - (b.el i).hi) ((b.el i).lo - (y.press.el i).hi) > (s.cavs.el i).change)⟩
theorem l98 (s : Site) (y : Day) (b : Sl Span) (B C : V) (h5 : s.cavs.len ≤ 5) (hD : DayOk s y) (hb : b.len = s.cavs.len) (hq : ∀ i, i < b.len → SpanIn (b.el i) 0 50000) : ∀ n i fu (acc : List Mark), s.cavs.len = i + n → n < fu → acc.length = i → 1 ≤ i →
    L98x1 (E F d) F s y B C fu i b.nl b.len 2 (fun i => eSpan (b.el i)) (b.len : Int) (i : Int) i (gl eMark zMark acc) = some (.ret (rowM (acc ++ (List.range' i n).map (fastM s y b)))) := by
  have hp := hD.1.1
  intro n
  induction n with
  | zero =>
    intro i fu acc h hf ha hi
    obtain ⟨fu, rfl⟩ : ∃ k, fu = k + 1 := ⟨fu - 1, by omega⟩
    rw [L98x1s]
    simp only [Int.ofNat_lt, show ¬ i < b.len by omega, decide_false, cond_false, List.range'_zero, List.map_nil, List.append_nil]
    rw [rowM, rowL_ne eMark zMark ha hi]
  | succ n ih =>
    intro i fu acc h hf ha hi
    obtain ⟨fu, rfl⟩ : ∃ k, fu = k + 1 := ⟨fu - 1, by omega⟩
    rw [L98x1s]
    have q1 := hD.1.2 i (by omega)
    have q2 := hq i (by omega)
    simp only [Int.ofNat_lt, show i < s.cavs.len by omega, show i < b.len by omega, show i < y.press.len by omega, decide_true, cond_true, Int.natCast_nonneg, Int.toNat_natCast, show (i + 1) * 24 ≤ 140737488355328 by omega, wrS (show i < 4611686018427387904 by omega),
      List.take, List.length, tkCons_c, tkInt_i, tkNil_n, beq_self_eq_true,
      wr (show _ ∧ (y.press.el i).hi - (b.el i).lo ≤ _ by omega), wr (show _ ∧ (y.press.el i).lo - (b.el i).hi ≤ _ by omega), wr (show _ ∧ (b.el i).hi - (y.press.el i).lo ≤ _ by omega), wr (show _ ∧ (b.el i).lo - (y.press.el i).hi ≤ _ by omega)]
    rw [List.range'_succ, List.map_cons, List.append_cons]
    exact (congrArg (L98x1 (E F d) F s y B C fu (i + 1) b.nl b.len 2 (fun i => eSpan (b.el i)) (b.len : Int) ((i + 1 : Nat) : Int) (i + 1)) (gl_snoc (m := fastM s y b i) ha rfl)).trans (ih (i + 1) fu _ (by omega) (by omega) (by simp [ha]) (by omega))
theorem s98 (s : Site) (y : Day) (b : Sl Span) (C : V) (h1 : 1 ≤ s.cavs.len) (h5 : s.cavs.len ≤ 5) (hD : DayOk s y) (hb : b.len = s.cavs.len) (hq : ∀ i, i < b.len → SpanIn (b.el i) 0 50000) (hF : 8 < F) :
    E F (d + 1) 98 [pTod s y (sl eSpan 2 b) C] = some (.ret (rowM ((List.range' 0 s.cavs.len).map (fastM s y b)))) := by
  have hp := hD.1.1
  obtain ⟨n, hn⟩ : ∃ n, s.cavs.len = n + 1 := ⟨s.cavs.len - 1, by omega⟩
  obtain ⟨fu, rfl⟩ : ∃ k, F = k + 1 := ⟨F - 1, by omega⟩
  have q1 := hD.1.2 0 (by omega)
  have q2 := hq 0 (by omega)
  rw [E_succ, t98]
  simp only [tkRow_r]
  rw [L98x0s]
  simp only [zlt (show 0 < s.cavs.len by omega), zlt (show 0 < b.len by omega), zlt (show 0 < y.press.len by omega), cond_true, wr1, decide_true,
      List.take, List.length, tkCons_c, tkInt_i, tkNil_n, beq_self_eq_true,
      wr (show _ ∧ (y.press.el 0).hi - (b.el 0).lo ≤ _ by omega), wr (show _ ∧ (y.press.el 0).lo - (b.el 0).hi ≤ _ by omega), wr (show _ ∧ (b.el 0).hi - (y.press.el 0).lo ≤ _ by omega), wr (show _ ∧ (b.el 0).lo - (y.press.el 0).hi ≤ _ by omega)]
  rw [hn, ← fin96]
  exact (congrArg (L98x1 (E (fu + 1) d) (fu + 1) s y (sl eSpan 2 b) C fu 1 b.nl b.len 2 (fun i => eSpan (b.el i)) (b.len : Int) ((1 : Nat) : Int) 1) (gl_one (m := fastM s y b 0) (by simp only [fastM, maxI, Int.natCast_zero]; rfl))).trans (l98 (fu + 1) d s y b (sl eSpan 2 b) C h5 hD hb hq n 1 fu [fastM s y b 0] (by omega) (by omega) rfl (by omega))
theorem s98n (s : Site) (y : Day) (C : V) (hF : 8 < F) : E F (d + 1) 98 [pTod s y noneRow C] = some (.ret (rowM [])) := by
  obtain ⟨fu, rfl⟩ : ∃ k, F = k + 1 := ⟨F - 1, by omega⟩
  rw [E_succ, t98]
  simp only [tkRow_r]
  rw [L98x0s]
  rfl

def smallM (s : Site) (m : Sl Stt) (i : Nat) : Mark := ⟨i, 0, decide ((m.el i).vol.lo < (s.cavs.el i).floor), decide ((m.el i).vol.hi < (s.cavs.el i).floor)⟩
theorem l99 (s : Site) (y : Day) (m : Sl Stt) (B C : V) (h5 : s.cavs.len ≤ 5) (hb : m.len = s.cavs.len) : ∀ n i fu (acc : List Mark), s.cavs.len = i + n → n < fu → acc.length = i → 1 ≤ i →
    L99x1 (E F d) F s y B C fu i m.nl m.len 6 (fun i => eStt (m.el i)) (m.len : Int) (i : Int) i (gl eMark zMark acc) = some (.ret (rowM (acc ++ (List.range' i n).map (smallM s m)))) := by
  intro n
  induction n with
  | zero =>
    intro i fu acc h hf ha hi
    obtain ⟨fu, rfl⟩ : ∃ k, fu = k + 1 := ⟨fu - 1, by omega⟩
    rw [L99x1s]
    simp only [Int.ofNat_lt, show ¬ i < m.len by omega, decide_false, cond_false, List.range'_zero, List.map_nil, List.append_nil]
    rw [rowM, rowL_ne eMark zMark ha hi]
  | succ n ih =>
    intro i fu acc h hf ha hi
    obtain ⟨fu, rfl⟩ : ∃ k, fu = k + 1 := ⟨fu - 1, by omega⟩
    rw [L99x1s]
    simp only [Int.ofNat_lt, show i < s.cavs.len by omega, show i < m.len by omega, decide_true, cond_true, Int.natCast_nonneg, Int.toNat_natCast, show (i + 1) * 24 ≤ 140737488355328 by omega, wrS (show i < 4611686018427387904 by omega),
      List.take, List.length, tkCons_c, tkInt_i, tkNil_n, beq_self_eq_true]
    rw [List.range'_succ, List.map_cons, List.append_cons]
    exact (congrArg (L99x1 (E F d) F s y B C fu (i + 1) m.nl m.len 6 (fun i => eStt (m.el i)) (m.len : Int) ((i + 1 : Nat) : Int) (i + 1)) (gl_snoc (m := smallM s m i) ha rfl)).trans (ih (i + 1) fu _ (by omega) (by omega) (by simp [ha]) (by omega))
theorem s99 (s : Site) (y : Day) (m : Sl Stt) (B : V) (h1 : 1 ≤ s.cavs.len) (h5 : s.cavs.len ≤ 5) (hb : m.len = s.cavs.len) (hF : 8 < F) :
    E F (d + 1) 99 [pTod s y B (sl eStt 6 m)] = some (.ret (rowM ((List.range' 0 s.cavs.len).map (smallM s m)))) := by
  obtain ⟨n, hn⟩ : ∃ n, s.cavs.len = n + 1 := ⟨s.cavs.len - 1, by omega⟩
  obtain ⟨fu, rfl⟩ : ∃ k, F = k + 1 := ⟨F - 1, by omega⟩
  rw [E_succ, t99]
  simp only [tkRow_r]
  rw [L99x0s]
  simp only [zlt (show 0 < s.cavs.len by omega), zlt (show 0 < m.len by omega), cond_true, wr1, decide_true, List.take, List.length, tkCons_c, tkInt_i, tkNil_n, beq_self_eq_true]
  rw [hn, ← fin96]
  exact (congrArg (L99x1 (E (fu + 1) d) (fu + 1) s y B (sl eStt 6 m) fu 1 m.nl m.len 6 (fun i => eStt (m.el i)) (m.len : Int) ((1 : Nat) : Int) 1) (gl_one (m := smallM s m 0) (by simp only [smallM, Int.natCast_zero]))).trans (l99 (fu + 1) d s y m B (sl eStt 6 m) h5 hb n 1 fu [smallM s m 0] (by omega) (by omega) rfl (by omega))
theorem s99n (s : Site) (y : Day) (B : V) (hF : 8 < F) : E F (d + 1) 99 [pTod s y B noneRow] = some (.ret (rowM [])) := by
  obtain ⟨fu, rfl⟩ : ∃ k, F = k + 1 := ⟨F - 1, by omega⟩
  rw [E_succ, t99]
  simp only [tkRow_r]
  rw [L99x0s]
  rfl
end Go.Sim.Cr

/-
  Marks of houses and of pairs of caverns; the first fault of a day.
-/
namespace Go.Sim.Cr
open Go.Proofs
variable (F d : Nat)
def sunkM (s : Site) (m : Sl Stt) (i : Nat) : Mark :=
  ⟨i, 0, decide ((sunk s m (s.houses.el i).x (s.houses.el i).y).hi > (s.houses.el i).most), decide ((sunk s m (s.houses.el i).x (s.houses.el i).y).lo > (s.houses.el i).most)⟩
theorem l101 (s : Site) (y : Day) (m : Sl Stt) (B : V) (hS : SiteF s) (hL : StatesOk s m) (hF : 8 < F) : ∀ n i fu (acc : List Mark), s.houses.len = i + n → n < fu → acc.length = i → 1 ≤ i →
    L101x1 (E F (d + 2)) F s y B (sl eStt 6 m) fu i (i : Int) i (gl eMark zMark acc) = some (.ret (rowM (acc ++ (List.range' i n).map (sunkM s m)))) := by
  have h5 := hS.houses5
  intro n
  induction n with
  | zero =>
    intro i fu acc h hf ha hi
    obtain ⟨fu, rfl⟩ : ∃ k, fu = k + 1 := ⟨fu - 1, by omega⟩
    rw [L101x1s]
    simp only [Int.ofNat_lt, show ¬ i < s.houses.len by omega, decide_false, cond_false, List.range'_zero, List.map_nil, List.append_nil]
    rw [rowM, rowL_ne eMark zMark ha hi]
  | succ n ih =>
    intro i fu acc h hf ha hi
    obtain ⟨fu, rfl⟩ : ∃ k, fu = k + 1 := ⟨fu - 1, by omega⟩
    rw [L101x1s]
    have hp : Place (s.houses.el i).x (s.houses.el i).y := (hS.house i (by omega)).1
    simp only [Int.ofNat_lt, show i < s.houses.len by omega, decide_true, cond_true, Int.natCast_nonneg, Int.toNat_natCast, show (i + 1) * 24 ≤ 140737488355328 by omega, wrS (show i < 4611686018427387904 by omega),
      tkRow_r, s53 F d s m _ _ hS hL hp hF, tkOut_ret, tkAgg_a, tkCons_c, tkInt_i, tkNil_n]
    rw [List.range'_succ, List.map_cons, List.append_cons]
    exact (congrArg (L101x1 (E F (d + 2)) F s y B (sl eStt 6 m) fu (i + 1) ((i + 1 : Nat) : Int) (i + 1)) (gl_snoc (m := sunkM s m i) ha rfl)).trans (ih (i + 1) fu _ (by omega) (by omega) (by simp [ha]) (by omega))
theorem s101 (s : Site) (y : Day) (m : Sl Stt) (B : V) (hS : SiteF s) (hL : StatesOk s m) (hm : m.nl = false) (hF : 8 < F) :
    E F (d + 3) 101 [pTod s y B (sl eStt 6 m)] = some (.ret (rowM ((List.range' 0 s.houses.len).map (sunkM s m)))) := by
  have h5 := hS.houses5
  obtain ⟨fu, rfl⟩ : ∃ k, F = k + 1 := ⟨F - 1, by omega⟩
  obtain ⟨nl, ml, me⟩ := m
  obtain rfl : nl = false := hm
  rw [E_succ, t101]
  simp only [tkRow_r, cond_false]
  rw [L101x0s]
  rcases Nat.eq_zero_or_pos s.houses.len with h0 | h0
  · rw [h0]; rfl
  · obtain ⟨n, hn⟩ : ∃ n, s.houses.len = n + 1 := ⟨s.houses.len - 1, by omega⟩
    have hp : Place (s.houses.el 0).x (s.houses.el 0).y := (hS.house 0 (by omega)).1
    have e := s53 (fu + 1) d s ⟨false, ml, me⟩ _ _ hS hL hp hF
    simp only [zlt h0, cond_true, wr1, tkRow_r, e, tkOut_ret, tkAgg_a, tkCons_c, tkInt_i, tkNil_n, decide_true]
    rw [hn, ← fin96]
    exact (congrArg (L101x1 (E (fu + 1) (d + 2)) (fu + 1) s y B (sl eStt 6 ⟨false, ml, me⟩) fu 1 ((1 : Nat) : Int) 1) (gl_one (m := sunkM s ⟨false, ml, me⟩ 0) (by simp only [sunkM, Int.natCast_zero]))).trans (l101 (fu + 1) d s y ⟨false, ml, me⟩ B hS hL hF n 1 fu [sunkM s ⟨false, ml, me⟩ 0] (by omega) (by omega) rfl (by omega))
theorem s101n (s : Site) (y : Day) (B : V) : E F (d + 1) 101 [pTod s y B noneRow] = some (.ret (rowM [])) := by
  rw [E_succ, t101]
  rfl

noncomputable def thinM (s : Site) (m : Sl Stt) (i j : Nat) : Mark :=
  ⟨i, j, decide (distI (s.cavs.el i) (s.cavs.el j) - (m.el i).rad.hi - (m.el j).rad.hi < s.wall), decide (distI (s.cavs.el i) (s.cavs.el j) - (m.el i).rad.lo - (m.el j).rad.lo < s.wall)⟩
/-- All pairs from a cavern on, so many caverns being left. -/
noncomputable def pairsM (s : Site) (m : Sl Stt) : Nat → Nat → List Mark
  | 0, _ => []
  | k + 1, i => (List.range' (i + 1) k).map (thinM s m i) ++ pairsM s m k (i + 1)
variable (s : Site) (y : Day) (m : Sl Stt) (B : V)
noncomputable abbrev LB2 (m0 fu : Nat) (i j : Nat) (acc : List Mark) : Option Out :=
  L100x2 (E F (d + 4)) F s y B (sl eStt 6 m) m0 fu (i : Int) (j : Int) (i : Int) acc.length acc.length (gl eMark zMark acc) m.nl m.len 6 (fun i => eStt (m.el i)) m.nl
noncomputable abbrev LB3 (fu : Nat) (i : Nat) (acc : List Mark) : Option Out :=
  L100x3 (E F (d + 4)) F s y B (sl eStt 6 m) fu (i : Int) acc.length acc.length (gl eMark zMark acc) m.nl m.len 6 (fun i => eStt (m.el i)) m.nl
theorem in2 (hS : SiteF s) (hL : StatesOk s m) (hF : 67108864 < F) (m0 i : Nat) (P : List Mark) (M : Nat) (hM : M ≤ 100) (hi : i < s.cavs.len) (hO : ∀ acc, 1 ≤ acc.length → acc.length ≤ M → LB3 F d s y m B m0 (i + 1) acc = some (.ret (rowM (acc ++ P)))) :
    ∀ r j fu (acc : List Mark), s.cavs.len = j + r → r < fu → i < j → 1 ≤ acc.length → acc.length + r ≤ M → LB2 F d s y m B m0 fu i j acc = some (.ret (rowM (acc ++ ((List.range' j r).map (thinM s m i) ++ P)))) := by
  have h5 := hS.cavs5
  have hl := hL.1
  intro r
  induction r with
  | zero =>
    intro j fu acc h hf hij ha hb
    obtain ⟨fu, rfl⟩ : ∃ k, fu = k + 1 := ⟨fu - 1, by omega⟩
    unfold LB2
    rw [L100x2s]
    simp only [Int.ofNat_lt, show ¬ j < s.cavs.len by omega, decide_false, cond_false, wrS (show i < 4611686018427387904 by omega), List.range'_zero, List.map_nil, List.nil_append]
    exact hO acc ha (by omega)
  | succ r ih =>
    intro j fu acc h hf hij ha hb
    obtain ⟨fu, rfl⟩ : ∃ k, fu = k + 1 := ⟨fu - 1, by omega⟩
    unfold LB2
    rw [L100x2s]
    have a1 := (hL.2 i (by omega)).1
    have a2 := (hL.2 j (by omega)).1
    have p1 := (hS.cav i hi).1
    have p2 := (hS.cav j (by omega)).1
    simp only [Int.ofNat_lt, show j < s.cavs.len by omega, show j < m.len by omega, show i < m.len by omega, decide_true, cond_true, Int.natCast_nonneg, Int.toNat_natCast, tkRow_r, beq_self_eq_true, List.take, List.length, tkCons_c, tkInt_i, tkNil_n,
      s73 F d s i j (m.el i).rad.hi (m.el j).rad.hi hi (by omega) p1 p2 (by omega) (by omega) hF, s73 F d s i j (m.el i).rad.lo (m.el j).rad.lo hi (by omega) p1 p2 (by omega) (by omega) hF, tkOut_ret, show (acc.length + 1) * 24 ≤ 140737488355328 by omega, wrS (show j < 4611686018427387904 by omega)]
    rw [List.range'_succ, List.map_cons, List.cons_append, List.append_cons]
    have g := ih (j + 1) fu (acc ++ [thinM s m i j]) (by omega) (by omega) (by omega) (by simp) (by simp; omega)
    unfold LB2 at g
    rw [show (acc ++ [thinM s m i j]).length = acc.length + 1 by simp] at g
    exact (congrArg (fun G => L100x2 (E F (d + 4)) F s y B (sl eStt 6 m) m0 fu (i : Int) ((j + 1 : Nat) : Int) (i : Int) (acc.length + 1) (acc.length + 1) G m.nl m.len 6 (fun i => eStt (m.el i)) m.nl) (gl_snoc (m := thinM s m i j) rfl rfl)).trans g
theorem out3 (hS : SiteF s) (hL : StatesOk s m) (hF : 67108864 < F) : ∀ k i fu (acc : List Mark), s.cavs.len = i + k → k < fu → 1 ≤ acc.length → acc.length + 10 * k ≤ 100 →
    LB3 F d s y m B fu i acc = some (.ret (rowM (acc ++ pairsM s m k i))) := by
  have h5 := hS.cavs5
  intro k
  induction k with
  | zero =>
    intro i fu acc h hf ha hb
    obtain ⟨fu, rfl⟩ : ∃ k, fu = k + 1 := ⟨fu - 1, by omega⟩
    unfold LB3
    rw [L100x3s]
    simp only [Int.ofNat_lt, show ¬ i < s.cavs.len by omega, decide_false, cond_false, pairsM, List.append_nil]
    rw [rowM, rowL_ne eMark zMark rfl ha]
  | succ k ih =>
    intro i fu acc h hf ha hb
    obtain ⟨fu, rfl⟩ : ∃ k, fu = k + 1 := ⟨fu - 1, by omega⟩
    unfold LB3
    rw [L100x3s]
    simp only [Int.ofNat_lt, show i < s.cavs.len by omega, decide_true, cond_true, wrS (show i < 4611686018427387904 by omega), pairsM]
    exact in2 F d s y m B hS hL hF fu i (pairsM s m k (i + 1)) (100 - 10 * k) (by omega) (by omega) (fun acc' h1 h2 => ih (i + 1) fu acc' (by omega) (by omega) h1 (by omega)) k (i + 1) F acc (by omega) (by omega) (by omega) ha (by omega)
noncomputable abbrev LB0 (fu : Nat) (i : Nat) : Option Out :=
  L100x0 (E F (d + 4)) F s y B (sl eStt 6 m) fu (i : Int) m.nl m.len 6 (fun i => eStt (m.el i)) m.nl
noncomputable abbrev LB1 (m0 fu : Nat) (i j : Nat) : Option Out :=
  L100x1 (E F (d + 4)) F s y B (sl eStt 6 m) m0 fu (i : Int) (j : Int) (i : Int) m.nl m.len 6 (fun i => eStt (m.el i)) m.nl
theorem in1 (hS : SiteF s) (hL : StatesOk s m) (hF : 67108864 < F) (m0 i k : Nat) (hi : s.cavs.len = i + 1 + k) (hk : k < m0) (hO : LB0 F d s y m B m0 (i + 1) = some (.ret (rowM (pairsM s m k (i + 1))))) :
    ∀ r j fu, s.cavs.len = j + r → r < fu → i < j → LB1 F d s y m B m0 fu i j = some (.ret (rowM ((List.range' j r).map (thinM s m i) ++ pairsM s m k (i + 1)))) := by
  have h5 := hS.cavs5
  have hl := hL.1
  intro r
  cases r with
  | zero =>
    intro j fu h hf hij
    obtain ⟨fu, rfl⟩ : ∃ k, fu = k + 1 := ⟨fu - 1, by omega⟩
    unfold LB1
    rw [L100x1s]
    simp only [Int.ofNat_lt, show ¬ j < s.cavs.len by omega, decide_false, cond_false, wrS (show i < 4611686018427387904 by omega), List.range'_zero, List.map_nil, List.nil_append]
    exact hO
  | succ r =>
    intro j fu h hf hij
    obtain ⟨fu, rfl⟩ : ∃ k, fu = k + 1 := ⟨fu - 1, by omega⟩
    unfold LB1
    rw [L100x1s]
    have a1 := (hL.2 i (by omega)).1
    have a2 := (hL.2 j (by omega)).1
    have p1 := (hS.cav i (by omega)).1
    have p2 := (hS.cav j (by omega)).1
    simp only [Int.ofNat_lt, show j < s.cavs.len by omega, show j < m.len by omega, show i < m.len by omega, decide_true, cond_true, Int.natCast_nonneg, Int.toNat_natCast, tkRow_r, beq_self_eq_true, List.take, List.length, tkCons_c, tkInt_i, tkNil_n,
      s73 F d s i j (m.el i).rad.hi (m.el j).rad.hi (by omega) (by omega) p1 p2 (by omega) (by omega) hF, s73 F d s i j (m.el i).rad.lo (m.el j).rad.lo (by omega) (by omega) p1 p2 (by omega) (by omega) hF, tkOut_ret, wrS (show j < 4611686018427387904 by omega)]
    rw [List.range'_succ, List.map_cons]
    have g := in2 F d s y m B hS hL hF m0 i (pairsM s m k (i + 1)) 50 (by omega) (by omega) (fun acc' h1 h2 => out3 F d s y m B hS hL hF k (i + 1) m0 acc' (by omega) (by omega) h1 (by omega)) r (j + 1) fu [thinM s m i j] (by omega) (by omega) (by omega) (by simp) (by simp; omega)
    unfold LB2 at g
    rw [show ([thinM s m i j] : List Mark).length = 1 from rfl, List.singleton_append] at g
    rw [List.cons_append]
    exact (congrArg (fun G => L100x2 (E F (d + 4)) F s y B (sl eStt 6 m) m0 fu (i : Int) ((j + 1 : Nat) : Int) (i : Int) 1 1 G m.nl m.len 6 (fun i => eStt (m.el i)) m.nl) (gl_one (e := eMark) (z := zMark) (m := thinM s m i j) (by simp only [thinM]))).trans g
theorem out0 (hS : SiteF s) (hL : StatesOk s m) (hF : 67108864 < F) : ∀ k i fu, s.cavs.len = i + k → k < fu → LB0 F d s y m B fu i = some (.ret (rowM (pairsM s m k i))) := by
  have h5 := hS.cavs5
  intro k
  induction k with
  | zero =>
    intro i fu h hf
    obtain ⟨fu, rfl⟩ : ∃ k, fu = k + 1 := ⟨fu - 1, by omega⟩
    unfold LB0
    rw [L100x0s]
    simp only [Int.ofNat_lt, show ¬ i < s.cavs.len by omega, decide_false, cond_false, pairsM]
    rfl
  | succ k ih =>
    intro i fu h hf
    obtain ⟨fu, rfl⟩ : ∃ k, fu = k + 1 := ⟨fu - 1, by omega⟩
    unfold LB0
    rw [L100x0s]
    simp only [Int.ofNat_lt, show i < s.cavs.len by omega, decide_true, cond_true, wrS (show i < 4611686018427387904 by omega), pairsM]
    exact in1 F d s y m B hS hL hF fu i k (by omega) (by omega) (ih (i + 1) fu (by omega) (by omega)) k (i + 1) F (by omega) (by omega) (by omega)
theorem s100 (hS : SiteF s) (hL : StatesOk s m) (hm : m.nl = false) (hF : 67108864 < F) :
    E F (d + 5) 100 [pTod s y B (sl eStt 6 m)] = some (.ret (rowM (pairsM s m s.cavs.len 0))) := by
  have h5 := hS.cavs5
  rw [E_succ, t100]
  simp only [tkRow_r]
  have g := out0 F d s y m B hS hL hF s.cavs.len 0 F (by omega) (by omega)
  unfold LB0 at g
  rw [hm, cond_false]
  simp only [hm] at g
  exact g
theorem s100n : E F (d + 1) 100 [pTod s y B noneRow] = some (.ret (rowM [])) := by
  rw [E_succ, t100]
  rfl
end Go.Sim.Cr

/-
  The first fault of a day; 'Thick'.
-/
namespace Go.Sim.Cr
open Go.Proofs
variable (F d : Nat)
/-- The first fault that some rules' marks make. -/
def faultR (n : Int) (is : Mark → Bool) : List (Int × List Mark) → Option Fault
  | [] => none
  | (k, ms) :: r => match ms.find? is with | some m => some ⟨n, k, m.at_, m.wth⟩ | none => faultR n is r
abbrev eFaultB (f : Option Fault) : V := match f with | some f => .tup [.agg (eFault f), .bool true] | none => .tup [.agg (eFault ⟨0, 1, 0, 0⟩), .bool false]
theorem gl_at {ms : List Mark} {j : Nat} {m : Mark} (h : ms.getD j (ms.getLastD zMark) = m) : gl eMark zMark ms j = eMark m := by unfold gl; rw [h]
theorem ne_of_lt {ms : List Mark} {j : Nat} (h : j < ms.length) : ms.isEmpty = false := by cases ms with | nil => simp at h | cons => rfl
theorem neg1 : decide ((-1 : Int) ≥ 0) = false := rfl
theorem fR_some {n k : Int} {is : Mark → Bool} {ms : List Mark} {m : Mark} {r : List (Int × List Mark)} (h : ms.find? is = some m) : faultR n is ((k, ms) :: r) = some ⟨n, k, m.at_, m.wth⟩ := by rw [faultR, h]
theorem fR_none {n k : Int} {is : Mark → Bool} {ms : List Mark} {r : List (Int × List Mark)} (h : ms.find? is = none) : faultR n is ((k, ms) :: r) = faultR n is r := by rw [faultR, h]
theorem k0 : IntKind.i64.wrap (2 + 0) = 2 := by rw [wr (by omega)]; rfl
theorem k1 : IntKind.i64.wrap (2 + IntKind.i64.wrap (0 + 1)) = 3 := by rw [wr (n := 0 + 1) (by omega), wr (by omega)]; rfl
theorem k2 : IntKind.i64.wrap (2 + IntKind.i64.wrap (IntKind.i64.wrap (0 + 1) + 1)) = 4 := by rw [wr (n := 0 + 1) (by omega), wr (n := 0 + 1 + 1) (by omega), wr (by omega)]; rfl
theorem k3 : IntKind.i64.wrap (2 + IntKind.i64.wrap (IntKind.i64.wrap (IntKind.i64.wrap (0 + 1) + 1) + 1)) = 5 := by rw [wr (n := 0 + 1) (by omega), wr (n := 0 + 1 + 1) (by omega), wr (n := 0 + 1 + 1 + 1) (by omega), wr (by omega)]; rfl
theorem k4 : IntKind.i64.wrap (2 + IntKind.i64.wrap (IntKind.i64.wrap (IntKind.i64.wrap (IntKind.i64.wrap (0 + 1) + 1) + 1) + 1)) = 6 := by rw [wr (n := 0 + 1) (by omega), wr (n := 0 + 1 + 1) (by omega), wr (n := 0 + 1 + 1 + 1) (by omega), wr (n := 0 + 1 + 1 + 1 + 1) (by omega), wr (by omega)]; rfl
theorem k5 : IntKind.i64.wrap (2 + IntKind.i64.wrap (IntKind.i64.wrap (IntKind.i64.wrap (IntKind.i64.wrap (IntKind.i64.wrap (0 + 1) + 1) + 1) + 1) + 1)) = 7 := by
  rw [wr (n := 0 + 1) (by omega), wr (n := 0 + 1 + 1) (by omega), wr (n := 0 + 1 + 1 + 1) (by omega), wr (n := 0 + 1 + 1 + 1 + 1) (by omega), wr (n := 0 + 1 + 1 + 1 + 1 + 1) (by omega), wr (by omega)]; rfl
theorem s65a (s : Site) (y : Day) (B C : V) (n : Int) (f0 f1 f2 f3 f4 f5 : List Mark) (h0 : f0.length ≤ 100) (h1 : f1.length ≤ 100) (h2 : f2.length ≤ 100) (h3 : f3.length ≤ 100) (h4 : f4.length ≤ 100) (h5 : f5.length ≤ 100) (hF : 200 < F)
    (r0 : E F (d + 2) 96 [pTod s y B C] = some (.ret (rowM f0)))
    (r1 : E F (d + 2) 97 [pTod s y B C] = some (.ret (rowM f1)))
    (r2 : E F (d + 2) 98 [pTod s y B C] = some (.ret (rowM f2)))
    (r3 : E F (d + 2) 99 [pTod s y B C] = some (.ret (rowM f3)))
    (r4 : E F (d + 2) 100 [pTod s y B C] = some (.ret (rowM f4)))
    (r5 : E F (d + 2) 101 [pTod s y B C] = some (.ret (rowM f5)))
    : E F (d + 3) 65 [pTod s y B C, .int .i64 n, .fn (.func 66) [] []] = some (.ret (eFaultB (faultR n Mark.possible [(2, f0), (3, f1), (4, f2), (5, f3), (6, f4), (7, f5)]))) := by
  obtain ⟨F, rfl⟩ : ∃ k, F = k + 7 := ⟨F - 7, by omega⟩
  rw [E_succ, t651]
  simp only [r0, tkOut_ret, tkRow_r, s102a (F + 7) d f0 (show f0.length < 4611686018427387904 by omega) (by omega), tkInt_i, decide_true, cond_true]
  rcases ixM_find Mark.possible f0 with ⟨e0, x0⟩ | ⟨j, m, e0, x0, y0, z0⟩
  rotate_left
  · simp only [x0, ne_of_lt y0, cond_false, gl_at z0, fR_some e0, k0, decide_true, cond_true, Int.natCast_nonneg, ge_iff_le, beq_self_eq_true, Int.ofNat_lt, y0, Int.toNat_natCast, tkCons_c, tkInt_i, List.drop]
  simp only [x0, neg1, cond_false]
  simp only [r1, tkOut_ret, tkRow_r, s102a (F + 7) d f1 (show f1.length < 4611686018427387904 by omega) (by omega), tkInt_i, decide_true, cond_true]
  rcases ixM_find Mark.possible f1 with ⟨e1, x1⟩ | ⟨j, m, e1, x1, y1, z1⟩
  rotate_left
  · simp only [x1, ne_of_lt y1, cond_false, gl_at z1, fR_some e1, fR_none e0, k1, decide_true, cond_true, Int.natCast_nonneg, ge_iff_le, beq_self_eq_true, Int.ofNat_lt, y1, Int.toNat_natCast, tkCons_c, tkInt_i, List.drop]
  simp only [x1, neg1, cond_false]
  simp only [r2, tkOut_ret, tkRow_r, s102a (F + 7) d f2 (show f2.length < 4611686018427387904 by omega) (by omega), tkInt_i, decide_true, cond_true]
  rcases ixM_find Mark.possible f2 with ⟨e2, x2⟩ | ⟨j, m, e2, x2, y2, z2⟩
  rotate_left
  · simp only [x2, ne_of_lt y2, cond_false, gl_at z2, fR_some e2, fR_none e0, fR_none e1, k2, decide_true, cond_true, Int.natCast_nonneg, ge_iff_le, beq_self_eq_true, Int.ofNat_lt, y2, Int.toNat_natCast, tkCons_c, tkInt_i, List.drop]
  simp only [x2, neg1, cond_false]
  simp only [r3, tkOut_ret, tkRow_r, s102a (F + 7) d f3 (show f3.length < 4611686018427387904 by omega) (by omega), tkInt_i, decide_true, cond_true]
  rcases ixM_find Mark.possible f3 with ⟨e3, x3⟩ | ⟨j, m, e3, x3, y3, z3⟩
  rotate_left
  · simp only [x3, ne_of_lt y3, cond_false, gl_at z3, fR_some e3, fR_none e0, fR_none e1, fR_none e2, k3, decide_true, cond_true, Int.natCast_nonneg, ge_iff_le, beq_self_eq_true, Int.ofNat_lt, y3, Int.toNat_natCast, tkCons_c, tkInt_i, List.drop]
  simp only [x3, neg1, cond_false]
  simp only [r4, tkOut_ret, tkRow_r, s102a (F + 7) d f4 (show f4.length < 4611686018427387904 by omega) (by omega), tkInt_i, decide_true, cond_true]
  rcases ixM_find Mark.possible f4 with ⟨e4, x4⟩ | ⟨j, m, e4, x4, y4, z4⟩
  rotate_left
  · simp only [x4, ne_of_lt y4, cond_false, gl_at z4, fR_some e4, fR_none e0, fR_none e1, fR_none e2, fR_none e3, k4, decide_true, cond_true, Int.natCast_nonneg, ge_iff_le, beq_self_eq_true, Int.ofNat_lt, y4, Int.toNat_natCast, tkCons_c, tkInt_i, List.drop]
  simp only [x4, neg1, cond_false]
  simp only [r5, tkOut_ret, tkRow_r, s102a (F + 7) d f5 (show f5.length < 4611686018427387904 by omega) (by omega), tkInt_i, decide_true, cond_true]
  rcases ixM_find Mark.possible f5 with ⟨e5, x5⟩ | ⟨j, m, e5, x5, y5, z5⟩
  rotate_left
  · simp only [x5, ne_of_lt y5, cond_false, gl_at z5, fR_some e5, fR_none e0, fR_none e1, fR_none e2, fR_none e3, fR_none e4, k5, decide_true, cond_true, Int.natCast_nonneg, ge_iff_le, beq_self_eq_true, Int.ofNat_lt, y5, Int.toNat_natCast, tkCons_c, tkInt_i, List.drop]
  simp only [x5, neg1, cond_false]
  rw [fR_none e0, fR_none e1, fR_none e2, fR_none e3, fR_none e4, fR_none e5]
  rfl
theorem s65b (s : Site) (y : Day) (B C : V) (n : Int) (f0 f1 f2 f3 f4 f5 : List Mark) (h0 : f0.length ≤ 100) (h1 : f1.length ≤ 100) (h2 : f2.length ≤ 100) (h3 : f3.length ≤ 100) (h4 : f4.length ≤ 100) (h5 : f5.length ≤ 100) (hF : 200 < F)
    (r0 : E F (d + 2) 96 [pTod s y B C] = some (.ret (rowM f0)))
    (r1 : E F (d + 2) 97 [pTod s y B C] = some (.ret (rowM f1)))
    (r2 : E F (d + 2) 98 [pTod s y B C] = some (.ret (rowM f2)))
    (r3 : E F (d + 2) 99 [pTod s y B C] = some (.ret (rowM f3)))
    (r4 : E F (d + 2) 100 [pTod s y B C] = some (.ret (rowM f4)))
    (r5 : E F (d + 2) 101 [pTod s y B C] = some (.ret (rowM f5)))
    : E F (d + 3) 65 [pTod s y B C, .int .i64 n, .fn (.func 67) [] []] = some (.ret (eFaultB (faultR n Mark.certain [(2, f0), (3, f1), (4, f2), (5, f3), (6, f4), (7, f5)]))) := by
  obtain ⟨F, rfl⟩ : ∃ k, F = k + 7 := ⟨F - 7, by omega⟩
  rw [E_succ, t652]
  simp only [r0, tkOut_ret, tkRow_r, s102b (F + 7) d f0 (show f0.length < 4611686018427387904 by omega) (by omega), tkInt_i, decide_true, cond_true]
  rcases ixM_find Mark.certain f0 with ⟨e0, x0⟩ | ⟨j, m, e0, x0, y0, z0⟩
  rotate_left
  · simp only [x0, ne_of_lt y0, cond_false, gl_at z0, fR_some e0, k0, decide_true, cond_true, Int.natCast_nonneg, ge_iff_le, beq_self_eq_true, Int.ofNat_lt, y0, Int.toNat_natCast, tkCons_c, tkInt_i, List.drop]
  simp only [x0, neg1, cond_false]
  simp only [r1, tkOut_ret, tkRow_r, s102b (F + 7) d f1 (show f1.length < 4611686018427387904 by omega) (by omega), tkInt_i, decide_true, cond_true]
  rcases ixM_find Mark.certain f1 with ⟨e1, x1⟩ | ⟨j, m, e1, x1, y1, z1⟩
  rotate_left
  · simp only [x1, ne_of_lt y1, cond_false, gl_at z1, fR_some e1, fR_none e0, k1, decide_true, cond_true, Int.natCast_nonneg, ge_iff_le, beq_self_eq_true, Int.ofNat_lt, y1, Int.toNat_natCast, tkCons_c, tkInt_i, List.drop]
  simp only [x1, neg1, cond_false]
  simp only [r2, tkOut_ret, tkRow_r, s102b (F + 7) d f2 (show f2.length < 4611686018427387904 by omega) (by omega), tkInt_i, decide_true, cond_true]
  rcases ixM_find Mark.certain f2 with ⟨e2, x2⟩ | ⟨j, m, e2, x2, y2, z2⟩
  rotate_left
  · simp only [x2, ne_of_lt y2, cond_false, gl_at z2, fR_some e2, fR_none e0, fR_none e1, k2, decide_true, cond_true, Int.natCast_nonneg, ge_iff_le, beq_self_eq_true, Int.ofNat_lt, y2, Int.toNat_natCast, tkCons_c, tkInt_i, List.drop]
  simp only [x2, neg1, cond_false]
  simp only [r3, tkOut_ret, tkRow_r, s102b (F + 7) d f3 (show f3.length < 4611686018427387904 by omega) (by omega), tkInt_i, decide_true, cond_true]
  rcases ixM_find Mark.certain f3 with ⟨e3, x3⟩ | ⟨j, m, e3, x3, y3, z3⟩
  rotate_left
  · simp only [x3, ne_of_lt y3, cond_false, gl_at z3, fR_some e3, fR_none e0, fR_none e1, fR_none e2, k3, decide_true, cond_true, Int.natCast_nonneg, ge_iff_le, beq_self_eq_true, Int.ofNat_lt, y3, Int.toNat_natCast, tkCons_c, tkInt_i, List.drop]
  simp only [x3, neg1, cond_false]
  simp only [r4, tkOut_ret, tkRow_r, s102b (F + 7) d f4 (show f4.length < 4611686018427387904 by omega) (by omega), tkInt_i, decide_true, cond_true]
  rcases ixM_find Mark.certain f4 with ⟨e4, x4⟩ | ⟨j, m, e4, x4, y4, z4⟩
  rotate_left
  · simp only [x4, ne_of_lt y4, cond_false, gl_at z4, fR_some e4, fR_none e0, fR_none e1, fR_none e2, fR_none e3, k4, decide_true, cond_true, Int.natCast_nonneg, ge_iff_le, beq_self_eq_true, Int.ofNat_lt, y4, Int.toNat_natCast, tkCons_c, tkInt_i, List.drop]
  simp only [x4, neg1, cond_false]
  simp only [r5, tkOut_ret, tkRow_r, s102b (F + 7) d f5 (show f5.length < 4611686018427387904 by omega) (by omega), tkInt_i, decide_true, cond_true]
  rcases ixM_find Mark.certain f5 with ⟨e5, x5⟩ | ⟨j, m, e5, x5, y5, z5⟩
  rotate_left
  · simp only [x5, ne_of_lt y5, cond_false, gl_at z5, fR_some e5, fR_none e0, fR_none e1, fR_none e2, fR_none e3, fR_none e4, k5, decide_true, cond_true, Int.natCast_nonneg, ge_iff_le, beq_self_eq_true, Int.ofNat_lt, y5, Int.toNat_natCast, tkCons_c, tkInt_i, List.drop]
  simp only [x5, neg1, cond_false]
  rw [fR_none e0, fR_none e1, fR_none e2, fR_none e3, fR_none e4, fR_none e5]
  rfl
end Go.Sim.Cr

/-
  Plain laws of tables and of what a volume loses: what grows with what.
-/
namespace Go.Sim.Cr
open Go.Proofs
theorem monoN {f : Nat → Int} {n : Nat} (h : ∀ j, j + 1 < n → f j ≤ f (j + 1)) : ∀ {j i : Nat}, i ≤ j → j < n → f i ≤ f j := by
  intro j
  induction j with
  | zero => intro i hi _; rw [show i = 0 by omega]; exact Int.le_refl _
  | succ j ih =>
    intro i hi hj
    rcases Nat.eq_or_lt_of_le hi with rfl | h4
    · exact Int.le_refl _
    · have := @ih i (by omega) (by omega)
      have := h j hj
      omega
theorem lastIx_mono {num : Nat → Int} {n : Nat} {x y : Int} (hn : 0 < n) (h0 : num 0 ≤ x) (hxy : x ≤ y) (hi : Inc num n) : lastIx num x n ≤ lastIx num y n := by
  obtain ⟨a1, a2, a3⟩ := lastIx_ok hn h0
  obtain ⟨b1, b2, b3⟩ := lastIx_ok hn (Int.le_trans h0 hxy)
  rcases Nat.lt_or_ge (lastIx num y n) (lastIx num x n) with h | h
  · have := b3 _ h a1; omega
  · exact h
theorem firstIx_mono {num : Nat → Int} {n : Nat} {x y : Int} (hn : 0 < n) (h0 : y ≤ num (n - 1)) (hxy : x ≤ y) (hi : Inc num n) : firstIx num x n 0 ≤ firstIx num y n 0 := by
  obtain ⟨_, a1, a2, a3⟩ := @firstIx_ok num x n 0 hn (by rw [Nat.zero_add]; omega)
  obtain ⟨_, b1, b2, b3⟩ := @firstIx_ok num y n 0 hn (by rw [Nat.zero_add]; omega)
  rcases Nat.lt_or_ge (firstIx num y n 0) (firstIx num x n 0) with h | h
  · have := a3 _ (Nat.zero_le _) h; omega
  · exact h
theorem last_first {num : Nat → Int} {n : Nat} {x y : Int} (hn : 0 < n) (h0 : num 0 ≤ x) (h1 : y ≤ num (n - 1)) (hxy : x ≤ y) (hi : Inc num n) : lastIx num x n ≤ firstIx num y n 0 := by
  obtain ⟨a1, a2, a3⟩ := lastIx_ok hn h0
  obtain ⟨_, b1, b2, b3⟩ := @firstIx_ok num y n 0 hn (by rw [Nat.zero_add]; omega)
  rcases Nat.lt_or_ge (firstIx num y n 0) (lastIx num x n) with h | h
  · have := hi.lt h a1; omega
  · exact h
variable {s : Site}
theorem SiteF.rowUp (hS : SiteF s) {i j : Nat} (hij : i ≤ j) (hj : j < s.rows.len) :
    ((s.rows.el i).rate.lo ≤ (s.rows.el j).rate.lo ∧ (s.rows.el i).rate.hi ≤ (s.rows.el j).rate.hi) ∧ (s.rows.el i).spall.lo ≤ (s.rows.el j).spall.lo ∧ (s.rows.el i).spall.hi ≤ (s.rows.el j).spall.hi := by
  have st : ∀ k, k + 1 < s.rows.len → ((s.rows.el k).rate.lo ≤ (s.rows.el (k + 1)).rate.lo ∧ (s.rows.el k).rate.hi ≤ (s.rows.el (k + 1)).rate.hi) ∧ (s.rows.el k).spall.lo ≤ (s.rows.el (k + 1)).spall.lo ∧ (s.rows.el k).spall.hi ≤ (s.rows.el (k + 1)).spall.hi := fun k hk => by
    have := hS.row (k + 1) hk
    simp only [rowB, rowStep, Bool.and_eq_true, decide_eq_true_iff] at this
    exact this.2.2.2.2
  exact ⟨⟨monoN (f := fun k => (s.rows.el k).rate.lo) (fun k hk => (st k hk).1.1) hij hj, monoN (f := fun k => (s.rows.el k).rate.hi) (fun k hk => (st k hk).1.2) hij hj⟩,
    monoN (f := fun k => (s.rows.el k).spall.lo) (fun k hk => (st k hk).2.1) hij hj, monoN (f := fun k => (s.rows.el k).spall.hi) (fun k hk => (st k hk).2.2) hij hj⟩
theorem SiteF.heatUp (hS : SiteF s) {i j : Nat} (hij : i ≤ j) (hj : j < s.heats.len) :
    (s.heats.el i).factor.lo ≤ (s.heats.el j).factor.lo ∧ (s.heats.el i).factor.hi ≤ (s.heats.el j).factor.hi := by
  have st : ∀ k, k + 1 < s.heats.len → (s.heats.el k).factor.lo ≤ (s.heats.el (k + 1)).factor.lo ∧ (s.heats.el k).factor.hi ≤ (s.heats.el (k + 1)).factor.hi := fun k hk => by
    have := hS.heat (k + 1) hk
    simp only [heatB, heatStep, Bool.and_eq_true, decide_eq_true_iff] at this
    exact this.2.2.2
  exact ⟨monoN (f := fun k => (s.heats.el k).factor.lo) (fun k hk => (st k hk).1) hij hj, monoN (f := fun k => (s.heats.el k).factor.hi) (fun k hk => (st k hk).2) hij hj⟩
abbrev Sub (p q : Span) : Prop := q.lo ≤ p.lo ∧ p.hi ≤ q.hi
/-- Narrower pressures are not beyond the tables if wider ones aren't; their rates and falls lie within. -/
theorem rate_sub (hS : SiteF s) {c : Cav} {p p' q : Span} (hf : farB s c p q = false) (hs : Sub p' p) (h' : p'.lo ≤ p'.hi) :
    Sub (rateOf s c p') (rateOf s c p) ∧ Sub (fallOf s c p') (fallOf s c p) ∧ (rateOf s c p').lo ≤ (rateOf s c p').hi ∧ (fallOf s c p').lo ≤ (fallOf s c p').hi := by
  obtain ⟨f1, _⟩ := far_split hf
  obtain ⟨o1, o2⟩ := not_off f1
  have hi := hS.incRow
  have n1 := hS.rows1
  obtain ⟨a1, _⟩ := lastIx_ok (num := rowN s) (x := c.rock - p'.hi) n1 (by omega)
  have b1 := (@firstIx_ok (rowN s) (c.rock - p.lo) s.rows.len 0 n1 (by rw [Nat.zero_add]; omega)).2.1
  have b2 := (@firstIx_ok (rowN s) (c.rock - p'.lo) s.rows.len 0 n1 (by rw [Nat.zero_add]; omega)).2.1
  have u1 := hS.rowUp (lastIx_mono (num := rowN s) (x := c.rock - p.hi) (y := c.rock - p'.hi) n1 o1 (by omega) hi) a1
  have u2 := hS.rowUp (firstIx_mono (num := rowN s) (x := c.rock - p'.lo) (y := c.rock - p.lo) n1 o2 (by omega) hi) (by omega)
  have u3 := hS.rowUp (last_first (num := rowN s) (x := c.rock - p'.hi) (y := c.rock - p'.lo) n1 (by omega) (by omega) (by omega) hi) (by omega)
  have r3 := hS.rowOk (show firstIx (rowN s) (c.rock - p'.lo) s.rows.len 0 < s.rows.len by omega)
  exact ⟨⟨u1.1.1, u2.1.2⟩, ⟨u1.2.1, u2.2.2⟩, Int.le_trans u3.1.1 r3.2.1.2.1, Int.le_trans u3.2.1 r3.2.2.2.1⟩
theorem factor_sub (hS : SiteF s) {c : Cav} {p q q' : Span} (hf : farB s c p q = false) (hs : Sub q' q) (h' : q'.lo ≤ q'.hi) :
    Sub (factorOf s q') (factorOf s q) ∧ (factorOf s q').lo ≤ (factorOf s q').hi := by
  obtain ⟨_, f1⟩ := far_split hf
  obtain ⟨o1, o2⟩ := not_off f1
  have hi := hS.incHeat
  have n1 := hS.heats1
  obtain ⟨a1, _⟩ := lastIx_ok (num := heatN s) (x := q'.lo) n1 (by omega)
  have b1 := (@firstIx_ok (heatN s) q.hi s.heats.len 0 n1 (by rw [Nat.zero_add]; omega)).2.1
  have b2 := (@firstIx_ok (heatN s) q'.hi s.heats.len 0 n1 (by rw [Nat.zero_add]; omega)).2.1
  have u1 := hS.heatUp (lastIx_mono (num := heatN s) (x := q.lo) (y := q'.lo) n1 o1 (by omega) hi) a1
  have u2 := hS.heatUp (firstIx_mono (num := heatN s) (x := q'.hi) (y := q.hi) n1 o2 (by omega) hi) (by omega)
  have u3 := hS.heatUp (last_first (num := heatN s) (x := q'.lo) (y := q'.hi) n1 (by omega) (by omega) (by omega) hi) (by omega)
  have r3 := hS.heatOk (show firstIx (heatN s) q'.hi s.heats.len 0 < s.heats.len by omega)
  exact ⟨⟨u1.1, u2.2⟩, Int.le_trans u3.1 r3.2.2.1⟩
theorem far_sub {c : Cav} {p p' q q' : Span} (hf : farB s c p q = false) (hp : Sub p' p) (hq : Sub q' q) : farB s c p' q' = false := by
  unfold farB offB at hf ⊢
  simp only [Bool.or_eq_false_iff, decide_eq_false_iff_not] at hf ⊢
  omega
theorem prod_mono {u v r r' f f' : Int} (hu : 0 ≤ u) (huv : u ≤ v) (hr : 0 ≤ r) (hrr : r ≤ r') (hf : 0 ≤ f) (hff : f ≤ f') : u * r * f ≤ v * r' * f' := by
  have h1 : u * r ≤ v * r' := Int.mul_le_mul huv hrr hr (by omega)
  exact Int.mul_le_mul h1 hff hf (Int.mul_nonneg (by omega) (by omega))
theorem shrink_mono {u v r r' f f' k k' : Int} (hu : 0 ≤ u) (huv : u ≤ v) (hr : 0 ≤ r) (hrr : r ≤ r') (hf : 0 ≤ f) (hff : f ≤ f') (hk : k ≤ k') : shrink u r f k ≤ shrink v r' f' k' := by
  have h := prod_mono hu huv hr hrr hf hff
  have h2 : (u * r * f + k) / 1000000000 ≤ (v * r' * f' + k') / 1000000000 := Int.ediv_le_ediv (by omega) (by omega)
  unfold shrink minI
  split <;> split <;> omega
theorem shrink_rest {u v r f k : Int} (huv : u ≤ v) (hr : 0 ≤ r ∧ r ≤ 100000) (hf : 0 ≤ f ∧ f ≤ 10000) : u - shrink u r f k ≤ v - shrink v r f k := by
  have h2 := mulB hr hf
  have h3 : (v - u) * (r * f) ≤ (v - u) * 1000000000 := Int.mul_le_mul_of_nonneg_left (by omega) (by omega)
  have h4 : v * r * f = u * r * f + (v - u) * (r * f) := by rw [Int.mul_assoc, Int.mul_assoc, ← Int.add_mul]; congr 1; omega
  have h5 : (v * r * f + k) / 1000000000 ≤ (u * r * f + k) / 1000000000 + (v - u) := by omega
  unfold shrink minI
  split <;> split <;> omega
abbrev SubS (a b : Stt) : Prop := Sub a.rad b.rad ∧ Sub a.vol b.vol ∧ Sub a.lost b.lost
/-- What is known better leads to what is known better. -/
theorem move1xsub (hS : SiteF s) {c : Cav} {x x' : Stt} {p p' q q' : Span} (hx : SttOk x) (hx' : SttOk x') (hp' : p'.lo ≤ p'.hi) (hq' : q'.lo ≤ q'.hi) (hf : farB s c p q = false) (sx : SubS x' x) (sp : Sub p' p) (sq : Sub q' q) :
    SubS (move1 s c x' p' q') (move1 s c x p q) := by
  obtain ⟨k1, k2, k3, k4, k5, k6⟩ := rates_ok hS hf
  obtain ⟨k1', k2', k3', k4', k5', k6'⟩ := rates_ok hS (far_sub hf sp sq)
  obtain ⟨r1, r2, r3, r4⟩ := rate_sub hS hf sp hp'
  obtain ⟨g1, g2⟩ := factor_sub hS hf sq hq'
  have a1 := @shrink_mono x'.vol.lo x'.vol.lo (rateOf s c p').hi (rateOf s c p).hi (factorOf s q').hi (factorOf s q).hi 999999999 999999999 (by omega) (by omega) (by omega) (by omega) (by omega) (by omega) (by omega)
  have a2 := @shrink_rest x.vol.lo x'.vol.lo (rateOf s c p).hi (factorOf s q).hi 999999999 (by omega) k2 k6
  have a3 := @shrink_mono x'.vol.hi x'.vol.hi (rateOf s c p).lo (rateOf s c p').lo (factorOf s q).lo (factorOf s q').lo 0 0 (by omega) (by omega) (by omega) (by omega) (by omega) (by omega) (by omega)
  have a4 := @shrink_rest x'.vol.hi x.vol.hi (rateOf s c p).lo (factorOf s q).lo 0 (by omega) k1 k5
  have a5 := @shrink_mono x.vol.lo x'.vol.lo (rateOf s c p).lo (rateOf s c p').lo (factorOf s q).lo (factorOf s q').lo 0 0 (by omega) (by omega) (by omega) (by omega) (by omega) (by omega) (by omega)
  have a6 := @shrink_mono x'.vol.hi x.vol.hi (rateOf s c p').hi (rateOf s c p).hi (factorOf s q').hi (factorOf s q).hi 999999999 999999999 (by omega) (by omega) (by omega) (by omega) (by omega) (by omega) (by omega)
  refine ⟨⟨?_, ?_⟩, ⟨?_, ?_⟩, ?_, ?_⟩
  · show minI (x.rad.lo + (fallOf s c p).lo) 400000 ≤ minI (x'.rad.lo + (fallOf s c p').lo) 400000; unfold minI; split <;> split <;> omega
  · show minI (x'.rad.hi + (fallOf s c p').hi) 400000 ≤ minI (x.rad.hi + (fallOf s c p).hi) 400000; unfold minI; split <;> split <;> omega
  · show x.vol.lo - _ ≤ x'.vol.lo - _; omega
  · show x'.vol.hi - _ ≤ x.vol.hi - _; omega
  · show minI _ 1000000000 ≤ minI _ 1000000000; unfold minI; split <;> split <;> omega
  · show minI _ 1000000000 ≤ minI _ 1000000000; unfold minI; split <;> split <;> omega
theorem move1xok (hS : SiteF s) {c : Cav} {x : Stt} {p q : Span} (hx : SttOk x) (hp : p.lo ≤ p.hi) (hq : q.lo ≤ q.hi) (hf : farB s c p q = false) : SttOk (move1 s c x p q) := by
  obtain ⟨k1, k2, k3, k4, k5, k6⟩ := rates_ok hS hf
  obtain ⟨r1, r2, r3, r4⟩ := rate_sub hS hf (show Sub p p from ⟨Int.le_refl _, Int.le_refl _⟩) hp
  obtain ⟨g1, g2⟩ := factor_sub hS hf (show Sub q q from ⟨Int.le_refl _, Int.le_refl _⟩) hq
  have b1 := @shrink_ok x.vol.lo (rateOf s c p).hi (factorOf s q).hi 999999999 (by omega) k2 k6 (by omega)
  have b2 := @shrink_ok x.vol.hi (rateOf s c p).lo (factorOf s q).lo 0 (by omega) k1 k5 (by omega)
  have b3 := @shrink_ok x.vol.lo (rateOf s c p).lo (factorOf s q).lo 0 (by omega) k1 k5 (by omega)
  have b4 := @shrink_ok x.vol.hi (rateOf s c p).hi (factorOf s q).hi 999999999 (by omega) k2 k6 (by omega)
  have a1 := @shrink_mono x.vol.lo x.vol.lo (rateOf s c p).lo (rateOf s c p).hi (factorOf s q).lo (factorOf s q).hi 0 999999999 (by omega) (by omega) (by omega) (by omega) (by omega) (by omega) (by omega)
  have a2 := @shrink_rest x.vol.lo x.vol.hi (rateOf s c p).lo (factorOf s q).lo 0 (by omega) k1 k5
  have a3 := @shrink_mono x.vol.lo x.vol.hi (rateOf s c p).lo (rateOf s c p).hi (factorOf s q).lo (factorOf s q).hi 0 999999999 (by omega) (by omega) (by omega) (by omega) (by omega) (by omega) (by omega)
  refine ⟨⟨?_, ?_, ?_⟩, ⟨?_, ?_, ?_⟩, ?_, ?_, ?_⟩
  · show 0 ≤ minI _ 400000; unfold minI; split <;> omega
  · show minI _ 400000 ≤ minI _ 400000; unfold minI; split <;> split <;> omega
  · show minI _ 400000 ≤ 400000; unfold minI; split <;> omega
  · show 0 ≤ x.vol.lo - _; omega
  · show x.vol.lo - _ ≤ x.vol.hi - _; omega
  · show x.vol.hi - _ ≤ 10000000; omega
  · show 0 ≤ minI _ 1000000000; unfold minI; split <;> omega
  · show minI _ 1000000000 ≤ minI _ 1000000000; unfold minI; split <;> split <;> omega
  · show minI _ 1000000000 ≤ 1000000000; unfold minI; split <;> omega
end Go.Sim.Cr

/-
  What the evaluator says of these functions (printed by a private program; each row is checked by the kernel).
-/
set_option maxRecDepth 100000
namespace Go.Sim.Cr
open Go.Proofs

noncomputable def L30x0 (env : Env) (F : Nat) (s : Site) (l : Sl Day) (fu : Nat) (b0 : Bool) (k1 : Nat) (k2 : Nat) (g3 : Nat → List V) (b4 : Bool) (k5 : Nat) (k6 : Nat) (g7 : Nat → List V) (b8 : Bool) (i9 : Int) (q10 : IntKind) (i11 : Int) (q12 : IntKind) (i13 : Int) (q14 : IntKind) (i15 : Int) (q16 : IntKind) (i17 : Int) (q18 : IntKind) (i19 : Int) (q20 : IntKind) (i21 : Int) (q22 : IntKind) (i23 : Int) (q24 : IntKind) (i25 : Int) : Option Out := atLoop Try.prog (cfg F) env 30 [.r, .d, .r, .r, .r, .r, .r, .r, .r, .r, .l, .r, .d] [] fu { tm := tmL 84 0 [(4, (.optr 0 0 0)), (5, (.optr 1 0 0)), (7, (.optr 2 0 0)), (8, (.optr 3 0 0)), (9, (.optr 4 0 0)), (10, (.row b0 k1 k2 g3)), (11, (.row b4 k5 k6 g7)), (12, (.bool b8)), (41, (sl eDay 2 l)), (42, (.int .i64 (((Sl.len l) : Nat) : Int))), (43, (.int .i64 i9))], hp := [(.box 71 [(.int .i64 (0 : Int)), (.int .i64 (0 : Int)), (.int .i64 (0 : Int)), (.int .i64 (0 : Int))] true), (.box 71 [(.int .i64 (0 : Int)), (.int .i64 (0 : Int)), (.int .i64 (0 : Int)), (.int .i64 (0 : Int))] true), (.box 100 (eSite s) false), (.box 71 [(.int q10 i11), (.int q12 i13), (.int q14 i15), (.int q16 i17)] true), (.box 71 [(.int q18 i19), (.int q20 i21), (.int q22 i23), (.int q24 i25)] true)] }
theorem t30 (env : Env) (F : Nat) (s : Site) (l : Sl Day) : (evFun Try.prog (cfg F) env 30 [(.agg (eSite s)), (sl eDay 2 l)]) =
  (bif (decide ((((Sl.len l) : Nat) : Int) > (60 : Int))) then some (.ret (.tup [(.agg [(.int .i64 (0 : Int)), (.int .i64 (0 : Int)), (.int .i64 (0 : Int)), (.int .i64 (0 : Int))]), (.agg [(.int .i64 (0 : Int)), (.int .i64 (0 : Int)), (.int .i64 (0 : Int)), (.int .i64 (0 : Int))]), (.int .i64 (3 : Int))]))
  else (tkOut (env 48 [(.agg (eSite s))]) none (fun v4 => (tkBool v4 none fun b5 => (bif (!b5) then some (.ret (.tup [(.agg [(.int .i64 (0 : Int)), (.int .i64 (0 : Int)), (.int .i64 (0 : Int)), (.int .i64 (0 : Int))]), (.agg [(.int .i64 (0 : Int)), (.int .i64 (0 : Int)), (.int .i64 (0 : Int)), (.int .i64 (0 : Int))]), (.int .i64 (2 : Int))]))
        else (tkOut (env 63 [(sl eDay 2 l), (.fn (.func 64) [] [(pSite s)])]) none (fun v6 => (tkBool v6 none fun b7 => (bif b7 then some (.ret (.tup [(.agg [(.int .i64 (0 : Int)), (.int .i64 (0 : Int)), (.int .i64 (0 : Int)), (.int .i64 (0 : Int))]), (.agg [(.int .i64 (0 : Int)), (.int .i64 (0 : Int)), (.int .i64 (0 : Int)), (.int .i64 (0 : Int))]), (.int .i64 (2 : Int))]))
              else (tkOut (env 57 [(pSite s)]) none (fun v8 => (tkRow v8 none fun nl9 n10 wd11 g12 => (L30x0 env F s l F true 0 0 (fun u13 => []) nl9 n10 wd11 g12 false (0 : Int) .i64 (0 : Int) .i64 (1 : Int) .i64 (0 : Int) .i64 (0 : Int) .i64 (0 : Int) .i64 (1 : Int) .i64 (0 : Int) .i64 (0 : Int))))
                (fun p8 => (tkIfc p8 none fun t9 x10 => (bif (flatP (.iface t9 x10)) then some (.pan (.iface t9 x10))
                    else none)))))))
          (fun p6 => (tkIfc p6 none fun t7 x8 => (bif (flatP (.iface t7 x8)) then some (.pan (.iface t7 x8))
              else none)))))))
    (fun p4 => (tkIfc p4 none fun t5 x6 => (bif (flatP (.iface t5 x6)) then some (.pan (.iface t5 x6))
        else none))))) := by kernel_rfl
theorem L30x0s (env : Env) (F : Nat) (s : Site) (l : Sl Day) (fu : Nat) (b0 : Bool) (k1 : Nat) (k2 : Nat) (g3 : Nat → List V) (b4 : Bool) (k5 : Nat) (k6 : Nat) (g7 : Nat → List V) (b8 : Bool) (i9 : Int) (q10 : IntKind) (i11 : Int) (q12 : IntKind) (i13 : Int) (q14 : IntKind) (i15 : Int) (q16 : IntKind) (i17 : Int) (q18 : IntKind) (i19 : Int) (q20 : IntKind) (i21 : Int) (q22 : IntKind) (i23 : Int) (q24 : IntKind) (i25 : Int) : L30x0 env F s l (fu + 1) b0 k1 k2 g3 b4 k5 k6 g7 b8 i9 q10 i11 q12 i13 q14 i15 q16 i17 q18 i19 q20 i21 q22 i23 q24 i25 =
  (bif (decide (i9 < (((Sl.len l) : Nat) : Int))) then (bif (decide ((0 : Int) ≤ i9)) then (bif (decide (i9 < (((Sl.len l) : Nat) : Int))) then (tkOut (env 51 [(pSite s), (.row b4 k5 k6 g7), (.agg [(sl eSpan 2 (Day.press (Sl.el l (Int.toNat i9)))), (sl eSpan 2 (Day.warm (Sl.el l (Int.toNat i9))))])]) none (fun v31 => (tkTup v31 none fun l32 => (tkCons l32 none fun v33 r34 => (tkRow v33 none fun nl35 n36 wd37 g38 => (tkCons r34 none fun v39 r40 => (tkBool v39 none fun b41 => (tkNil r40 none ((bif (!b8) then (tkOut (env 65 [(.rptr 1 5 (fun u42 => [(pSite s), (sl eSpan 2 (Day.press (Sl.el l (Int.toNat i9)))), (sl eSpan 2 (Day.warm (Sl.el l (Int.toNat i9)))), (.row b0 k1 k2 g3), (.row nl35 n36 wd37 g38)]) 0 0), (.int .i64 i9), (.fn (.func 66) [] [])]) none (fun v42 => (tkTup v42 none fun l43 => (tkCons l43 none fun v44 r45 => (tkAgg v44 none fun l46 => (tkCons l46 none fun v47 r48 => (tkInt v47 none fun q49 n50 => (tkCons r48 none fun v51 r52 => (tkInt v51 none fun q53 n54 => (tkCons r52 none fun v55 r56 => (tkInt v55 none fun q57 n58 => (tkCons r56 none fun v59 r60 => (tkInt v59 none fun q61 n62 => (tkNil r60 none ((tkCons r45 none fun v63 r64 => (tkBool v63 none fun b65 => (tkNil r64 none ((bif (!b41) then some (.ret (.tup [(.agg [(.int q49 n50), (.int q53 n54), (.int q57 n58), (.int q61 n62)]), (.agg [(.int q18 i19), (.int q20 i21), (.int q22 i23), (.int q24 i25)]), (.int .i64 (0 : Int))]))
                                                        else (tkOut (env 65 [(.rptr 1 5 (fun u66 => [(pSite s), (sl eSpan 2 (Day.press (Sl.el l (Int.toNat i9)))), (sl eSpan 2 (Day.warm (Sl.el l (Int.toNat i9)))), (.row b0 k1 k2 g3), (.row nl35 n36 wd37 g38)]) 0 0), (.int .i64 i9), (.fn (.func 67) [] [])]) none (fun v66 => (tkTup v66 none fun l67 => (tkCons l67 none fun v68 r69 => (tkAgg v68 none fun l70 => (tkCons l70 none fun v71 r72 => (tkInt v71 none fun q73 n74 => (tkCons r72 none fun v75 r76 => (tkInt v75 none fun q77 n78 => (tkCons r76 none fun v79 r80 => (tkInt v79 none fun q81 n82 => (tkCons r80 none fun v83 r84 => (tkInt v83 none fun q85 n86 => (tkNil r84 none ((tkCons r69 none fun v87 r88 => (tkBool v87 none fun b89 => (tkNil r88 none ((bif b89 then some (.ret (.tup [(.agg [(.int q49 n50), (.int q53 n54), (.int q57 n58), (.int q61 n62)]), (.agg [(.int q73 n74), (.int q77 n78), (.int q81 n82), (.int q85 n86)]), (.int .i64 (0 : Int))]))
                                                                                          else (L30x0 env F s l fu (Sl.nl (Day.press (Sl.el l (Int.toNat i9)))) (Sl.len (Day.press (Sl.el l (Int.toNat i9)))) 2 (fun u90 => (eSpan (Sl.el (Day.press (Sl.el l (Int.toNat i9))) u90))) nl35 n36 wd37 g38 b65 (IntKind.wrap .i64 (i9 + (1 : Int))) q49 n50 q53 n54 q57 n58 q61 n62 q73 n74 q77 n78 q81 n82 q85 n86))))))))))))))))))))
                                                          (fun p66 => (tkIfc p66 none fun t67 x68 => (bif (flatP (.iface t67 x68)) then some (.pan (.iface t67 x68))
                                                              else none)))))))))))))))))))))))
                        (fun p42 => (tkIfc p42 none fun t43 x44 => (bif (flatP (.iface t43 x44)) then some (.pan (.iface t43 x44))
                            else none))))
                      else (bif (!b41) then some (.ret (.tup [(.agg [(.int q10 i11), (.int q12 i13), (.int q14 i15), (.int q16 i17)]), (.agg [(.int q18 i19), (.int q20 i21), (.int q22 i23), (.int q24 i25)]), (.int .i64 (0 : Int))]))
                        else (tkOut (env 65 [(.rptr 1 5 (fun u42 => [(pSite s), (sl eSpan 2 (Day.press (Sl.el l (Int.toNat i9)))), (sl eSpan 2 (Day.warm (Sl.el l (Int.toNat i9)))), (.row b0 k1 k2 g3), (.row nl35 n36 wd37 g38)]) 0 0), (.int .i64 i9), (.fn (.func 67) [] [])]) none (fun v42 => (tkTup v42 none fun l43 => (tkCons l43 none fun v44 r45 => (tkAgg v44 none fun l46 => (tkCons l46 none fun v47 r48 => (tkInt v47 none fun q49 n50 => (tkCons r48 none fun v51 r52 => (tkInt v51 none fun q53 n54 => (tkCons r52 none fun v55 r56 => (tkInt v55 none fun q57 n58 => (tkCons r56 none fun v59 r60 => (tkInt v59 none fun q61 n62 => (tkNil r60 none ((tkCons r45 none fun v63 r64 => (tkBool v63 none fun b65 => (tkNil r64 none ((bif b65 then some (.ret (.tup [(.agg [(.int q10 i11), (.int q12 i13), (.int q14 i15), (.int q16 i17)]), (.agg [(.int q49 n50), (.int q53 n54), (.int q57 n58), (.int q61 n62)]), (.int .i64 (0 : Int))]))
                                                          else (L30x0 env F s l fu (Sl.nl (Day.press (Sl.el l (Int.toNat i9)))) (Sl.len (Day.press (Sl.el l (Int.toNat i9)))) 2 (fun u66 => (eSpan (Sl.el (Day.press (Sl.el l (Int.toNat i9))) u66))) nl35 n36 wd37 g38 b8 (IntKind.wrap .i64 (i9 + (1 : Int))) q10 i11 q12 i13 q14 i15 q16 i17 q49 n50 q53 n54 q57 n58 q61 n62))))))))))))))))))))
                          (fun p42 => (tkIfc p42 none fun t43 x44 => (bif (flatP (.iface t43 x44)) then some (.pan (.iface t43 x44))
                              else none))))))))))))))
        (fun p31 => (tkIfc p31 none fun t32 x33 => (bif (flatP (.iface t32 x33)) then some (.pan (.iface t32 x33))
            else none))))
      else none)
    else none)
  else some (.ret (.tup [(.agg [(.int q10 i11), (.int q12 i13), (.int q14 i15), (.int q16 i17)]), (.agg [(.int q18 i19), (.int q20 i21), (.int q22 i23), (.int q24 i25)]), (.int .i64 (0 : Int))]))) := by kernel_rfl

noncomputable def L31x0 (env : Env) (F : Nat) (s : Site) (l : Sl Day) (b : Bool) (fu : Nat) (b0 : Bool) (k1 : Nat) (k2 : Nat) (g3 : Nat → List V) (i4 : Int) : Option Out := atLoop Try.prog (cfg F) env 31 [.r, .r, .l, .r, .d] [] fu { tm := tmL 65 0 [(1, (sl eDay 2 l)), (2, (.bool b)), (3, (.optr 0 0 0)), (6, (.optr 1 0 0)), (7, (.row b0 k1 k2 g3)), (8, (.int .i64 i4))], hp := [(.box 28 (eSite s) true), (.box 71 [(.int .i64 (0 : Int)), (.int .i64 (0 : Int)), (.int .i64 (0 : Int)), (.int .i64 (0 : Int))] true)] }
theorem t31 (env : Env) (F : Nat) (s : Site) (l : Sl Day) (b : Bool) : (evFun Try.prog (cfg F) env 31 [(.agg (eSite s)), (sl eDay 2 l), (.bool b)]) =
  (tkOut (env 38 [(.agg (eSite s))]) none (fun v5 => (tkRow v5 none fun nl6 n7 wd8 g9 => (L31x0 env F s l b F nl6 n7 wd8 g9 (0 : Int))))
  (fun p5 => (tkIfc p5 none fun t6 x7 => (bif (flatP (.iface t6 x7)) then some (.pan (.iface t6 x7))
      else none)))) := by kernel_rfl
theorem L31x0s (env : Env) (F : Nat) (s : Site) (l : Sl Day) (b : Bool) (fu : Nat) (b0 : Bool) (k1 : Nat) (k2 : Nat) (g3 : Nat → List V) (i4 : Int) : L31x0 env F s l b (fu + 1) b0 k1 k2 g3 i4 =
  (bif (decide (i4 < (((Sl.len l) : Nat) : Int))) then (bif (decide ((0 : Int) ≤ i4)) then (bif (decide (i4 < (((Sl.len l) : Nat) : Int))) then (tkOut (env 21 [(.agg (eSite s)), (.row b0 k1 k2 g3), (.agg [(sl eSpan 2 (Day.press (Sl.el l (Int.toNat i4)))), (sl eSpan 2 (Day.warm (Sl.el l (Int.toNat i4))))])]) none (fun v11 => (tkTup v11 none fun l12 => (tkCons l12 none fun v13 r14 => (tkRow v13 none fun nl15 n16 wd17 g18 => (tkCons r14 none fun v19 r20 => (tkBool v19 none fun b21 => (tkNil r20 none ((bif (!b21) then (bif b then some (.ret (.agg [(.int .i64 (0 : Int)), (.int .i64 (1 : Int)), (.int .i64 (0 : Int)), (.int .i64 (0 : Int))]))
                        else (tkOut (env 68 [(.agg (eSite s)), (.agg [(.int .i64 i4), (sl eDay 2 l), (.row b0 k1 k2 g3)]), (.bool b)]) none (fun v22 => (tkTup v22 none fun l23 => (tkCons l23 none fun v24 r25 => (tkAgg v24 none fun l26 => (tkCons l26 none fun v27 r28 => (tkInt v27 none fun q29 n30 => (tkCons r28 none fun v31 r32 => (tkInt v31 none fun q33 n34 => (tkCons r32 none fun v35 r36 => (tkInt v35 none fun q37 n38 => (tkCons r36 none fun v39 r40 => (tkInt v39 none fun q41 n42 => (tkNil r40 none ((tkCons r25 none fun v43 r44 => (tkBool v43 none fun b45 => (tkNil r44 none ((bif b45 then some (.ret (.agg [(.int q29 n30), (.int q33 n34), (.int q37 n38), (.int q41 n42)]))
                                                          else (tkOut (env 69 [(.agg (eSite s)), (.agg [(.int .i64 i4), (sl eDay 2 l), (.row nl15 n16 wd17 g18)]), (.bool b)]) none (fun v46 => (tkTup v46 none fun l47 => (tkCons l47 none fun v48 r49 => (tkAgg v48 none fun l50 => (tkCons l50 none fun v51 r52 => (tkInt v51 none fun q53 n54 => (tkCons r52 none fun v55 r56 => (tkInt v55 none fun q57 n58 => (tkCons r56 none fun v59 r60 => (tkInt v59 none fun q61 n62 => (tkCons r60 none fun v63 r64 => (tkInt v63 none fun q65 n66 => (tkNil r64 none ((tkCons r49 none fun v67 r68 => (tkBool v67 none fun b69 => (tkNil r68 none ((bif b69 then some (.ret (.agg [(.int q53 n54), (.int q57 n58), (.int q61 n62), (.int q65 n66)]))
                                                                                            else (L31x0 env F s l b fu nl15 n16 wd17 g18 (IntKind.wrap .i64 (i4 + (1 : Int)))))))))))))))))))))))
                                                            (fun p46 => (tkIfc p46 none fun t47 x48 => (bif (flatP (.iface t47 x48)) then some (.pan (.iface t47 x48))
                                                                else none)))))))))))))))))))))))
                          (fun p22 => (tkIfc p22 none fun t23 x24 => (bif (flatP (.iface t23 x24)) then some (.pan (.iface t23 x24))
                              else none)))))
                      else (tkOut (env 68 [(.agg (eSite s)), (.agg [(.int .i64 i4), (sl eDay 2 l), (.row b0 k1 k2 g3)]), (.bool b)]) none (fun v22 => (tkTup v22 none fun l23 => (tkCons l23 none fun v24 r25 => (tkAgg v24 none fun l26 => (tkCons l26 none fun v27 r28 => (tkInt v27 none fun q29 n30 => (tkCons r28 none fun v31 r32 => (tkInt v31 none fun q33 n34 => (tkCons r32 none fun v35 r36 => (tkInt v35 none fun q37 n38 => (tkCons r36 none fun v39 r40 => (tkInt v39 none fun q41 n42 => (tkNil r40 none ((tkCons r25 none fun v43 r44 => (tkBool v43 none fun b45 => (tkNil r44 none ((bif b45 then some (.ret (.agg [(.int q29 n30), (.int q33 n34), (.int q37 n38), (.int q41 n42)]))
                                                        else (tkOut (env 69 [(.agg (eSite s)), (.agg [(.int .i64 i4), (sl eDay 2 l), (.row nl15 n16 wd17 g18)]), (.bool b)]) none (fun v46 => (tkTup v46 none fun l47 => (tkCons l47 none fun v48 r49 => (tkAgg v48 none fun l50 => (tkCons l50 none fun v51 r52 => (tkInt v51 none fun q53 n54 => (tkCons r52 none fun v55 r56 => (tkInt v55 none fun q57 n58 => (tkCons r56 none fun v59 r60 => (tkInt v59 none fun q61 n62 => (tkCons r60 none fun v63 r64 => (tkInt v63 none fun q65 n66 => (tkNil r64 none ((tkCons r49 none fun v67 r68 => (tkBool v67 none fun b69 => (tkNil r68 none ((bif b69 then some (.ret (.agg [(.int q53 n54), (.int q57 n58), (.int q61 n62), (.int q65 n66)]))
                                                                                          else (L31x0 env F s l b fu nl15 n16 wd17 g18 (IntKind.wrap .i64 (i4 + (1 : Int)))))))))))))))))))))))
                                                          (fun p46 => (tkIfc p46 none fun t47 x48 => (bif (flatP (.iface t47 x48)) then some (.pan (.iface t47 x48))
                                                              else none)))))))))))))))))))))))
                        (fun p22 => (tkIfc p22 none fun t23 x24 => (bif (flatP (.iface t23 x24)) then some (.pan (.iface t23 x24))
                            else none)))))))))))))
        (fun p11 => (tkIfc p11 none fun t12 x13 => (bif (flatP (.iface t12 x13)) then some (.pan (.iface t12 x13))
            else none))))
      else none)
    else none)
  else some (.ret (.agg [(.int .i64 (0 : Int)), (.int .i64 (1 : Int)), (.int .i64 (0 : Int)), (.int .i64 (0 : Int))]))) := by kernel_rfl

theorem t42 (env : Env) (F : Nat) (s : Site) (c : Int) (q : Span) (n : Int) : (evFun Try.prog (cfg F) env 42 [(.agg (eSite s)), (.int .i64 c), (.agg (eSpan q)), (.int .i64 n)]) =
  (bif (decide (n > (60 : Int))) then some (.ret (.tup [(.int .i64 (0 : Int)), (.int .i64 (3 : Int))]))
  else (tkOut (env 48 [(.agg (eSite s))]) none (fun v6 => (tkBool v6 none fun b7 => (bif (!b7) then some (.ret (.tup [(.int .i64 (0 : Int)), (.int .i64 (2 : Int))]))
        else (tkOut (env 72 [(.int .i64 c), (.int .i64 (0 : Int)), (.int .i64 (IntKind.wrap .i64 ((((Sl.len (Site.cavs s)) : Nat) : Int) - (1 : Int))))]) none (fun v8 => (tkBool v8 none fun b9 => (bif (!b9) then some (.ret (.tup [(.int .i64 (0 : Int)), (.int .i64 (2 : Int))]))
              else (tkOut (env 74 [(.agg (eSpan q)), (.int .i64 (10000 : Int))]) none (fun v10 => (tkBool v10 none fun b11 => (bif (!b11) then some (.ret (.tup [(.int .i64 (0 : Int)), (.int .i64 (2 : Int))]))
                    else (bif (decide (n < (0 : Int))) then some (.ret (.tup [(.int .i64 (0 : Int)), (.int .i64 (2 : Int))]))
                      else (bif (n == (0 : Int)) then some (.ret (.tup [(.int .i64 (0 : Int)), (.int .i64 (0 : Int))]))
                        else (bif (decide ((0 : Int) ≤ c)) then (bif (decide (c < (((Sl.len (Site.cavs s)) : Nat) : Int))) then (tkOut (env 76 [(.int .i64 (Span.lo (Cav.gate (Sl.el (Site.cavs s) (Int.toNat c))))), (.int .i64 (IntKind.wrap .i64 ((if (Cav.rock (Sl.el (Site.cavs s) (Int.toNat c))) < (Span.hi (Cav.gate (Sl.el (Site.cavs s) (Int.toNat c)))) then (Cav.rock (Sl.el (Site.cavs s) (Int.toNat c))) else (Span.hi (Cav.gate (Sl.el (Site.cavs s) (Int.toNat c))))) + (1 : Int)))), (.fn (.func 77) [] [(.rptr 1 1 (fun u12 => [(pSite s)]) 0 0), (.rptr 1 1 (fun u12 => [(.int .i64 c)]) 0 0), (.rptr 1 2 (fun u12 => (eSpan q)) 0 0), (.rptr 1 1 (fun u12 => [(.int .i64 n)]) 0 0)])]) none (fun v12 => (tkInt v12 none fun q13 n14 => (bif (decide (q13 = .i64)) then (bif (decide (n14 > (if (Cav.rock (Sl.el (Site.cavs s) (Int.toNat c))) < (Span.hi (Cav.gate (Sl.el (Site.cavs s) (Int.toNat c)))) then (Cav.rock (Sl.el (Site.cavs s) (Int.toNat c))) else (Span.hi (Cav.gate (Sl.el (Site.cavs s) (Int.toNat c))))))) then some (.ret (.tup [(.int .i64 (0 : Int)), (.int .i64 (5 : Int))]))
                                    else some (.ret (.tup [(.int q13 n14), (.int .i64 (0 : Int))])))
                                  else none)))
                              (fun p12 => (tkIfc p12 none fun t13 x14 => (bif (flatP (.iface t13 x14)) then some (.pan (.iface t13 x14))
                                  else none))))
                            else none)
                          else none))))))
                (fun p10 => (tkIfc p10 none fun t11 x12 => (bif (flatP (.iface t11 x12)) then some (.pan (.iface t11 x12))
                    else none)))))))
          (fun p8 => (tkIfc p8 none fun t9 x10 => (bif (flatP (.iface t9 x10)) then some (.pan (.iface t9 x10))
              else none)))))))
    (fun p6 => (tkIfc p6 none fun t7 x8 => (bif (flatP (.iface t7 x8)) then some (.pan (.iface t7 x8))
        else none))))) := by kernel_rfl

noncomputable def L75x0 (env : Env) (F : Nat) (s : Site) (c : Int) (p : Span) (q : Span) (n : Int) (fu : Nat) (i0 : Int) (q1 : IntKind) (i2 : Int) (q3 : IntKind) (i4 : Int) (q5 : IntKind) (i6 : Int) (q7 : IntKind) (i8 : Int) (q9 : IntKind) (i10 : Int) (q11 : IntKind) (i12 : Int) : Option Out := atLoop Try.prog (cfg F) env 75 [.r, .d, .r, .r, .r, .r, .r, .l, .d] [] fu { tm := tmL 93 0 [(0, (pSite s)), (1, (.int .i64 c)), (4, (.int .i64 n)), (7, (.optr 0 0 0)), (8, (.optr 1 0 0)), (10, (.int .i64 i0)), (11, (.optr 2 0 0)), (12, (.optr 3 0 0))], hp := [(.box 41 (eSpan p) true), (.box 41 (eSpan q) true), (.box 57 (eCav (Sl.el (Site.cavs s) (Int.toNat c))) true), (.box 65 [(.int q1 i2), (.int q3 i4), (.int q5 i6), (.int q7 i8), (.int q9 i10), (.int q11 i12)] true)], df := [(.fn (.func 106) [] [])] }
noncomputable def L75x1 (env : Env) (F : Nat) (s : Site) (c : Int) (p : Span) (q : Span) (n : Int) (m0 : Nat) (fu : Nat) (i0 : Int) (i1 : Int) (q2 : IntKind) (i3 : Int) (q4 : IntKind) (i5 : Int) (q6 : IntKind) (i7 : Int) (q8 : IntKind) (i9 : Int) (q10 : IntKind) (i11 : Int) (q12 : IntKind) (i13 : Int) : Option Out := atLoop Try.prog (cfg F) env 75 [.r, .d, .r, .r, .r, .r, .r, .l, .d, .d, .r, .d, .r, .r, .l, .r, .d] [m0] fu { tm := tmL 93 0 [(0, (pSite s)), (1, (.int .i64 c)), (4, (.int .i64 n)), (7, (.optr 0 0 0)), (8, (.optr 1 0 0)), (10, (.int .i64 i0)), (11, (.optr 2 0 0)), (12, (.optr 3 0 0)), (61, (sl eCav 11 (Site.cavs s))), (62, (.int .i64 (((Sl.len (Site.cavs s)) : Nat) : Int))), (63, (.int .i64 i1))], hp := [(.box 41 (eSpan p) true), (.box 41 (eSpan q) true), (.box 57 (eCav (Sl.el (Site.cavs s) (Int.toNat c))) true), (.box 65 [(.int q2 i3), (.int q4 i5), (.int q6 i7), (.int q8 i9), (.int q10 i11), (.int q12 i13)] true)], df := [(.fn (.func 106) [] [])] }
theorem t75 (env : Env) (F : Nat) (s : Site) (c : Int) (p : Span) (q : Span) (n : Int) : (evFun Try.prog (cfg F) env 75 [(pSite s), (.int .i64 c), (.agg (eSpan p)), (.agg (eSpan q)), (.int .i64 n)]) =
  (bif (decide ((0 : Int) ≤ c)) then (bif (decide (c < (((Sl.len (Site.cavs s)) : Nat) : Int))) then (bif (decide ((Span.lo p) < (Span.lo (Cav.gate (Sl.el (Site.cavs s) (Int.toNat c)))))) then some (.ret (.int .i64 (0 : Int)))
      else (bif (decide ((Span.hi p) > (Span.hi (Cav.gate (Sl.el (Site.cavs s) (Int.toNat c)))))) then some (.ret (.int .i64 (0 : Int)))
        else (tkOut (env 57 [(pSite s)]) none (fun v7 => (tkRow v7 none fun nl8 n9 wd10 g11 => (bif (wd10 == 6) then (bif (decide ((0 : Int) ≤ c)) then (bif (decide (c < ((n9 : Nat) : Int))) then (bif ((List.length (List.take 6 (g11 (Int.toNat c)))) == 6) then (tkCons (List.take 6 (g11 (Int.toNat c))) none fun v12 r13 => (tkInt v12 none fun q14 n15 => (tkCons r13 none fun v16 r17 => (tkInt v16 none fun q18 n19 => (tkCons r17 none fun v20 r21 => (tkInt v20 none fun q22 n23 => (tkCons r21 none fun v24 r25 => (tkInt v24 none fun q26 n27 => (tkCons r25 none fun v28 r29 => (tkInt v28 none fun q30 n31 => (tkCons r29 none fun v32 r33 => (tkInt v32 none fun q34 n35 => (tkNil r33 none ((L75x0 env F s c p q n F (0 : Int) q14 n15 q18 n19 q22 n23 q26 n27 q30 n31 q34 n35)))))))))))))))
                    else none)
                  else none)
                else none)
              else none)))
          (fun p7 => (tkIfc p7 none fun t8 x9 => (bif (flatP (.iface t8 x9)) then (bif (t8 == 146) then some (.ret (.int .i64 (0 : Int)))
                else (bif (flatP (.iface t8 x9)) then none
                  else none))
              else none))))))
    else none)
  else none) := by kernel_rfl
theorem L75x0s (env : Env) (F : Nat) (s : Site) (c : Int) (p : Span) (q : Span) (n : Int) (fu : Nat) (i0 : Int) (q1 : IntKind) (i2 : Int) (q3 : IntKind) (i4 : Int) (q5 : IntKind) (i6 : Int) (q7 : IntKind) (i8 : Int) (q9 : IntKind) (i10 : Int) (q11 : IntKind) (i12 : Int) : L75x0 env F s c p q n (fu + 1) i0 q1 i2 q3 i4 q5 i6 q7 i8 q9 i10 q11 i12 =
  (bif (decide (i0 < n)) then (tkOut (env 91 [(pSite s), (.int .i64 c), (.agg [(.int q1 i2), (.int q3 i4), (.int q5 i6), (.int q7 i8), (.int q9 i10), (.int q11 i12)]), (.agg (eSpan p)), (.agg (eSpan q))]) none (fun v21 => (tkAgg v21 none fun l22 => (tkCons l22 none fun v23 r24 => (tkInt v23 none fun q25 n26 => (tkCons r24 none fun v27 r28 => (tkInt v27 none fun q29 n30 => (tkCons r28 none fun v31 r32 => (tkInt v31 none fun q33 n34 => (tkCons r32 none fun v35 r36 => (tkInt v35 none fun q37 n38 => (tkCons r36 none fun v39 r40 => (tkInt v39 none fun q41 n42 => (tkCons r40 none fun v43 r44 => (tkInt v43 none fun q45 n46 => (tkNil r44 none ((bif (decide (q33 = .i64)) then (bif (decide (n34 < (Cav.floor (Sl.el (Site.cavs s) (Int.toNat c))))) then some (.ret (.int .i64 i0))
                                    else (L75x1 env F s c p q n fu F i0 (0 : Int) q25 n26 q29 n30 q33 n34 q37 n38 q41 n42 q45 n46))
                                  else none)))))))))))))))))
    (fun p21 => (tkIfc p21 none fun t22 x23 => (bif (flatP (.iface t22 x23)) then (bif (t22 == 146) then some (.ret (.int .i64 i0))
          else (bif (flatP (.iface t22 x23)) then none
            else none))
        else none))))
  else some (.ret (.int .i64 i0))) := by kernel_rfl
theorem L75x1s (env : Env) (F : Nat) (s : Site) (c : Int) (p : Span) (q : Span) (n : Int) (m0 : Nat) (fu : Nat) (i0 : Int) (i1 : Int) (q2 : IntKind) (i3 : Int) (q4 : IntKind) (i5 : Int) (q6 : IntKind) (i7 : Int) (q8 : IntKind) (i9 : Int) (q10 : IntKind) (i11 : Int) (q12 : IntKind) (i13 : Int) : L75x1 env F s c p q n m0 (fu + 1) i0 i1 q2 i3 q4 i5 q6 i7 q8 i9 q10 i11 q12 i13 =
  (bif (decide (i1 < (((Sl.len (Site.cavs s)) : Nat) : Int))) then (bif (decide ((0 : Int) ≤ i1)) then (bif (decide (i1 < (((Sl.len (Site.cavs s)) : Nat) : Int))) then (bif (i1 != c) then (tkOut (env 73 [(pSite s), (.int .i64 c), (.int .i64 i1), (.int q4 i5), (.int .i64 (Span.hi (Cav.rad (Sl.el (Site.cavs s) (Int.toNat i1)))))]) none (fun v23 => (tkInt v23 none fun q24 n25 => (bif (decide (q24 = .i64)) then (bif (decide (n25 < (Site.wall s))) then some (.ret (.int .i64 i0))
                else (L75x1 env F s c p q n m0 fu i0 (IntKind.wrap .i64 (i1 + (1 : Int))) q2 i3 q4 i5 q6 i7 q8 i9 q10 i11 q12 i13))
              else none)))
          (fun p23 => (tkIfc p23 none fun t24 x25 => (bif (flatP (.iface t24 x25)) then none
              else none))))
        else (L75x1 env F s c p q n m0 fu i0 (IntKind.wrap .i64 (i1 + (1 : Int))) q2 i3 q4 i5 q6 i7 q8 i9 q10 i11 q12 i13))
      else none)
    else none)
  else (L75x0 env F s c p q n m0 (IntKind.wrap .i64 (i0 + (1 : Int))) q2 i3 q4 i5 q6 i7 q8 i9 q10 i11 q12 i13)) := by kernel_rfl

theorem t77 (env : Env) (F : Nat) (s : Site) (c : Int) (p : Int) (n : Int) (q : Span) : (evFun Try.prog (cfg F) env 77 [(.int .i64 p), (.rptr 1 1 (fun u7 => [(pSite s)]) 0 0), (.rptr 1 1 (fun u7 => [(.int .i64 c)]) 0 0), (.rptr 1 2 (fun u7 => (eSpan q)) 0 0), (.rptr 1 1 (fun u7 => [(.int .i64 n)]) 0 0)]) =
  (tkOut (env 75 [(pSite s), (.int .i64 c), (.agg [(.int .i64 p), (.int .i64 p)]), (.agg (eSpan q)), (.int .i64 n)]) none (fun v7 => (tkInt v7 none fun q8 n9 => (bif (decide (q8 = .i64)) then some (.ret (.bool (decide (n9 ≥ n))))
      else none)))
  (fun p7 => (tkIfc p7 none fun t8 x9 => (bif (flatP (.iface t8 x9)) then none
      else none)))) := by kernel_rfl

noncomputable def L7604x0 (env : Env) (F : Nat) (a : Int) (b : Int) (s : Site) (c : Int) (n : Int) (q : Span) (fu : Nat) (i0 : Int) (i1 : Int) : Option Out := atLoop Try.prog (cfg F) env 76 [.r, .l, .d] [] fu { tm := tmL 24 0 [(0, (.int .i64 i0)), (1, (.int .i64 i1)), (2, (.fn (.func 77) [] [(.rptr 1 1 (fun u11 => [(pSite s)]) 0 0), (.rptr 1 1 (fun u11 => [(.int .i64 c)]) 0 0), (.rptr 1 2 (fun u11 => (eSpan q)) 0 0), (.rptr 1 1 (fun u11 => [(.int .i64 n)]) 0 0)]))], hp := [] }
theorem t7604 (env : Env) (F : Nat) (a : Int) (b : Int) (s : Site) (c : Int) (n : Int) (q : Span) : (evFun Try.prog (cfg F) env 76 [(.int .i64 a), (.int .i64 b), (.fn (.func 77) [] [(.rptr 1 1 (fun u8 => [(pSite s)]) 0 0), (.rptr 1 1 (fun u8 => [(.int .i64 c)]) 0 0), (.rptr 1 2 (fun u8 => (eSpan q)) 0 0), (.rptr 1 1 (fun u8 => [(.int .i64 n)]) 0 0)])]) =
  (L7604x0 env F a b s c n q F a b) := by kernel_rfl
theorem L7604x0s (env : Env) (F : Nat) (a : Int) (b : Int) (s : Site) (c : Int) (n : Int) (q : Span) (fu : Nat) (i0 : Int) (i1 : Int) : L7604x0 env F a b s c n q (fu + 1) i0 i1 =
  (bif (decide (i0 < i1)) then (tkOut (env 77 [(.int .i64 (IntKind.wrap .i64 (i0 + (IntKind.wrap .i64 (Int.tdiv (IntKind.wrap .i64 (i1 - i0)) (2 : Int)))))), (.rptr 1 1 (fun u11 => [(pSite s)]) 0 0), (.rptr 1 1 (fun u11 => [(.int .i64 c)]) 0 0), (.rptr 1 2 (fun u11 => (eSpan q)) 0 0), (.rptr 1 1 (fun u11 => [(.int .i64 n)]) 0 0)]) none (fun v11 => (tkBool v11 none fun b12 => (bif b12 then (L7604x0 env F a b s c n q fu i0 (IntKind.wrap .i64 (i0 + (IntKind.wrap .i64 (Int.tdiv (IntKind.wrap .i64 (i1 - i0)) (2 : Int))))))
        else (L7604x0 env F a b s c n q fu (IntKind.wrap .i64 ((IntKind.wrap .i64 (i0 + (IntKind.wrap .i64 (Int.tdiv (IntKind.wrap .i64 (i1 - i0)) (2 : Int))))) + (1 : Int))) i1))))
    (fun p11 => (tkIfc p11 none fun t12 x13 => (bif (flatP (.iface t12 x13)) then some (.pan (.iface t12 x13))
        else none))))
  else some (.ret (.int .i64 i0))) := by kernel_rfl

noncomputable def L44x0 (env : Env) (F : Nat) (s : Site) (c : Int) (q : Span) (n : Int) (fu : Nat) (i0 : Int) (i1 : Int) : Option Out := atLoop Try.prog (cfg F) env 44 [.r, .r, .r, .r, .r, .l, .d] [] fu { tm := tmL 63 0 [(1, (.int .i64 c)), (3, (.int .i64 n)), (4, (.optr 0 0 0)), (6, (.optr 1 0 0)), (10, (.int .i64 i0)), (11, (.int .i64 i1))], hp := [(.box 28 (eSite s) true), (.box 41 (eSpan q) true)] }
theorem t44 (env : Env) (F : Nat) (s : Site) (c : Int) (q : Span) (n : Int) : (evFun Try.prog (cfg F) env 44 [(.agg (eSite s)), (.int .i64 c), (.agg (eSpan q)), (.int .i64 n)]) =
  (bif (n == (0 : Int)) then some (.ret (.int .i64 (0 : Int)))
  else (bif (decide ((0 : Int) ≤ c)) then (bif (decide (c < (((Sl.len (Site.cavs s)) : Nat) : Int))) then (bif (decide ((Span.lo (Cav.gate (Sl.el (Site.cavs s) (Int.toNat c)))) > (if (Cav.rock (Sl.el (Site.cavs s) (Int.toNat c))) < (Span.hi (Cav.gate (Sl.el (Site.cavs s) (Int.toNat c)))) then (Cav.rock (Sl.el (Site.cavs s) (Int.toNat c))) else (Span.hi (Cav.gate (Sl.el (Site.cavs s) (Int.toNat c))))))) then some (.ret (.int .i64 (-(1 : Int))))
        else (tkOut (env 45 [(.agg (eSite s)), (.int .i64 c), (.agg [(.int .i64 (if (Cav.rock (Sl.el (Site.cavs s) (Int.toNat c))) < (Span.hi (Cav.gate (Sl.el (Site.cavs s) (Int.toNat c)))) then (Cav.rock (Sl.el (Site.cavs s) (Int.toNat c))) else (Span.hi (Cav.gate (Sl.el (Site.cavs s) (Int.toNat c)))))), (.int .i64 (if (Cav.rock (Sl.el (Site.cavs s) (Int.toNat c))) < (Span.hi (Cav.gate (Sl.el (Site.cavs s) (Int.toNat c)))) then (Cav.rock (Sl.el (Site.cavs s) (Int.toNat c))) else (Span.hi (Cav.gate (Sl.el (Site.cavs s) (Int.toNat c))))))]), (.agg (eSpan q))]) none (fun v6 => (tkInt v6 none fun q7 n8 => (bif (decide (q7 = .i64)) then (bif (decide (n8 < n)) then some (.ret (.int .i64 (-(1 : Int))))
                else (L44x0 env F s c q n F (Span.lo (Cav.gate (Sl.el (Site.cavs s) (Int.toNat c)))) (if (Cav.rock (Sl.el (Site.cavs s) (Int.toNat c))) < (Span.hi (Cav.gate (Sl.el (Site.cavs s) (Int.toNat c)))) then (Cav.rock (Sl.el (Site.cavs s) (Int.toNat c))) else (Span.hi (Cav.gate (Sl.el (Site.cavs s) (Int.toNat c)))))))
              else none)))
          (fun p6 => (tkIfc p6 none fun t7 x8 => (bif (flatP (.iface t7 x8)) then some (.pan (.iface t7 x8))
              else none)))))
      else none)
    else none)) := by kernel_rfl
theorem L44x0s (env : Env) (F : Nat) (s : Site) (c : Int) (q : Span) (n : Int) (fu : Nat) (i0 : Int) (i1 : Int) : L44x0 env F s c q n (fu + 1) i0 i1 =
  (bif (decide (i0 < i1)) then (tkOut (env 45 [(.agg (eSite s)), (.int .i64 c), (.agg [(.int .i64 (IntKind.wrap .i64 (Int.tdiv (IntKind.wrap .i64 (i0 + i1)) (2 : Int)))), (.int .i64 (IntKind.wrap .i64 (Int.tdiv (IntKind.wrap .i64 (i0 + i1)) (2 : Int))))]), (.agg (eSpan q))]) none (fun v9 => (tkInt v9 none fun q10 n11 => (bif (decide (q10 = .i64)) then (bif (decide (n11 ≥ n)) then (L44x0 env F s c q n fu i0 (IntKind.wrap .i64 (Int.tdiv (IntKind.wrap .i64 (i0 + i1)) (2 : Int))))
          else (L44x0 env F s c q n fu (IntKind.wrap .i64 ((IntKind.wrap .i64 (Int.tdiv (IntKind.wrap .i64 (i0 + i1)) (2 : Int))) + (1 : Int))) i1))
        else none)))
    (fun p9 => (tkIfc p9 none fun t10 x11 => (bif (flatP (.iface t10 x11)) then some (.pan (.iface t10 x11))
        else none))))
  else some (.ret (.int .i64 i0))) := by kernel_rfl

noncomputable def L45x0 (env : Env) (F : Nat) (s : Site) (c : Int) (p : Span) (q : Span) (fu : Nat) (i0 : Int) (q1 : IntKind) (i2 : Int) (q3 : IntKind) (i4 : Int) (q5 : IntKind) (i6 : Int) (q7 : IntKind) (i8 : Int) (q9 : IntKind) (i10 : Int) (q11 : IntKind) (i12 : Int) : Option Out := atLoop Try.prog (cfg F) env 45 [.r, .r, .r, .r, .l, .r, .d] [] fu { tm := tmL 90 0 [(1, (.int .i64 c)), (4, (.optr 0 0 0)), (6, (.optr 1 0 0)), (7, (.optr 2 0 0)), (9, (.optr 3 0 0)), (10, (.optr 4 0 0)), (11, (.int .i64 i0))], hp := [(.box 28 (eSite s) true), (.box 41 (eSpan p) true), (.box 41 (eSpan q) true), (.box 57 (eCav (Sl.el (Site.cavs s) (Int.toNat c))) true), (.box 65 [(.int q1 i2), (.int q3 i4), (.int q5 i6), (.int q7 i8), (.int q9 i10), (.int q11 i12)] true)] }
noncomputable def L45x1 (env : Env) (F : Nat) (s : Site) (c : Int) (p : Span) (q : Span) (m0 : Nat) (fu : Nat) (i0 : Int) (i1 : Int) (q2 : IntKind) (i3 : Int) (q4 : IntKind) (i5 : Int) (q6 : IntKind) (i7 : Int) (q8 : IntKind) (i9 : Int) (q10 : IntKind) (i11 : Int) (q12 : IntKind) (i13 : Int) : Option Out := atLoop Try.prog (cfg F) env 45 [.r, .r, .r, .r, .l, .r, .d, .d, .r, .l, .d, .r, .r, .r, .d] [m0] fu { tm := tmL 90 0 [(1, (.int .i64 c)), (4, (.optr 0 0 0)), (6, (.optr 1 0 0)), (7, (.optr 2 0 0)), (9, (.optr 3 0 0)), (10, (.optr 4 0 0)), (11, (.int .i64 i0)), (12, (.int .i64 i1))], hp := [(.box 28 (eSite s) true), (.box 41 (eSpan p) true), (.box 41 (eSpan q) true), (.box 57 (eCav (Sl.el (Site.cavs s) (Int.toNat c))) true), (.box 65 [(.int q2 i3), (.int q4 i5), (.int q6 i7), (.int q8 i9), (.int q10 i11), (.int q12 i13)] true)] }
theorem t45 (env : Env) (F : Nat) (s : Site) (c : Int) (p : Span) (q : Span) : (evFun Try.prog (cfg F) env 45 [(.agg (eSite s)), (.int .i64 c), (.agg (eSpan p)), (.agg (eSpan q))]) =
  (bif (decide ((0 : Int) ≤ c)) then (bif (decide (c < (((Sl.len (Site.cavs s)) : Nat) : Int))) then (tkOut (env 32 [(.agg (eSite s)), (.int .i64 c), (.agg (eSpan p)), (.agg (eSpan q))]) none (fun v6 => (tkBool v6 none fun b7 => (bif b7 then some (.ret (.int .i64 (0 : Int)))
          else (bif (decide ((Span.lo p) < (Span.lo (Cav.gate (Sl.el (Site.cavs s) (Int.toNat c)))))) then some (.ret (.int .i64 (0 : Int)))
            else (bif (decide ((Span.hi p) > (Span.hi (Cav.gate (Sl.el (Site.cavs s) (Int.toNat c)))))) then some (.ret (.int .i64 (0 : Int)))
              else (tkOut (env 38 [(.agg (eSite s))]) none (fun v8 => (tkRow v8 none fun nl9 n10 wd11 g12 => (bif (wd11 == 6) then (bif (decide ((0 : Int) ≤ c)) then (bif (decide (c < ((n10 : Nat) : Int))) then (bif ((List.length (List.take 6 (g12 (Int.toNat c)))) == 6) then (tkCons (List.take 6 (g12 (Int.toNat c))) none fun v13 r14 => (tkInt v13 none fun q15 n16 => (tkCons r14 none fun v17 r18 => (tkInt v17 none fun q19 n20 => (tkCons r18 none fun v21 r22 => (tkInt v21 none fun q23 n24 => (tkCons r22 none fun v25 r26 => (tkInt v25 none fun q27 n28 => (tkCons r26 none fun v29 r30 => (tkInt v29 none fun q31 n32 => (tkCons r30 none fun v33 r34 => (tkInt v33 none fun q35 n36 => (tkNil r34 none ((L45x0 env F s c p q F (0 : Int) q15 n16 q19 n20 q23 n24 q27 n28 q31 n32 q35 n36)))))))))))))))
                          else none)
                        else none)
                      else none)
                    else none)))
                (fun p8 => (tkIfc p8 none fun t9 x10 => (bif (flatP (.iface t9 x10)) then some (.pan (.iface t9 x10))
                    else none)))))))))
      (fun p6 => (tkIfc p6 none fun t7 x8 => (bif (flatP (.iface t7 x8)) then some (.pan (.iface t7 x8))
          else none))))
    else none)
  else none) := by kernel_rfl
theorem L45x0s (env : Env) (F : Nat) (s : Site) (c : Int) (p : Span) (q : Span) (fu : Nat) (i0 : Int) (q1 : IntKind) (i2 : Int) (q3 : IntKind) (i4 : Int) (q5 : IntKind) (i6 : Int) (q7 : IntKind) (i8 : Int) (q9 : IntKind) (i10 : Int) (q11 : IntKind) (i12 : Int) : L45x0 env F s c p q (fu + 1) i0 q1 i2 q3 i4 q5 i6 q7 i8 q9 i10 q11 i12 =
  (bif (decide (i0 < (60 : Int))) then (tkOut (env 56 [(.agg (eSite s)), (.int .i64 c), (.agg [(.int q1 i2), (.int q3 i4), (.int q5 i6), (.int q7 i8), (.int q9 i10), (.int q11 i12)]), (.agg (eSpan p)), (.agg (eSpan q))]) none (fun v20 => (tkAgg v20 none fun l21 => (tkCons l21 none fun v22 r23 => (tkInt v22 none fun q24 n25 => (tkCons r23 none fun v26 r27 => (tkInt v26 none fun q28 n29 => (tkCons r27 none fun v30 r31 => (tkInt v30 none fun q32 n33 => (tkCons r31 none fun v34 r35 => (tkInt v34 none fun q36 n37 => (tkCons r35 none fun v38 r39 => (tkInt v38 none fun q40 n41 => (tkCons r39 none fun v42 r43 => (tkInt v42 none fun q44 n45 => (tkNil r43 none ((bif (decide (q32 = .i64)) then (bif (decide (n33 < (Cav.floor (Sl.el (Site.cavs s) (Int.toNat c))))) then some (.ret (.int .i64 i0))
                                    else (L45x1 env F s c p q fu F i0 (0 : Int) q24 n25 q28 n29 q32 n33 q36 n37 q40 n41 q44 n45))
                                  else none)))))))))))))))))
    (fun p20 => (tkIfc p20 none fun t21 x22 => (bif (flatP (.iface t21 x22)) then some (.pan (.iface t21 x22))
        else none))))
  else some (.ret (.int .i64 (60 : Int)))) := by kernel_rfl
theorem L45x1s (env : Env) (F : Nat) (s : Site) (c : Int) (p : Span) (q : Span) (m0 : Nat) (fu : Nat) (i0 : Int) (i1 : Int) (q2 : IntKind) (i3 : Int) (q4 : IntKind) (i5 : Int) (q6 : IntKind) (i7 : Int) (q8 : IntKind) (i9 : Int) (q10 : IntKind) (i11 : Int) (q12 : IntKind) (i13 : Int) : L45x1 env F s c p q m0 (fu + 1) i0 i1 q2 i3 q4 i5 q6 i7 q8 i9 q10 i11 q12 i13 =
  (bif (decide (i1 < (((Sl.len (Site.cavs s)) : Nat) : Int))) then (bif (i1 != c) then (bif (decide ((0 : Int) ≤ i1)) then (bif (decide (i1 < (((Sl.len (Site.cavs s)) : Nat) : Int))) then (tkOut (env 40 [(.agg (eSite s)), (.int .i64 c), (.int .i64 i1), (.agg [(.int q2 i3), (.int q4 i5)]), (.agg (eSpan (Cav.rad (Sl.el (Site.cavs s) (Int.toNat i1)))))]) none (fun v22 => (tkAgg v22 none fun l23 => (tkCons l23 none fun v24 r25 => (tkInt v24 none fun q26 n27 => (tkCons r25 none fun v28 r29 => (tkInt v28 none fun q30 n31 => (tkNil r29 none ((bif (decide (q26 = .i64)) then (bif (decide (n27 < (Site.wall s))) then some (.ret (.int .i64 i0))
                          else (L45x1 env F s c p q m0 fu i0 (IntKind.wrap .i64 (i1 + (1 : Int))) q2 i3 q4 i5 q6 i7 q8 i9 q10 i11 q12 i13))
                        else none)))))))))
          (fun p22 => (tkIfc p22 none fun t23 x24 => (bif (flatP (.iface t23 x24)) then none
              else none))))
        else none)
      else none)
    else (L45x1 env F s c p q m0 fu i0 (IntKind.wrap .i64 (i1 + (1 : Int))) q2 i3 q4 i5 q6 i7 q8 i9 q10 i11 q12 i13))
  else (L45x0 env F s c p q m0 (IntKind.wrap .i64 (i0 + (1 : Int))) q2 i3 q4 i5 q6 i7 q8 i9 q10 i11 q12 i13)) := by kernel_rfl

end Go.Sim.Cr

/-
  What 'Faults' answers.
-/
namespace Go.Sim.Cr
open Go.Proofs
variable (F d : Nat)
abbrev ShortD (l : Sl Day) : Prop := ∀ i, i < l.len → (l.el i).press.len ≤ 10 ∧ (l.el i).warm.len ≤ 10
theorem s64 (s : Site) (y : Day) (h : y.press.len ≤ 10 ∧ y.warm.len ≤ 10) (hF : 10 < F) : E F (d + 7) 64 [.agg (eDay y), pSite s] = some (.ret (.bool (!decide (DayOk s y)))) := by
  rw [E_succ, t64]
  simp only [s50 F d s y (show y.press.len < 4611686018427387904 by omega) (show y.warm.len < 4611686018427387904 by omega) (by omega) (by omega), tkOut_ret, tkBool_b]
theorem l95 (s : Site) (l : Sl Day) (hl : ShortD l) (hB : l.len < Big) (hF : 10 < F) : ∀ n i fu, l.len = i + n → n < fu →
    L95x0 (E F (d + 7)) F s l fu (i : Int) = some (.ret (.int .i64 (ixF (fun j => !decide (DayOk s (l.el j))) n i))) := by
  intro n
  induction n with
  | zero =>
    intro i fu h hf
    obtain ⟨fu, rfl⟩ : ∃ k, fu = k + 1 := ⟨fu - 1, by omega⟩
    rw [L95x0s]
    simp only [Int.ofNat_lt, show ¬ i < l.len by omega, decide_false, cond_false, ixF]
  | succ n ih =>
    intro i fu h hf
    obtain ⟨fu, rfl⟩ : ∃ k, fu = k + 1 := ⟨fu - 1, by omega⟩
    rw [L95x0s]
    simp only [Int.ofNat_lt, show i < l.len by omega, decide_true, cond_true, Int.natCast_nonneg, Int.toNat_natCast, s64 F d s (l.el i) (hl i (by omega)) hF, tkOut_ret, tkBool_b, ixF, wrS (show i < Big by omega), ih (i + 1) fu (by omega) (by omega)]
    cases (!decide (DayOk s (l.el i))) <;> rfl
abbrev DaysOk (s : Site) (l : Sl Day) : Prop := ∀ i, i < l.len → DayOk s (l.el i)
theorem s63 (s : Site) (l : Sl Day) (hl : ShortD l) (hB : l.len < Big) (hF : 10 < F) (hlF : l.len < F) : E F (d + 9) 63 [sl eDay 2 l, .fn (.func 64) [] [pSite s]] = some (.ret (.bool (!decide (DaysOk s l)))) := by
  rw [E_succ, t63, E_succ, t95, show L95x0 (E F (d + 7)) F s l F 0 = _ from l95 F d s l hl hB hF l.len 0 F (by omega) hlF]
  simp only [tkOut_ret, tkInt_i, decide_true, cond_true, ge_iff_le]
  refine b3 (Bool.not_inj ?_)
  rw [Bool.not_not]
  exact (ge0 _ _).trans (by simp only [Bool.not_eq_false', decide_eq_true_iff])

abbrev fineF : Fault := ⟨0, 1, 0, 0⟩
abbrev rowB_ (b : Option (Sl Span)) : V := match b with | some b => sl eSpan 2 b | none => noneRow
def nlB : Option (Sl Span) → Bool
  | some b => b.nl
  | none => true
def lenB : Option (Sl Span) → Nat
  | some b => b.len
  | none => 0
def wdB : Option (Sl Span) → Nat
  | some _ => 2
  | none => 0
def getB : Option (Sl Span) → Nat → List V
  | some b => fun i => eSpan (b.el i)
  | none => fun _ => []
theorem rowB_eq (b : Option (Sl Span)) : rowB_ b = .row (nlB b) (lenB b) (wdB b) (getB b) := by cases b <;> rfl
abbrev rowC_ (m : Option (Sl Stt)) : V := match m with | some m => sl eStt 6 m | none => noneRow
def fastMs (s : Site) (y : Day) : Option (Sl Span) → List Mark
  | some b => (List.range' 0 s.cavs.len).map (fastM s y b)
  | none => []
def smallMs (s : Site) : Option (Sl Stt) → List Mark
  | some m => (List.range' 0 s.cavs.len).map (smallM s m)
  | none => []
noncomputable def thinMs (s : Site) : Option (Sl Stt) → List Mark
  | some m => pairsM s m s.cavs.len 0
  | none => []
def sunkMs (s : Site) : Option (Sl Stt) → List Mark
  | some m => (List.range' 0 s.houses.len).map (sunkM s m)
  | none => []
/-- The marks of a day, rule by rule. -/
noncomputable def marksOf (s : Site) (y : Day) (b : Option (Sl Span)) (m : Option (Sl Stt)) : List (Int × List Mark) :=
  [(2, (List.range' 0 s.cavs.len).map (outM s y)), (3, (List.range' 0 s.cavs.len).map (gateM s y)), (4, fastMs s y b),
   (5, smallMs s m), (6, thinMs s m), (7, sunkMs s m)]
theorem pairs_len (s : Site) (m : Sl Stt) : ∀ k i, k ≤ 5 → (pairsM s m k i).length ≤ 10 * k := by
  intro k
  induction k with
  | zero => intro i _; exact Nat.le_refl _
  | succ k ih =>
    intro i hk
    have := ih (i + 1) (by omega)
    rw [pairsM, List.length_append, List.length_map, List.length_range']
    omega
theorem s65 (s : Site) (y : Day) (b : Option (Sl Span)) (m : Option (Sl Stt)) (n : Int) (hS : SiteF s) (hD : DayOk s y) (hb : ∀ x, b = some x → x.len = s.cavs.len ∧ ∀ i, i < x.len → SpanIn (x.el i) 0 50000) (hm : ∀ x, m = some x → StatesOk s x ∧ x.nl = false) (hF : 67108864 < F) :
    E F (d + 7) 65 [pTod s y (rowB_ b) (rowC_ m), .int .i64 n, .fn (.func 66) [] []] = some (.ret (eFaultB (faultR n Mark.possible (marksOf s y b m)))) ∧
    E F (d + 7) 65 [pTod s y (rowB_ b) (rowC_ m), .int .i64 n, .fn (.func 67) [] []] = some (.ret (eFaultB (faultR n Mark.certain (marksOf s y b m)))) := by
  have h1 := hS.cavs1
  have h5 := hS.cavs5
  have h6 := hS.houses5
  have hp := hD.1.1
  have r0 := s96 F (d + 5) s y (rowB_ b) (rowC_ m) hS hD (by omega)
  have r1 := s97 F (d + 5) s y (rowB_ b) (rowC_ m) h1 h5 hp (by omega)
  have r2 : E F (d + 6) 98 [pTod s y (rowB_ b) (rowC_ m)] = some (.ret (rowM (fastMs s y b))) := by
    cases b with
    | none => exact s98n F (d + 5) s y (rowC_ m) (by omega)
    | some x => exact s98 F (d + 5) s y x (rowC_ m) h1 h5 hD (hb x rfl).1 (hb x rfl).2 (by omega)
  have r3 : E F (d + 6) 99 [pTod s y (rowB_ b) (rowC_ m)] = some (.ret (rowM (smallMs s m))) := by
    cases m with
    | none => exact s99n F (d + 5) s y (rowB_ b) (by omega)
    | some x => exact s99 F (d + 5) s y x (rowB_ b) h1 h5 (hm x rfl).1.1 (by omega)
  have r4 : E F (d + 6) 100 [pTod s y (rowB_ b) (rowC_ m)] = some (.ret (rowM (thinMs s m))) := by
    cases m with
    | none => exact s100n F (d + 5) s y (rowB_ b)
    | some x => exact s100 F (d + 1) s y x (rowB_ b) hS (hm x rfl).1 (hm x rfl).2 hF
  have r5 : E F (d + 6) 101 [pTod s y (rowB_ b) (rowC_ m)] = some (.ret (rowM (sunkMs s m))) := by
    cases m with
    | none => exact s101n F (d + 5) s y (rowB_ b)
    | some x => exact s101 F (d + 3) s y x (rowB_ b) hS (hm x rfl).1 (hm x rfl).2 (by omega)
  have q0 : ((List.range' 0 s.cavs.len).map (outM s y)).length ≤ 100 := by simp; omega
  have q1 : ((List.range' 0 s.cavs.len).map (gateM s y)).length ≤ 100 := by simp; omega
  have q2 : (fastMs s y b).length ≤ 100 := by cases b <;> simp [fastMs]; omega
  have q3 : (smallMs s m).length ≤ 100 := by cases m <;> simp [smallMs]; omega
  have q4 : (thinMs s m).length ≤ 100 := by
    cases m with
    | none => simp [thinMs]
    | some x => have := pairs_len s x s.cavs.len 0 h5; show (pairsM s x s.cavs.len 0).length ≤ 100; omega
  have q5 : (sunkMs s m).length ≤ 100 := by cases m <;> simp [sunkMs]; omega
  exact ⟨s65a F (d + 4) s y _ _ n _ _ _ _ _ _ q0 q1 q2 q3 q4 q5 (by omega) r0 r1 r2 r3 r4 r5, s65b F (d + 4) s y _ _ n _ _ _ _ _ _ q0 q1 q2 q3 q4 q5 (by omega) r0 r1 r2 r3 r4 r5⟩
/-- The first possible and the first certain fault of the days from one on. -/
noncomputable def faultsFrom (s : Site) (l : Sl Day) : Nat → Nat → Option (Sl Span) → Sl Stt → Bool → Fault → Fault → Fault × Fault
  | 0, _, _, _, _, may, sure => (may, sure)
  | n + 1, i, b, now, found, may, sure =>
    let y := l.el i
    let mk := marksOf s y b (bif farDay s y then none else some (moved s now y))
    let may' := bif found then may else (faultR i Mark.possible mk).getD fineF
    bif farDay s y then (may', sure) else
      match faultR i Mark.certain mk with
      | some f => (may', f)
      | none => faultsFrom s l n (i + 1) (some y.press) (moved s now y) (found || (faultR i Mark.possible mk).isSome) may' fineF
noncomputable def faults (s : Site) (l : Sl Day) : Fault × Fault := faultsFrom s l l.len 0 none (begin s) false fineF fineF
theorem moved_ok {s : Site} {l : Sl Stt} {y : Day} (hS : SiteF s) (hL : StatesOk s l) (hD : DayOk s y) (hf : farDay s y = false) : StatesOk s (moved s l y) := by
  have hl := hL.1
  refine ⟨hl, fun i hi => ?_⟩
  have hi' : i < l.len := hi
  rw [show (moved s l y).el i = mv s l y i from outL_el hi']
  have hp := hD.1.2 i (by have := hD.1.1; omega)
  have hw := hD.2.2 i (by have := hD.2.1; omega)
  refine move1xok hS (hL.2 i hi') hp.2.1 hw.2.1 ?_
  cases hx : farB s (s.cavs.el i) (y.press.el i) (y.warm.el i) with
  | false => rfl
  | true =>
    have : farDay s y = true := (anyF_eq _ _ _).2 ⟨i, Nat.zero_le _, by omega, hx⟩
    rw [this] at hf; cases hf
theorem begin_ok {s : Site} (hS : SiteF s) : StatesOk s (begin s) := by
  refine ⟨rfl, fun i hi => ?_⟩
  have hi' : i < s.cavs.len := hi
  rw [show (begin s).el i = start (s.cavs.el i) from outL_el hi']
  have := hS.cav i hi'
  refine ⟨⟨?_, ?_, ?_⟩, ⟨?_, ?_, ?_⟩, ?_, ?_, ?_⟩ <;> simp only [start] <;> omega
theorem l30 (s : Site) (l : Sl Day) (hS : SiteF s) (hD : DaysOk s l) (hB : l.len < Big) (hF : 67108864 < F) : ∀ n i fu (b : Option (Sl Span)) (now : Sl Stt) (found : Bool) (may sure : Fault), l.len = i + n → n < fu →
    (∀ x, b = some x → x.len = s.cavs.len ∧ ∀ i, i < x.len → SpanIn (x.el i) 0 50000) → StatesOk s now →
    L30x0 (E F (d + 7)) F s l fu (nlB b) (lenB b) (wdB b) (getB b)
      now.nl now.len 6 (fun i => eStt (now.el i)) found (i : Int) .i64 may.day .i64 may.rule .i64 may.of .i64 may.wth .i64 sure.day .i64 sure.rule .i64 sure.of .i64 sure.wth =
    some (.ret (.tup [.agg (eFault (faultsFrom s l n i b now found may sure).1), .agg (eFault (faultsFrom s l n i b now found may sure).2), .int .i64 0])) := by
  intro n
  induction n with
  | zero =>
    intro i fu b now found may sure h hf hb hn
    obtain ⟨fu, rfl⟩ : ∃ k, fu = k + 1 := ⟨fu - 1, by omega⟩
    rw [L30x0s]
    simp only [Int.ofNat_lt, show ¬ i < l.len by omega, decide_false, cond_false, faultsFrom]
  | succ n ih =>
    intro i fu b now found may sure h hf hb hn
    obtain ⟨fu, rfl⟩ : ∃ k, fu = k + 1 := ⟨fu - 1, by omega⟩
    rw [L30x0s]
    have hy := hD i (by omega)
    have e51 := s51 F d s now (l.el i) hS hn hy (by omega)
    simp only [Int.ofNat_lt, show i < l.len by omega, decide_true, cond_true, Int.natCast_nonneg, Int.toNat_natCast, e51, tkOut_ret, wrS (show i < Big by omega), moveR, faultsFrom]
    cases hfd : farDay s (l.el i) with
    | true =>
      obtain ⟨p1, p2⟩ := s65 F d s (l.el i) b none (i : Int) hS hy hb (by intro x hx; cases hx) hF
      rw [rowB_eq] at p1 p2
      simp only [cond_true, tkTup_t, tkCons_c, tkRow_r, tkBool_b, tkNil_n, Bool.not_false]
      cases found with
      | true => simp only [Bool.not_true, cond_false, cond_true]
      | false =>
        simp only [Bool.not_false, cond_false, cond_true, p1, tkOut_ret]
        cases faultR (i : Int) Mark.possible (marksOf s (l.el i) b none) <;> simp only [tkTup_t, tkCons_c, tkAgg_a, tkInt_i, tkBool_b, tkNil_n, Option.getD]
    | false =>
      have hmv := moved_ok hS hn hy hfd
      obtain ⟨p1, p2⟩ := s65 F d s (l.el i) b (some (moved s now (l.el i))) (i : Int) hS hy hb (by intro x hx; cases hx; exact ⟨hmv, rfl⟩) hF
      rw [rowB_eq] at p1 p2
      have nx := fun may sure fd => ih (i + 1) fu (some (l.el i).press) (moved s now (l.el i)) fd may sure (by omega) (by omega) (by intro x hx; cases hx; exact hy.1) hmv
      simp only [cond_false, tkTup_t, tkCons_c, tkRow_r, tkBool_b, tkNil_n, Bool.not_true]
      cases found with
      | true =>
        simp only [Bool.not_true, cond_false, cond_true, p2, tkOut_ret, Bool.true_or]
        cases faultR (i : Int) Mark.certain (marksOf s (l.el i) b (some (moved s now (l.el i)))) with
        | some f => simp only [tkTup_t, tkCons_c, tkAgg_a, tkInt_i, tkBool_b, tkNil_n, cond_true]
        | none =>
          simp only [tkTup_t, tkCons_c, tkAgg_a, tkInt_i, tkBool_b, tkNil_n, cond_false]
          exact nx may fineF true
      | false =>
        simp only [Bool.not_false, cond_false, cond_true, p1, tkOut_ret, Bool.false_or]
        cases faultR (i : Int) Mark.possible (marksOf s (l.el i) b (some (moved s now (l.el i)))) with
        | some g =>
          simp only [tkTup_t, tkCons_c, tkAgg_a, tkInt_i, tkBool_b, tkNil_n, Option.getD, Option.isSome, p2, tkOut_ret]
          cases faultR (i : Int) Mark.certain (marksOf s (l.el i) b (some (moved s now (l.el i)))) with
          | some f => simp only [tkTup_t, tkCons_c, tkAgg_a, tkInt_i, tkBool_b, tkNil_n, cond_true]
          | none =>
            simp only [tkTup_t, tkCons_c, tkAgg_a, tkInt_i, tkBool_b, tkNil_n, cond_false]
            exact nx g fineF true
        | none =>
          simp only [tkTup_t, tkCons_c, tkAgg_a, tkInt_i, tkBool_b, tkNil_n, Option.getD, Option.isSome, p2, tkOut_ret]
          cases faultR (i : Int) Mark.certain (marksOf s (l.el i) b (some (moved s now (l.el i)))) with
          | some f => simp only [tkTup_t, tkCons_c, tkAgg_a, tkInt_i, tkBool_b, tkNil_n, cond_true]
          | none =>
            simp only [tkTup_t, tkCons_c, tkAgg_a, tkInt_i, tkBool_b, tkNil_n, cond_false]
            exact nx fineF fineF false
end Go.Sim.Cr

/-
  What 'Faults', 'Thick' and 'Longest' answer.
-/
namespace Go.Sim.Cr
open Go.Proofs
variable (F d : Nat)
/-- What 'Faults' answers. -/
theorem s30 (s : Site) (l : Sl Day) (hs : Small s F) (hl : ShortD l) (hB : l.len < Big) (hlF : l.len < F) (hF : 67108864 < F) :
    E F (d + 10) 30 [.agg (eSite s), sl eDay 2 l] = some (.ret (bif decide (60 < l.len) then .tup [.agg (eFault ⟨0, 0, 0, 0⟩), .agg (eFault ⟨0, 0, 0, 0⟩), .int .i64 3]
      else bif siteB s && decide (DaysOk s l) then .tup [.agg (eFault (faults s l).1), .agg (eFault (faults s l).2), .int .i64 0] else .tup [.agg (eFault ⟨0, 0, 0, 0⟩), .agg (eFault ⟨0, 0, 0, 0⟩), .int .i64 2])) := by
  rw [E_succ, t30]
  have e0 : decide ((l.len : Int) > 60) = decide (60 < l.len) := by apply b2; simp only [decide_eq_true_iff]; omega
  rw [e0]
  cases h0 : decide (60 < l.len) with
  | true => rfl
  | false =>
    simp only [cond_false, s48 F (d + 3) s hs, tkOut_ret, tkBool_b, s63 F d s l hl hB (by omega) hlF]
    cases h1 : siteB s with
    | false => rfl
    | true =>
      by_cases h2 : DaysOk s l
      · have hS := (siteB_iff s).1 h1
        simp only [decide_eq_true h2, Bool.not_true, cond_false, Bool.and_self, cond_true, s57 F (d + 8) s hS.cavs1 hS.cavs5 (by omega), tkOut_ret, tkRow_r]
        have g := l30 F (d + 2) s l hS h2 hB hF l.len 0 F none (begin s) false fineF fineF (by omega) hlF (by intro x hx; cases hx) (begin_ok hS)
        exact g
      · simp only [decide_eq_false h2, Bool.not_false, Bool.not_true, cond_false, cond_true, Bool.and_false]
noncomputable abbrev thickOf (s : Site) (i j : Nat) (p q : Span) : List V := [.int .i64 (distI (s.cavs.el i) (s.cavs.el j) - p.hi - q.hi), .int .i64 (distI (s.cavs.el i) (s.cavs.el j) - p.lo - q.lo)]
theorem inLen {n : Nat} (hn : 1 ≤ n) (i : Int) : decide (0 ≤ i ∧ i ≤ ((n - 1 : Nat) : Int)) = decide (0 ≤ i ∧ i < (n : Int)) := by
  apply b2; simp only [decide_eq_true_iff]; omega
/-- What 'Thick' answers. -/
theorem s37 (s : Site) (i j : Int) (hs : Small s F) (hF : 67108864 < F) : E F (d + 7) 37 [.agg (eSite s), .int .i64 i, .int .i64 j] =
    some (.ret (bif siteB s && (decide (0 ≤ i ∧ i < (s.cavs.len : Int)) && (decide (0 ≤ j ∧ j < (s.cavs.len : Int)) && !decide (i = j))) then .tup [.agg (thickOf s i.toNat j.toNat (s.cavs.el i.toNat).rad (s.cavs.el j.toNat).rad), .int .i64 0] else .tup [.agg (eSpan zSpan), .int .i64 2])) := by
  rw [E_succ, t37]
  simp only [s48 F d s hs, tkOut_ret, tkBool_b, s72]
  cases h1 : siteB s with
  | false => rfl
  | true =>
    have hS := (siteB_iff s).1 h1
    have h5 := hS.cavs5
    rw [wrLen hS.cavs1 (by omega), inLen hS.cavs1, inLen hS.cavs1]
    by_cases h2 : 0 ≤ i ∧ i < (s.cavs.len : Int)
    · by_cases h3 : 0 ≤ j ∧ j < (s.cavs.len : Int)
      · by_cases h4 : i = j
        · simp only [decide_eq_true h2, decide_eq_true h3, decide_eq_true h4, beqI, Bool.not_true, cond_false, cond_true, Bool.and_false]
        · obtain ⟨i, rfl⟩ := Int.eq_ofNat_of_zero_le h2.1
          obtain ⟨j, rfl⟩ := Int.eq_ofNat_of_zero_le h3.1
          have c1 := hS.cav i (by omega)
          have c2 := hS.cav j (by omega)
          simp only [decide_eq_true h2, decide_eq_true h3, decide_eq_false h4, beqI, Bool.not_true, Bool.not_false, cond_false, cond_true, Bool.and_self, decide_eq_true h2.1, decide_eq_true h2.2, decide_eq_true h3.1, decide_eq_true h3.2, Int.toNat_natCast,
            s73 F (d + 2) s i j (s.cavs.el i).rad.hi (s.cavs.el j).rad.hi (by omega) (by omega) c1.1 c2.1 (by omega) (by omega) hF, s73 F (d + 2) s i j (s.cavs.el i).rad.lo (s.cavs.el j).rad.lo (by omega) (by omega) c1.1 c2.1 (by omega) (by omega) hF, tkOut_ret, tkInt_i]
      · simp only [decide_eq_true h2, decide_eq_false h3, Bool.not_true, Bool.not_false, cond_false, cond_true, Bool.and_false, Bool.false_and]
    · simp only [decide_eq_false h2, Bool.not_true, Bool.not_false, cond_false, cond_true, Bool.and_false, Bool.false_and]

/-- Is a wall of a cavern surely not thick enough? -/
noncomputable def nearB (s : Site) (c : Nat) (x : Stt) (j : Nat) : Bool := !decide (j = c) && decide (distI (s.cavs.el c) (s.cavs.el j) - x.rad.hi - (s.cavs.el j).rad.hi < s.wall)
noncomputable def keepFrom (s : Site) (c : Nat) (p q : Span) : Nat → Nat → Stt → Nat
  | 0, k, _ => k
  | n + 1, k, x => bif farB s (s.cavs.el c) p q then k else bif decide ((move1 s (s.cavs.el c) x p q).vol.lo < (s.cavs.el c).floor) then k else
      bif anyF (nearB s c (move1 s (s.cavs.el c) x p q)) s.cavs.len 0 then k else keepFrom s c p q n (k + 1) (move1 s (s.cavs.el c) x p q)
/-- For how many days, at most so many, a cavern can surely be kept. -/
noncomputable def keeps (s : Site) (c : Nat) (p q : Span) (n : Nat) : Nat :=
  bif decide (p.lo < (s.cavs.el c).gate.lo) || decide (p.hi > (s.cavs.el c).gate.hi) then 0 else keepFrom s c p q n 0 (start (s.cavs.el c))
theorem l75x1 (s : Site) (c : Nat) (p q : Span) (n : Int) (hS : SiteF s) (hc : c < s.cavs.len) (x : Stt) (hx : SttOk x) (hF : 67108864 < F) (m0 k : Nat) (hk : k < 100) (R : Nat)
    (hO : L75x0 (E F (d + 6)) F s (c : Int) p q n m0 ((k + 1 : Nat) : Int) .i64 x.rad.lo .i64 x.rad.hi .i64 x.vol.lo .i64 x.vol.hi .i64 x.lost.lo .i64 x.lost.hi = some (.ret (.int .i64 (R : Int)))) : ∀ r j fu, s.cavs.len = j + r → r < fu →
    L75x1 (E F (d + 6)) F s (c : Int) p q n m0 fu (k : Int) (j : Int) .i64 x.rad.lo .i64 x.rad.hi .i64 x.vol.lo .i64 x.vol.hi .i64 x.lost.lo .i64 x.lost.hi = some (.ret (.int .i64 ((bif anyF (nearB s c x) r j then k else R : Nat) : Int))) := by
  have h5 := hS.cavs5
  intro r
  induction r with
  | zero =>
    intro j fu h hf
    obtain ⟨fu, rfl⟩ : ∃ k, fu = k + 1 := ⟨fu - 1, by omega⟩
    rw [L75x1s]
    simp only [Int.ofNat_lt, show ¬ j < s.cavs.len by omega, decide_false, cond_false, anyF, wrS (show k < 4611686018427387904 by omega)]
    exact hO
  | succ r ih =>
    intro j fu h hf
    obtain ⟨fu, rfl⟩ : ∃ k, fu = k + 1 := ⟨fu - 1, by omega⟩
    rw [L75x1s]
    have a2 := (hS.cav j (by omega)).2.1
    have p1 := (hS.cav c hc).1
    have p2 := (hS.cav j (by omega)).1
    simp only [Int.ofNat_lt, show j < s.cavs.len by omega, decide_true, cond_true, Int.natCast_nonneg, Int.toNat_natCast, bneN, anyF, s73 F (d + 2) s c j x.rad.hi (s.cavs.el j).rad.hi hc (by omega) p1 p2 (by omega) (by omega) hF, tkOut_ret, tkInt_i, wrS (show j < 4611686018427387904 by omega), ih (j + 1) fu (by omega) (by omega), nearB]
    by_cases hjc : j = c
    · simp only [decide_eq_true hjc, Bool.not_true, cond_false, Bool.false_and, Bool.false_or]
    · simp only [decide_eq_false hjc, Bool.not_false, cond_true, Bool.true_and]
      cases decide (distI (s.cavs.el c) (s.cavs.el j) - x.rad.hi - (s.cavs.el j).rad.hi < s.wall) <;> simp only [cond_true, cond_false, Bool.true_or, Bool.false_or]
theorem l75x0 (s : Site) (c : Nat) (p q : Span) (N : Nat) (hN : N ≤ 60) (hS : SiteF s) (hc : c < s.cavs.len) (hp : SpanIn p 0 50000) (hq : SpanIn q 0 10000) (hF : 67108864 < F) : ∀ r k fu x, N = k + r → r < fu → SttOk x →
    L75x0 (E F (d + 6)) F s (c : Int) p q (N : Int) fu (k : Int) .i64 x.rad.lo .i64 x.rad.hi .i64 x.vol.lo .i64 x.vol.hi .i64 x.lost.lo .i64 x.lost.hi = some (.ret (.int .i64 ((keepFrom s c p q r k x : Nat) : Int))) := by
  have h5 := hS.cavs5
  intro r
  induction r with
  | zero =>
    intro k fu x h hf hx
    obtain ⟨fu, rfl⟩ : ∃ k, fu = k + 1 := ⟨fu - 1, by omega⟩
    rw [L75x0s]
    simp only [Int.ofNat_lt, show ¬ k < N by omega, decide_false, cond_false, keepFrom]
  | succ r ih =>
    intro k fu x h hf hx
    obtain ⟨fu, rfl⟩ : ∃ k, fu = k + 1 := ⟨fu - 1, by omega⟩
    rw [L75x0s]
    obtain ⟨g1, g2⟩ := s91 F d s c x p q hS hc hx hp (by omega)
    simp only [Int.ofNat_lt, show k < N by omega, decide_true, cond_true, keepFrom]
    cases hf1 : farB s (s.cavs.el c) p q with
    | true =>
      obtain ⟨m, e⟩ := g2 hf1
      rw [e]
      simp only [tkOut_pan, tkIfc_i, cond_true]
      rfl
    | false =>
      rw [g1 hf1]
      simp only [tkOut_ret, tkAgg_a, tkCons_c, tkInt_i, tkNil_n, decide_true, cond_true, cond_false, Int.toNat_natCast]
      have hm := move1xok hS hx hp.2.1 hq.2.1 hf1
      cases decide ((move1 s (s.cavs.el c) x p q).vol.lo < (s.cavs.el c).floor) with
      | true => simp only [cond_true]
      | false =>
        simp only [cond_false]
        exact l75x1 F d s c p q N hS hc (move1 s (s.cavs.el c) x p q) hm hF fu k (by omega) (keepFrom s c p q r (k + 1) (move1 s (s.cavs.el c) x p q)) (ih (k + 1) fu (move1 s (s.cavs.el c) x p q) (by omega) (by omega) hm) s.cavs.len 0 F (by omega) (by omega)
theorem start_ok {s : Site} (hS : SiteF s) {c : Nat} (hc : c < s.cavs.len) : SttOk (start (s.cavs.el c)) := by
  have := hS.cav c hc
  refine ⟨⟨?_, ?_, ?_⟩, ⟨?_, ?_, ?_⟩, ?_, ?_, ?_⟩ <;> simp only [start] <;> omega
theorem s75 (s : Site) (c : Nat) (p q : Span) (N : Nat) (hN : N ≤ 60) (hS : SiteF s) (hc : c < s.cavs.len) (hp : SpanIn p 0 50000) (hq : SpanIn q 0 10000) (hF : 67108864 < F) :
    E F (d + 7) 75 [pSite s, .int .i64 (c : Int), .agg (eSpan p), .agg (eSpan q), .int .i64 (N : Int)] = some (.ret (.int .i64 ((keeps s c p q N : Nat) : Int))) := by
  rw [E_succ, t75]
  unfold keeps
  simp only [Int.natCast_nonneg, Int.ofNat_lt, hc, decide_true, cond_true, Int.toNat_natCast, s57 F (d + 5) s hS.cavs1 hS.cavs5 (by omega), tkOut_ret, tkRow_r, outL_len]
  cases decide (p.lo < (s.cavs.el c).gate.lo) with
  | true => rfl
  | false =>
    simp only [cond_false, Bool.false_or]
    cases decide (p.hi > (s.cavs.el c).gate.hi) with
    | true => rfl
    | false =>
      simp only [cond_false, beq_self_eq_true, List.take, List.length, cond_true, tkCons_c, tkInt_i, tkNil_n, outL_el (T := fun i => start (s.cavs.el i)) hc]
      exact l75x0 F d s c p q N hN hS hc hp hq hF N 0 F (start (s.cavs.el c)) (by omega) (by omega) (start_ok hS hc)
/-- What 'Longest' answers. -/
theorem s41 (s : Site) (c : Int) (p q : Span) (hs : Small s F) (hF : 67108864 < F) : E F (d + 8) 41 [.agg (eSite s), .int .i64 c, .agg (eSpan p), .agg (eSpan q)] =
    some (.ret (bif siteB s && (decide (0 ≤ c ∧ c < (s.cavs.len : Int)) && (decide (SpanIn p 0 50000) && decide (SpanIn q 0 10000))) then .tup [.int .i64 ((keeps s c.toNat p q 60 : Nat) : Int), .int .i64 0] else .tup [.int .i64 0, .int .i64 2])) := by
  rw [E_succ, t41]
  simp only [s48 F (d + 1) s hs, tkOut_ret, tkBool_b, s72, s74]
  cases h1 : siteB s with
  | false => rfl
  | true =>
    have hS := (siteB_iff s).1 h1
    have h5 := hS.cavs5
    rw [wrLen hS.cavs1 (by omega), inLen hS.cavs1]
    by_cases h2 : 0 ≤ c ∧ c < (s.cavs.len : Int)
    · by_cases h3 : SpanIn p 0 50000
      · by_cases h4 : SpanIn q 0 10000
        · obtain ⟨c, rfl⟩ := Int.eq_ofNat_of_zero_le h2.1
          have e : E F (d + 7) 75 [pSite s, .int .i64 (c : Int), .agg (eSpan p), .agg (eSpan q), .int .i64 60] = _ := s75 F d s c p q 60 (by omega) hS (by omega) h3 h4 hF
          simp only [decide_eq_true h2, decide_eq_true h3, decide_eq_true h4, Bool.not_true, cond_false, cond_true, Bool.and_self, e, tkOut_ret, tkInt_i, Int.toNat_natCast]
        · simp only [decide_eq_true h2, decide_eq_true h3, decide_eq_false h4, Bool.not_true, Bool.not_false, cond_false, cond_true, Bool.and_false]
      · simp only [decide_eq_true h2, decide_eq_false h3, Bool.not_true, Bool.not_false, cond_false, cond_true, Bool.and_false, Bool.false_and]
    · simp only [decide_eq_false h2, Bool.not_true, Bool.not_false, cond_false, cond_true, Bool.and_false, Bool.false_and]
end Go.Sim.Cr
