import Derived.Test.YtpgpaficdabmkaaAc
import Derived.KernelRfl
set_option linter.unusedVariables false
set_option linter.unusedSimpArgs false
set_option linter.unusedSectionVars false
/-
  What the evaluator says of these functions (printed by a private program; each row is checked by the kernel).
-/
set_option maxRecDepth 100000
namespace Go.Sim.Cr
open Go.Proofs

noncomputable def L30x0 (env : Env) (F : Nat) (s : Site) (l : Sl Day) (fu : Nat) (b0 : Bool) (k1 : Nat) (k2 : Nat) (g3 : Nat → List V) (b4 : Bool) (k5 : Nat) (k6 : Nat) (g7 : Nat → List V) (b8 : Bool) (i9 : Int) (q10 : IntKind) (i11 : Int) (q12 : IntKind) (i13 : Int) (q14 : IntKind) (i15 : Int) (q16 : IntKind) (i17 : Int) (q18 : IntKind) (i19 : Int) (q20 : IntKind) (i21 : Int) (q22 : IntKind) (i23 : Int) (q24 : IntKind) (i25 : Int) : Option Out := atLoop Try.prog (cfg F) env 30 [.r, .d, .r, .r, .r, .r, .r, .r, .r, .r, .l, .r, .d] [] fu { tm := tmL 84 0 [(4, (.optr 0 0 0)), (5, (.optr 1 0 0)), (7, (.optr 2 0 0)), (8, (.optr 3 0 0)), (9, (.optr 4 0 0)), (10, (.row b0 k1 k2 g3)), (11, (.row b4 k5 k6 g7)), (12, (.bool b8)), (41, (sl eDay 2 l)), (42, (.int .i64 (((Sl.len l) : Nat) : Int))), (43, (.int .i64 i9))], hp := [(.box 71 [(.int .i64 (0 : Int)), (.int .i64 (0 : Int)), (.int .i64 (0 : Int)), (.int .i64 (0 : Int))] true), (.box 71 [(.int .i64 (0 : Int)), (.int .i64 (0 : Int)), (.int .i64 (0 : Int)), (.int .i64 (0 : Int))] true), (.box 100 (eSite s) false), (.box 71 [(.int q10 i11), (.int q12 i13), (.int q14 i15), (.int q16 i17)] true), (.box 71 [(.int q18 i19), (.int q20 i21), (.int q22 i23), (.int q24 i25)] true)] }
theorem t30 (env : Env) (F : Nat) (s : Site) (l : Sl Day) : (evFun Try.prog (cfg F) env 30 [(.agg (eSite s)), (sl eDay 2 l)]) =
  (bif (decide ((((Sl.len l) : Nat) : Int) > (60 : Int))) then some (.ret (.tup [(.agg [(.int .i64 (0 : Int)), (.int .i64 (0 : Int)), (.int .i64 (0 : Int)), (.int .i64 (0 : Int))]), (.agg [(.int .i64 (0 : Int)), (.int .i64 (0 : Int)), (.int .i64 (0 : Int)), (.int .i64 (0 : Int))]), (.int .i64 (3 : Int))]))
  else (tkOut (env 48 [(.agg (eSite s))]) none (fun v4 => (tkBool v4 none fun b5 => (bif (!b5) then some (.ret (.tup [(.agg [(.int .i64 (0 : Int)), (.int .i64 (0 : Int)), (.int .i64 (0 : Int)), (.int .i64 (0 : Int))]), (.agg [(.int .i64 (0 : Int)), (.int .i64 (0 : Int)), (.int .i64 (0 : Int)), (.int .i64 (0 : Int))]), (.int .i64 (2 : Int))]))
        else (tkOut (env 63 [(sl eDay 2 l), (.fn (.func 64) [] [(pSite s)])]) none (fun v6 => (tkBool v6 none fun b7 => (bif b7 then some (.ret (.tup [(.agg [(.int .i64 (0 : Int)), (.int .i64 (0 : Int)), (.int .i64 (0 : Int)), (.int .i64 (0 : Int))]), (.agg [(.int .i64 (0 : Int)), (.int .i64 (0 : Int)), (.int .i64 (0 : Int)), (.int .i64 (0 : Int))]), (.int .i64 (2 : Int))]))
              else (tkOut (env 57 [(pSite s)]) none (fun v8 => (tkRow v8 none fun nl9 n10 wd11 g12 => (L30x0 env F s l F true 0 0 (fun u13 => []) nl9 n10 wd11 g12 false (0 : Int) .i64 (0 : Int) .i64 (1 : Int) .i64 (0 : Int) .i64 (0 : Int) .i64 (0 : Int) .i64 (1 : Int) .i64 (0 : Int) .i64 (0 : Int))))
                (fun p8 => (tkIfc p8 none fun t9 x10 => (bif (flatP (.iface t9 x10)) then some (.pan (.iface t9 x10))
                    else none)))))))
          (fun p6 => (tkIfc p6 none fun t7 x8 => (bif (flatP (.iface t7 x8)) then some (.pan (.iface t7 x8))
              else none)))))))
    (fun p4 => (tkIfc p4 none fun t5 x6 => (bif (flatP (.iface t5 x6)) then some (.pan (.iface t5 x6))
        else none))))) := by kernel_rfl
theorem L30x0s (env : Env) (F : Nat) (s : Site) (l : Sl Day) (fu : Nat) (b0 : Bool) (k1 : Nat) (k2 : Nat) (g3 : Nat → List V) (b4 : Bool) (k5 : Nat) (k6 : Nat) (g7 : Nat → List V) (b8 : Bool) (i9 : Int) (q10 : IntKind) (i11 : Int) (q12 : IntKind) (i13 : Int) (q14 : IntKind) (i15 : Int) (q16 : IntKind) (i17 : Int) (q18 : IntKind) (i19 : Int) (q20 : IntKind) (i21 : Int) (q22 : IntKind) (i23 : Int) (q24 : IntKind) (i25 : Int) : L30x0 env F s l (fu + 1) b0 k1 k2 g3 b4 k5 k6 g7 b8 i9 q10 i11 q12 i13 q14 i15 q16 i17 q18 i19 q20 i21 q22 i23 q24 i25 =
  (bif (decide (i9 < (((Sl.len l) : Nat) : Int))) then (bif (decide ((0 : Int) ≤ i9)) then (bif (decide (i9 < (((Sl.len l) : Nat) : Int))) then (tkOut (env 51 [(pSite s), (.row b4 k5 k6 g7), (.agg [(sl eSpan 2 (Day.press (Sl.el l (Int.toNat i9)))), (sl eSpan 2 (Day.warm (Sl.el l (Int.toNat i9))))])]) none (fun v31 => (tkTup v31 none fun l32 => (tkCons l32 none fun v33 r34 => (tkRow v33 none fun nl35 n36 wd37 g38 => (tkCons r34 none fun v39 r40 => (tkBool v39 none fun b41 => (tkNil r40 none ((bif (!b8) then (tkOut (env 65 [(.rptr 1 5 (fun u42 => [(pSite s), (sl eSpan 2 (Day.press (Sl.el l (Int.toNat i9)))), (sl eSpan 2 (Day.warm (Sl.el l (Int.toNat i9)))), (.row b0 k1 k2 g3), (.row nl35 n36 wd37 g38)]) 0 0), (.int .i64 i9), (.fn (.func 66) [] [])]) none (fun v42 => (tkTup v42 none fun l43 => (tkCons l43 none fun v44 r45 => (tkAgg v44 none fun l46 => (tkCons l46 none fun v47 r48 => (tkInt v47 none fun q49 n50 => (tkCons r48 none fun v51 r52 => (tkInt v51 none fun q53 n54 => (tkCons r52 none fun v55 r56 => (tkInt v55 none fun q57 n58 => (tkCons r56 none fun v59 r60 => (tkInt v59 none fun q61 n62 => (tkNil r60 none ((tkCons r45 none fun v63 r64 => (tkBool v63 none fun b65 => (tkNil r64 none ((bif (!b41) then some (.ret (.tup [(.agg [(.int q49 n50), (.int q53 n54), (.int q57 n58), (.int q61 n62)]), (.agg [(.int q18 i19), (.int q20 i21), (.int q22 i23), (.int q24 i25)]), (.int .i64 (0 : Int))]))
                                                        else (tkOut (env 65 [(.rptr 1 5 (fun u66 => [(pSite s), (sl eSpan 2 (Day.press (Sl.el l (Int.toNat i9)))), (sl eSpan 2 (Day.warm (Sl.el l (Int.toNat i9)))), (.row b0 k1 k2 g3), (.row nl35 n36 wd37 g38)]) 0 0), (.int .i64 i9), (.fn (.func 67) [] [])]) none (fun v66 => (tkTup v66 none fun l67 => (tkCons l67 none fun v68 r69 => (tkAgg v68 none fun l70 => (tkCons l70 none fun v71 r72 => (tkInt v71 none fun q73 n74 => (tkCons r72 none fun v75 r76 => (tkInt v75 none fun q77 n78 => (tkCons r76 none fun v79 r80 => (tkInt v79 none fun q81 n82 => (tkCons r80 none fun v83 r84 => (tkInt v83 none fun q85 n86 => (tkNil r84 none ((tkCons r69 none fun v87 r88 => (tkBool v87 none fun b89 => (tkNil r88 none ((bif b89 then some (.ret (.tup [(.agg [(.int q49 n50), (.int q53 n54), (.int q57 n58), (.int q61 n62)]), (.agg [(.int q73 n74), (.int q77 n78), (.int q81 n82), (.int q85 n86)]), (.int .i64 (0 : Int))]))
                                                                                          else (L30x0 env F s l fu (Sl.nl (Day.press (Sl.el l (Int.toNat i9)))) (Sl.len (Day.press (Sl.el l (Int.toNat i9)))) 2 (fun u90 => (eSpan (Sl.el (Day.press (Sl.el l (Int.toNat i9))) u90))) nl35 n36 wd37 g38 b65 (IntKind.wrap .i64 (i9 + (1 : Int))) q49 n50 q53 n54 q57 n58 q61 n62 q73 n74 q77 n78 q81 n82 q85 n86))))))))))))))))))))
                                                          (fun p66 => (tkIfc p66 none fun t67 x68 => (bif (flatP (.iface t67 x68)) then some (.pan (.iface t67 x68))
                                                              else none)))))))))))))))))))))))
                        (fun p42 => (tkIfc p42 none fun t43 x44 => (bif (flatP (.iface t43 x44)) then some (.pan (.iface t43 x44))
                            else none))))
                      else (bif (!b41) then some (.ret (.tup [(.agg [(.int q10 i11), (.int q12 i13), (.int q14 i15), (.int q16 i17)]), (.agg [(.int q18 i19), (.int q20 i21), (.int q22 i23), (.int q24 i25)]), (.int .i64 (0 : Int))]))
                        else (tkOut (env 65 [(.rptr 1 5 (fun u42 => [(pSite s), (sl eSpan 2 (Day.press (Sl.el l (Int.toNat i9)))), (sl eSpan 2 (Day.warm (Sl.el l (Int.toNat i9)))), (.row b0 k1 k2 g3), (.row nl35 n36 wd37 g38)]) 0 0), (.int .i64 i9), (.fn (.func 67) [] [])]) none (fun v42 => (tkTup v42 none fun l43 => (tkCons l43 none fun v44 r45 => (tkAgg v44 none fun l46 => (tkCons l46 none fun v47 r48 => (tkInt v47 none fun q49 n50 => (tkCons r48 none fun v51 r52 => (tkInt v51 none fun q53 n54 => (tkCons r52 none fun v55 r56 => (tkInt v55 none fun q57 n58 => (tkCons r56 none fun v59 r60 => (tkInt v59 none fun q61 n62 => (tkNil r60 none ((tkCons r45 none fun v63 r64 => (tkBool v63 none fun b65 => (tkNil r64 none ((bif b65 then some (.ret (.tup [(.agg [(.int q10 i11), (.int q12 i13), (.int q14 i15), (.int q16 i17)]), (.agg [(.int q49 n50), (.int q53 n54), (.int q57 n58), (.int q61 n62)]), (.int .i64 (0 : Int))]))
                                                          else (L30x0 env F s l fu (Sl.nl (Day.press (Sl.el l (Int.toNat i9)))) (Sl.len (Day.press (Sl.el l (Int.toNat i9)))) 2 (fun u66 => (eSpan (Sl.el (Day.press (Sl.el l (Int.toNat i9))) u66))) nl35 n36 wd37 g38 b8 (IntKind.wrap .i64 (i9 + (1 : Int))) q10 i11 q12 i13 q14 i15 q16 i17 q49 n50 q53 n54 q57 n58 q61 n62))))))))))))))))))))
                          (fun p42 => (tkIfc p42 none fun t43 x44 => (bif (flatP (.iface t43 x44)) then some (.pan (.iface t43 x44))
                              else none))))))))))))))
        (fun p31 => (tkIfc p31 none fun t32 x33 => (bif (flatP (.iface t32 x33)) then some (.pan (.iface t32 x33))
            else none))))
      else none)
    else none)
  else some (.ret (.tup [(.agg [(.int q10 i11), (.int q12 i13), (.int q14 i15), (.int q16 i17)]), (.agg [(.int q18 i19), (.int q20 i21), (.int q22 i23), (.int q24 i25)]), (.int .i64 (0 : Int))]))) := by kernel_rfl

noncomputable def L31x0 (env : Env) (F : Nat) (s : Site) (l : Sl Day) (b : Bool) (fu : Nat) (b0 : Bool) (k1 : Nat) (k2 : Nat) (g3 : Nat → List V) (i4 : Int) : Option Out := atLoop Try.prog (cfg F) env 31 [.r, .r, .l, .r, .d] [] fu { tm := tmL 65 0 [(1, (sl eDay 2 l)), (2, (.bool b)), (3, (.optr 0 0 0)), (6, (.optr 1 0 0)), (7, (.row b0 k1 k2 g3)), (8, (.int .i64 i4))], hp := [(.box 28 (eSite s) true), (.box 71 [(.int .i64 (0 : Int)), (.int .i64 (0 : Int)), (.int .i64 (0 : Int)), (.int .i64 (0 : Int))] true)] }
theorem t31 (env : Env) (F : Nat) (s : Site) (l : Sl Day) (b : Bool) : (evFun Try.prog (cfg F) env 31 [(.agg (eSite s)), (sl eDay 2 l), (.bool b)]) =
  (tkOut (env 38 [(.agg (eSite s))]) none (fun v5 => (tkRow v5 none fun nl6 n7 wd8 g9 => (L31x0 env F s l b F nl6 n7 wd8 g9 (0 : Int))))
  (fun p5 => (tkIfc p5 none fun t6 x7 => (bif (flatP (.iface t6 x7)) then some (.pan (.iface t6 x7))
      else none)))) := by kernel_rfl
theorem L31x0s (env : Env) (F : Nat) (s : Site) (l : Sl Day) (b : Bool) (fu : Nat) (b0 : Bool) (k1 : Nat) (k2 : Nat) (g3 : Nat → List V) (i4 : Int) : L31x0 env F s l b (fu + 1) b0 k1 k2 g3 i4 =
  (bif (decide (i4 < (((Sl.len l) : Nat) : Int))) then (bif (decide ((0 : Int) ≤ i4)) then (bif (decide (i4 < (((Sl.len l) : Nat) : Int))) then (tkOut (env 21 [(.agg (eSite s)), (.row b0 k1 k2 g3), (.agg [(sl eSpan 2 (Day.press (Sl.el l (Int.toNat i4)))), (sl eSpan 2 (Day.warm (Sl.el l (Int.toNat i4))))])]) none (fun v11 => (tkTup v11 none fun l12 => (tkCons l12 none fun v13 r14 => (tkRow v13 none fun nl15 n16 wd17 g18 => (tkCons r14 none fun v19 r20 => (tkBool v19 none fun b21 => (tkNil r20 none ((bif (!b21) then (bif b then some (.ret (.agg [(.int .i64 (0 : Int)), (.int .i64 (1 : Int)), (.int .i64 (0 : Int)), (.int .i64 (0 : Int))]))
                        else (tkOut (env 68 [(.agg (eSite s)), (.agg [(.int .i64 i4), (sl eDay 2 l), (.row b0 k1 k2 g3)]), (.bool b)]) none (fun v22 => (tkTup v22 none fun l23 => (tkCons l23 none fun v24 r25 => (tkAgg v24 none fun l26 => (tkCons l26 none fun v27 r28 => (tkInt v27 none fun q29 n30 => (tkCons r28 none fun v31 r32 => (tkInt v31 none fun q33 n34 => (tkCons r32 none fun v35 r36 => (tkInt v35 none fun q37 n38 => (tkCons r36 none fun v39 r40 => (tkInt v39 none fun q41 n42 => (tkNil r40 none ((tkCons r25 none fun v43 r44 => (tkBool v43 none fun b45 => (tkNil r44 none ((bif b45 then some (.ret (.agg [(.int q29 n30), (.int q33 n34), (.int q37 n38), (.int q41 n42)]))
                                                          else (tkOut (env 69 [(.agg (eSite s)), (.agg [(.int .i64 i4), (sl eDay 2 l), (.row nl15 n16 wd17 g18)]), (.bool b)]) none (fun v46 => (tkTup v46 none fun l47 => (tkCons l47 none fun v48 r49 => (tkAgg v48 none fun l50 => (tkCons l50 none fun v51 r52 => (tkInt v51 none fun q53 n54 => (tkCons r52 none fun v55 r56 => (tkInt v55 none fun q57 n58 => (tkCons r56 none fun v59 r60 => (tkInt v59 none fun q61 n62 => (tkCons r60 none fun v63 r64 => (tkInt v63 none fun q65 n66 => (tkNil r64 none ((tkCons r49 none fun v67 r68 => (tkBool v67 none fun b69 => (tkNil r68 none ((bif b69 then some (.ret (.agg [(.int q53 n54), (.int q57 n58), (.int q61 n62), (.int q65 n66)]))
                                                                                            else (L31x0 env F s l b fu nl15 n16 wd17 g18 (IntKind.wrap .i64 (i4 + (1 : Int)))))))))))))))))))))))
                                                            (fun p46 => (tkIfc p46 none fun t47 x48 => (bif (flatP (.iface t47 x48)) then some (.pan (.iface t47 x48))
                                                                else none)))))))))))))))))))))))
                          (fun p22 => (tkIfc p22 none fun t23 x24 => (bif (flatP (.iface t23 x24)) then some (.pan (.iface t23 x24))
                              else none)))))
                      else (tkOut (env 68 [(.agg (eSite s)), (.agg [(.int .i64 i4), (sl eDay 2 l), (.row b0 k1 k2 g3)]), (.bool b)]) none (fun v22 => (tkTup v22 none fun l23 => (tkCons l23 none fun v24 r25 => (tkAgg v24 none fun l26 => (tkCons l26 none fun v27 r28 => (tkInt v27 none fun q29 n30 => (tkCons r28 none fun v31 r32 => (tkInt v31 none fun q33 n34 => (tkCons r32 none fun v35 r36 => (tkInt v35 none fun q37 n38 => (tkCons r36 none fun v39 r40 => (tkInt v39 none fun q41 n42 => (tkNil r40 none ((tkCons r25 none fun v43 r44 => (tkBool v43 none fun b45 => (tkNil r44 none ((bif b45 then some (.ret (.agg [(.int q29 n30), (.int q33 n34), (.int q37 n38), (.int q41 n42)]))
                                                        else (tkOut (env 69 [(.agg (eSite s)), (.agg [(.int .i64 i4), (sl eDay 2 l), (.row nl15 n16 wd17 g18)]), (.bool b)]) none (fun v46 => (tkTup v46 none fun l47 => (tkCons l47 none fun v48 r49 => (tkAgg v48 none fun l50 => (tkCons l50 none fun v51 r52 => (tkInt v51 none fun q53 n54 => (tkCons r52 none fun v55 r56 => (tkInt v55 none fun q57 n58 => (tkCons r56 none fun v59 r60 => (tkInt v59 none fun q61 n62 => (tkCons r60 none fun v63 r64 => (tkInt v63 none fun q65 n66 => (tkNil r64 none ((tkCons r49 none fun v67 r68 => (tkBool v67 none fun b69 => (tkNil r68 none ((bif b69 then some (.ret (.agg [(.int q53 n54), (.int q57 n58), (.int q61 n62), (.int q65 n66)]))
                                                                                          else (L31x0 env F s l b fu nl15 n16 wd17 g18 (IntKind.wrap .i64 (i4 + (1 : Int)))))))))))))))))))))))
                                                          (fun p46 => (tkIfc p46 none fun t47 x48 => (bif (flatP (.iface t47 x48)) then some (.pan (.iface t47 x48))
                                                              else none)))))))))))))))))))))))
                        (fun p22 => (tkIfc p22 none fun t23 x24 => (bif (flatP (.iface t23 x24)) then some (.pan (.iface t23 x24))
                            else none)))))))))))))
        (fun p11 => (tkIfc p11 none fun t12 x13 => (bif (flatP (.iface t12 x13)) then some (.pan (.iface t12 x13))
            else none))))
      else none)
    else none)
  else some (.ret (.agg [(.int .i64 (0 : Int)), (.int .i64 (1 : Int)), (.int .i64 (0 : Int)), (.int .i64 (0 : Int))]))) := by kernel_rfl

theorem t42 (env : Env) (F : Nat) (s : Site) (c : Int) (q : Span) (n : Int) : (evFun Try.prog (cfg F) env 42 [(.agg (eSite s)), (.int .i64 c), (.agg (eSpan q)), (.int .i64 n)]) =
  (bif (decide (n > (60 : Int))) then some (.ret (.tup [(.int .i64 (0 : Int)), (.int .i64 (3 : Int))]))
  else (tkOut (env 48 [(.agg (eSite s))]) none (fun v6 => (tkBool v6 none fun b7 => (bif (!b7) then some (.ret (.tup [(.int .i64 (0 : Int)), (.int .i64 (2 : Int))]))
        else (tkOut (env 72 [(.int .i64 c), (.int .i64 (0 : Int)), (.int .i64 (IntKind.wrap .i64 ((((Sl.len (Site.cavs s)) : Nat) : Int) - (1 : Int))))]) none (fun v8 => (tkBool v8 none fun b9 => (bif (!b9) then some (.ret (.tup [(.int .i64 (0 : Int)), (.int .i64 (2 : Int))]))
              else (tkOut (env 74 [(.agg (eSpan q)), (.int .i64 (10000 : Int))]) none (fun v10 => (tkBool v10 none fun b11 => (bif (!b11) then some (.ret (.tup [(.int .i64 (0 : Int)), (.int .i64 (2 : Int))]))
                    else (bif (decide (n < (0 : Int))) then some (.ret (.tup [(.int .i64 (0 : Int)), (.int .i64 (2 : Int))]))
                      else (bif (n == (0 : Int)) then some (.ret (.tup [(.int .i64 (0 : Int)), (.int .i64 (0 : Int))]))
                        else (bif (decide ((0 : Int) ≤ c)) then (bif (decide (c < (((Sl.len (Site.cavs s)) : Nat) : Int))) then (tkOut (env 76 [(.int .i64 (Span.lo (Cav.gate (Sl.el (Site.cavs s) (Int.toNat c))))), (.int .i64 (IntKind.wrap .i64 ((if (Cav.rock (Sl.el (Site.cavs s) (Int.toNat c))) < (Span.hi (Cav.gate (Sl.el (Site.cavs s) (Int.toNat c)))) then (Cav.rock (Sl.el (Site.cavs s) (Int.toNat c))) else (Span.hi (Cav.gate (Sl.el (Site.cavs s) (Int.toNat c))))) + (1 : Int)))), (.fn (.func 77) [] [(.rptr 1 1 (fun u12 => [(pSite s)]) 0 0), (.rptr 1 1 (fun u12 => [(.int .i64 c)]) 0 0), (.rptr 1 2 (fun u12 => (eSpan q)) 0 0), (.rptr 1 1 (fun u12 => [(.int .i64 n)]) 0 0)])]) none (fun v12 => (tkInt v12 none fun q13 n14 => (bif (decide (q13 = .i64)) then (bif (decide (n14 > (if (Cav.rock (Sl.el (Site.cavs s) (Int.toNat c))) < (Span.hi (Cav.gate (Sl.el (Site.cavs s) (Int.toNat c)))) then (Cav.rock (Sl.el (Site.cavs s) (Int.toNat c))) else (Span.hi (Cav.gate (Sl.el (Site.cavs s) (Int.toNat c))))))) then some (.ret (.tup [(.int .i64 (0 : Int)), (.int .i64 (5 : Int))]))
                                    else some (.ret (.tup [(.int q13 n14), (.int .i64 (0 : Int))])))
                                  else none)))
                              (fun p12 => (tkIfc p12 none fun t13 x14 => (bif (flatP (.iface t13 x14)) then some (.pan (.iface t13 x14))
                                  else none))))
                            else none)
                          else none))))))
                (fun p10 => (tkIfc p10 none fun t11 x12 => (bif (flatP (.iface t11 x12)) then some (.pan (.iface t11 x12))
                    else none)))))))
          (fun p8 => (tkIfc p8 none fun t9 x10 => (bif (flatP (.iface t9 x10)) then some (.pan (.iface t9 x10))
              else none)))))))
    (fun p6 => (tkIfc p6 none fun t7 x8 => (bif (flatP (.iface t7 x8)) then some (.pan (.iface t7 x8))
        else none))))) := by kernel_rfl

noncomputable def L75x0 (env : Env) (F : Nat) (s : Site) (c : Int) (p : Span) (q : Span) (n : Int) (fu : Nat) (i0 : Int) (q1 : IntKind) (i2 : Int) (q3 : IntKind) (i4 : Int) (q5 : IntKind) (i6 : Int) (q7 : IntKind) (i8 : Int) (q9 : IntKind) (i10 : Int) (q11 : IntKind) (i12 : Int) : Option Out := atLoop Try.prog (cfg F) env 75 [.r, .d, .r, .r, .r, .r, .r, .l, .d] [] fu { tm := tmL 93 0 [(0, (pSite s)), (1, (.int .i64 c)), (4, (.int .i64 n)), (7, (.optr 0 0 0)), (8, (.optr 1 0 0)), (10, (.int .i64 i0)), (11, (.optr 2 0 0)), (12, (.optr 3 0 0))], hp := [(.box 41 (eSpan p) true), (.box 41 (eSpan q) true), (.box 57 (eCav (Sl.el (Site.cavs s) (Int.toNat c))) true), (.box 65 [(.int q1 i2), (.int q3 i4), (.int q5 i6), (.int q7 i8), (.int q9 i10), (.int q11 i12)] true)], df := [(.fn (.func 106) [] [])] }
noncomputable def L75x1 (env : Env) (F : Nat) (s : Site) (c : Int) (p : Span) (q : Span) (n : Int) (m0 : Nat) (fu : Nat) (i0 : Int) (i1 : Int) (q2 : IntKind) (i3 : Int) (q4 : IntKind) (i5 : Int) (q6 : IntKind) (i7 : Int) (q8 : IntKind) (i9 : Int) (q10 : IntKind) (i11 : Int) (q12 : IntKind) (i13 : Int) : Option Out := atLoop Try.prog (cfg F) env 75 [.r, .d, .r, .r, .r, .r, .r, .l, .d, .d, .r, .d, .r, .r, .l, .r, .d] [m0] fu { tm := tmL 93 0 [(0, (pSite s)), (1, (.int .i64 c)), (4, (.int .i64 n)), (7, (.optr 0 0 0)), (8, (.optr 1 0 0)), (10, (.int .i64 i0)), (11, (.optr 2 0 0)), (12, (.optr 3 0 0)), (61, (sl eCav 11 (Site.cavs s))), (62, (.int .i64 (((Sl.len (Site.cavs s)) : Nat) : Int))), (63, (.int .i64 i1))], hp := [(.box 41 (eSpan p) true), (.box 41 (eSpan q) true), (.box 57 (eCav (Sl.el (Site.cavs s) (Int.toNat c))) true), (.box 65 [(.int q2 i3), (.int q4 i5), (.int q6 i7), (.int q8 i9), (.int q10 i11), (.int q12 i13)] true)], df := [(.fn (.func 106) [] [])] }
theorem t75 (env : Env) (F : Nat) (s : Site) (c : Int) (p : Span) (q : Span) (n : Int) : (evFun Try.prog (cfg F) env 75 [(pSite s), (.int .i64 c), (.agg (eSpan p)), (.agg (eSpan q)), (.int .i64 n)]) =
  (bif (decide ((0 : Int) ≤ c)) then (bif (decide (c < (((Sl.len (Site.cavs s)) : Nat) : Int))) then (bif (decide ((Span.lo p) < (Span.lo (Cav.gate (Sl.el (Site.cavs s) (Int.toNat c)))))) then some (.ret (.int .i64 (0 : Int)))
      else (bif (decide ((Span.hi p) > (Span.hi (Cav.gate (Sl.el (Site.cavs s) (Int.toNat c)))))) then some (.ret (.int .i64 (0 : Int)))
        else (tkOut (env 57 [(pSite s)]) none (fun v7 => (tkRow v7 none fun nl8 n9 wd10 g11 => (bif (wd10 == 6) then (bif (decide ((0 : Int) ≤ c)) then (bif (decide (c < ((n9 : Nat) : Int))) then (bif ((List.length (List.take 6 (g11 (Int.toNat c)))) == 6) then (tkCons (List.take 6 (g11 (Int.toNat c))) none fun v12 r13 => (tkInt v12 none fun q14 n15 => (tkCons r13 none fun v16 r17 => (tkInt v16 none fun q18 n19 => (tkCons r17 none fun v20 r21 => (tkInt v20 none fun q22 n23 => (tkCons r21 none fun v24 r25 => (tkInt v24 none fun q26 n27 => (tkCons r25 none fun v28 r29 => (tkInt v28 none fun q30 n31 => (tkCons r29 none fun v32 r33 => (tkInt v32 none fun q34 n35 => (tkNil r33 none ((L75x0 env F s c p q n F (0 : Int) q14 n15 q18 n19 q22 n23 q26 n27 q30 n31 q34 n35)))))))))))))))
                    else none)
                  else none)
                else none)
              else none)))
          (fun p7 => (tkIfc p7 none fun t8 x9 => (bif (flatP (.iface t8 x9)) then (bif (t8 == 146) then some (.ret (.int .i64 (0 : Int)))
                else (bif (flatP (.iface t8 x9)) then none
                  else none))
              else none))))))
    else none)
  else none) := by kernel_rfl
theorem L75x0s (env : Env) (F : Nat) (s : Site) (c : Int) (p : Span) (q : Span) (n : Int) (fu : Nat) (i0 : Int) (q1 : IntKind) (i2 : Int) (q3 : IntKind) (i4 : Int) (q5 : IntKind) (i6 : Int) (q7 : IntKind) (i8 : Int) (q9 : IntKind) (i10 : Int) (q11 : IntKind) (i12 : Int) : L75x0 env F s c p q n (fu + 1) i0 q1 i2 q3 i4 q5 i6 q7 i8 q9 i10 q11 i12 =
  (bif (decide (i0 < n)) then (tkOut (env 91 [(pSite s), (.int .i64 c), (.agg [(.int q1 i2), (.int q3 i4), (.int q5 i6), (.int q7 i8), (.int q9 i10), (.int q11 i12)]), (.agg (eSpan p)), (.agg (eSpan q))]) none (fun v21 => (tkAgg v21 none fun l22 => (tkCons l22 none fun v23 r24 => (tkInt v23 none fun q25 n26 => (tkCons r24 none fun v27 r28 => (tkInt v27 none fun q29 n30 => (tkCons r28 none fun v31 r32 => (tkInt v31 none fun q33 n34 => (tkCons r32 none fun v35 r36 => (tkInt v35 none fun q37 n38 => (tkCons r36 none fun v39 r40 => (tkInt v39 none fun q41 n42 => (tkCons r40 none fun v43 r44 => (tkInt v43 none fun q45 n46 => (tkNil r44 none ((bif (decide (q33 = .i64)) then (bif (decide (n34 < (Cav.floor (Sl.el (Site.cavs s) (Int.toNat c))))) then some (.ret (.int .i64 i0))
                                    else (L75x1 env F s c p q n fu F i0 (0 : Int) q25 n26 q29 n30 q33 n34 q37 n38 q41 n42 q45 n46))
                                  else none)))))))))))))))))
    (fun p21 => (tkIfc p21 none fun t22 x23 => (bif (flatP (.iface t22 x23)) then (bif (t22 == 146) then some (.ret (.int .i64 i0))
          else (bif (flatP (.iface t22 x23)) then none
            else none))
        else none))))
  else some (.ret (.int .i64 i0))) := by kernel_rfl
theorem L75x1s (env : Env) (F : Nat) (s : Site) (c : Int) (p : Span) (q : Span) (n : Int) (m0 : Nat) (fu : Nat) (i0 : Int) (i1 : Int) (q2 : IntKind) (i3 : Int) (q4 : IntKind) (i5 : Int) (q6 : IntKind) (i7 : Int) (q8 : IntKind) (i9 : Int) (q10 : IntKind) (i11 : Int) (q12 : IntKind) (i13 : Int) : L75x1 env F s c p q n m0 (fu + 1) i0 i1 q2 i3 q4 i5 q6 i7 q8 i9 q10 i11 q12 i13 =
  (bif (decide (i1 < (((Sl.len (Site.cavs s)) : Nat) : Int))) then (bif (decide ((0 : Int) ≤ i1)) then (bif (decide (i1 < (((Sl.len (Site.cavs s)) : Nat) : Int))) then (bif (i1 != c) then (tkOut (env 73 [(pSite s), (.int .i64 c), (.int .i64 i1), (.int q4 i5), (.int .i64 (Span.hi (Cav.rad (Sl.el (Site.cavs s) (Int.toNat i1)))))]) none (fun v23 => (tkInt v23 none fun q24 n25 => (bif (decide (q24 = .i64)) then (bif (decide (n25 < (Site.wall s))) then some (.ret (.int .i64 i0))
                else (L75x1 env F s c p q n m0 fu i0 (IntKind.wrap .i64 (i1 + (1 : Int))) q2 i3 q4 i5 q6 i7 q8 i9 q10 i11 q12 i13))
              else none)))
          (fun p23 => (tkIfc p23 none fun t24 x25 => (bif (flatP (.iface t24 x25)) then none
              else none))))
        else (L75x1 env F s c p q n m0 fu i0 (IntKind.wrap .i64 (i1 + (1 : Int))) q2 i3 q4 i5 q6 i7 q8 i9 q10 i11 q12 i13))
      else none)
    else none)
  else (L75x0 env F s c p q n m0 (IntKind.wrap .i64 (i0 + (1 : Int))) q2 i3 q4 i5 q6 i7 q8 i9 q10 i11 q12 i13)) := by kernel_rfl

theorem t77 (env : Env) (F : Nat) (s : Site) (c : Int) (p : Int) (n : Int) (q : Span) : (evFun Try.prog (cfg F) env 77 [(.int .i64 p), (.rptr 1 1 (fun u7 => [(pSite s)]) 0 0), (.rptr 1 1 (fun u7 => [(.int .i64 c)]) 0 0), (.rptr 1 2 (fun u7 => (eSpan q)) 0 0), (.rptr 1 1 (fun u7 => [(.int .i64 n)]) 0 0)]) =
  (tkOut (env 75 [(pSite s), (.int .i64 c), (.agg [(.int .i64 p), (.int .i64 p)]), (.agg (eSpan q)), (.int .i64 n)]) none (fun v7 => (tkInt v7 none fun q8 n9 => (bif (decide (q8 = .i64)) then some (.ret (.bool (decide (n9 ≥ n))))
      else none)))
  (fun p7 => (tkIfc p7 none fun t8 x9 => (bif (flatP (.iface t8 x9)) then none
      else none)))) := by kernel_rfl

noncomputable def L7604x0 (env : Env) (F : Nat) (a : Int) (b : Int) (s : Site) (c : Int) (n : Int) (q : Span) (fu : Nat) (i0 : Int) (i1 : Int) : Option Out := atLoop Try.prog (cfg F) env 76 [.r, .l, .d] [] fu { tm := tmL 24 0 [(0, (.int .i64 i0)), (1, (.int .i64 i1)), (2, (.fn (.func 77) [] [(.rptr 1 1 (fun u11 => [(pSite s)]) 0 0), (.rptr 1 1 (fun u11 => [(.int .i64 c)]) 0 0), (.rptr 1 2 (fun u11 => (eSpan q)) 0 0), (.rptr 1 1 (fun u11 => [(.int .i64 n)]) 0 0)]))], hp := [] }
theorem t7604 (env : Env) (F : Nat) (a : Int) (b : Int) (s : Site) (c : Int) (n : Int) (q : Span) : (evFun Try.prog (cfg F) env 76 [(.int .i64 a), (.int .i64 b), (.fn (.func 77) [] [(.rptr 1 1 (fun u8 => [(pSite s)]) 0 0), (.rptr 1 1 (fun u8 => [(.int .i64 c)]) 0 0), (.rptr 1 2 (fun u8 => (eSpan q)) 0 0), (.rptr 1 1 (fun u8 => [(.int .i64 n)]) 0 0)])]) =
  (L7604x0 env F a b s c n q F a b) := by kernel_rfl
theorem L7604x0s (env : Env) (F : Nat) (a : Int) (b : Int) (s : Site) (c : Int) (n : Int) (q : Span) (fu : Nat) (i0 : Int) (i1 : Int) : L7604x0 env F a b s c n q (fu + 1) i0 i1 =
  (bif (decide (i0 < i1)) then (tkOut (env 77 [(.int .i64 (IntKind.wrap .i64 (i0 + (IntKind.wrap .i64 (Int.tdiv (IntKind.wrap .i64 (i1 - i0)) (2 : Int)))))), (.rptr 1 1 (fun u11 => [(pSite s)]) 0 0), (.rptr 1 1 (fun u11 => [(.int .i64 c)]) 0 0), (.rptr 1 2 (fun u11 => (eSpan q)) 0 0), (.rptr 1 1 (fun u11 => [(.int .i64 n)]) 0 0)]) none (fun v11 => (tkBool v11 none fun b12 => (bif b12 then (L7604x0 env F a b s c n q fu i0 (IntKind.wrap .i64 (i0 + (IntKind.wrap .i64 (Int.tdiv (IntKind.wrap .i64 (i1 - i0)) (2 : Int))))))
        else (L7604x0 env F a b s c n q fu (IntKind.wrap .i64 ((IntKind.wrap .i64 (i0 + (IntKind.wrap .i64 (Int.tdiv (IntKind.wrap .i64 (i1 - i0)) (2 : Int))))) + (1 : Int))) i1))))
    (fun p11 => (tkIfc p11 none fun t12 x13 => (bif (flatP (.iface t12 x13)) then some (.pan (.iface t12 x13))
        else none))))
  else some (.ret (.int .i64 i0))) := by kernel_rfl

noncomputable def L44x0 (env : Env) (F : Nat) (s : Site) (c : Int) (q : Span) (n : Int) (fu : Nat) (i0 : Int) (i1 : Int) : Option Out := atLoop Try.prog (cfg F) env 44 [.r, .r, .r, .r, .r, .l, .d] [] fu { tm := tmL 63 0 [(1, (.int .i64 c)), (3, (.int .i64 n)), (4, (.optr 0 0 0)), (6, (.optr 1 0 0)), (10, (.int .i64 i0)), (11, (.int .i64 i1))], hp := [(.box 28 (eSite s) true), (.box 41 (eSpan q) true)] }
theorem t44 (env : Env) (F : Nat) (s : Site) (c : Int) (q : Span) (n : Int) : (evFun Try.prog (cfg F) env 44 [(.agg (eSite s)), (.int .i64 c), (.agg (eSpan q)), (.int .i64 n)]) =
  (bif (n == (0 : Int)) then some (.ret (.int .i64 (0 : Int)))
  else (bif (decide ((0 : Int) ≤ c)) then (bif (decide (c < (((Sl.len (Site.cavs s)) : Nat) : Int))) then (bif (decide ((Span.lo (Cav.gate (Sl.el (Site.cavs s) (Int.toNat c)))) > (if (Cav.rock (Sl.el (Site.cavs s) (Int.toNat c))) < (Span.hi (Cav.gate (Sl.el (Site.cavs s) (Int.toNat c)))) then (Cav.rock (Sl.el (Site.cavs s) (Int.toNat c))) else (Span.hi (Cav.gate (Sl.el (Site.cavs s) (Int.toNat c))))))) then some (.ret (.int .i64 (-(1 : Int))))
        else (tkOut (env 45 [(.agg (eSite s)), (.int .i64 c), (.agg [(.int .i64 (if (Cav.rock (Sl.el (Site.cavs s) (Int.toNat c))) < (Span.hi (Cav.gate (Sl.el (Site.cavs s) (Int.toNat c)))) then (Cav.rock (Sl.el (Site.cavs s) (Int.toNat c))) else (Span.hi (Cav.gate (Sl.el (Site.cavs s) (Int.toNat c)))))), (.int .i64 (if (Cav.rock (Sl.el (Site.cavs s) (Int.toNat c))) < (Span.hi (Cav.gate (Sl.el (Site.cavs s) (Int.toNat c)))) then (Cav.rock (Sl.el (Site.cavs s) (Int.toNat c))) else (Span.hi (Cav.gate (Sl.el (Site.cavs s) (Int.toNat c))))))]), (.agg (eSpan q))]) none (fun v6 => (tkInt v6 none fun q7 n8 => (bif (decide (q7 = .i64)) then (bif (decide (n8 < n)) then some (.ret (.int .i64 (-(1 : Int))))
                else (L44x0 env F s c q n F (Span.lo (Cav.gate (Sl.el (Site.cavs s) (Int.toNat c)))) (if (Cav.rock (Sl.el (Site.cavs s) (Int.toNat c))) < (Span.hi (Cav.gate (Sl.el (Site.cavs s) (Int.toNat c)))) then (Cav.rock (Sl.el (Site.cavs s) (Int.toNat c))) else (Span.hi (Cav.gate (Sl.el (Site.cavs s) (Int.toNat c)))))))
              else none)))
          (fun p6 => (tkIfc p6 none fun t7 x8 => (bif (flatP (.iface t7 x8)) then some (.pan (.iface t7 x8))
              else none)))))
      else none)
    else none)) := by kernel_rfl
theorem L44x0s (env : Env) (F : Nat) (s : Site) (c : Int) (q : Span) (n : Int) (fu : Nat) (i0 : Int) (i1 : Int) : L44x0 env F s c q n (fu + 1) i0 i1 =
  (bif (decide (i0 < i1)) then (tkOut (env 45 [(.agg (eSite s)), (.int .i64 c), (.agg [(.int .i64 (IntKind.wrap .i64 (Int.tdiv (IntKind.wrap .i64 (i0 + i1)) (2 : Int)))), (.int .i64 (IntKind.wrap .i64 (Int.tdiv (IntKind.wrap .i64 (i0 + i1)) (2 : Int))))]), (.agg (eSpan q))]) none (fun v9 => (tkInt v9 none fun q10 n11 => (bif (decide (q10 = .i64)) then (bif (decide (n11 ≥ n)) then (L44x0 env F s c q n fu i0 (IntKind.wrap .i64 (Int.tdiv (IntKind.wrap .i64 (i0 + i1)) (2 : Int))))
          else (L44x0 env F s c q n fu (IntKind.wrap .i64 ((IntKind.wrap .i64 (Int.tdiv (IntKind.wrap .i64 (i0 + i1)) (2 : Int))) + (1 : Int))) i1))
        else none)))
    (fun p9 => (tkIfc p9 none fun t10 x11 => (bif (flatP (.iface t10 x11)) then some (.pan (.iface t10 x11))
        else none))))
  else some (.ret (.int .i64 i0))) := by kernel_rfl

noncomputable def L45x0 (env : Env) (F : Nat) (s : Site) (c : Int) (p : Span) (q : Span) (fu : Nat) (i0 : Int) (q1 : IntKind) (i2 : Int) (q3 : IntKind) (i4 : Int) (q5 : IntKind) (i6 : Int) (q7 : IntKind) (i8 : Int) (q9 : IntKind) (i10 : Int) (q11 : IntKind) (i12 : Int) : Option Out := atLoop Try.prog (cfg F) env 45 [.r, .r, .r, .r, .l, .r, .d] [] fu { tm := tmL 90 0 [(1, (.int .i64 c)), (4, (.optr 0 0 0)), (6, (.optr 1 0 0)), (7, (.optr 2 0 0)), (9, (.optr 3 0 0)), (10, (.optr 4 0 0)), (11, (.int .i64 i0))], hp := [(.box 28 (eSite s) true), (.box 41 (eSpan p) true), (.box 41 (eSpan q) true), (.box 57 (eCav (Sl.el (Site.cavs s) (Int.toNat c))) true), (.box 65 [(.int q1 i2), (.int q3 i4), (.int q5 i6), (.int q7 i8), (.int q9 i10), (.int q11 i12)] true)] }
noncomputable def L45x1 (env : Env) (F : Nat) (s : Site) (c : Int) (p : Span) (q : Span) (m0 : Nat) (fu : Nat) (i0 : Int) (i1 : Int) (q2 : IntKind) (i3 : Int) (q4 : IntKind) (i5 : Int) (q6 : IntKind) (i7 : Int) (q8 : IntKind) (i9 : Int) (q10 : IntKind) (i11 : Int) (q12 : IntKind) (i13 : Int) : Option Out := atLoop Try.prog (cfg F) env 45 [.r, .r, .r, .r, .l, .r, .d, .d, .r, .l, .d, .r, .r, .r, .d] [m0] fu { tm := tmL 90 0 [(1, (.int .i64 c)), (4, (.optr 0 0 0)), (6, (.optr 1 0 0)), (7, (.optr 2 0 0)), (9, (.optr 3 0 0)), (10, (.optr 4 0 0)), (11, (.int .i64 i0)), (12, (.int .i64 i1))], hp := [(.box 28 (eSite s) true), (.box 41 (eSpan p) true), (.box 41 (eSpan q) true), (.box 57 (eCav (Sl.el (Site.cavs s) (Int.toNat c))) true), (.box 65 [(.int q2 i3), (.int q4 i5), (.int q6 i7), (.int q8 i9), (.int q10 i11), (.int q12 i13)] true)] }
theorem t45 (env : Env) (F : Nat) (s : Site) (c : Int) (p : Span) (q : Span) : (evFun Try.prog (cfg F) env 45 [(.agg (eSite s)), (.int .i64 c), (.agg (eSpan p)), (.agg (eSpan q))]) =
  (bif (decide ((0 : Int) ≤ c)) then (bif (decide (c < (((Sl.len (Site.cavs s)) : Nat) : Int))) then (tkOut (env 32 [(.agg (eSite s)), (.int .i64 c), (.agg (eSpan p)), (.agg (eSpan q))]) none (fun v6 => (tkBool v6 none fun b7 => (bif b7 then some (.ret (.int .i64 (0 : Int)))
          else (bif (decide ((Span.lo p) < (Span.lo (Cav.gate (Sl.el (Site.cavs s) (Int.toNat c)))))) then some (.ret (.int .i64 (0 : Int)))
            else (bif (decide ((Span.hi p) > (Span.hi (Cav.gate (Sl.el (Site.cavs s) (Int.toNat c)))))) then some (.ret (.int .i64 (0 : Int)))
              else (tkOut (env 38 [(.agg (eSite s))]) none (fun v8 => (tkRow v8 none fun nl9 n10 wd11 g12 => (bif (wd11 == 6) then (bif (decide ((0 : Int) ≤ c)) then (bif (decide (c < ((n10 : Nat) : Int))) then (bif ((List.length (List.take 6 (g12 (Int.toNat c)))) == 6) then (tkCons (List.take 6 (g12 (Int.toNat c))) none fun v13 r14 => (tkInt v13 none fun q15 n16 => (tkCons r14 none fun v17 r18 => (tkInt v17 none fun q19 n20 => (tkCons r18 none fun v21 r22 => (tkInt v21 none fun q23 n24 => (tkCons r22 none fun v25 r26 => (tkInt v25 none fun q27 n28 => (tkCons r26 none fun v29 r30 => (tkInt v29 none fun q31 n32 => (tkCons r30 none fun v33 r34 => (tkInt v33 none fun q35 n36 => (tkNil r34 none ((L45x0 env F s c p q F (0 : Int) q15 n16 q19 n20 q23 n24 q27 n28 q31 n32 q35 n36)))))))))))))))
                          else none)
                        else none)
                      else none)
                    else none)))
                (fun p8 => (tkIfc p8 none fun t9 x10 => (bif (flatP (.iface t9 x10)) then some (.pan (.iface t9 x10))
                    else none)))))))))
      (fun p6 => (tkIfc p6 none fun t7 x8 => (bif (flatP (.iface t7 x8)) then some (.pan (.iface t7 x8))
          else none))))
    else none)
  else none) := by kernel_rfl
theorem L45x0s (env : Env) (F : Nat) (s : Site) (c : Int) (p : Span) (q : Span) (fu : Nat) (i0 : Int) (q1 : IntKind) (i2 : Int) (q3 : IntKind) (i4 : Int) (q5 : IntKind) (i6 : Int) (q7 : IntKind) (i8 : Int) (q9 : IntKind) (i10 : Int) (q11 : IntKind) (i12 : Int) : L45x0 env F s c p q (fu + 1) i0 q1 i2 q3 i4 q5 i6 q7 i8 q9 i10 q11 i12 =
  (bif (decide (i0 < (60 : Int))) then (tkOut (env 56 [(.agg (eSite s)), (.int .i64 c), (.agg [(.int q1 i2), (.int q3 i4), (.int q5 i6), (.int q7 i8), (.int q9 i10), (.int q11 i12)]), (.agg (eSpan p)), (.agg (eSpan q))]) none (fun v20 => (tkAgg v20 none fun l21 => (tkCons l21 none fun v22 r23 => (tkInt v22 none fun q24 n25 => (tkCons r23 none fun v26 r27 => (tkInt v26 none fun q28 n29 => (tkCons r27 none fun v30 r31 => (tkInt v30 none fun q32 n33 => (tkCons r31 none fun v34 r35 => (tkInt v34 none fun q36 n37 => (tkCons r35 none fun v38 r39 => (tkInt v38 none fun q40 n41 => (tkCons r39 none fun v42 r43 => (tkInt v42 none fun q44 n45 => (tkNil r43 none ((bif (decide (q32 = .i64)) then (bif (decide (n33 < (Cav.floor (Sl.el (Site.cavs s) (Int.toNat c))))) then some (.ret (.int .i64 i0))
                                    else (L45x1 env F s c p q fu F i0 (0 : Int) q24 n25 q28 n29 q32 n33 q36 n37 q40 n41 q44 n45))
                                  else none)))))))))))))))))
    (fun p20 => (tkIfc p20 none fun t21 x22 => (bif (flatP (.iface t21 x22)) then some (.pan (.iface t21 x22))
        else none))))
  else some (.ret (.int .i64 (60 : Int)))) := by kernel_rfl
theorem L45x1s (env : Env) (F : Nat) (s : Site) (c : Int) (p : Span) (q : Span) (m0 : Nat) (fu : Nat) (i0 : Int) (i1 : Int) (q2 : IntKind) (i3 : Int) (q4 : IntKind) (i5 : Int) (q6 : IntKind) (i7 : Int) (q8 : IntKind) (i9 : Int) (q10 : IntKind) (i11 : Int) (q12 : IntKind) (i13 : Int) : L45x1 env F s c p q m0 (fu + 1) i0 i1 q2 i3 q4 i5 q6 i7 q8 i9 q10 i11 q12 i13 =
  (bif (decide (i1 < (((Sl.len (Site.cavs s)) : Nat) : Int))) then (bif (i1 != c) then (bif (decide ((0 : Int) ≤ i1)) then (bif (decide (i1 < (((Sl.len (Site.cavs s)) : Nat) : Int))) then (tkOut (env 40 [(.agg (eSite s)), (.int .i64 c), (.int .i64 i1), (.agg [(.int q2 i3), (.int q4 i5)]), (.agg (eSpan (Cav.rad (Sl.el (Site.cavs s) (Int.toNat i1)))))]) none (fun v22 => (tkAgg v22 none fun l23 => (tkCons l23 none fun v24 r25 => (tkInt v24 none fun q26 n27 => (tkCons r25 none fun v28 r29 => (tkInt v28 none fun q30 n31 => (tkNil r29 none ((bif (decide (q26 = .i64)) then (bif (decide (n27 < (Site.wall s))) then some (.ret (.int .i64 i0))
                          else (L45x1 env F s c p q m0 fu i0 (IntKind.wrap .i64 (i1 + (1 : Int))) q2 i3 q4 i5 q6 i7 q8 i9 q10 i11 q12 i13))
                        else none)))))))))
          (fun p22 => (tkIfc p22 none fun t23 x24 => (bif (flatP (.iface t23 x24)) then none
              else none))))
        else none)
      else none)
    else (L45x1 env F s c p q m0 fu i0 (IntKind.wrap .i64 (i1 + (1 : Int))) q2 i3 q4 i5 q6 i7 q8 i9 q10 i11 q12 i13))
  else (L45x0 env F s c p q m0 (IntKind.wrap .i64 (i0 + (1 : Int))) q2 i3 q4 i5 q6 i7 q8 i9 q10 i11 q12 i13)) := by kernel_rfl

end Go.Sim.Cr

/-
  What the evaluator says of these functions (printed by a private program; each row is checked by the kernel).
-/
set_option maxRecDepth 100000
namespace Go.Sim.Cr
open Go.Proofs

theorem t3 (env : Env) (F : Nat) (s : Site) (l : Sl Stt) (d : Day) (x : Int) (y : Int) : (evFun Try.prog (cfg F) env 3 [(.agg (eSite s)), (sl eStt 6 l), (.agg (eDay d)), (.int .i64 x), (.int .i64 y)]) =
  (tkOut (env 11 [(.agg (eSite s))]) none (fun v7 => (tkBool v7 none fun b8 => (bif (!b8) then (tkOut (env 13 []) none (fun v9 => (tkBool v9 none fun b10 => some (.ret (.bool b10))))
        (fun p9 => (tkIfc p9 none fun t10 x11 => (bif (flatP (.iface t10 x11)) then some (.pan (.iface t10 x11))
            else none))))
      else (bif (decide ((((Sl.len l) : Nat) : Int) > (10 : Int))) then (tkOut (env 13 []) none (fun v9 => (tkBool v9 none fun b10 => some (.ret (.bool b10))))
          (fun p9 => (tkIfc p9 none fun t10 x11 => (bif (flatP (.iface t10 x11)) then some (.pan (.iface t10 x11))
              else none))))
        else (tkOut (env 12 [(.row false 1 2 (fun u9 => [(sl eSpan 2 (Day.press d)), (sl eSpan 2 (Day.warm d))])), (.int .i64 (1 : Int))]) none (fun v9 => (tkBool v9 none fun b10 => (bif (!b10) then (tkOut (env 13 []) none (fun v11 => (tkBool v11 none fun b12 => some (.ret (.bool b12))))
                (fun p11 => (tkIfc p11 none fun t12 x13 => (bif (flatP (.iface t12 x13)) then some (.pan (.iface t12 x13))
                    else none))))
              else (tkOut (env 14 [(.agg (eSite s)), (sl eStt 6 l), (.agg [(sl eSpan 2 (Day.press d)), (sl eSpan 2 (Day.warm d))])]) none (fun v11 => (tkTup v11 none fun l12 => (tkCons l12 none fun v13 r14 => (tkRow v13 none fun nl15 n16 wd17 g18 => (tkCons r14 none fun v19 r20 => (tkInt v19 none fun q21 n22 => (tkNil r20 none ((tkOut (env 15 [(.agg (eSite s)), (sl eStt 6 l), (.int .i64 x), (.int .i64 y)]) none (fun v23 => (tkTup v23 none fun l24 => (tkCons l24 none fun v25 r26 => (tkAgg v25 none fun l27 => (tkCons l27 none fun v28 r29 => (tkInt v28 none fun q30 n31 => (tkCons r29 none fun v32 r33 => (tkInt v32 none fun q34 n35 => (tkNil r33 none ((tkCons r26 none fun v36 r37 => (tkInt v36 none fun q38 n39 => (tkNil r37 none ((tkOut (env 16 [(.agg (eSite s))]) none (fun v40 => (tkBool v40 none fun b41 => (bif (!b41) then (bif (decide (q21 = .i64)) then (bif (n22 == (2 : Int)) then (bif (decide (q38 = .i64)) then (bif (n39 == (2 : Int)) then (bif (((n16 : Nat) : Int) == (0 : Int)) then (bif (decide (q30 = .i64)) then (bif (decide (q34 = .i64)) then (bif ((n31 == (0 : Int)) && ((n35 == (0 : Int)) && true)) then (tkOut (env 13 []) none (fun v42 => (tkBool v42 none fun b43 => some (.ret (.bool b43))))
                                                                            (fun p42 => (tkIfc p42 none fun t43 x44 => (bif (flatP (.iface t43 x44)) then some (.pan (.iface t43 x44))
                                                                                else none))))
                                                                          else some (.ret (.bool false)))
                                                                        else none)
                                                                      else none)
                                                                    else some (.ret (.bool false)))
                                                                  else some (.ret (.bool false)))
                                                                else none)
                                                              else some (.ret (.bool false)))
                                                            else none)
                                                          else (tkOut (env 17 [(.agg (eSite s)), (sl eStt 6 l)]) none (fun v42 => (tkBool v42 none fun b43 => (bif (!b43) then (bif (decide (q21 = .i64)) then (bif (n22 == (2 : Int)) then (bif (decide (q38 = .i64)) then (bif (n39 == (2 : Int)) then (bif (((n16 : Nat) : Int) == (0 : Int)) then (bif (decide (q30 = .i64)) then (bif (decide (q34 = .i64)) then (bif ((n31 == (0 : Int)) && ((n35 == (0 : Int)) && true)) then (tkOut (env 13 []) none (fun v44 => (tkBool v44 none fun b45 => some (.ret (.bool b45))))
                                                                                  (fun p44 => (tkIfc p44 none fun t45 x46 => (bif (flatP (.iface t45 x46)) then some (.pan (.iface t45 x46))
                                                                                      else none))))
                                                                                else some (.ret (.bool false)))
                                                                              else none)
                                                                            else none)
                                                                          else some (.ret (.bool false)))
                                                                        else some (.ret (.bool false)))
                                                                      else none)
                                                                    else some (.ret (.bool false)))
                                                                  else none)
                                                                else (tkOut (env 18 [(.int .i64 x), (.int .i64 y)]) none (fun v44 => (tkBool v44 none fun b45 => (bif (!b45) then (bif (decide (q38 = .i64)) then (bif (n39 != (2 : Int)) then some (.ret (.bool false))
                                                                          else (bif (decide (q30 = .i64)) then (bif (decide (q34 = .i64)) then (bif (!((n31 == (0 : Int)) && ((n35 == (0 : Int)) && true))) then some (.ret (.bool false))
                                                                                else (tkOut (env 20 [(.agg (eSite s)), (.agg [(sl eSpan 2 (Day.press d)), (sl eSpan 2 (Day.warm d))])]) none (fun v46 => (tkBool v46 none fun b47 => (bif (!b47) then (bif (decide (q21 = .i64)) then (bif (n22 == (2 : Int)) then (bif (((n16 : Nat) : Int) == (0 : Int)) then (tkOut (env 13 []) none (fun v48 => (tkBool v48 none fun b49 => some (.ret (.bool b49))))
                                                                                              (fun p48 => (tkIfc p48 none fun t49 x50 => (bif (flatP (.iface t49 x50)) then some (.pan (.iface t49 x50))
                                                                                                  else none))))
                                                                                            else some (.ret (.bool false)))
                                                                                          else some (.ret (.bool false)))
                                                                                        else none)
                                                                                      else (tkOut (env 21 [(.agg (eSite s)), (sl eStt 6 l), (.agg [(sl eSpan 2 (Day.press d)), (sl eSpan 2 (Day.warm d))])]) none (fun v48 => (tkTup v48 none fun l49 => (tkCons l49 none fun v50 r51 => (tkRow v50 none fun nl52 n53 wd54 g55 => (tkCons r51 none fun v56 r57 => (tkBool v56 none fun b58 => (tkNil r57 none ((bif (!b58) then (bif (decide (q21 = .i64)) then (bif (n22 == (7 : Int)) then (bif (((n16 : Nat) : Int) == (0 : Int)) then (tkOut (env 13 []) none (fun v59 => (tkBool v59 none fun b60 => some (.ret (.bool b60))))
                                                                                                              (fun p59 => (tkIfc p59 none fun t60 x61 => (bif (flatP (.iface t60 x61)) then some (.pan (.iface t60 x61))
                                                                                                                  else none))))
                                                                                                            else some (.ret (.bool false)))
                                                                                                          else some (.ret (.bool false)))
                                                                                                        else none)
                                                                                                      else (bif (decide (q21 = .i64)) then (bif (n22 == (0 : Int)) then (tkOut (env 22 [(.row nl15 n16 wd17 g18), (.row nl52 n53 wd54 g55)]) none (fun v59 => (tkBool v59 none fun b60 => (bif b60 then (tkOut (env 13 []) none (fun v61 => (tkBool v61 none fun b62 => some (.ret (.bool b62))))
                                                                                                                  (fun p61 => (tkIfc p61 none fun t62 x63 => (bif (flatP (.iface t62 x63)) then some (.pan (.iface t62 x63))
                                                                                                                      else none))))
                                                                                                                else some (.ret (.bool false)))))
                                                                                                            (fun p59 => (tkIfc p59 none fun t60 x61 => (bif (flatP (.iface t60 x61)) then some (.pan (.iface t60 x61))
                                                                                                                else none))))
                                                                                                          else some (.ret (.bool false)))
                                                                                                        else none))))))))))
                                                                                        (fun p48 => (tkIfc p48 none fun t49 x50 => (bif (flatP (.iface t49 x50)) then some (.pan (.iface t49 x50))
                                                                                            else none)))))))
                                                                                  (fun p46 => (tkIfc p46 none fun t47 x48 => (bif (flatP (.iface t47 x48)) then some (.pan (.iface t47 x48))
                                                                                      else none)))))
                                                                              else none)
                                                                            else none))
                                                                        else none)
                                                                      else (bif (decide (q38 = .i64)) then (bif (n39 != (0 : Int)) then some (.ret (.bool false))
                                                                          else (tkOut (env 19 [(.agg (eSite s)), (sl eStt 6 l), (.int .i64 x), (.int .i64 y)]) none (fun v46 => (tkAgg v46 none fun l47 => (tkCons l47 none fun v48 r49 => (tkInt v48 none fun q50 n51 => (tkCons r49 none fun v52 r53 => (tkInt v52 none fun q54 n55 => (tkNil r53 none ((bif (decide (q30 = q50)) then (bif (decide (q34 = q54)) then (bif (!((n31 == n51) && ((n35 == n55) && true))) then some (.ret (.bool false))
                                                                                              else (tkOut (env 20 [(.agg (eSite s)), (.agg [(sl eSpan 2 (Day.press d)), (sl eSpan 2 (Day.warm d))])]) none (fun v56 => (tkBool v56 none fun b57 => (bif (!b57) then (bif (decide (q21 = .i64)) then (bif (n22 == (2 : Int)) then (bif (((n16 : Nat) : Int) == (0 : Int)) then (tkOut (env 13 []) none (fun v58 => (tkBool v58 none fun b59 => some (.ret (.bool b59))))
                                                                                                            (fun p58 => (tkIfc p58 none fun t59 x60 => (bif (flatP (.iface t59 x60)) then some (.pan (.iface t59 x60))
                                                                                                                else none))))
                                                                                                          else some (.ret (.bool false)))
                                                                                                        else some (.ret (.bool false)))
                                                                                                      else none)
                                                                                                    else (tkOut (env 21 [(.agg (eSite s)), (sl eStt 6 l), (.agg [(sl eSpan 2 (Day.press d)), (sl eSpan 2 (Day.warm d))])]) none (fun v58 => (tkTup v58 none fun l59 => (tkCons l59 none fun v60 r61 => (tkRow v60 none fun nl62 n63 wd64 g65 => (tkCons r61 none fun v66 r67 => (tkBool v66 none fun b68 => (tkNil r67 none ((bif (!b68) then (bif (decide (q21 = .i64)) then (bif (n22 == (7 : Int)) then (bif (((n16 : Nat) : Int) == (0 : Int)) then (tkOut (env 13 []) none (fun v69 => (tkBool v69 none fun b70 => some (.ret (.bool b70))))
                                                                                                                            (fun p69 => (tkIfc p69 none fun t70 x71 => (bif (flatP (.iface t70 x71)) then some (.pan (.iface t70 x71))
                                                                                                                                else none))))
                                                                                                                          else some (.ret (.bool false)))
                                                                                                                        else some (.ret (.bool false)))
                                                                                                                      else none)
                                                                                                                    else (bif (decide (q21 = .i64)) then (bif (n22 == (0 : Int)) then (tkOut (env 22 [(.row nl15 n16 wd17 g18), (.row nl62 n63 wd64 g65)]) none (fun v69 => (tkBool v69 none fun b70 => (bif b70 then (tkOut (env 13 []) none (fun v71 => (tkBool v71 none fun b72 => some (.ret (.bool b72))))
                                                                                                                                (fun p71 => (tkIfc p71 none fun t72 x73 => (bif (flatP (.iface t72 x73)) then some (.pan (.iface t72 x73))
                                                                                                                                    else none))))
                                                                                                                              else some (.ret (.bool false)))))
                                                                                                                          (fun p69 => (tkIfc p69 none fun t70 x71 => (bif (flatP (.iface t70 x71)) then some (.pan (.iface t70 x71))
                                                                                                                              else none))))
                                                                                                                        else some (.ret (.bool false)))
                                                                                                                      else none))))))))))
                                                                                                      (fun p58 => (tkIfc p58 none fun t59 x60 => (bif (flatP (.iface t59 x60)) then some (.pan (.iface t59 x60))
                                                                                                          else none)))))))
                                                                                                (fun p56 => (tkIfc p56 none fun t57 x58 => (bif (flatP (.iface t57 x58)) then some (.pan (.iface t57 x58))
                                                                                                    else none)))))
                                                                                            else none)
                                                                                          else none)))))))))
                                                                            (fun p46 => (tkIfc p46 none fun t47 x48 => (bif (flatP (.iface t47 x48)) then some (.pan (.iface t47 x48))
                                                                                else none)))))
                                                                        else none))))
                                                                  (fun p44 => (tkIfc p44 none fun t45 x46 => (bif (flatP (.iface t45 x46)) then some (.pan (.iface t45 x46))
                                                                      else none)))))))
                                                            (fun p42 => (tkIfc p42 none fun t43 x44 => (bif (flatP (.iface t43 x44)) then some (.pan (.iface t43 x44))
                                                                else none)))))))
                                                      (fun p40 => (tkIfc p40 none fun t41 x42 => (bif (flatP (.iface t41 x42)) then some (.pan (.iface t41 x42))
                                                          else none))))))))))))))))))
                              (fun p23 => (tkIfc p23 none fun t24 x25 => (bif (flatP (.iface t24 x25)) then some (.pan (.iface t24 x25))
                                  else none))))))))))))
                (fun p11 => (tkIfc p11 none fun t12 x13 => (bif (flatP (.iface t12 x13)) then some (.pan (.iface t12 x13))
                    else none)))))))
          (fun p9 => (tkIfc p9 none fun t10 x11 => (bif (flatP (.iface t10 x11)) then some (.pan (.iface t10 x11))
              else none))))))))
  (fun p7 => (tkIfc p7 none fun t8 x9 => (bif (flatP (.iface t8 x9)) then some (.pan (.iface t8 x9))
      else none)))) := by kernel_rfl

noncomputable def L5x0 (env : Env) (F : Nat) (s : Site) (l : Sl Day) (fu : Nat) (q0 : IntKind) (i1 : Int) (i2 : Int) (i3 : Int) (q4 : IntKind) (i5 : Int) (q6 : IntKind) (i7 : Int) (q8 : IntKind) (i9 : Int) (q10 : IntKind) (i11 : Int) (q12 : IntKind) (i13 : Int) (q14 : IntKind) (i15 : Int) (q16 : IntKind) (i17 : Int) (q18 : IntKind) (i19 : Int) : Option Out := atLoop Try.prog (cfg F) env 5 [.r, .r, .r, .r, .r, .l, .r, .d] [] fu { tm := tmL 86 0 [(1, (sl eDay 2 l)), (2, (.optr 0 0 0)), (5, (.optr 1 0 0)), (6, (.optr 2 0 0)), (7, (.int q0 i1)), (8, (.int .i64 i2)), (9, (.int .i64 i3))], hp := [(.box 28 (eSite s) true), (.box 71 [(.int q4 i5), (.int q6 i7), (.int q8 i9), (.int q10 i11)] true), (.box 71 [(.int q12 i13), (.int q14 i15), (.int q16 i17), (.int q18 i19)] true)] }
theorem t5 (env : Env) (F : Nat) (s : Site) (l : Sl Day) : (evFun Try.prog (cfg F) env 5 [(.agg (eSite s)), (sl eDay 2 l)]) =
  (tkOut (env 11 [(.agg (eSite s))]) none (fun v4 => (tkBool v4 none fun b5 => (bif (!b5) then (tkOut (env 13 []) none (fun v6 => (tkBool v6 none fun b7 => some (.ret (.bool b7))))
        (fun p6 => (tkIfc p6 none fun t7 x8 => (bif (flatP (.iface t7 x8)) then some (.pan (.iface t7 x8))
            else none))))
      else (tkOut (env 12 [(sl eDay 2 l), (.int .i64 (12 : Int))]) none (fun v6 => (tkBool v6 none fun b7 => (bif (!b7) then (tkOut (env 13 []) none (fun v8 => (tkBool v8 none fun b9 => some (.ret (.bool b9))))
              (fun p8 => (tkIfc p8 none fun t9 x10 => (bif (flatP (.iface t9 x10)) then some (.pan (.iface t9 x10))
                  else none))))
            else (tkOut (env 30 [(.agg (eSite s)), (sl eDay 2 l)]) none (fun v8 => (tkTup v8 none fun l9 => (tkCons l9 none fun v10 r11 => (tkAgg v10 none fun l12 => (tkCons l12 none fun v13 r14 => (tkInt v13 none fun q15 n16 => (tkCons r14 none fun v17 r18 => (tkInt v17 none fun q19 n20 => (tkCons r18 none fun v21 r22 => (tkInt v21 none fun q23 n24 => (tkCons r22 none fun v25 r26 => (tkInt v25 none fun q27 n28 => (tkNil r26 none ((tkCons r11 none fun v29 r30 => (tkAgg v29 none fun l31 => (tkCons l31 none fun v32 r33 => (tkInt v32 none fun q34 n35 => (tkCons r33 none fun v36 r37 => (tkInt v36 none fun q38 n39 => (tkCons r37 none fun v40 r41 => (tkInt v40 none fun q42 n43 => (tkCons r41 none fun v44 r45 => (tkInt v44 none fun q46 n47 => (tkNil r45 none ((tkCons r30 none fun v48 r49 => (tkInt v48 none fun q50 n51 => (tkNil r49 none ((bif (decide ((((Sl.len l) : Nat) : Int) > (60 : Int))) then (L5x0 env F s l F q50 n51 (3 : Int) (0 : Int) q15 n16 q19 n20 q23 n24 q27 n28 q34 n35 q38 n39 q42 n43 q46 n47)
                                                                    else (tkOut (env 16 [(.agg (eSite s))]) none (fun v52 => (tkBool v52 none fun b53 => (bif (!b53) then (L5x0 env F s l F q50 n51 (2 : Int) (0 : Int) q15 n16 q19 n20 q23 n24 q27 n28 q34 n35 q38 n39 q42 n43 q46 n47)
                                                                          else (L5x0 env F s l F q50 n51 (0 : Int) (0 : Int) q15 n16 q19 n20 q23 n24 q27 n28 q34 n35 q38 n39 q42 n43 q46 n47))))
                                                                      (fun p52 => (tkIfc p52 none fun t53 x54 => (bif (flatP (.iface t53 x54)) then some (.pan (.iface t53 x54))
                                                                          else none)))))))))))))))))))))))))))))))))))
              (fun p8 => (tkIfc p8 none fun t9 x10 => (bif (flatP (.iface t9 x10)) then some (.pan (.iface t9 x10))
                  else none)))))))
        (fun p6 => (tkIfc p6 none fun t7 x8 => (bif (flatP (.iface t7 x8)) then some (.pan (.iface t7 x8))
            else none)))))))
  (fun p4 => (tkIfc p4 none fun t5 x6 => (bif (flatP (.iface t5 x6)) then some (.pan (.iface t5 x6))
      else none)))) := by kernel_rfl
theorem L5x0s (env : Env) (F : Nat) (s : Site) (l : Sl Day) (fu : Nat) (q0 : IntKind) (i1 : Int) (i2 : Int) (i3 : Int) (q4 : IntKind) (i5 : Int) (q6 : IntKind) (i7 : Int) (q8 : IntKind) (i9 : Int) (q10 : IntKind) (i11 : Int) (q12 : IntKind) (i13 : Int) (q14 : IntKind) (i15 : Int) (q16 : IntKind) (i17 : Int) (q18 : IntKind) (i19 : Int) : L5x0 env F s l (fu + 1) q0 i1 i2 i3 q4 i5 q6 i7 q8 i9 q10 i11 q12 i13 q14 i15 q16 i17 q18 i19 =
  (bif (decide (i3 < (((Sl.len l) : Nat) : Int))) then (bif (i2 == (0 : Int)) then (bif (decide ((0 : Int) ≤ i3)) then (bif (decide (i3 < (((Sl.len l) : Nat) : Int))) then (tkOut (env 20 [(.agg (eSite s)), (.agg [(sl eSpan 2 (Day.press (Sl.el l (Int.toNat i3)))), (sl eSpan 2 (Day.warm (Sl.el l (Int.toNat i3))))])]) none (fun v25 => (tkBool v25 none fun b26 => (bif (!b26) then (L5x0 env F s l fu q0 i1 (2 : Int) (IntKind.wrap .i64 (i3 + (1 : Int))) q4 i5 q6 i7 q8 i9 q10 i11 q12 i13 q14 i15 q16 i17 q18 i19)
              else (L5x0 env F s l fu q0 i1 i2 (IntKind.wrap .i64 (i3 + (1 : Int))) q4 i5 q6 i7 q8 i9 q10 i11 q12 i13 q14 i15 q16 i17 q18 i19))))
          (fun p25 => (tkIfc p25 none fun t26 x27 => (bif (flatP (.iface t26 x27)) then some (.pan (.iface t26 x27))
              else none))))
        else none)
      else none)
    else (bif (i2 != (0 : Int)) then (bif (decide (q0 = .i64)) then (bif (i1 == i2) then (bif (decide (q4 = .i64)) then (bif (decide (q6 = .i64)) then (bif (decide (q8 = .i64)) then (bif (decide (q10 = .i64)) then (bif ((i5 == (0 : Int)) && ((i7 == (0 : Int)) && ((i9 == (0 : Int)) && ((i11 == (0 : Int)) && true)))) then (bif (decide (q12 = .i64)) then (bif (decide (q14 = .i64)) then (bif (decide (q16 = .i64)) then (bif (decide (q18 = .i64)) then (bif ((i13 == (0 : Int)) && ((i15 == (0 : Int)) && ((i17 == (0 : Int)) && ((i19 == (0 : Int)) && true)))) then (tkOut (env 13 []) none (fun v25 => (tkBool v25 none fun b26 => some (.ret (.bool b26))))
                                (fun p25 => (tkIfc p25 none fun t26 x27 => (bif (flatP (.iface t26 x27)) then some (.pan (.iface t26 x27))
                                    else none))))
                              else some (.ret (.bool false)))
                            else none)
                          else none)
                        else none)
                      else none)
                    else some (.ret (.bool false)))
                  else none)
                else none)
              else none)
            else none)
          else some (.ret (.bool false)))
        else none)
      else (bif (decide (q0 = .i64)) then (bif (i1 == (0 : Int)) then (tkOut (env 31 [(.agg (eSite s)), (sl eDay 2 l), (.bool false)]) none (fun v25 => (tkAgg v25 none fun l26 => (tkCons l26 none fun v27 r28 => (tkInt v27 none fun q29 n30 => (tkCons r28 none fun v31 r32 => (tkInt v31 none fun q33 n34 => (tkCons r32 none fun v35 r36 => (tkInt v35 none fun q37 n38 => (tkCons r36 none fun v39 r40 => (tkInt v39 none fun q41 n42 => (tkNil r40 none ((bif (decide (q4 = q29)) then (bif (decide (q6 = q33)) then (bif (decide (q8 = q37)) then (bif (decide (q10 = q41)) then (bif ((i5 == n30) && ((i7 == n34) && ((i9 == n38) && ((i11 == n42) && true)))) then (tkOut (env 31 [(.agg (eSite s)), (sl eDay 2 l), (.bool true)]) none (fun v43 => (tkAgg v43 none fun l44 => (tkCons l44 none fun v45 r46 => (tkInt v45 none fun q47 n48 => (tkCons r46 none fun v49 r50 => (tkInt v49 none fun q51 n52 => (tkCons r50 none fun v53 r54 => (tkInt v53 none fun q55 n56 => (tkCons r54 none fun v57 r58 => (tkInt v57 none fun q59 n60 => (tkNil r58 none ((bif (decide (q12 = q47)) then (bif (decide (q14 = q51)) then (bif (decide (q16 = q55)) then (bif (decide (q18 = q59)) then (bif ((i13 == n48) && ((i15 == n52) && ((i17 == n56) && ((i19 == n60) && true)))) then (tkOut (env 13 []) none (fun v61 => (tkBool v61 none fun b62 => some (.ret (.bool b62))))
                                                                            (fun p61 => (tkIfc p61 none fun t62 x63 => (bif (flatP (.iface t62 x63)) then some (.pan (.iface t62 x63))
                                                                                else none))))
                                                                          else some (.ret (.bool false)))
                                                                        else none)
                                                                      else none)
                                                                    else none)
                                                                  else none)))))))))))))
                                            (fun p43 => (tkIfc p43 none fun t44 x45 => (bif (flatP (.iface t44 x45)) then some (.pan (.iface t44 x45))
                                                else none))))
                                          else some (.ret (.bool false)))
                                        else none)
                                      else none)
                                    else none)
                                  else none)))))))))))))
            (fun p25 => (tkIfc p25 none fun t26 x27 => (bif (flatP (.iface t26 x27)) then some (.pan (.iface t26 x27))
                else none))))
          else some (.ret (.bool false)))
        else none)))
  else (bif (i2 != (0 : Int)) then (bif (decide (q0 = .i64)) then (bif (i1 == i2) then (bif (decide (q4 = .i64)) then (bif (decide (q6 = .i64)) then (bif (decide (q8 = .i64)) then (bif (decide (q10 = .i64)) then (bif ((i5 == (0 : Int)) && ((i7 == (0 : Int)) && ((i9 == (0 : Int)) && ((i11 == (0 : Int)) && true)))) then (bif (decide (q12 = .i64)) then (bif (decide (q14 = .i64)) then (bif (decide (q16 = .i64)) then (bif (decide (q18 = .i64)) then (bif ((i13 == (0 : Int)) && ((i15 == (0 : Int)) && ((i17 == (0 : Int)) && ((i19 == (0 : Int)) && true)))) then (tkOut (env 13 []) none (fun v25 => (tkBool v25 none fun b26 => some (.ret (.bool b26))))
                              (fun p25 => (tkIfc p25 none fun t26 x27 => (bif (flatP (.iface t26 x27)) then some (.pan (.iface t26 x27))
                                  else none))))
                            else some (.ret (.bool false)))
                          else none)
                        else none)
                      else none)
                    else none)
                  else some (.ret (.bool false)))
                else none)
              else none)
            else none)
          else none)
        else some (.ret (.bool false)))
      else none)
    else (bif (decide (q0 = .i64)) then (bif (i1 == (0 : Int)) then (tkOut (env 31 [(.agg (eSite s)), (sl eDay 2 l), (.bool false)]) none (fun v25 => (tkAgg v25 none fun l26 => (tkCons l26 none fun v27 r28 => (tkInt v27 none fun q29 n30 => (tkCons r28 none fun v31 r32 => (tkInt v31 none fun q33 n34 => (tkCons r32 none fun v35 r36 => (tkInt v35 none fun q37 n38 => (tkCons r36 none fun v39 r40 => (tkInt v39 none fun q41 n42 => (tkNil r40 none ((bif (decide (q4 = q29)) then (bif (decide (q6 = q33)) then (bif (decide (q8 = q37)) then (bif (decide (q10 = q41)) then (bif ((i5 == n30) && ((i7 == n34) && ((i9 == n38) && ((i11 == n42) && true)))) then (tkOut (env 31 [(.agg (eSite s)), (sl eDay 2 l), (.bool true)]) none (fun v43 => (tkAgg v43 none fun l44 => (tkCons l44 none fun v45 r46 => (tkInt v45 none fun q47 n48 => (tkCons r46 none fun v49 r50 => (tkInt v49 none fun q51 n52 => (tkCons r50 none fun v53 r54 => (tkInt v53 none fun q55 n56 => (tkCons r54 none fun v57 r58 => (tkInt v57 none fun q59 n60 => (tkNil r58 none ((bif (decide (q12 = q47)) then (bif (decide (q14 = q51)) then (bif (decide (q16 = q55)) then (bif (decide (q18 = q59)) then (bif ((i13 == n48) && ((i15 == n52) && ((i17 == n56) && ((i19 == n60) && true)))) then (tkOut (env 13 []) none (fun v61 => (tkBool v61 none fun b62 => some (.ret (.bool b62))))
                                                                          (fun p61 => (tkIfc p61 none fun t62 x63 => (bif (flatP (.iface t62 x63)) then some (.pan (.iface t62 x63))
                                                                              else none))))
                                                                        else some (.ret (.bool false)))
                                                                      else none)
                                                                    else none)
                                                                  else none)
                                                                else none)))))))))))))
                                          (fun p43 => (tkIfc p43 none fun t44 x45 => (bif (flatP (.iface t44 x45)) then some (.pan (.iface t44 x45))
                                              else none))))
                                        else some (.ret (.bool false)))
                                      else none)
                                    else none)
                                  else none)
                                else none)))))))))))))
          (fun p25 => (tkIfc p25 none fun t26 x27 => (bif (flatP (.iface t26 x27)) then some (.pan (.iface t26 x27))
              else none))))
        else some (.ret (.bool false)))
      else none))) := by kernel_rfl

theorem t8 (env : Env) (F : Nat) (s : Site) (i : Int) (j : Int) : (evFun Try.prog (cfg F) env 8 [(.agg (eSite s)), (.int .i64 i), (.int .i64 j)]) =
  (tkOut (env 11 [(.agg (eSite s))]) none (fun v5 => (tkBool v5 none fun b6 => (bif (!b6) then (tkOut (env 13 []) none (fun v7 => (tkBool v7 none fun b8 => some (.ret (.bool b8))))
        (fun p7 => (tkIfc p7 none fun t8 x9 => (bif (flatP (.iface t8 x9)) then some (.pan (.iface t8 x9))
            else none))))
      else (tkOut (env 36 [(.agg (eSite s))]) none (fun v7 => (tkInt v7 none fun q8 n9 => (tkOut (env 37 [(.agg (eSite s)), (.int .i64 i), (.int .i64 j)]) none (fun v10 => (tkTup v10 none fun l11 => (tkCons l11 none fun v12 r13 => (tkAgg v12 none fun l14 => (tkCons l14 none fun v15 r16 => (tkInt v15 none fun q17 n18 => (tkCons r16 none fun v19 r20 => (tkInt v19 none fun q21 n22 => (tkNil r20 none ((tkCons r13 none fun v23 r24 => (tkInt v23 none fun q25 n26 => (tkNil r24 none ((tkOut (env 24 [(.agg (eSite s))]) none (fun v27 => (tkTup v27 none fun l28 => (tkCons l28 none fun v29 r30 => (tkRow v29 none fun nl31 n32 wd33 g34 => (tkCons r30 none fun v35 r36 => (tkInt v35 none fun q37 n38 => (tkNil r36 none ((tkOut (env 16 [(.agg (eSite s))]) none (fun v39 => (tkBool v39 none fun b40 => (bif (!b40) then (bif (decide (q8 = .i64)) then (bif (n9 == (2 : Int)) then (bif (decide (q25 = .i64)) then (bif (n26 == (2 : Int)) then (bif (decide (q37 = .i64)) then (bif (n38 == (2 : Int)) then (bif (decide (q17 = .i64)) then (bif (decide (q21 = .i64)) then (bif ((n18 == (0 : Int)) && ((n22 == (0 : Int)) && true)) then (bif (((n32 : Nat) : Int) == (0 : Int)) then (tkOut (env 13 []) none (fun v41 => (tkBool v41 none fun b42 => some (.ret (.bool b42))))
                                                                            (fun p41 => (tkIfc p41 none fun t42 x43 => (bif (flatP (.iface t42 x43)) then some (.pan (.iface t42 x43))
                                                                                else none))))
                                                                          else some (.ret (.bool false)))
                                                                        else some (.ret (.bool false)))
                                                                      else none)
                                                                    else none)
                                                                  else some (.ret (.bool false)))
                                                                else none)
                                                              else some (.ret (.bool false)))
                                                            else none)
                                                          else some (.ret (.bool false)))
                                                        else none)
                                                      else (bif (decide (q8 = .i64)) then (bif (n9 != (0 : Int)) then some (.ret (.bool false))
                                                          else (bif (decide (q37 = .i64)) then (bif (n38 != (0 : Int)) then some (.ret (.bool false))
                                                              else (tkOut (env 38 [(.agg (eSite s))]) none (fun v41 => (tkRow v41 none fun nl42 n43 wd44 g45 => (tkOut (env 22 [(.row nl31 n32 wd33 g34), (.row nl42 n43 wd44 g45)]) none (fun v46 => (tkBool v46 none fun b47 => (bif (!b47) then some (.ret (.bool false))
                                                                        else (tkOut (env 39 [(.agg (eSite s)), (.int .i64 i)]) none (fun v48 => (tkBool v48 none fun b49 => (bif (!b49) then (bif (decide (q25 = .i64)) then (bif (n26 == (2 : Int)) then (bif (decide (q17 = .i64)) then (bif (decide (q21 = .i64)) then (bif ((n18 == (0 : Int)) && ((n22 == (0 : Int)) && true)) then (tkOut (env 13 []) none (fun v50 => (tkBool v50 none fun b51 => some (.ret (.bool b51))))
                                                                                          (fun p50 => (tkIfc p50 none fun t51 x52 => (bif (flatP (.iface t51 x52)) then some (.pan (.iface t51 x52))
                                                                                              else none))))
                                                                                        else some (.ret (.bool false)))
                                                                                      else none)
                                                                                    else none)
                                                                                  else some (.ret (.bool false)))
                                                                                else none)
                                                                              else (tkOut (env 39 [(.agg (eSite s)), (.int .i64 j)]) none (fun v50 => (tkBool v50 none fun b51 => (bif (!b51) then (bif (decide (q25 = .i64)) then (bif (n26 == (2 : Int)) then (bif (decide (q17 = .i64)) then (bif (decide (q21 = .i64)) then (bif ((n18 == (0 : Int)) && ((n22 == (0 : Int)) && true)) then (tkOut (env 13 []) none (fun v52 => (tkBool v52 none fun b53 => some (.ret (.bool b53))))
                                                                                                (fun p52 => (tkIfc p52 none fun t53 x54 => (bif (flatP (.iface t53 x54)) then some (.pan (.iface t53 x54))
                                                                                                    else none))))
                                                                                              else some (.ret (.bool false)))
                                                                                            else none)
                                                                                          else none)
                                                                                        else some (.ret (.bool false)))
                                                                                      else none)
                                                                                    else (bif (i == j) then (bif (decide (q25 = .i64)) then (bif (n26 == (2 : Int)) then (bif (decide (q17 = .i64)) then (bif (decide (q21 = .i64)) then (bif ((n18 == (0 : Int)) && ((n22 == (0 : Int)) && true)) then (tkOut (env 13 []) none (fun v52 => (tkBool v52 none fun b53 => some (.ret (.bool b53))))
                                                                                                  (fun p52 => (tkIfc p52 none fun t53 x54 => (bif (flatP (.iface t53 x54)) then some (.pan (.iface t53 x54))
                                                                                                      else none))))
                                                                                                else some (.ret (.bool false)))
                                                                                              else none)
                                                                                            else none)
                                                                                          else some (.ret (.bool false)))
                                                                                        else none)
                                                                                      else (bif (decide (q25 = .i64)) then (bif (n26 == (0 : Int)) then (bif (decide ((0 : Int) ≤ i)) then (bif (decide (i < (((Sl.len (Site.cavs s)) : Nat) : Int))) then (bif (decide ((0 : Int) ≤ j)) then (bif (decide (j < (((Sl.len (Site.cavs s)) : Nat) : Int))) then (tkOut (env 40 [(.agg (eSite s)), (.int .i64 i), (.int .i64 j), (.agg (eSpan (Cav.rad (Sl.el (Site.cavs s) (Int.toNat i))))), (.agg (eSpan (Cav.rad (Sl.el (Site.cavs s) (Int.toNat j)))))]) none (fun v52 => (tkAgg v52 none fun l53 => (tkCons l53 none fun v54 r55 => (tkInt v54 none fun q56 n57 => (tkCons r55 none fun v58 r59 => (tkInt v58 none fun q60 n61 => (tkNil r59 none ((bif (decide (q17 = q56)) then (bif (decide (q21 = q60)) then (bif ((n18 == n57) && ((n22 == n61) && true)) then (tkOut (env 13 []) none (fun v62 => (tkBool v62 none fun b63 => some (.ret (.bool b63))))
                                                                                                                        (fun p62 => (tkIfc p62 none fun t63 x64 => (bif (flatP (.iface t63 x64)) then some (.pan (.iface t63 x64))
                                                                                                                            else none))))
                                                                                                                      else some (.ret (.bool false)))
                                                                                                                    else none)
                                                                                                                  else none)))))))))
                                                                                                    (fun p52 => (tkIfc p52 none fun t53 x54 => (bif (flatP (.iface t53 x54)) then some (.pan (.iface t53 x54))
                                                                                                        else none))))
                                                                                                  else none)
                                                                                                else none)
                                                                                              else none)
                                                                                            else none)
                                                                                          else some (.ret (.bool false)))
                                                                                        else none)))))
                                                                                (fun p50 => (tkIfc p50 none fun t51 x52 => (bif (flatP (.iface t51 x52)) then some (.pan (.iface t51 x52))
                                                                                    else none)))))))
                                                                          (fun p48 => (tkIfc p48 none fun t49 x50 => (bif (flatP (.iface t49 x50)) then some (.pan (.iface t49 x50))
                                                                              else none)))))))
                                                                    (fun p46 => (tkIfc p46 none fun t47 x48 => (bif (flatP (.iface t47 x48)) then some (.pan (.iface t47 x48))
                                                                        else none))))))
                                                                (fun p41 => (tkIfc p41 none fun t42 x43 => (bif (flatP (.iface t42 x43)) then some (.pan (.iface t42 x43))
                                                                    else none)))))
                                                            else none))
                                                        else none))))
                                                  (fun p39 => (tkIfc p39 none fun t40 x41 => (bif (flatP (.iface t40 x41)) then some (.pan (.iface t40 x41))
                                                      else none))))))))))))
                                    (fun p27 => (tkIfc p27 none fun t28 x29 => (bif (flatP (.iface t28 x29)) then some (.pan (.iface t28 x29))
                                        else none))))))))))))))))))
            (fun p10 => (tkIfc p10 none fun t11 x12 => (bif (flatP (.iface t11 x12)) then some (.pan (.iface t11 x12))
                else none))))))
        (fun p7 => (tkIfc p7 none fun t8 x9 => (bif (flatP (.iface t8 x9)) then some (.pan (.iface t8 x9))
            else none)))))))
  (fun p5 => (tkIfc p5 none fun t6 x7 => (bif (flatP (.iface t6 x7)) then some (.pan (.iface t6 x7))
      else none)))) := by kernel_rfl

end Go.Sim.Cr

/-
  What the evaluator says of these functions (printed by a private program; each row is checked by the kernel).
-/
set_option maxRecDepth 100000
namespace Go.Sim.Cr
open Go.Proofs

noncomputable def L16x0 (env : Env) (F : Nat) (s : Site) (fu : Nat) (i0 : Int) : Option Out := atLoop Try.prog (cfg F) env 16 [.r, .r, .l, .r, .d] [] fu { tm := tmL 324 0 [(1, (.optr 0 0 0)), (3, (.int .i64 i0))], hp := [(.box 28 (eSite s) true)] }
noncomputable def L16x1 (env : Env) (F : Nat) (s : Site) (m0 : Nat) (fu : Nat) (i0 : Int) (i1 : Int) (i2 : Int) (i3 : Int) (i4 : Int) (i5 : Int) (i6 : Int) (i7 : Int) (i8 : Int) (i9 : Int) (i10 : Int) (i11 : Int) (i12 : Int) : Option Out := atLoop Try.prog (cfg F) env 16 [.r, .r, .l, .r, .d, .d, .r, .l, .d, .r, .r, .r, .d] [m0] fu { tm := tmL 324 0 [(1, (.optr 0 0 0)), (3, (.int .i64 i0)), (4, (.optr 1 0 0)), (5, (.int .i64 i1))], hp := [(.box 28 (eSite s) true), (.box 57 [(.int .i64 i2), (.int .i64 i3), (.int .i64 i4), (.int .i64 i5), (.int .i64 i6), (.int .i64 i7), (.int .i64 i8), (.int .i64 i9), (.int .i64 i10), (.int .i64 i11), (.int .i64 i12)] true)] }
noncomputable def L16x2 (env : Env) (F : Nat) (s : Site) (fu : Nat) (i0 : Int) : Option Out := atLoop Try.prog (cfg F) env 16 [.r, .r, .r, .l, .r, .d] [] fu { tm := tmL 324 0 [(1, (.optr 0 0 0)), (6, (.int .i64 i0))], hp := [(.box 28 (eSite s) true)] }
noncomputable def L16x3 (env : Env) (F : Nat) (s : Site) (fu : Nat) (i0 : Int) : Option Out := atLoop Try.prog (cfg F) env 16 [.r, .r, .r, .r, .l, .r, .d] [] fu { tm := tmL 324 0 [(1, (.optr 0 0 0)), (8, (.int .i64 i0))], hp := [(.box 28 (eSite s) true)] }
noncomputable def L16x4 (env : Env) (F : Nat) (s : Site) (fu : Nat) (i0 : Int) : Option Out := atLoop Try.prog (cfg F) env 16 [.r, .r, .r, .r, .r, .l, .r, .d] [] fu { tm := tmL 324 0 [(1, (.optr 0 0 0)), (10, (.int .i64 i0))], hp := [(.box 28 (eSite s) true)] }
noncomputable def L16x5 (env : Env) (F : Nat) (s : Site) (fu : Nat) (i0 : Int) : Option Out := atLoop Try.prog (cfg F) env 16 [.r, .r, .r, .r, .r, .r, .l, .r, .d] [] fu { tm := tmL 324 0 [(1, (.optr 0 0 0)), (12, (.int .i64 i0))], hp := [(.box 28 (eSite s) true)] }
theorem t16 (env : Env) (F : Nat) (s : Site) : (evFun Try.prog (cfg F) env 16 [(.agg (eSite s))]) =
  (tkOut (env 54 [(.int .i64 (((Sl.len (Site.cavs s)) : Nat) : Int)), (.int .i64 (1 : Int)), (.int .i64 (5 : Int))]) none (fun v3 => (tkBool v3 none fun b4 => (bif (!b4) then some (.ret (.bool false))
      else (tkOut (env 54 [(.int .i64 (((Sl.len (Site.rows s)) : Nat) : Int)), (.int .i64 (1 : Int)), (.int .i64 (8 : Int))]) none (fun v5 => (tkBool v5 none fun b6 => (bif (!b6) then some (.ret (.bool false))
            else (tkOut (env 54 [(.int .i64 (((Sl.len (Site.heats s)) : Nat) : Int)), (.int .i64 (1 : Int)), (.int .i64 (8 : Int))]) none (fun v7 => (tkBool v7 none fun b8 => (bif (!b8) then some (.ret (.bool false))
                  else (tkOut (env 54 [(.int .i64 (Site.wall s)), (.int .i64 (0 : Int)), (.int .i64 (1000000 : Int))]) none (fun v9 => (tkBool v9 none fun b10 => (bif (!b10) then some (.ret (.bool false))
                        else (bif (decide ((((Sl.len (Site.rings s)) : Nat) : Int) > (8 : Int))) then some (.ret (.bool false))
                          else (bif (decide ((((Sl.len (Site.houses s)) : Nat) : Int) > (5 : Int))) then some (.ret (.bool false))
                            else (bif (decide ((0 : Int) < (((Sl.len (Site.rows s)) : Nat) : Int))) then (bif ((Row.deficit (Sl.el (Site.rows s) 0)) != (0 : Int)) then some (.ret (.bool false))
                                else (L16x0 env F s F (0 : Int)))
                              else none))))))
                    (fun p9 => (tkIfc p9 none fun t10 x11 => (bif (flatP (.iface t10 x11)) then some (.pan (.iface t10 x11))
                        else none)))))))
              (fun p7 => (tkIfc p7 none fun t8 x9 => (bif (flatP (.iface t8 x9)) then some (.pan (.iface t8 x9))
                  else none)))))))
        (fun p5 => (tkIfc p5 none fun t6 x7 => (bif (flatP (.iface t6 x7)) then some (.pan (.iface t6 x7))
            else none)))))))
  (fun p3 => (tkIfc p3 none fun t4 x5 => (bif (flatP (.iface t4 x5)) then some (.pan (.iface t4 x5))
      else none)))) := by kernel_rfl
theorem L16x0s (env : Env) (F : Nat) (s : Site) (fu : Nat) (i0 : Int) : L16x0 env F s (fu + 1) i0 =
  (bif (decide (i0 < (((Sl.len (Site.cavs s)) : Nat) : Int))) then (bif (decide ((0 : Int) ≤ i0)) then (bif (decide (i0 < (((Sl.len (Site.cavs s)) : Nat) : Int))) then (tkOut (env 18 [(.int .i64 (Cav.x (Sl.el (Site.cavs s) (Int.toNat i0)))), (.int .i64 (Cav.y (Sl.el (Site.cavs s) (Int.toNat i0))))]) none (fun v5 => (tkBool v5 none fun b6 => (bif (!b6) then some (.ret (.bool false))
            else (tkOut (env 43 [(.agg (eSpan (Cav.rad (Sl.el (Site.cavs s) (Int.toNat i0))))), (.int .i64 (0 : Int)), (.int .i64 (200000 : Int))]) none (fun v7 => (tkBool v7 none fun b8 => (bif (!b8) then some (.ret (.bool false))
                  else (tkOut (env 43 [(.agg (eSpan (Cav.vol (Sl.el (Site.cavs s) (Int.toNat i0))))), (.int .i64 (0 : Int)), (.int .i64 (10000000 : Int))]) none (fun v9 => (tkBool v9 none fun b10 => (bif (!b10) then some (.ret (.bool false))
                        else (tkOut (env 54 [(.int .i64 (Cav.rock (Sl.el (Site.cavs s) (Int.toNat i0)))), (.int .i64 (0 : Int)), (.int .i64 (50000 : Int))]) none (fun v11 => (tkBool v11 none fun b12 => (bif (!b12) then some (.ret (.bool false))
                              else (tkOut (env 54 [(.int .i64 (Cav.floor (Sl.el (Site.cavs s) (Int.toNat i0)))), (.int .i64 (0 : Int)), (.int .i64 (10000000 : Int))]) none (fun v13 => (tkBool v13 none fun b14 => (bif (!b14) then some (.ret (.bool false))
                                    else (tkOut (env 43 [(.agg (eSpan (Cav.gate (Sl.el (Site.cavs s) (Int.toNat i0))))), (.int .i64 (0 : Int)), (.int .i64 (50000 : Int))]) none (fun v15 => (tkBool v15 none fun b16 => (bif (!b16) then some (.ret (.bool false))
                                          else (tkOut (env 54 [(.int .i64 (Cav.change (Sl.el (Site.cavs s) (Int.toNat i0)))), (.int .i64 (0 : Int)), (.int .i64 (50000 : Int))]) none (fun v17 => (tkBool v17 none fun b18 => (bif (!b18) then some (.ret (.bool false))
                                                else (L16x1 env F s fu F i0 (0 : Int) (Cav.x (Sl.el (Site.cavs s) (Int.toNat i0))) (Cav.y (Sl.el (Site.cavs s) (Int.toNat i0))) (Span.lo (Cav.rad (Sl.el (Site.cavs s) (Int.toNat i0)))) (Span.hi (Cav.rad (Sl.el (Site.cavs s) (Int.toNat i0)))) (Span.lo (Cav.vol (Sl.el (Site.cavs s) (Int.toNat i0)))) (Span.hi (Cav.vol (Sl.el (Site.cavs s) (Int.toNat i0)))) (Cav.rock (Sl.el (Site.cavs s) (Int.toNat i0))) (Cav.floor (Sl.el (Site.cavs s) (Int.toNat i0))) (Span.lo (Cav.gate (Sl.el (Site.cavs s) (Int.toNat i0)))) (Span.hi (Cav.gate (Sl.el (Site.cavs s) (Int.toNat i0)))) (Cav.change (Sl.el (Site.cavs s) (Int.toNat i0)))))))
                                            (fun p17 => (tkIfc p17 none fun t18 x19 => (bif (flatP (.iface t18 x19)) then some (.pan (.iface t18 x19))
                                                else none)))))))
                                      (fun p15 => (tkIfc p15 none fun t16 x17 => (bif (flatP (.iface t16 x17)) then some (.pan (.iface t16 x17))
                                          else none)))))))
                                (fun p13 => (tkIfc p13 none fun t14 x15 => (bif (flatP (.iface t14 x15)) then some (.pan (.iface t14 x15))
                                    else none)))))))
                          (fun p11 => (tkIfc p11 none fun t12 x13 => (bif (flatP (.iface t12 x13)) then some (.pan (.iface t12 x13))
                              else none)))))))
                    (fun p9 => (tkIfc p9 none fun t10 x11 => (bif (flatP (.iface t10 x11)) then some (.pan (.iface t10 x11))
                        else none)))))))
              (fun p7 => (tkIfc p7 none fun t8 x9 => (bif (flatP (.iface t8 x9)) then some (.pan (.iface t8 x9))
                  else none)))))))
        (fun p5 => (tkIfc p5 none fun t6 x7 => (bif (flatP (.iface t6 x7)) then some (.pan (.iface t6 x7))
            else none))))
      else none)
    else none)
  else (L16x2 env F s F (0 : Int))) := by kernel_rfl
theorem L16x1s (env : Env) (F : Nat) (s : Site) (m0 : Nat) (fu : Nat) (i0 : Int) (i1 : Int) (i2 : Int) (i3 : Int) (i4 : Int) (i5 : Int) (i6 : Int) (i7 : Int) (i8 : Int) (i9 : Int) (i10 : Int) (i11 : Int) (i12 : Int) : L16x1 env F s m0 (fu + 1) i0 i1 i2 i3 i4 i5 i6 i7 i8 i9 i10 i11 i12 =
  (bif (decide (i1 < i0)) then (bif (decide ((0 : Int) ≤ i1)) then (bif (decide (i1 < (((Sl.len (Site.cavs s)) : Nat) : Int))) then (bif ((Cav.x (Sl.el (Site.cavs s) (Int.toNat i1))) == i2) then (bif (decide ((0 : Int) ≤ i1)) then (bif (decide (i1 < (((Sl.len (Site.cavs s)) : Nat) : Int))) then (bif ((Cav.y (Sl.el (Site.cavs s) (Int.toNat i1))) == i3) then some (.ret (.bool false))
              else (L16x1 env F s m0 fu i0 (IntKind.wrap .i64 (i1 + (1 : Int))) i2 i3 i4 i5 i6 i7 i8 i9 i10 i11 i12))
            else none)
          else none)
        else (L16x1 env F s m0 fu i0 (IntKind.wrap .i64 (i1 + (1 : Int))) i2 i3 i4 i5 i6 i7 i8 i9 i10 i11 i12))
      else none)
    else none)
  else (L16x0 env F s m0 (IntKind.wrap .i64 (i0 + (1 : Int))))) := by kernel_rfl
theorem L16x2s (env : Env) (F : Nat) (s : Site) (fu : Nat) (i0 : Int) : L16x2 env F s (fu + 1) i0 =
  (bif (decide (i0 < (((Sl.len (Site.rows s)) : Nat) : Int))) then (bif (decide ((0 : Int) ≤ i0)) then (bif (decide (i0 < (((Sl.len (Site.rows s)) : Nat) : Int))) then (bif (decide ((Row.deficit (Sl.el (Site.rows s) (Int.toNat i0))) > (50000 : Int))) then some (.ret (.bool false))
        else (tkOut (env 43 [(.agg (eSpan (Row.rate (Sl.el (Site.rows s) (Int.toNat i0))))), (.int .i64 (0 : Int)), (.int .i64 (100000 : Int))]) none (fun v5 => (tkBool v5 none fun b6 => (bif (!b6) then some (.ret (.bool false))
              else (tkOut (env 43 [(.agg (eSpan (Row.spall (Sl.el (Site.rows s) (Int.toNat i0))))), (.int .i64 (0 : Int)), (.int .i64 (1000 : Int))]) none (fun v7 => (tkBool v7 none fun b8 => (bif (!b8) then some (.ret (.bool false))
                    else (bif (decide (i0 > (0 : Int))) then (bif (decide ((0 : Int) ≤ (IntKind.wrap .i64 (i0 - (1 : Int))))) then (bif (decide ((IntKind.wrap .i64 (i0 - (1 : Int))) < (((Sl.len (Site.rows s)) : Nat) : Int))) then (bif (decide ((Row.deficit (Sl.el (Site.rows s) (Int.toNat i0))) ≤ (Row.deficit (Sl.el (Site.rows s) (Int.toNat (IntKind.wrap .i64 (i0 - (1 : Int)))))))) then some (.ret (.bool false))
                            else (bif (decide ((0 : Int) ≤ (IntKind.wrap .i64 (i0 - (1 : Int))))) then (bif (decide ((IntKind.wrap .i64 (i0 - (1 : Int))) < (((Sl.len (Site.rows s)) : Nat) : Int))) then (tkOut (env 55 [(.agg (eSpan (Row.rate (Sl.el (Site.rows s) (Int.toNat (IntKind.wrap .i64 (i0 - (1 : Int)))))))), (.agg (eSpan (Row.rate (Sl.el (Site.rows s) (Int.toNat i0)))))]) none (fun v9 => (tkBool v9 none fun b10 => (bif (!b10) then some (.ret (.bool false))
                                      else (bif (decide ((0 : Int) ≤ (IntKind.wrap .i64 (i0 - (1 : Int))))) then (bif (decide ((IntKind.wrap .i64 (i0 - (1 : Int))) < (((Sl.len (Site.rows s)) : Nat) : Int))) then (tkOut (env 55 [(.agg (eSpan (Row.spall (Sl.el (Site.rows s) (Int.toNat (IntKind.wrap .i64 (i0 - (1 : Int)))))))), (.agg (eSpan (Row.spall (Sl.el (Site.rows s) (Int.toNat i0)))))]) none (fun v11 => (tkBool v11 none fun b12 => (bif (!b12) then some (.ret (.bool false))
                                                else (L16x2 env F s fu (IntKind.wrap .i64 (i0 + (1 : Int)))))))
                                            (fun p11 => (tkIfc p11 none fun t12 x13 => (bif (flatP (.iface t12 x13)) then some (.pan (.iface t12 x13))
                                                else none))))
                                          else none)
                                        else none))))
                                  (fun p9 => (tkIfc p9 none fun t10 x11 => (bif (flatP (.iface t10 x11)) then some (.pan (.iface t10 x11))
                                      else none))))
                                else none)
                              else none))
                          else none)
                        else none)
                      else (L16x2 env F s fu (IntKind.wrap .i64 (i0 + (1 : Int))))))))
                (fun p7 => (tkIfc p7 none fun t8 x9 => (bif (flatP (.iface t8 x9)) then some (.pan (.iface t8 x9))
                    else none)))))))
          (fun p5 => (tkIfc p5 none fun t6 x7 => (bif (flatP (.iface t6 x7)) then some (.pan (.iface t6 x7))
              else none)))))
      else none)
    else none)
  else (L16x3 env F s F (0 : Int))) := by kernel_rfl
theorem L16x3s (env : Env) (F : Nat) (s : Site) (fu : Nat) (i0 : Int) : L16x3 env F s (fu + 1) i0 =
  (bif (decide (i0 < (((Sl.len (Site.heats s)) : Nat) : Int))) then (bif (decide ((0 : Int) ≤ i0)) then (bif (decide (i0 < (((Sl.len (Site.heats s)) : Nat) : Int))) then (tkOut (env 54 [(.int .i64 (Heat.warmth (Sl.el (Site.heats s) (Int.toNat i0)))), (.int .i64 (0 : Int)), (.int .i64 (10000 : Int))]) none (fun v5 => (tkBool v5 none fun b6 => (bif (!b6) then some (.ret (.bool false))
            else (tkOut (env 43 [(.agg (eSpan (Heat.factor (Sl.el (Site.heats s) (Int.toNat i0))))), (.int .i64 (0 : Int)), (.int .i64 (10000 : Int))]) none (fun v7 => (tkBool v7 none fun b8 => (bif (!b8) then some (.ret (.bool false))
                  else (bif (decide (i0 > (0 : Int))) then (bif (decide ((0 : Int) ≤ (IntKind.wrap .i64 (i0 - (1 : Int))))) then (bif (decide ((IntKind.wrap .i64 (i0 - (1 : Int))) < (((Sl.len (Site.heats s)) : Nat) : Int))) then (bif (decide ((Heat.warmth (Sl.el (Site.heats s) (Int.toNat i0))) ≤ (Heat.warmth (Sl.el (Site.heats s) (Int.toNat (IntKind.wrap .i64 (i0 - (1 : Int)))))))) then some (.ret (.bool false))
                          else (bif (decide ((0 : Int) ≤ (IntKind.wrap .i64 (i0 - (1 : Int))))) then (bif (decide ((IntKind.wrap .i64 (i0 - (1 : Int))) < (((Sl.len (Site.heats s)) : Nat) : Int))) then (tkOut (env 55 [(.agg (eSpan (Heat.factor (Sl.el (Site.heats s) (Int.toNat (IntKind.wrap .i64 (i0 - (1 : Int)))))))), (.agg (eSpan (Heat.factor (Sl.el (Site.heats s) (Int.toNat i0)))))]) none (fun v9 => (tkBool v9 none fun b10 => (bif (!b10) then some (.ret (.bool false))
                                    else (L16x3 env F s fu (IntKind.wrap .i64 (i0 + (1 : Int)))))))
                                (fun p9 => (tkIfc p9 none fun t10 x11 => (bif (flatP (.iface t10 x11)) then some (.pan (.iface t10 x11))
                                    else none))))
                              else none)
                            else none))
                        else none)
                      else none)
                    else (L16x3 env F s fu (IntKind.wrap .i64 (i0 + (1 : Int))))))))
              (fun p7 => (tkIfc p7 none fun t8 x9 => (bif (flatP (.iface t8 x9)) then some (.pan (.iface t8 x9))
                  else none)))))))
        (fun p5 => (tkIfc p5 none fun t6 x7 => (bif (flatP (.iface t6 x7)) then some (.pan (.iface t6 x7))
            else none))))
      else none)
    else none)
  else (L16x4 env F s F (0 : Int))) := by kernel_rfl
theorem L16x4s (env : Env) (F : Nat) (s : Site) (fu : Nat) (i0 : Int) : L16x4 env F s (fu + 1) i0 =
  (bif (decide (i0 < (((Sl.len (Site.rings s)) : Nat) : Int))) then (bif (decide ((0 : Int) ≤ i0)) then (bif (decide (i0 < (((Sl.len (Site.rings s)) : Nat) : Int))) then (tkOut (env 54 [(.int .i64 (Ring.away (Sl.el (Site.rings s) (Int.toNat i0)))), (.int .i64 (0 : Int)), (.int .i64 (40000 : Int))]) none (fun v5 => (tkBool v5 none fun b6 => (bif (!b6) then some (.ret (.bool false))
            else (tkOut (env 43 [(.agg (eSpan (Ring.share (Sl.el (Site.rings s) (Int.toNat i0))))), (.int .i64 (0 : Int)), (.int .i64 (1000000 : Int))]) none (fun v7 => (tkBool v7 none fun b8 => (bif (!b8) then some (.ret (.bool false))
                  else (bif (decide (i0 > (0 : Int))) then (bif (decide ((0 : Int) ≤ (IntKind.wrap .i64 (i0 - (1 : Int))))) then (bif (decide ((IntKind.wrap .i64 (i0 - (1 : Int))) < (((Sl.len (Site.rings s)) : Nat) : Int))) then (bif (decide ((Ring.away (Sl.el (Site.rings s) (Int.toNat i0))) ≤ (Ring.away (Sl.el (Site.rings s) (Int.toNat (IntKind.wrap .i64 (i0 - (1 : Int)))))))) then some (.ret (.bool false))
                          else (L16x4 env F s fu (IntKind.wrap .i64 (i0 + (1 : Int)))))
                        else none)
                      else none)
                    else (L16x4 env F s fu (IntKind.wrap .i64 (i0 + (1 : Int))))))))
              (fun p7 => (tkIfc p7 none fun t8 x9 => (bif (flatP (.iface t8 x9)) then some (.pan (.iface t8 x9))
                  else none)))))))
        (fun p5 => (tkIfc p5 none fun t6 x7 => (bif (flatP (.iface t6 x7)) then some (.pan (.iface t6 x7))
            else none))))
      else none)
    else none)
  else (L16x5 env F s F (0 : Int))) := by kernel_rfl
theorem L16x5s (env : Env) (F : Nat) (s : Site) (fu : Nat) (i0 : Int) : L16x5 env F s (fu + 1) i0 =
  (bif (decide (i0 < (((Sl.len (Site.houses s)) : Nat) : Int))) then (bif (decide ((0 : Int) ≤ i0)) then (bif (decide (i0 < (((Sl.len (Site.houses s)) : Nat) : Int))) then (bif (decide ((0 : Int) ≤ i0)) then (bif (decide (i0 < (((Sl.len (Site.houses s)) : Nat) : Int))) then (tkOut (env 18 [(.int .i64 (House.x (Sl.el (Site.houses s) (Int.toNat i0)))), (.int .i64 (House.y (Sl.el (Site.houses s) (Int.toNat i0))))]) none (fun v5 => (tkBool v5 none fun b6 => (bif (!b6) then some (.ret (.bool false))
                else (bif (decide ((0 : Int) ≤ i0)) then (bif (decide (i0 < (((Sl.len (Site.houses s)) : Nat) : Int))) then (tkOut (env 54 [(.int .i64 (House.most (Sl.el (Site.houses s) (Int.toNat i0)))), (.int .i64 (0 : Int)), (.int .i64 (1000000 : Int))]) none (fun v7 => (tkBool v7 none fun b8 => (bif (!b8) then some (.ret (.bool false))
                          else (L16x5 env F s fu (IntKind.wrap .i64 (i0 + (1 : Int)))))))
                      (fun p7 => (tkIfc p7 none fun t8 x9 => (bif (flatP (.iface t8 x9)) then some (.pan (.iface t8 x9))
                          else none))))
                    else none)
                  else none))))
            (fun p5 => (tkIfc p5 none fun t6 x7 => (bif (flatP (.iface t6 x7)) then some (.pan (.iface t6 x7))
                else none))))
          else none)
        else none)
      else none)
    else none)
  else some (.ret (.bool true))) := by kernel_rfl

end Go.Sim.Cr

/-
  What the evaluator says of these functions (printed by a private program; each row is checked by the kernel).
-/
set_option maxRecDepth 100000
namespace Go.Sim.Cr
open Go.Proofs

theorem t63 (env : Env) (F : Nat) (s : Site) (l : Sl Day) : (evFun Try.prog (cfg F) env 63 [(sl eDay 2 l), (.fn (.func 64) [] [(pSite s)])]) =
  (tkOut (env 95 [(sl eDay 2 l), (.fn (.func 64) [] [(pSite s)])]) none (fun v4 => (tkInt v4 none fun q5 n6 => (bif (decide (q5 = .i64)) then some (.ret (.bool (decide (n6 ≥ (0 : Int)))))
      else none)))
  (fun p4 => (tkIfc p4 none fun t5 x6 => (bif (flatP (.iface t5 x6)) then some (.pan (.iface t5 x6))
      else none)))) := by kernel_rfl

theorem t64 (env : Env) (F : Nat) (s : Site) (d : Day) : (evFun Try.prog (cfg F) env 64 [(.agg (eDay d)), (pSite s)]) =
  (tkOut (env 50 [(.agg (eSite s)), (.agg [(sl eSpan 2 (Day.press d)), (sl eSpan 2 (Day.warm d))])]) none (fun v4 => (tkBool v4 none fun b5 => some (.ret (.bool (!b5)))))
  (fun p4 => (tkIfc p4 none fun t5 x6 => (bif (flatP (.iface t5 x6)) then some (.pan (.iface t5 x6))
      else none)))) := by kernel_rfl

noncomputable def L95x0 (env : Env) (F : Nat) (s : Site) (l : Sl Day) (fu : Nat) (i0 : Int) : Option Out := atLoop Try.prog (cfg F) env 95 [.r, .l, .r, .d] [] fu { tm := tmL 19 0 [(0, (sl eDay 2 l)), (1, (.fn (.func 64) [] [(pSite s)])), (7, (.int .i64 (((Sl.len l) : Nat) : Int))), (8, (.int .i64 i0))], hp := [] }
theorem t95 (env : Env) (F : Nat) (s : Site) (l : Sl Day) : (evFun Try.prog (cfg F) env 95 [(sl eDay 2 l), (.fn (.func 64) [] [(pSite s)])]) =
  (L95x0 env F s l F (0 : Int)) := by kernel_rfl
theorem L95x0s (env : Env) (F : Nat) (s : Site) (l : Sl Day) (fu : Nat) (i0 : Int) : L95x0 env F s l (fu + 1) i0 =
  (bif (decide (i0 < (((Sl.len l) : Nat) : Int))) then (bif (decide ((0 : Int) ≤ i0)) then (bif (decide (i0 < (((Sl.len l) : Nat) : Int))) then (tkOut (env 64 [(.agg [(sl eSpan 2 (Day.press (Sl.el l (Int.toNat i0)))), (sl eSpan 2 (Day.warm (Sl.el l (Int.toNat i0))))]), (pSite s)]) none (fun v6 => (tkBool v6 none fun b7 => (bif b7 then some (.ret (.int .i64 i0))
            else (L95x0 env F s l fu (IntKind.wrap .i64 (i0 + (1 : Int)))))))
        (fun p6 => (tkIfc p6 none fun t7 x8 => (bif (flatP (.iface t7 x8)) then some (.pan (.iface t7 x8))
            else none))))
      else none)
    else none)
  else some (.ret (.int .i64 (-(1 : Int))))) := by kernel_rfl

noncomputable def L1021x0 (env : Env) (F : Nat) (l : Sl Cr.Mark) (fu : Nat) (i0 : Int) : Option Out := atLoop Try.prog (cfg F) env 102 [.r, .l, .r, .d] [] fu { tm := tmL 19 0 [(0, (sl eMark 4 l)), (1, (.fn (.func 66) [] [])), (7, (.int .i64 (((Sl.len l) : Nat) : Int))), (8, (.int .i64 i0))], hp := [] }
theorem t1021 (env : Env) (F : Nat) (l : Sl Cr.Mark) : (evFun Try.prog (cfg F) env 102 [(sl eMark 4 l), (.fn (.func 66) [] [])]) =
  (L1021x0 env F l F (0 : Int)) := by kernel_rfl
theorem L1021x0s (env : Env) (F : Nat) (l : Sl Cr.Mark) (fu : Nat) (i0 : Int) : L1021x0 env F l (fu + 1) i0 =
  (bif (decide (i0 < (((Sl.len l) : Nat) : Int))) then (bif (decide ((0 : Int) ≤ i0)) then (bif (decide (i0 < (((Sl.len l) : Nat) : Int))) then (tkOut (env 66 [(.agg (eMark (Sl.el l (Int.toNat i0))))]) none (fun v5 => (tkBool v5 none fun b6 => (bif b6 then some (.ret (.int .i64 i0))
            else (L1021x0 env F l fu (IntKind.wrap .i64 (i0 + (1 : Int)))))))
        (fun p5 => (tkIfc p5 none fun t6 x7 => (bif (flatP (.iface t6 x7)) then some (.pan (.iface t6 x7))
            else none))))
      else none)
    else none)
  else some (.ret (.int .i64 (-(1 : Int))))) := by kernel_rfl

noncomputable def L1022x0 (env : Env) (F : Nat) (l : Sl Cr.Mark) (fu : Nat) (i0 : Int) : Option Out := atLoop Try.prog (cfg F) env 102 [.r, .l, .r, .d] [] fu { tm := tmL 19 0 [(0, (sl eMark 4 l)), (1, (.fn (.func 67) [] [])), (7, (.int .i64 (((Sl.len l) : Nat) : Int))), (8, (.int .i64 i0))], hp := [] }
theorem t1022 (env : Env) (F : Nat) (l : Sl Cr.Mark) : (evFun Try.prog (cfg F) env 102 [(sl eMark 4 l), (.fn (.func 67) [] [])]) =
  (L1022x0 env F l F (0 : Int)) := by kernel_rfl
theorem L1022x0s (env : Env) (F : Nat) (l : Sl Cr.Mark) (fu : Nat) (i0 : Int) : L1022x0 env F l (fu + 1) i0 =
  (bif (decide (i0 < (((Sl.len l) : Nat) : Int))) then (bif (decide ((0 : Int) ≤ i0)) then (bif (decide (i0 < (((Sl.len l) : Nat) : Int))) then (tkOut (env 67 [(.agg (eMark (Sl.el l (Int.toNat i0))))]) none (fun v5 => (tkBool v5 none fun b6 => (bif b6 then some (.ret (.int .i64 i0))
            else (L1022x0 env F l fu (IntKind.wrap .i64 (i0 + (1 : Int)))))))
        (fun p5 => (tkIfc p5 none fun t6 x7 => (bif (flatP (.iface t6 x7)) then some (.pan (.iface t6 x7))
            else none))))
      else none)
    else none)
  else some (.ret (.int .i64 (-(1 : Int))))) := by kernel_rfl

noncomputable def L1023x0 (env : Env) (F : Nat) (fu : Nat) : Option Out := atLoop Try.prog (cfg F) env 102 [.r, .l, .r, .d] [] fu { tm := tmL 19 0 [(0, (.row true 0 0 (fun u3 => []))), (1, (.fn (.func 66) [] [])), (7, (.int .i64 ((0 : Nat) : Int))), (8, (.int .i64 (0 : Int)))], hp := [] }
theorem t1023 (env : Env) (F : Nat) : (evFun Try.prog (cfg F) env 102 [(.row true 0 0 (fun u2 => [])), (.fn (.func 66) [] [])]) =
  (L1023x0 env F F) := by kernel_rfl
theorem L1023x0s (env : Env) (F : Nat) (fu : Nat) : L1023x0 env F (fu + 1) =
  some (.ret (.int .i64 (-(1 : Int)))) := by kernel_rfl

noncomputable def L1024x0 (env : Env) (F : Nat) (fu : Nat) : Option Out := atLoop Try.prog (cfg F) env 102 [.r, .l, .r, .d] [] fu { tm := tmL 19 0 [(0, (.row true 0 0 (fun u3 => []))), (1, (.fn (.func 67) [] [])), (7, (.int .i64 ((0 : Nat) : Int))), (8, (.int .i64 (0 : Int)))], hp := [] }
theorem t1024 (env : Env) (F : Nat) : (evFun Try.prog (cfg F) env 102 [(.row true 0 0 (fun u2 => [])), (.fn (.func 67) [] [])]) =
  (L1024x0 env F F) := by kernel_rfl
theorem L1024x0s (env : Env) (F : Nat) (fu : Nat) : L1024x0 env F (fu + 1) =
  some (.ret (.int .i64 (-(1 : Int)))) := by kernel_rfl

noncomputable def L97x0 (env : Env) (F : Nat) (s : Site) (y : Day) (B : V) (C : V) (fu : Nat) : Option Out := atLoop Try.prog (cfg F) env 97 [.r, .r, .l, .r, .d] [] fu { tm := tmL 64 0 [(0, (.rptr 1 5 (fun u7 => [(pSite s), (sl eSpan 2 (Day.press y)), (sl eSpan 2 (Day.warm y)), B, C]) 0 0)), (3, (.row true 0 0 (fun u7 => []))), (14, (sl eCav 11 (Site.cavs s))), (15, (.int .i64 (((Sl.len (Site.cavs s)) : Nat) : Int))), (16, (.int .i64 (0 : Int)))], hp := [] }
noncomputable def L97x1 (env : Env) (F : Nat) (s : Site) (y : Day) (B : V) (C : V) (fu : Nat) (k0 : Nat) (i1 : Int) (k2 : Nat) (g3 : Nat → List V) : Option Out := atLoop Try.prog (cfg F) env 97 [.r, .r, .l, .r, .d] [] fu { tm := tmL 64 0 [(0, (.rptr 1 5 (fun u11 => [(pSite s), (sl eSpan 2 (Day.press y)), (sl eSpan 2 (Day.warm y)), B, C]) 0 0)), (3, (.osl 0 0 k0)), (14, (sl eCav 11 (Site.cavs s))), (15, (.int .i64 (((Sl.len (Site.cavs s)) : Nat) : Int))), (16, (.int .i64 i1))], hp := [(.arr 124 4 k2 g3 true)] }
theorem t97 (env : Env) (F : Nat) (s : Site) (y : Day) (B : V) (C : V) : (evFun Try.prog (cfg F) env 97 [(.rptr 1 5 (fun u6 => [(pSite s), (sl eSpan 2 (Day.press y)), (sl eSpan 2 (Day.warm y)), B, C]) 0 0)]) =
  (L97x0 env F s y B C F) := by kernel_rfl
theorem L97x0s (env : Env) (F : Nat) (s : Site) (y : Day) (B : V) (C : V) (fu : Nat) : L97x0 env F s y B C (fu + 1) =
  (bif (decide ((0 : Int) < (((Sl.len (Site.cavs s)) : Nat) : Int))) then (bif (decide ((0 : Int) < (((Sl.len (Site.cavs s)) : Nat) : Int))) then (bif (decide ((0 : Int) < (((Sl.len (Day.press y)) : Nat) : Int))) then (bif (decide ((Span.lo (Sl.el (Day.press y) 0)) < (Span.lo (Cav.gate (Sl.el (Site.cavs s) 0))))) then (bif (decide ((Span.hi (Sl.el (Day.press y) 0)) < (Span.lo (Cav.gate (Sl.el (Site.cavs s) 0))))) then (L97x1 env F s y B C fu 1 (IntKind.wrap .i64 ((0 : Int) + (1 : Int))) 1 (fun u7 => [(.int .i64 (0 : Int)), (.int .i64 (0 : Int)), (.bool true), (.bool true)]))
          else (L97x1 env F s y B C fu 1 (IntKind.wrap .i64 ((0 : Int) + (1 : Int))) 1 (fun u7 => [(.int .i64 (0 : Int)), (.int .i64 (0 : Int)), (.bool true), (.bool (decide ((Span.lo (Sl.el (Day.press y) 0)) > (Span.hi (Cav.gate (Sl.el (Site.cavs s) 0))))))])))
        else (bif (decide ((Span.hi (Sl.el (Day.press y) 0)) < (Span.lo (Cav.gate (Sl.el (Site.cavs s) 0))))) then (L97x1 env F s y B C fu 1 (IntKind.wrap .i64 ((0 : Int) + (1 : Int))) 1 (fun u7 => [(.int .i64 (0 : Int)), (.int .i64 (0 : Int)), (.bool (decide ((Span.hi (Sl.el (Day.press y) 0)) > (Span.hi (Cav.gate (Sl.el (Site.cavs s) 0)))))), (.bool true)]))
          else (L97x1 env F s y B C fu 1 (IntKind.wrap .i64 ((0 : Int) + (1 : Int))) 1 (fun u7 => [(.int .i64 (0 : Int)), (.int .i64 (0 : Int)), (.bool (decide ((Span.hi (Sl.el (Day.press y) 0)) > (Span.hi (Cav.gate (Sl.el (Site.cavs s) 0)))))), (.bool (decide ((Span.lo (Sl.el (Day.press y) 0)) > (Span.hi (Cav.gate (Sl.el (Site.cavs s) 0))))))]))))
      else none)
    else none)
  else some (.ret (.row true 0 0 (fun u7 => [])))) := by kernel_rfl
theorem L97x1s (env : Env) (F : Nat) (s : Site) (y : Day) (B : V) (C : V) (fu : Nat) (k0 : Nat) (i1 : Int) (k2 : Nat) (g3 : Nat → List V) : L97x1 env F s y B C (fu + 1) k0 i1 k2 g3 =
  (bif (decide (i1 < (((Sl.len (Site.cavs s)) : Nat) : Int))) then (bif (decide ((0 : Int) ≤ i1)) then (bif (decide (i1 < (((Sl.len (Site.cavs s)) : Nat) : Int))) then (bif (decide ((0 : Int) ≤ i1)) then (bif (decide (i1 < (((Sl.len (Day.press y)) : Nat) : Int))) then (bif (decide ((Span.lo (Sl.el (Day.press y) (Int.toNat i1))) < (Span.lo (Cav.gate (Sl.el (Site.cavs s) (Int.toNat i1)))))) then (bif (decide ((Span.hi (Sl.el (Day.press y) (Int.toNat i1))) < (Span.lo (Cav.gate (Sl.el (Site.cavs s) (Int.toNat i1)))))) then (bif (decide (((k0 + 1) * 24) ≤ 140737488355328)) then (L97x1 env F s y B C fu (k0 + 1) (IntKind.wrap .i64 (i1 + (1 : Int))) (k0 + 1) (appGet k0 g3 (fun u11 => [(.int .i64 i1), (.int .i64 (0 : Int)), (.bool true), (.bool true)])))
                else none)
              else (bif (decide (((k0 + 1) * 24) ≤ 140737488355328)) then (L97x1 env F s y B C fu (k0 + 1) (IntKind.wrap .i64 (i1 + (1 : Int))) (k0 + 1) (appGet k0 g3 (fun u11 => [(.int .i64 i1), (.int .i64 (0 : Int)), (.bool true), (.bool (decide ((Span.lo (Sl.el (Day.press y) (Int.toNat i1))) > (Span.hi (Cav.gate (Sl.el (Site.cavs s) (Int.toNat i1)))))))])))
                else none))
            else (bif (decide ((Span.hi (Sl.el (Day.press y) (Int.toNat i1))) < (Span.lo (Cav.gate (Sl.el (Site.cavs s) (Int.toNat i1)))))) then (bif (decide (((k0 + 1) * 24) ≤ 140737488355328)) then (L97x1 env F s y B C fu (k0 + 1) (IntKind.wrap .i64 (i1 + (1 : Int))) (k0 + 1) (appGet k0 g3 (fun u11 => [(.int .i64 i1), (.int .i64 (0 : Int)), (.bool (decide ((Span.hi (Sl.el (Day.press y) (Int.toNat i1))) > (Span.hi (Cav.gate (Sl.el (Site.cavs s) (Int.toNat i1))))))), (.bool true)])))
                else none)
              else (bif (decide (((k0 + 1) * 24) ≤ 140737488355328)) then (L97x1 env F s y B C fu (k0 + 1) (IntKind.wrap .i64 (i1 + (1 : Int))) (k0 + 1) (appGet k0 g3 (fun u11 => [(.int .i64 i1), (.int .i64 (0 : Int)), (.bool (decide ((Span.hi (Sl.el (Day.press y) (Int.toNat i1))) > (Span.hi (Cav.gate (Sl.el (Site.cavs s) (Int.toNat i1))))))), (.bool (decide ((Span.lo (Sl.el (Day.press y) (Int.toNat i1))) > (Span.hi (Cav.gate (Sl.el (Site.cavs s) (Int.toNat i1)))))))])))
                else none)))
          else none)
        else none)
      else none)
    else none)
  else some (.ret (.row false k0 4 (fun u11 => (g3 u11))))) := by kernel_rfl

noncomputable def L99x0 (env : Env) (F : Nat) (s : Site) (y : Day) (B : V) (C : V) (fu : Nat) (b0 : Bool) (k1 : Nat) (k2 : Nat) (g3 : Nat → List V) (i4 : Int) : Option Out := atLoop Try.prog (cfg F) env 99 [.r, .r, .l, .r, .d] [] fu { tm := tmL 46 0 [(0, (.rptr 1 5 (fun u12 => [(pSite s), (sl eSpan 2 (Day.press y)), (sl eSpan 2 (Day.warm y)), B, C]) 0 0)), (3, (.row true 0 0 (fun u12 => []))), (10, (.row b0 k1 k2 g3)), (11, (.int .i64 i4)), (12, (.int .i64 (0 : Int)))], hp := [] }
noncomputable def L99x1 (env : Env) (F : Nat) (s : Site) (y : Day) (B : V) (C : V) (fu : Nat) (k0 : Nat) (b1 : Bool) (k2 : Nat) (k3 : Nat) (g4 : Nat → List V) (i5 : Int) (i6 : Int) (k7 : Nat) (g8 : Nat → List V) : Option Out := atLoop Try.prog (cfg F) env 99 [.r, .r, .l, .r, .d] [] fu { tm := tmL 46 0 [(0, (.rptr 1 5 (fun u16 => [(pSite s), (sl eSpan 2 (Day.press y)), (sl eSpan 2 (Day.warm y)), B, C]) 0 0)), (3, (.osl 0 0 k0)), (10, (.row b1 k2 k3 g4)), (11, (.int .i64 i5)), (12, (.int .i64 i6))], hp := [(.arr 124 4 k7 g8 true)] }
theorem t99 (env : Env) (F : Nat) (s : Site) (y : Day) (B : V) (C : V) : (evFun Try.prog (cfg F) env 99 [(.rptr 1 5 (fun u6 => [(pSite s), (sl eSpan 2 (Day.press y)), (sl eSpan 2 (Day.warm y)), B, C]) 0 0)]) =
  (tkRow C none fun nl6 n7 wd8 g9 => (L99x0 env F s y B C F nl6 n7 wd8 g9 ((n7 : Nat) : Int))) := by kernel_rfl
theorem L99x0s (env : Env) (F : Nat) (s : Site) (y : Day) (B : V) (C : V) (fu : Nat) (b0 : Bool) (k1 : Nat) (k2 : Nat) (g3 : Nat → List V) (i4 : Int) : L99x0 env F s y B C (fu + 1) b0 k1 k2 g3 i4 =
  (bif (decide ((0 : Int) < i4)) then (bif (k2 == 6) then (bif (decide ((0 : Int) < ((k1 : Nat) : Int))) then (bif ((List.length (List.take 6 (g3 0))) == 6) then (tkCons (List.take 6 (g3 0)) none fun v12 r13 => (tkInt v12 none fun q14 n15 => (tkCons r13 none fun v16 r17 => (tkInt v16 none fun q18 n19 => (tkCons r17 none fun v20 r21 => (tkInt v20 none fun q22 n23 => (tkCons r21 none fun v24 r25 => (tkInt v24 none fun q26 n27 => (tkCons r25 none fun v28 r29 => (tkInt v28 none fun q30 n31 => (tkCons r29 none fun v32 r33 => (tkInt v32 none fun q34 n35 => (tkNil r33 none ((bif (decide ((0 : Int) < (((Sl.len (Site.cavs s)) : Nat) : Int))) then (bif (decide (q22 = .i64)) then (bif (decide (q26 = .i64)) then (L99x1 env F s y B C fu 1 b0 k1 k2 g3 i4 (IntKind.wrap .i64 ((0 : Int) + (1 : Int))) 1 (fun u36 => [(.int .i64 (0 : Int)), (.int .i64 (0 : Int)), (.bool (decide (n23 < (Cav.floor (Sl.el (Site.cavs s) 0))))), (.bool (decide (n27 < (Cav.floor (Sl.el (Site.cavs s) 0)))))]))
                                        else none)
                                      else none)
                                    else none)))))))))))))))
        else none)
      else none)
    else none)
  else some (.ret (.row true 0 0 (fun u12 => [])))) := by kernel_rfl
theorem L99x1s (env : Env) (F : Nat) (s : Site) (y : Day) (B : V) (C : V) (fu : Nat) (k0 : Nat) (b1 : Bool) (k2 : Nat) (k3 : Nat) (g4 : Nat → List V) (i5 : Int) (i6 : Int) (k7 : Nat) (g8 : Nat → List V) : L99x1 env F s y B C (fu + 1) k0 b1 k2 k3 g4 i5 i6 k7 g8 =
  (bif (decide (i6 < i5)) then (bif (k3 == 6) then (bif (decide ((0 : Int) ≤ i6)) then (bif (decide (i6 < ((k2 : Nat) : Int))) then (bif ((List.length (List.take 6 (g4 (Int.toNat i6)))) == 6) then (tkCons (List.take 6 (g4 (Int.toNat i6))) none fun v16 r17 => (tkInt v16 none fun q18 n19 => (tkCons r17 none fun v20 r21 => (tkInt v20 none fun q22 n23 => (tkCons r21 none fun v24 r25 => (tkInt v24 none fun q26 n27 => (tkCons r25 none fun v28 r29 => (tkInt v28 none fun q30 n31 => (tkCons r29 none fun v32 r33 => (tkInt v32 none fun q34 n35 => (tkCons r33 none fun v36 r37 => (tkInt v36 none fun q38 n39 => (tkNil r37 none ((bif (decide ((0 : Int) ≤ i6)) then (bif (decide (i6 < (((Sl.len (Site.cavs s)) : Nat) : Int))) then (bif (decide (q26 = .i64)) then (bif (decide (q30 = .i64)) then (bif (decide (((k0 + 1) * 24) ≤ 140737488355328)) then (L99x1 env F s y B C fu (k0 + 1) b1 k2 k3 g4 i5 (IntKind.wrap .i64 (i6 + (1 : Int))) (k0 + 1) (appGet k0 g8 (fun u40 => [(.int .i64 i6), (.int .i64 (0 : Int)), (.bool (decide (n27 < (Cav.floor (Sl.el (Site.cavs s) (Int.toNat i6)))))), (.bool (decide (n31 < (Cav.floor (Sl.el (Site.cavs s) (Int.toNat i6))))))])))
                                              else none)
                                            else none)
                                          else none)
                                        else none)
                                      else none)))))))))))))))
          else none)
        else none)
      else none)
    else none)
  else some (.ret (.row false k0 4 (fun u16 => (g8 u16))))) := by kernel_rfl

noncomputable def L101x0 (env : Env) (F : Nat) (s : Site) (y : Day) (B : V) (C : V) (fu : Nat) : Option Out := atLoop Try.prog (cfg F) env 101 [.r, .r, .r, .l, .r, .d] [] fu { tm := tmL 56 0 [(0, (.rptr 1 5 (fun u7 => [(pSite s), (sl eSpan 2 (Day.press y)), (sl eSpan 2 (Day.warm y)), B, C]) 0 0)), (3, (.row true 0 0 (fun u7 => []))), (19, (sl eHouse 3 (Site.houses s))), (20, (.int .i64 (((Sl.len (Site.houses s)) : Nat) : Int))), (21, (.int .i64 (0 : Int)))], hp := [] }
noncomputable def L101x1 (env : Env) (F : Nat) (s : Site) (y : Day) (B : V) (C : V) (fu : Nat) (k0 : Nat) (i1 : Int) (k2 : Nat) (g3 : Nat → List V) : Option Out := atLoop Try.prog (cfg F) env 101 [.r, .r, .r, .l, .r, .d] [] fu { tm := tmL 56 0 [(0, (.rptr 1 5 (fun u11 => [(pSite s), (sl eSpan 2 (Day.press y)), (sl eSpan 2 (Day.warm y)), B, C]) 0 0)), (3, (.osl 0 0 k0)), (19, (sl eHouse 3 (Site.houses s))), (20, (.int .i64 (((Sl.len (Site.houses s)) : Nat) : Int))), (21, (.int .i64 i1))], hp := [(.arr 124 4 k2 g3 true)] }
theorem t101 (env : Env) (F : Nat) (s : Site) (y : Day) (B : V) (C : V) : (evFun Try.prog (cfg F) env 101 [(.rptr 1 5 (fun u6 => [(pSite s), (sl eSpan 2 (Day.press y)), (sl eSpan 2 (Day.warm y)), B, C]) 0 0)]) =
  (tkRow C none fun nl6 n7 wd8 g9 => (bif nl6 then some (.ret (.row true 0 0 (fun u10 => [])))
    else (L101x0 env F s y B C F))) := by kernel_rfl
theorem L101x0s (env : Env) (F : Nat) (s : Site) (y : Day) (B : V) (C : V) (fu : Nat) : L101x0 env F s y B C (fu + 1) =
  (bif (decide ((0 : Int) < (((Sl.len (Site.houses s)) : Nat) : Int))) then (bif (decide ((0 : Int) < (((Sl.len (Site.houses s)) : Nat) : Int))) then (tkRow C none fun nl7 n8 wd9 g10 => (tkOut (env 53 [(pSite s), (.row nl7 n8 wd9 g10), (.int .i64 (House.x (Sl.el (Site.houses s) 0))), (.int .i64 (House.y (Sl.el (Site.houses s) 0)))]) none (fun v11 => (tkAgg v11 none fun l12 => (tkCons l12 none fun v13 r14 => (tkInt v13 none fun q15 n16 => (tkCons r14 none fun v17 r18 => (tkInt v17 none fun q19 n20 => (tkNil r18 none ((bif (decide (q19 = .i64)) then (bif (decide (q15 = .i64)) then (L101x1 env F s y B C fu 1 (IntKind.wrap .i64 ((0 : Int) + (1 : Int))) 1 (fun u21 => [(.int .i64 (0 : Int)), (.int .i64 (0 : Int)), (.bool (decide (n20 > (House.most (Sl.el (Site.houses s) 0))))), (.bool (decide (n16 > (House.most (Sl.el (Site.houses s) 0)))))]))
                        else none)
                      else none)))))))))
        (fun p11 => (tkIfc p11 none fun t12 x13 => (bif (flatP (.iface t12 x13)) then some (.pan (.iface t12 x13))
            else none)))))
    else none)
  else some (.ret (.row true 0 0 (fun u7 => [])))) := by kernel_rfl
theorem L101x1s (env : Env) (F : Nat) (s : Site) (y : Day) (B : V) (C : V) (fu : Nat) (k0 : Nat) (i1 : Int) (k2 : Nat) (g3 : Nat → List V) : L101x1 env F s y B C (fu + 1) k0 i1 k2 g3 =
  (bif (decide (i1 < (((Sl.len (Site.houses s)) : Nat) : Int))) then (bif (decide ((0 : Int) ≤ i1)) then (bif (decide (i1 < (((Sl.len (Site.houses s)) : Nat) : Int))) then (tkRow C none fun nl11 n12 wd13 g14 => (tkOut (env 53 [(pSite s), (.row nl11 n12 wd13 g14), (.int .i64 (House.x (Sl.el (Site.houses s) (Int.toNat i1)))), (.int .i64 (House.y (Sl.el (Site.houses s) (Int.toNat i1))))]) none (fun v15 => (tkAgg v15 none fun l16 => (tkCons l16 none fun v17 r18 => (tkInt v17 none fun q19 n20 => (tkCons r18 none fun v21 r22 => (tkInt v21 none fun q23 n24 => (tkNil r22 none ((bif (decide (q23 = .i64)) then (bif (decide (q19 = .i64)) then (bif (decide (((k0 + 1) * 24) ≤ 140737488355328)) then (L101x1 env F s y B C fu (k0 + 1) (IntKind.wrap .i64 (i1 + (1 : Int))) (k0 + 1) (appGet k0 g3 (fun u25 => [(.int .i64 i1), (.int .i64 (0 : Int)), (.bool (decide (n24 > (House.most (Sl.el (Site.houses s) (Int.toNat i1)))))), (.bool (decide (n20 > (House.most (Sl.el (Site.houses s) (Int.toNat i1))))))])))
                            else none)
                          else none)
                        else none)))))))))
          (fun p15 => (tkIfc p15 none fun t16 x17 => (bif (flatP (.iface t16 x17)) then some (.pan (.iface t16 x17))
              else none)))))
      else none)
    else none)
  else some (.ret (.row false k0 4 (fun u11 => (g3 u11))))) := by kernel_rfl

noncomputable def L98x0 (env : Env) (F : Nat) (s : Site) (y : Day) (B : V) (C : V) (fu : Nat) (b0 : Bool) (k1 : Nat) (k2 : Nat) (g3 : Nat → List V) (i4 : Int) : Option Out := atLoop Try.prog (cfg F) env 98 [.r, .r, .l, .r, .d] [] fu { tm := tmL 71 0 [(0, (.rptr 1 5 (fun u12 => [(pSite s), (sl eSpan 2 (Day.press y)), (sl eSpan 2 (Day.warm y)), B, C]) 0 0)), (3, (.row true 0 0 (fun u12 => []))), (11, (.row b0 k1 k2 g3)), (12, (.int .i64 i4)), (13, (.int .i64 (0 : Int)))], hp := [] }
noncomputable def L98x1 (env : Env) (F : Nat) (s : Site) (y : Day) (B : V) (C : V) (fu : Nat) (k0 : Nat) (b1 : Bool) (k2 : Nat) (k3 : Nat) (g4 : Nat → List V) (i5 : Int) (i6 : Int) (k7 : Nat) (g8 : Nat → List V) : Option Out := atLoop Try.prog (cfg F) env 98 [.r, .r, .l, .r, .d] [] fu { tm := tmL 71 0 [(0, (.rptr 1 5 (fun u16 => [(pSite s), (sl eSpan 2 (Day.press y)), (sl eSpan 2 (Day.warm y)), B, C]) 0 0)), (3, (.osl 0 0 k0)), (11, (.row b1 k2 k3 g4)), (12, (.int .i64 i5)), (13, (.int .i64 i6))], hp := [(.arr 124 4 k7 g8 true)] }
theorem t98 (env : Env) (F : Nat) (s : Site) (y : Day) (B : V) (C : V) : (evFun Try.prog (cfg F) env 98 [(.rptr 1 5 (fun u6 => [(pSite s), (sl eSpan 2 (Day.press y)), (sl eSpan 2 (Day.warm y)), B, C]) 0 0)]) =
  (tkRow B none fun nl6 n7 wd8 g9 => (L98x0 env F s y B C F nl6 n7 wd8 g9 ((n7 : Nat) : Int))) := by kernel_rfl
theorem L98x0s (env : Env) (F : Nat) (s : Site) (y : Day) (B : V) (C : V) (fu : Nat) (b0 : Bool) (k1 : Nat) (k2 : Nat) (g3 : Nat → List V) (i4 : Int) : L98x0 env F s y B C (fu + 1) b0 k1 k2 g3 i4 =
  (bif (decide ((0 : Int) < i4)) then (bif (k2 == 2) then (bif (decide ((0 : Int) < ((k1 : Nat) : Int))) then (bif ((List.length (List.take 2 (g3 0))) == 2) then (tkCons (List.take 2 (g3 0)) none fun v12 r13 => (tkInt v12 none fun q14 n15 => (tkCons r13 none fun v16 r17 => (tkInt v16 none fun q18 n19 => (tkNil r17 none ((bif (decide ((0 : Int) < (((Sl.len (Day.press y)) : Nat) : Int))) then (bif (decide ((0 : Int) < (((Sl.len (Site.cavs s)) : Nat) : Int))) then (bif (decide (.i64 = q14)) then (bif (decide (q18 = .i64)) then (bif (decide (.i64 = q18)) then (bif (decide (q14 = .i64)) then (L98x1 env F s y B C fu 1 b0 k1 k2 g3 i4 (IntKind.wrap .i64 ((0 : Int) + (1 : Int))) 1 (fun u20 => [(.int .i64 (0 : Int)), (.int .i64 (0 : Int)), (.bool (decide ((if (IntKind.wrap .i64 ((Span.hi (Sl.el (Day.press y) 0)) - n15)) < (IntKind.wrap q18 (n19 - (Span.lo (Sl.el (Day.press y) 0)))) then (IntKind.wrap q18 (n19 - (Span.lo (Sl.el (Day.press y) 0)))) else (IntKind.wrap .i64 ((Span.hi (Sl.el (Day.press y) 0)) - n15))) > (Cav.change (Sl.el (Site.cavs s) 0))))), (.bool (decide ((if (IntKind.wrap .i64 ((Span.lo (Sl.el (Day.press y) 0)) - n19)) < (IntKind.wrap q14 (n15 - (Span.hi (Sl.el (Day.press y) 0)))) then (IntKind.wrap q14 (n15 - (Span.hi (Sl.el (Day.press y) 0)))) else (IntKind.wrap .i64 ((Span.lo (Sl.el (Day.press y) 0)) - n19))) > (Cav.change (Sl.el (Site.cavs s) 0)))))]))
                              else none)
                            else none)
                          else none)
                        else none)
                      else none)
                    else none)))))))
        else none)
      else none)
    else none)
  else some (.ret (.row true 0 0 (fun u12 => [])))) := by kernel_rfl
theorem L98x1s (env : Env) (F : Nat) (s : Site) (y : Day) (B : V) (C : V) (fu : Nat) (k0 : Nat) (b1 : Bool) (k2 : Nat) (k3 : Nat) (g4 : Nat → List V) (i5 : Int) (i6 : Int) (k7 : Nat) (g8 : Nat → List V) : L98x1 env F s y B C (fu + 1) k0 b1 k2 k3 g4 i5 i6 k7 g8 =
  (bif (decide (i6 < i5)) then (bif (k3 == 2) then (bif (decide ((0 : Int) ≤ i6)) then (bif (decide (i6 < ((k2 : Nat) : Int))) then (bif ((List.length (List.take 2 (g4 (Int.toNat i6)))) == 2) then (tkCons (List.take 2 (g4 (Int.toNat i6))) none fun v16 r17 => (tkInt v16 none fun q18 n19 => (tkCons r17 none fun v20 r21 => (tkInt v20 none fun q22 n23 => (tkNil r21 none ((bif (decide ((0 : Int) ≤ i6)) then (bif (decide (i6 < (((Sl.len (Day.press y)) : Nat) : Int))) then (bif (decide ((0 : Int) ≤ i6)) then (bif (decide (i6 < (((Sl.len (Site.cavs s)) : Nat) : Int))) then (bif (decide (.i64 = q18)) then (bif (decide (q22 = .i64)) then (bif (decide (.i64 = q22)) then (bif (decide (q18 = .i64)) then (bif (decide (((k0 + 1) * 24) ≤ 140737488355328)) then (L98x1 env F s y B C fu (k0 + 1) b1 k2 k3 g4 i5 (IntKind.wrap .i64 (i6 + (1 : Int))) (k0 + 1) (appGet k0 g8 (fun u24 => [(.int .i64 i6), (.int .i64 (0 : Int)), (.bool (decide ((if (IntKind.wrap .i64 ((Span.hi (Sl.el (Day.press y) (Int.toNat i6))) - n19)) < (IntKind.wrap q22 (n23 - (Span.lo (Sl.el (Day.press y) (Int.toNat i6))))) then (IntKind.wrap q22 (n23 - (Span.lo (Sl.el (Day.press y) (Int.toNat i6))))) else (IntKind.wrap .i64 ((Span.hi (Sl.el (Day.press y) (Int.toNat i6))) - n19))) > (Cav.change (Sl.el (Site.cavs s) (Int.toNat i6)))))), (.bool (decide ((if (IntKind.wrap .i64 ((Span.lo (Sl.el (Day.press y) (Int.toNat i6))) - n23)) < (IntKind.wrap q18 (n19 - (Span.hi (Sl.el (Day.press y) (Int.toNat i6))))) then (IntKind.wrap q18 (n19 - (Span.hi (Sl.el (Day.press y) (Int.toNat i6))))) else (IntKind.wrap .i64 ((Span.lo (Sl.el (Day.press y) (Int.toNat i6))) - n23))) > (Cav.change (Sl.el (Site.cavs s) (Int.toNat i6))))))])))
                                      else none)
                                    else none)
                                  else none)
                                else none)
                              else none)
                            else none)
                          else none)
                        else none)
                      else none)))))))
          else none)
        else none)
      else none)
    else none)
  else some (.ret (.row false k0 4 (fun u16 => (g8 u16))))) := by kernel_rfl

noncomputable def L96x0 (env : Env) (F : Nat) (s : Site) (y : Day) (B : V) (C : V) (fu : Nat) : Option Out := atLoop Try.prog (cfg F) env 96 [.r, .r, .l, .r, .d] [] fu { tm := tmL 123 0 [(0, (.rptr 1 5 (fun u7 => [(pSite s), (sl eSpan 2 (Day.press y)), (sl eSpan 2 (Day.warm y)), B, C]) 0 0)), (3, (.row true 0 0 (fun u7 => []))), (16, (sl eCav 11 (Site.cavs s))), (17, (.int .i64 (((Sl.len (Site.cavs s)) : Nat) : Int))), (18, (.int .i64 (0 : Int)))], hp := [] }
noncomputable def L96x1 (env : Env) (F : Nat) (s : Site) (y : Day) (B : V) (C : V) (fu : Nat) (k0 : Nat) (i1 : Int) (k2 : Nat) (g3 : Nat → List V) : Option Out := atLoop Try.prog (cfg F) env 96 [.r, .r, .l, .r, .d] [] fu { tm := tmL 123 0 [(0, (.rptr 1 5 (fun u11 => [(pSite s), (sl eSpan 2 (Day.press y)), (sl eSpan 2 (Day.warm y)), B, C]) 0 0)), (3, (.osl 0 0 k0)), (16, (sl eCav 11 (Site.cavs s))), (17, (.int .i64 (((Sl.len (Site.cavs s)) : Nat) : Int))), (18, (.int .i64 i1))], hp := [(.arr 124 4 k2 g3 true)] }
theorem t96 (env : Env) (F : Nat) (s : Site) (y : Day) (B : V) (C : V) : (evFun Try.prog (cfg F) env 96 [(.rptr 1 5 (fun u6 => [(pSite s), (sl eSpan 2 (Day.press y)), (sl eSpan 2 (Day.warm y)), B, C]) 0 0)]) =
  (L96x0 env F s y B C F) := by kernel_rfl
theorem L96x0s (env : Env) (F : Nat) (s : Site) (y : Day) (B : V) (C : V) (fu : Nat) : L96x0 env F s y B C (fu + 1) =
  (bif (decide ((0 : Int) < (((Sl.len (Site.cavs s)) : Nat) : Int))) then (bif (decide ((0 : Int) < (((Sl.len (Site.cavs s)) : Nat) : Int))) then (bif (decide ((0 : Int) < (((Sl.len (Day.press y)) : Nat) : Int))) then (bif (decide ((0 : Int) < (((Sl.len (Day.warm y)) : Nat) : Int))) then (bif (decide ((Span.hi (Sl.el (Day.press y) 0)) > (Cav.rock (Sl.el (Site.cavs s) 0)))) then (L96x1 env F s y B C fu 1 (IntKind.wrap .i64 ((0 : Int) + (1 : Int))) 1 (fun u7 => [(.int .i64 (0 : Int)), (.int .i64 (0 : Int)), (.bool true), (.bool false)]))
          else (bif (decide ((0 : Int) ≤ (IntKind.wrap .i64 ((((Sl.len (Site.rows s)) : Nat) : Int) - (1 : Int))))) then (bif (decide ((IntKind.wrap .i64 ((((Sl.len (Site.rows s)) : Nat) : Int) - (1 : Int))) < (((Sl.len (Site.rows s)) : Nat) : Int))) then (bif (decide ((IntKind.wrap .i64 ((Cav.rock (Sl.el (Site.cavs s) 0)) - (Span.lo (Sl.el (Day.press y) 0)))) > (Row.deficit (Sl.el (Site.rows s) (Int.toNat (IntKind.wrap .i64 ((((Sl.len (Site.rows s)) : Nat) : Int) - (1 : Int)))))))) then (L96x1 env F s y B C fu 1 (IntKind.wrap .i64 ((0 : Int) + (1 : Int))) 1 (fun u7 => [(.int .i64 (0 : Int)), (.int .i64 (0 : Int)), (.bool true), (.bool false)]))
                else (bif (decide ((0 : Int) < (((Sl.len (Site.heats s)) : Nat) : Int))) then (bif (decide ((Span.lo (Sl.el (Day.warm y) 0)) < (Heat.warmth (Sl.el (Site.heats s) 0)))) then (L96x1 env F s y B C fu 1 (IntKind.wrap .i64 ((0 : Int) + (1 : Int))) 1 (fun u7 => [(.int .i64 (0 : Int)), (.int .i64 (0 : Int)), (.bool true), (.bool false)]))
                    else (bif (decide ((0 : Int) ≤ (IntKind.wrap .i64 ((((Sl.len (Site.heats s)) : Nat) : Int) - (1 : Int))))) then (bif (decide ((IntKind.wrap .i64 ((((Sl.len (Site.heats s)) : Nat) : Int) - (1 : Int))) < (((Sl.len (Site.heats s)) : Nat) : Int))) then (L96x1 env F s y B C fu 1 (IntKind.wrap .i64 ((0 : Int) + (1 : Int))) 1 (fun u7 => [(.int .i64 (0 : Int)), (.int .i64 (0 : Int)), (.bool (decide ((Span.hi (Sl.el (Day.warm y) 0)) > (Heat.warmth (Sl.el (Site.heats s) (Int.toNat (IntKind.wrap .i64 ((((Sl.len (Site.heats s)) : Nat) : Int) - (1 : Int))))))))), (.bool false)]))
                        else none)
                      else none))
                  else none))
              else none)
            else none))
        else none)
      else none)
    else none)
  else some (.ret (.row true 0 0 (fun u7 => [])))) := by kernel_rfl
theorem L96x1s (env : Env) (F : Nat) (s : Site) (y : Day) (B : V) (C : V) (fu : Nat) (k0 : Nat) (i1 : Int) (k2 : Nat) (g3 : Nat → List V) : L96x1 env F s y B C (fu + 1) k0 i1 k2 g3 =
  (bif (decide (i1 < (((Sl.len (Site.cavs s)) : Nat) : Int))) then (bif (decide ((0 : Int) ≤ i1)) then (bif (decide (i1 < (((Sl.len (Site.cavs s)) : Nat) : Int))) then (bif (decide ((0 : Int) ≤ i1)) then (bif (decide (i1 < (((Sl.len (Day.press y)) : Nat) : Int))) then (bif (decide ((0 : Int) ≤ i1)) then (bif (decide (i1 < (((Sl.len (Day.warm y)) : Nat) : Int))) then (bif (decide ((Span.hi (Sl.el (Day.press y) (Int.toNat i1))) > (Cav.rock (Sl.el (Site.cavs s) (Int.toNat i1))))) then (bif (decide (((k0 + 1) * 24) ≤ 140737488355328)) then (L96x1 env F s y B C fu (k0 + 1) (IntKind.wrap .i64 (i1 + (1 : Int))) (k0 + 1) (appGet k0 g3 (fun u11 => [(.int .i64 i1), (.int .i64 (0 : Int)), (.bool true), (.bool false)])))
                  else none)
                else (bif (decide ((0 : Int) ≤ (IntKind.wrap .i64 ((((Sl.len (Site.rows s)) : Nat) : Int) - (1 : Int))))) then (bif (decide ((IntKind.wrap .i64 ((((Sl.len (Site.rows s)) : Nat) : Int) - (1 : Int))) < (((Sl.len (Site.rows s)) : Nat) : Int))) then (bif (decide ((IntKind.wrap .i64 ((Cav.rock (Sl.el (Site.cavs s) (Int.toNat i1))) - (Span.lo (Sl.el (Day.press y) (Int.toNat i1))))) > (Row.deficit (Sl.el (Site.rows s) (Int.toNat (IntKind.wrap .i64 ((((Sl.len (Site.rows s)) : Nat) : Int) - (1 : Int)))))))) then (bif (decide (((k0 + 1) * 24) ≤ 140737488355328)) then (L96x1 env F s y B C fu (k0 + 1) (IntKind.wrap .i64 (i1 + (1 : Int))) (k0 + 1) (appGet k0 g3 (fun u11 => [(.int .i64 i1), (.int .i64 (0 : Int)), (.bool true), (.bool false)])))
                        else none)
                      else (bif (decide ((0 : Int) < (((Sl.len (Site.heats s)) : Nat) : Int))) then (bif (decide ((Span.lo (Sl.el (Day.warm y) (Int.toNat i1))) < (Heat.warmth (Sl.el (Site.heats s) 0)))) then (bif (decide (((k0 + 1) * 24) ≤ 140737488355328)) then (L96x1 env F s y B C fu (k0 + 1) (IntKind.wrap .i64 (i1 + (1 : Int))) (k0 + 1) (appGet k0 g3 (fun u11 => [(.int .i64 i1), (.int .i64 (0 : Int)), (.bool true), (.bool false)])))
                            else none)
                          else (bif (decide ((0 : Int) ≤ (IntKind.wrap .i64 ((((Sl.len (Site.heats s)) : Nat) : Int) - (1 : Int))))) then (bif (decide ((IntKind.wrap .i64 ((((Sl.len (Site.heats s)) : Nat) : Int) - (1 : Int))) < (((Sl.len (Site.heats s)) : Nat) : Int))) then (bif (decide (((k0 + 1) * 24) ≤ 140737488355328)) then (L96x1 env F s y B C fu (k0 + 1) (IntKind.wrap .i64 (i1 + (1 : Int))) (k0 + 1) (appGet k0 g3 (fun u11 => [(.int .i64 i1), (.int .i64 (0 : Int)), (.bool (decide ((Span.hi (Sl.el (Day.warm y) (Int.toNat i1))) > (Heat.warmth (Sl.el (Site.heats s) (Int.toNat (IntKind.wrap .i64 ((((Sl.len (Site.heats s)) : Nat) : Int) - (1 : Int))))))))), (.bool false)])))
                                else none)
                              else none)
                            else none))
                        else none))
                    else none)
                  else none))
              else none)
            else none)
          else none)
        else none)
      else none)
    else none)
  else some (.ret (.row false k0 4 (fun u11 => (g3 u11))))) := by kernel_rfl

end Go.Sim.Cr

/-
  What the evaluator says of these functions (printed by a private program; each row is checked by the kernel).
-/
set_option maxRecDepth 100000
namespace Go.Sim.Cr
open Go.Proofs

noncomputable def L100x0 (env : Env) (F : Nat) (s : Site) (y : Day) (B : V) (C : V) (fu : Nat) (i0 : Int) (b1 : Bool) (k2 : Nat) (k3 : Nat) (g4 : Nat → List V) (b5 : Bool) : Option Out := atLoop Try.prog (cfg F) env 100 [.r, .r, .r, .l, .r, .d, .g 114, .r, .d] [] fu { tm := tmL 39 0 [(0, (.rptr 1 5 (fun u13 => [(pSite s), (sl eSpan 2 (Day.press y)), (sl eSpan 2 (Day.warm y)), B, C]) 0 0)), (1, (.yld 0)), (14, (.int .i64 (((Sl.len (Site.cavs s)) : Nat) : Int))), (15, (.int .i64 i0))], hp := [.lp, (.box 118 [(.rptr 1 5 (fun u13 => [(pSite s), (sl eSpan 2 (Day.press y)), (sl eSpan 2 (Day.warm y)), B, C]) 0 0)] true), (.box 153 [(.row true 0 0 (fun u13 => []))] true)], ext := [(.yld 0), (.rptr 1 5 (fun u13 => [(pSite s), (sl eSpan 2 (Day.press y)), (sl eSpan 2 (Day.warm y)), B, C]) 0 0), (.optr 1 0 0), (.row true 0 0 (fun u13 => [])), (.optr 2 0 0), .undef, .undef, .undef, .undef, (.rptr 1 5 (fun u13 => [(pSite s), (sl eSpan 2 (Day.press y)), (sl eSpan 2 (Day.warm y)), B, C]) 0 0), (.rptr 1 5 (fun u13 => [(pSite s), (sl eSpan 2 (Day.press y)), (sl eSpan 2 (Day.warm y)), B, C]) 0 0), (.rptr 1 5 (fun u13 => [(pSite s), (sl eSpan 2 (Day.press y)), (sl eSpan 2 (Day.warm y)), B, C]) 0 4), (.row b1 k2 k3 g4), (.bool b5), (.rptr 1 5 (fun u13 => [(pSite s), (sl eSpan 2 (Day.press y)), (sl eSpan 2 (Day.warm y)), B, C]) 0 0), (.fn (.func 114) [(.rptr 1 5 (fun u13 => [(pSite s), (sl eSpan 2 (Day.press y)), (sl eSpan 2 (Day.warm y)), B, C]) 0 0)] []), .undef, .undef, .undef, .undef, .undef, .undef, .undef, .undef, .undef, .undef, .undef, .undef, .undef, .undef, .undef, .undef, .undef, .undef, .undef, .undef, .undef, .undef, .undef, .undef, .undef, .undef, .undef, .undef, .undef, .undef, .undef, .undef, .undef, .undef, .undef, .undef, .undef, .undef, .undef, .undef, .undef, .undef, .undef, .undef, .undef, .undef, .undef, .undef, .undef, .undef, .undef, .undef, .undef, .undef, .undef, .undef, .undef, .undef, .undef, .undef, .undef, .undef, .undef, .undef, .undef] }
noncomputable def L100x1 (env : Env) (F : Nat) (s : Site) (y : Day) (B : V) (C : V) (m0 : Nat) (fu : Nat) (i0 : Int) (i1 : Int) (i2 : Int) (b3 : Bool) (k4 : Nat) (k5 : Nat) (g6 : Nat → List V) (b7 : Bool) : Option Out := atLoop Try.prog (cfg F) env 100 [.r, .r, .r, .l, .r, .d, .g 114, .r, .d, .d, .r, .r, .l, .d, .r, .r, .d] [m0] fu { tm := tmL 39 0 [(0, (.rptr 1 5 (fun u16 => [(pSite s), (sl eSpan 2 (Day.press y)), (sl eSpan 2 (Day.warm y)), B, C]) 0 0)), (1, (.yld 0)), (4, (.int .i64 i0)), (5, (.int .i64 i1)), (14, (.int .i64 (((Sl.len (Site.cavs s)) : Nat) : Int))), (15, (.int .i64 i2))], hp := [.lp, (.box 118 [(.rptr 1 5 (fun u16 => [(pSite s), (sl eSpan 2 (Day.press y)), (sl eSpan 2 (Day.warm y)), B, C]) 0 0)] true), (.box 153 [(.row true 0 0 (fun u16 => []))] true)], ext := [(.yld 0), (.rptr 1 5 (fun u16 => [(pSite s), (sl eSpan 2 (Day.press y)), (sl eSpan 2 (Day.warm y)), B, C]) 0 0), (.optr 1 0 0), (.row true 0 0 (fun u16 => [])), (.optr 2 0 0), .undef, .undef, .undef, .undef, (.rptr 1 5 (fun u16 => [(pSite s), (sl eSpan 2 (Day.press y)), (sl eSpan 2 (Day.warm y)), B, C]) 0 0), (.rptr 1 5 (fun u16 => [(pSite s), (sl eSpan 2 (Day.press y)), (sl eSpan 2 (Day.warm y)), B, C]) 0 0), (.rptr 1 5 (fun u16 => [(pSite s), (sl eSpan 2 (Day.press y)), (sl eSpan 2 (Day.warm y)), B, C]) 0 4), (.row b3 k4 k5 g6), (.bool b7), (.rptr 1 5 (fun u16 => [(pSite s), (sl eSpan 2 (Day.press y)), (sl eSpan 2 (Day.warm y)), B, C]) 0 0), (.fn (.func 114) [(.rptr 1 5 (fun u16 => [(pSite s), (sl eSpan 2 (Day.press y)), (sl eSpan 2 (Day.warm y)), B, C]) 0 0)] []), .undef, .undef, .undef, .undef, .undef, .undef, .undef, .undef, .undef, .undef, .undef, .undef, .undef, .undef, .undef, .undef, .undef, .undef, .undef, .undef, .undef, .undef, .undef, .undef, .undef, .undef, .undef, .undef, .undef, .undef, .undef, .undef, .undef, .undef, .undef, .undef, .undef, .undef, .undef, .undef, .undef, .undef, .undef, .undef, .undef, .undef, .undef, .undef, .undef, .undef, .undef, .undef, .undef, .undef, .undef, .undef, .undef, .undef, .undef, .undef, .undef, .undef, .undef, .undef, .undef] }
noncomputable def L100x2 (env : Env) (F : Nat) (s : Site) (y : Day) (B : V) (C : V) (m0 : Nat) (fu : Nat) (i0 : Int) (i1 : Int) (i2 : Int) (k3 : Nat) (k4 : Nat) (g5 : Nat → List V) (b6 : Bool) (k7 : Nat) (k8 : Nat) (g9 : Nat → List V) (b10 : Bool) : Option Out := atLoop Try.prog (cfg F) env 100 [.r, .r, .r, .l, .r, .d, .g 114, .r, .d, .d, .r, .r, .l, .d, .r, .r, .d] [m0] fu { tm := tmL 39 0 [(0, (.rptr 1 5 (fun u19 => [(pSite s), (sl eSpan 2 (Day.press y)), (sl eSpan 2 (Day.warm y)), B, C]) 0 0)), (1, (.yld 0)), (4, (.int .i64 i0)), (5, (.int .i64 i1)), (14, (.int .i64 (((Sl.len (Site.cavs s)) : Nat) : Int))), (15, (.int .i64 i2))], hp := [.lp, (.box 118 [(.rptr 1 5 (fun u19 => [(pSite s), (sl eSpan 2 (Day.press y)), (sl eSpan 2 (Day.warm y)), B, C]) 0 0)] true), (.box 153 [(.osl 3 0 k3)] true), (.arr 124 4 k4 g5 true)], ext := [(.yld 0), (.rptr 1 5 (fun u19 => [(pSite s), (sl eSpan 2 (Day.press y)), (sl eSpan 2 (Day.warm y)), B, C]) 0 0), (.optr 1 0 0), (.row true 0 0 (fun u19 => [])), (.optr 2 0 0), .undef, .undef, .undef, .undef, (.rptr 1 5 (fun u19 => [(pSite s), (sl eSpan 2 (Day.press y)), (sl eSpan 2 (Day.warm y)), B, C]) 0 0), (.rptr 1 5 (fun u19 => [(pSite s), (sl eSpan 2 (Day.press y)), (sl eSpan 2 (Day.warm y)), B, C]) 0 0), (.rptr 1 5 (fun u19 => [(pSite s), (sl eSpan 2 (Day.press y)), (sl eSpan 2 (Day.warm y)), B, C]) 0 4), (.row b6 k7 k8 g9), (.bool b10), (.rptr 1 5 (fun u19 => [(pSite s), (sl eSpan 2 (Day.press y)), (sl eSpan 2 (Day.warm y)), B, C]) 0 0), (.fn (.func 114) [(.rptr 1 5 (fun u19 => [(pSite s), (sl eSpan 2 (Day.press y)), (sl eSpan 2 (Day.warm y)), B, C]) 0 0)] []), .undef, .undef, .undef, .undef, .undef, .undef, .undef, .undef, .undef, .undef, .undef, .undef, .undef, .undef, .undef, .undef, .undef, .undef, .undef, .undef, .undef, .undef, .undef, .undef, .undef, .undef, .undef, .undef, .undef, .undef, .undef, .undef, .undef, .undef, .undef, .undef, .undef, .undef, .undef, .undef, .undef, .undef, .undef, .undef, .undef, .undef, .undef, .undef, .undef, .undef, .undef, .undef, .undef, .undef, .undef, .undef, .undef, .undef, .undef, .undef, .undef, .undef, .undef, .undef, .undef] }
noncomputable def L100x3 (env : Env) (F : Nat) (s : Site) (y : Day) (B : V) (C : V) (fu : Nat) (i0 : Int) (k1 : Nat) (k2 : Nat) (g3 : Nat → List V) (b4 : Bool) (k5 : Nat) (k6 : Nat) (g7 : Nat → List V) (b8 : Bool) : Option Out := atLoop Try.prog (cfg F) env 100 [.r, .r, .r, .l, .r, .d, .g 114, .r, .d] [] fu { tm := tmL 39 0 [(0, (.rptr 1 5 (fun u16 => [(pSite s), (sl eSpan 2 (Day.press y)), (sl eSpan 2 (Day.warm y)), B, C]) 0 0)), (1, (.yld 0)), (14, (.int .i64 (((Sl.len (Site.cavs s)) : Nat) : Int))), (15, (.int .i64 i0))], hp := [.lp, (.box 118 [(.rptr 1 5 (fun u16 => [(pSite s), (sl eSpan 2 (Day.press y)), (sl eSpan 2 (Day.warm y)), B, C]) 0 0)] true), (.box 153 [(.osl 3 0 k1)] true), (.arr 124 4 k2 g3 true)], ext := [(.yld 0), (.rptr 1 5 (fun u16 => [(pSite s), (sl eSpan 2 (Day.press y)), (sl eSpan 2 (Day.warm y)), B, C]) 0 0), (.optr 1 0 0), (.row true 0 0 (fun u16 => [])), (.optr 2 0 0), .undef, .undef, .undef, .undef, (.rptr 1 5 (fun u16 => [(pSite s), (sl eSpan 2 (Day.press y)), (sl eSpan 2 (Day.warm y)), B, C]) 0 0), (.rptr 1 5 (fun u16 => [(pSite s), (sl eSpan 2 (Day.press y)), (sl eSpan 2 (Day.warm y)), B, C]) 0 0), (.rptr 1 5 (fun u16 => [(pSite s), (sl eSpan 2 (Day.press y)), (sl eSpan 2 (Day.warm y)), B, C]) 0 4), (.row b4 k5 k6 g7), (.bool b8), (.rptr 1 5 (fun u16 => [(pSite s), (sl eSpan 2 (Day.press y)), (sl eSpan 2 (Day.warm y)), B, C]) 0 0), (.fn (.func 114) [(.rptr 1 5 (fun u16 => [(pSite s), (sl eSpan 2 (Day.press y)), (sl eSpan 2 (Day.warm y)), B, C]) 0 0)] []), .undef, .undef, .undef, .undef, .undef, .undef, .undef, .undef, .undef, .undef, .undef, .undef, .undef, .undef, .undef, .undef, .undef, .undef, .undef, .undef, .undef, .undef, .undef, .undef, .undef, .undef, .undef, .undef, .undef, .undef, .undef, .undef, .undef, .undef, .undef, .undef, .undef, .undef, .undef, .undef, .undef, .undef, .undef, .undef, .undef, .undef, .undef, .undef, .undef, .undef, .undef, .undef, .undef, .undef, .undef, .undef, .undef, .undef, .undef, .undef, .undef, .undef, .undef, .undef, .undef] }
theorem t100 (env : Env) (F : Nat) (s : Site) (y : Day) (B : V) (C : V) : (evFun Try.prog (cfg F) env 100 [(.rptr 1 5 (fun u6 => [(pSite s), (sl eSpan 2 (Day.press y)), (sl eSpan 2 (Day.warm y)), B, C]) 0 0)]) =
  (tkRow C none fun nl6 n7 wd8 g9 => (bif nl6 then some (.ret (.row true 0 0 (fun u10 => [])))
    else (L100x0 env F s y B C F (0 : Int) nl6 n7 wd8 g9 nl6))) := by kernel_rfl
theorem L100x0s (env : Env) (F : Nat) (s : Site) (y : Day) (B : V) (C : V) (fu : Nat) (i0 : Int) (b1 : Bool) (k2 : Nat) (k3 : Nat) (g4 : Nat → List V) (b5 : Bool) : L100x0 env F s y B C (fu + 1) i0 b1 k2 k3 g4 b5 =
  (bif (decide (i0 < (((Sl.len (Site.cavs s)) : Nat) : Int))) then (L100x1 env F s y B C fu F i0 (IntKind.wrap .i64 (i0 + (1 : Int))) i0 b1 k2 k3 g4 b5)
  else some (.ret (.row true 0 0 (fun u13 => [])))) := by kernel_rfl
theorem L100x1s (env : Env) (F : Nat) (s : Site) (y : Day) (B : V) (C : V) (m0 : Nat) (fu : Nat) (i0 : Int) (i1 : Int) (i2 : Int) (b3 : Bool) (k4 : Nat) (k5 : Nat) (g6 : Nat → List V) (b7 : Bool) : L100x1 env F s y B C m0 (fu + 1) i0 i1 i2 b3 k4 k5 g6 b7 =
  (bif (decide (i1 < (((Sl.len (Site.cavs s)) : Nat) : Int))) then (tkRow C none fun nl16 n17 wd18 g19 => (bif (wd18 == 6) then (bif (decide ((0 : Int) ≤ i0)) then (bif (decide (i0 < ((n17 : Nat) : Int))) then (bif ((List.length (List.take 2 (g19 (Int.toNat i0)))) == 2) then (tkCons (List.take 2 (g19 (Int.toNat i0))) none fun v20 r21 => (tkInt v20 none fun q22 n23 => (tkCons r21 none fun v24 r25 => (tkInt v24 none fun q26 n27 => (tkNil r25 none ((tkRow C none fun nl28 n29 wd30 g31 => (bif (wd30 == 6) then (bif (decide ((0 : Int) ≤ i1)) then (bif (decide (i1 < ((n29 : Nat) : Int))) then (bif ((List.length (List.take 2 (g31 (Int.toNat i1)))) == 2) then (tkCons (List.take 2 (g31 (Int.toNat i1))) none fun v32 r33 => (tkInt v32 none fun q34 n35 => (tkCons r33 none fun v36 r37 => (tkInt v36 none fun q38 n39 => (tkNil r37 none ((tkOut (env 73 [(pSite s), (.int .i64 i0), (.int .i64 i1), (.int q26 n27), (.int q38 n39)]) none (fun v40 => (tkInt v40 none fun q41 n42 => (bif (decide (q41 = .i64)) then (tkOut (env 73 [(pSite s), (.int .i64 i0), (.int .i64 i1), (.int q22 n23), (.int q34 n35)]) none (fun v43 => (tkInt v43 none fun q44 n45 => (bif (decide (q44 = .i64)) then (L100x2 env F s y B C m0 fu i0 (IntKind.wrap .i64 (i1 + (1 : Int))) i2 1 1 (fun u46 => [(.int .i64 i0), (.int .i64 i1), (.bool (decide (n42 < (Site.wall s)))), (.bool (decide (n45 < (Site.wall s))))]) b3 k4 k5 g6 b7)
                                                      else none)))
                                                  (fun p43 => (tkIfc p43 none fun t44 x45 => (bif (flatP (.iface t44 x45)) then none
                                                      else none))))
                                                else none)))
                                            (fun p40 => (tkIfc p40 none fun t41 x42 => (bif (flatP (.iface t41 x42)) then none
                                                else none))))))))))
                                else none)
                              else none)
                            else none)
                          else none))))))))
            else none)
          else none)
        else none)
      else none))
  else (L100x0 env F s y B C m0 (IntKind.wrap .i64 (i2 + (1 : Int))) b3 k4 k5 g6 b7)) := by kernel_rfl
theorem L100x2s (env : Env) (F : Nat) (s : Site) (y : Day) (B : V) (C : V) (m0 : Nat) (fu : Nat) (i0 : Int) (i1 : Int) (i2 : Int) (k3 : Nat) (k4 : Nat) (g5 : Nat → List V) (b6 : Bool) (k7 : Nat) (k8 : Nat) (g9 : Nat → List V) (b10 : Bool) : L100x2 env F s y B C m0 (fu + 1) i0 i1 i2 k3 k4 g5 b6 k7 k8 g9 b10 =
  (bif (decide (i1 < (((Sl.len (Site.cavs s)) : Nat) : Int))) then (tkRow C none fun nl19 n20 wd21 g22 => (bif (wd21 == 6) then (bif (decide ((0 : Int) ≤ i0)) then (bif (decide (i0 < ((n20 : Nat) : Int))) then (bif ((List.length (List.take 2 (g22 (Int.toNat i0)))) == 2) then (tkCons (List.take 2 (g22 (Int.toNat i0))) none fun v23 r24 => (tkInt v23 none fun q25 n26 => (tkCons r24 none fun v27 r28 => (tkInt v27 none fun q29 n30 => (tkNil r28 none ((tkRow C none fun nl31 n32 wd33 g34 => (bif (wd33 == 6) then (bif (decide ((0 : Int) ≤ i1)) then (bif (decide (i1 < ((n32 : Nat) : Int))) then (bif ((List.length (List.take 2 (g34 (Int.toNat i1)))) == 2) then (tkCons (List.take 2 (g34 (Int.toNat i1))) none fun v35 r36 => (tkInt v35 none fun q37 n38 => (tkCons r36 none fun v39 r40 => (tkInt v39 none fun q41 n42 => (tkNil r40 none ((tkOut (env 73 [(pSite s), (.int .i64 i0), (.int .i64 i1), (.int q29 n30), (.int q41 n42)]) none (fun v43 => (tkInt v43 none fun q44 n45 => (bif (decide (q44 = .i64)) then (tkOut (env 73 [(pSite s), (.int .i64 i0), (.int .i64 i1), (.int q25 n26), (.int q37 n38)]) none (fun v46 => (tkInt v46 none fun q47 n48 => (bif (decide (q47 = .i64)) then (bif (decide (((k3 + 1) * 24) ≤ 140737488355328)) then (L100x2 env F s y B C m0 fu i0 (IntKind.wrap .i64 (i1 + (1 : Int))) i2 (k3 + 1) (k3 + 1) (appGet k3 g5 (fun u49 => [(.int .i64 i0), (.int .i64 i1), (.bool (decide (n45 < (Site.wall s)))), (.bool (decide (n48 < (Site.wall s))))])) b6 k7 k8 g9 b10)
                                                        else none)
                                                      else none)))
                                                  (fun p46 => (tkIfc p46 none fun t47 x48 => (bif (flatP (.iface t47 x48)) then none
                                                      else none))))
                                                else none)))
                                            (fun p43 => (tkIfc p43 none fun t44 x45 => (bif (flatP (.iface t44 x45)) then none
                                                else none))))))))))
                                else none)
                              else none)
                            else none)
                          else none))))))))
            else none)
          else none)
        else none)
      else none))
  else (L100x3 env F s y B C m0 (IntKind.wrap .i64 (i2 + (1 : Int))) k3 k4 g5 b6 k7 k8 g9 b10)) := by kernel_rfl
theorem L100x3s (env : Env) (F : Nat) (s : Site) (y : Day) (B : V) (C : V) (fu : Nat) (i0 : Int) (k1 : Nat) (k2 : Nat) (g3 : Nat → List V) (b4 : Bool) (k5 : Nat) (k6 : Nat) (g7 : Nat → List V) (b8 : Bool) : L100x3 env F s y B C (fu + 1) i0 k1 k2 g3 b4 k5 k6 g7 b8 =
  (bif (decide (i0 < (((Sl.len (Site.cavs s)) : Nat) : Int))) then (L100x2 env F s y B C fu F i0 (IntKind.wrap .i64 (i0 + (1 : Int))) i0 k1 k2 g3 b4 k5 k6 g7 b8)
  else some (.ret (.row false k1 4 (fun u16 => (g3 u16))))) := by kernel_rfl

theorem t651 (env : Env) (F : Nat) (s : Site) (y : Day) (B : V) (C : V) (n : Int) : (evFun Try.prog (cfg (F + 7)) env 65 [(.rptr 1 5 (fun u7 => [(pSite s), (sl eSpan 2 (Day.press y)), (sl eSpan 2 (Day.warm y)), B, C]) 0 0), (.int .i64 n), (.fn (.func 66) [] [])]) =
  (tkOut (env 96 [(.rptr 1 5 (fun u7 => [(pSite s), (sl eSpan 2 (Day.press y)), (sl eSpan 2 (Day.warm y)), B, C]) 0 0)]) none (fun v7 => (tkRow v7 none fun nl8 n9 wd10 g11 => (tkOut (env 102 [(.row nl8 n9 wd10 g11), (.fn (.func 66) [] [])]) none (fun v12 => (tkInt v12 none fun q13 n14 => (bif (decide (q13 = .i64)) then (bif (decide (n14 ≥ (0 : Int))) then (bif (wd10 == 4) then (bif (decide ((0 : Int) ≤ n14)) then (bif (decide (n14 < ((n9 : Nat) : Int))) then (tkCons (g11 (Int.toNat n14)) none fun v15 r16 => (tkInt v15 none fun q17 n18 => (bif (wd10 == 4) then (bif (decide ((0 : Int) ≤ n14)) then (bif (decide (n14 < ((n9 : Nat) : Int))) then (tkCons (List.drop 1 (g11 (Int.toNat n14))) none fun v19 r20 => (tkInt v19 none fun q21 n22 => some (.ret (.tup [(.agg [(.int .i64 n), (.int .i64 (IntKind.wrap .i64 ((2 : Int) + (0 : Int)))), (.int q17 n18), (.int q21 n22)]), (.bool true)]))))
                            else none)
                          else none)
                        else none)))
                  else none)
                else none)
              else none)
            else (tkOut (env 97 [(.rptr 1 5 (fun u15 => [(pSite s), (sl eSpan 2 (Day.press y)), (sl eSpan 2 (Day.warm y)), B, C]) 0 0)]) none (fun v15 => (tkRow v15 none fun nl16 n17 wd18 g19 => (tkOut (env 102 [(.row nl16 n17 wd18 g19), (.fn (.func 66) [] [])]) none (fun v20 => (tkInt v20 none fun q21 n22 => (bif (decide (q21 = .i64)) then (bif (decide (n22 ≥ (0 : Int))) then (bif (wd18 == 4) then (bif (decide ((0 : Int) ≤ n22)) then (bif (decide (n22 < ((n17 : Nat) : Int))) then (tkCons (g19 (Int.toNat n22)) none fun v23 r24 => (tkInt v23 none fun q25 n26 => (bif (wd18 == 4) then (bif (decide ((0 : Int) ≤ n22)) then (bif (decide (n22 < ((n17 : Nat) : Int))) then (tkCons (List.drop 1 (g19 (Int.toNat n22))) none fun v27 r28 => (tkInt v27 none fun q29 n30 => some (.ret (.tup [(.agg [(.int .i64 n), (.int .i64 (IntKind.wrap .i64 ((2 : Int) + (IntKind.wrap .i64 ((0 : Int) + (1 : Int)))))), (.int q25 n26), (.int q29 n30)]), (.bool true)]))))
                                        else none)
                                      else none)
                                    else none)))
                              else none)
                            else none)
                          else none)
                        else (tkOut (env 98 [(.rptr 1 5 (fun u23 => [(pSite s), (sl eSpan 2 (Day.press y)), (sl eSpan 2 (Day.warm y)), B, C]) 0 0)]) none (fun v23 => (tkRow v23 none fun nl24 n25 wd26 g27 => (tkOut (env 102 [(.row nl24 n25 wd26 g27), (.fn (.func 66) [] [])]) none (fun v28 => (tkInt v28 none fun q29 n30 => (bif (decide (q29 = .i64)) then (bif (decide (n30 ≥ (0 : Int))) then (bif (wd26 == 4) then (bif (decide ((0 : Int) ≤ n30)) then (bif (decide (n30 < ((n25 : Nat) : Int))) then (tkCons (g27 (Int.toNat n30)) none fun v31 r32 => (tkInt v31 none fun q33 n34 => (bif (wd26 == 4) then (bif (decide ((0 : Int) ≤ n30)) then (bif (decide (n30 < ((n25 : Nat) : Int))) then (tkCons (List.drop 1 (g27 (Int.toNat n30))) none fun v35 r36 => (tkInt v35 none fun q37 n38 => some (.ret (.tup [(.agg [(.int .i64 n), (.int .i64 (IntKind.wrap .i64 ((2 : Int) + (IntKind.wrap .i64 ((IntKind.wrap .i64 ((0 : Int) + (1 : Int))) + (1 : Int)))))), (.int q33 n34), (.int q37 n38)]), (.bool true)]))))
                                                    else none)
                                                  else none)
                                                else none)))
                                          else none)
                                        else none)
                                      else none)
                                    else (tkOut (env 99 [(.rptr 1 5 (fun u31 => [(pSite s), (sl eSpan 2 (Day.press y)), (sl eSpan 2 (Day.warm y)), B, C]) 0 0)]) none (fun v31 => (tkRow v31 none fun nl32 n33 wd34 g35 => (tkOut (env 102 [(.row nl32 n33 wd34 g35), (.fn (.func 66) [] [])]) none (fun v36 => (tkInt v36 none fun q37 n38 => (bif (decide (q37 = .i64)) then (bif (decide (n38 ≥ (0 : Int))) then (bif (wd34 == 4) then (bif (decide ((0 : Int) ≤ n38)) then (bif (decide (n38 < ((n33 : Nat) : Int))) then (tkCons (g35 (Int.toNat n38)) none fun v39 r40 => (tkInt v39 none fun q41 n42 => (bif (wd34 == 4) then (bif (decide ((0 : Int) ≤ n38)) then (bif (decide (n38 < ((n33 : Nat) : Int))) then (tkCons (List.drop 1 (g35 (Int.toNat n38))) none fun v43 r44 => (tkInt v43 none fun q45 n46 => some (.ret (.tup [(.agg [(.int .i64 n), (.int .i64 (IntKind.wrap .i64 ((2 : Int) + (IntKind.wrap .i64 ((IntKind.wrap .i64 ((IntKind.wrap .i64 ((0 : Int) + (1 : Int))) + (1 : Int))) + (1 : Int)))))), (.int q41 n42), (.int q45 n46)]), (.bool true)]))))
                                                                else none)
                                                              else none)
                                                            else none)))
                                                      else none)
                                                    else none)
                                                  else none)
                                                else (tkOut (env 100 [(.rptr 1 5 (fun u39 => [(pSite s), (sl eSpan 2 (Day.press y)), (sl eSpan 2 (Day.warm y)), B, C]) 0 0)]) none (fun v39 => (tkRow v39 none fun nl40 n41 wd42 g43 => (tkOut (env 102 [(.row nl40 n41 wd42 g43), (.fn (.func 66) [] [])]) none (fun v44 => (tkInt v44 none fun q45 n46 => (bif (decide (q45 = .i64)) then (bif (decide (n46 ≥ (0 : Int))) then (bif (wd42 == 4) then (bif (decide ((0 : Int) ≤ n46)) then (bif (decide (n46 < ((n41 : Nat) : Int))) then (tkCons (g43 (Int.toNat n46)) none fun v47 r48 => (tkInt v47 none fun q49 n50 => (bif (wd42 == 4) then (bif (decide ((0 : Int) ≤ n46)) then (bif (decide (n46 < ((n41 : Nat) : Int))) then (tkCons (List.drop 1 (g43 (Int.toNat n46))) none fun v51 r52 => (tkInt v51 none fun q53 n54 => some (.ret (.tup [(.agg [(.int .i64 n), (.int .i64 (IntKind.wrap .i64 ((2 : Int) + (IntKind.wrap .i64 ((IntKind.wrap .i64 ((IntKind.wrap .i64 ((IntKind.wrap .i64 ((0 : Int) + (1 : Int))) + (1 : Int))) + (1 : Int))) + (1 : Int)))))), (.int q49 n50), (.int q53 n54)]), (.bool true)]))))
                                                                            else none)
                                                                          else none)
                                                                        else none)))
                                                                  else none)
                                                                else none)
                                                              else none)
                                                            else (tkOut (env 101 [(.rptr 1 5 (fun u47 => [(pSite s), (sl eSpan 2 (Day.press y)), (sl eSpan 2 (Day.warm y)), B, C]) 0 0)]) none (fun v47 => (tkRow v47 none fun nl48 n49 wd50 g51 => (tkOut (env 102 [(.row nl48 n49 wd50 g51), (.fn (.func 66) [] [])]) none (fun v52 => (tkInt v52 none fun q53 n54 => (bif (decide (q53 = .i64)) then (bif (decide (n54 ≥ (0 : Int))) then (bif (wd50 == 4) then (bif (decide ((0 : Int) ≤ n54)) then (bif (decide (n54 < ((n49 : Nat) : Int))) then (tkCons (g51 (Int.toNat n54)) none fun v55 r56 => (tkInt v55 none fun q57 n58 => (bif (wd50 == 4) then (bif (decide ((0 : Int) ≤ n54)) then (bif (decide (n54 < ((n49 : Nat) : Int))) then (tkCons (List.drop 1 (g51 (Int.toNat n54))) none fun v59 r60 => (tkInt v59 none fun q61 n62 => some (.ret (.tup [(.agg [(.int .i64 n), (.int .i64 (IntKind.wrap .i64 ((2 : Int) + (IntKind.wrap .i64 ((IntKind.wrap .i64 ((IntKind.wrap .i64 ((IntKind.wrap .i64 ((IntKind.wrap .i64 ((0 : Int) + (1 : Int))) + (1 : Int))) + (1 : Int))) + (1 : Int))) + (1 : Int)))))), (.int q57 n58), (.int q61 n62)]), (.bool true)]))))
                                                                                        else none)
                                                                                      else none)
                                                                                    else none)))
                                                                              else none)
                                                                            else none)
                                                                          else none)
                                                                        else some (.ret (.tup [(.agg [(.int .i64 (0 : Int)), (.int .i64 (1 : Int)), (.int .i64 (0 : Int)), (.int .i64 (0 : Int))]), (.bool false)])))
                                                                      else none)))
                                                                  (fun p52 => (tkIfc p52 none fun t53 x54 => (bif (flatP (.iface t53 x54)) then some (.pan (.iface t53 x54))
                                                                      else none))))))
                                                              (fun p47 => (tkIfc p47 none fun t48 x49 => (bif (flatP (.iface t48 x49)) then some (.pan (.iface t48 x49))
                                                                  else none)))))
                                                          else none)))
                                                      (fun p44 => (tkIfc p44 none fun t45 x46 => (bif (flatP (.iface t45 x46)) then some (.pan (.iface t45 x46))
                                                          else none))))))
                                                  (fun p39 => (tkIfc p39 none fun t40 x41 => (bif (flatP (.iface t40 x41)) then some (.pan (.iface t40 x41))
                                                      else none)))))
                                              else none)))
                                          (fun p36 => (tkIfc p36 none fun t37 x38 => (bif (flatP (.iface t37 x38)) then some (.pan (.iface t37 x38))
                                              else none))))))
                                      (fun p31 => (tkIfc p31 none fun t32 x33 => (bif (flatP (.iface t32 x33)) then some (.pan (.iface t32 x33))
                                          else none)))))
                                  else none)))
                              (fun p28 => (tkIfc p28 none fun t29 x30 => (bif (flatP (.iface t29 x30)) then some (.pan (.iface t29 x30))
                                  else none))))))
                          (fun p23 => (tkIfc p23 none fun t24 x25 => (bif (flatP (.iface t24 x25)) then some (.pan (.iface t24 x25))
                              else none)))))
                      else none)))
                  (fun p20 => (tkIfc p20 none fun t21 x22 => (bif (flatP (.iface t21 x22)) then some (.pan (.iface t21 x22))
                      else none))))))
              (fun p15 => (tkIfc p15 none fun t16 x17 => (bif (flatP (.iface t16 x17)) then some (.pan (.iface t16 x17))
                  else none)))))
          else none)))
      (fun p12 => (tkIfc p12 none fun t13 x14 => (bif (flatP (.iface t13 x14)) then some (.pan (.iface t13 x14))
          else none))))))
  (fun p7 => (tkIfc p7 none fun t8 x9 => (bif (flatP (.iface t8 x9)) then some (.pan (.iface t8 x9))
      else none)))) := by kernel_rfl

theorem t652 (env : Env) (F : Nat) (s : Site) (y : Day) (B : V) (C : V) (n : Int) : (evFun Try.prog (cfg (F + 7)) env 65 [(.rptr 1 5 (fun u7 => [(pSite s), (sl eSpan 2 (Day.press y)), (sl eSpan 2 (Day.warm y)), B, C]) 0 0), (.int .i64 n), (.fn (.func 67) [] [])]) =
  (tkOut (env 96 [(.rptr 1 5 (fun u7 => [(pSite s), (sl eSpan 2 (Day.press y)), (sl eSpan 2 (Day.warm y)), B, C]) 0 0)]) none (fun v7 => (tkRow v7 none fun nl8 n9 wd10 g11 => (tkOut (env 102 [(.row nl8 n9 wd10 g11), (.fn (.func 67) [] [])]) none (fun v12 => (tkInt v12 none fun q13 n14 => (bif (decide (q13 = .i64)) then (bif (decide (n14 ≥ (0 : Int))) then (bif (wd10 == 4) then (bif (decide ((0 : Int) ≤ n14)) then (bif (decide (n14 < ((n9 : Nat) : Int))) then (tkCons (g11 (Int.toNat n14)) none fun v15 r16 => (tkInt v15 none fun q17 n18 => (bif (wd10 == 4) then (bif (decide ((0 : Int) ≤ n14)) then (bif (decide (n14 < ((n9 : Nat) : Int))) then (tkCons (List.drop 1 (g11 (Int.toNat n14))) none fun v19 r20 => (tkInt v19 none fun q21 n22 => some (.ret (.tup [(.agg [(.int .i64 n), (.int .i64 (IntKind.wrap .i64 ((2 : Int) + (0 : Int)))), (.int q17 n18), (.int q21 n22)]), (.bool true)]))))
                            else none)
                          else none)
                        else none)))
                  else none)
                else none)
              else none)
            else (tkOut (env 97 [(.rptr 1 5 (fun u15 => [(pSite s), (sl eSpan 2 (Day.press y)), (sl eSpan 2 (Day.warm y)), B, C]) 0 0)]) none (fun v15 => (tkRow v15 none fun nl16 n17 wd18 g19 => (tkOut (env 102 [(.row nl16 n17 wd18 g19), (.fn (.func 67) [] [])]) none (fun v20 => (tkInt v20 none fun q21 n22 => (bif (decide (q21 = .i64)) then (bif (decide (n22 ≥ (0 : Int))) then (bif (wd18 == 4) then (bif (decide ((0 : Int) ≤ n22)) then (bif (decide (n22 < ((n17 : Nat) : Int))) then (tkCons (g19 (Int.toNat n22)) none fun v23 r24 => (tkInt v23 none fun q25 n26 => (bif (wd18 == 4) then (bif (decide ((0 : Int) ≤ n22)) then (bif (decide (n22 < ((n17 : Nat) : Int))) then (tkCons (List.drop 1 (g19 (Int.toNat n22))) none fun v27 r28 => (tkInt v27 none fun q29 n30 => some (.ret (.tup [(.agg [(.int .i64 n), (.int .i64 (IntKind.wrap .i64 ((2 : Int) + (IntKind.wrap .i64 ((0 : Int) + (1 : Int)))))), (.int q25 n26), (.int q29 n30)]), (.bool true)]))))
                                        else none)
                                      else none)
                                    else none)))
                              else none)
                            else none)
                          else none)
                        else (tkOut (env 98 [(.rptr 1 5 (fun u23 => [(pSite s), (sl eSpan 2 (Day.press y)), (sl eSpan 2 (Day.warm y)), B, C]) 0 0)]) none (fun v23 => (tkRow v23 none fun nl24 n25 wd26 g27 => (tkOut (env 102 [(.row nl24 n25 wd26 g27), (.fn (.func 67) [] [])]) none (fun v28 => (tkInt v28 none fun q29 n30 => (bif (decide (q29 = .i64)) then (bif (decide (n30 ≥ (0 : Int))) then (bif (wd26 == 4) then (bif (decide ((0 : Int) ≤ n30)) then (bif (decide (n30 < ((n25 : Nat) : Int))) then (tkCons (g27 (Int.toNat n30)) none fun v31 r32 => (tkInt v31 none fun q33 n34 => (bif (wd26 == 4) then (bif (decide ((0 : Int) ≤ n30)) then (bif (decide (n30 < ((n25 : Nat) : Int))) then (tkCons (List.drop 1 (g27 (Int.toNat n30))) none fun v35 r36 => (tkInt v35 none fun q37 n38 => some (.ret (.tup [(.agg [(.int .i64 n), (.int .i64 (IntKind.wrap .i64 ((2 : Int) + (IntKind.wrap .i64 ((IntKind.wrap .i64 ((0 : Int) + (1 : Int))) + (1 : Int)))))), (.int q33 n34), (.int q37 n38)]), (.bool true)]))))
                                                    else none)
                                                  else none)
                                                else none)))
                                          else none)
                                        else none)
                                      else none)
                                    else (tkOut (env 99 [(.rptr 1 5 (fun u31 => [(pSite s), (sl eSpan 2 (Day.press y)), (sl eSpan 2 (Day.warm y)), B, C]) 0 0)]) none (fun v31 => (tkRow v31 none fun nl32 n33 wd34 g35 => (tkOut (env 102 [(.row nl32 n33 wd34 g35), (.fn (.func 67) [] [])]) none (fun v36 => (tkInt v36 none fun q37 n38 => (bif (decide (q37 = .i64)) then (bif (decide (n38 ≥ (0 : Int))) then (bif (wd34 == 4) then (bif (decide ((0 : Int) ≤ n38)) then (bif (decide (n38 < ((n33 : Nat) : Int))) then (tkCons (g35 (Int.toNat n38)) none fun v39 r40 => (tkInt v39 none fun q41 n42 => (bif (wd34 == 4) then (bif (decide ((0 : Int) ≤ n38)) then (bif (decide (n38 < ((n33 : Nat) : Int))) then (tkCons (List.drop 1 (g35 (Int.toNat n38))) none fun v43 r44 => (tkInt v43 none fun q45 n46 => some (.ret (.tup [(.agg [(.int .i64 n), (.int .i64 (IntKind.wrap .i64 ((2 : Int) + (IntKind.wrap .i64 ((IntKind.wrap .i64 ((IntKind.wrap .i64 ((0 : Int) + (1 : Int))) + (1 : Int))) + (1 : Int)))))), (.int q41 n42), (.int q45 n46)]), (.bool true)]))))
                                                                else none)
                                                              else none)
                                                            else none)))
                                                      else none)
                                                    else none)
                                                  else none)
                                                else (tkOut (env 100 [(.rptr 1 5 (fun u39 => [(pSite s), (sl eSpan 2 (Day.press y)), (sl eSpan 2 (Day.warm y)), B, C]) 0 0)]) none (fun v39 => (tkRow v39 none fun nl40 n41 wd42 g43 => (tkOut (env 102 [(.row nl40 n41 wd42 g43), (.fn (.func 67) [] [])]) none (fun v44 => (tkInt v44 none fun q45 n46 => (bif (decide (q45 = .i64)) then (bif (decide (n46 ≥ (0 : Int))) then (bif (wd42 == 4) then (bif (decide ((0 : Int) ≤ n46)) then (bif (decide (n46 < ((n41 : Nat) : Int))) then (tkCons (g43 (Int.toNat n46)) none fun v47 r48 => (tkInt v47 none fun q49 n50 => (bif (wd42 == 4) then (bif (decide ((0 : Int) ≤ n46)) then (bif (decide (n46 < ((n41 : Nat) : Int))) then (tkCons (List.drop 1 (g43 (Int.toNat n46))) none fun v51 r52 => (tkInt v51 none fun q53 n54 => some (.ret (.tup [(.agg [(.int .i64 n), (.int .i64 (IntKind.wrap .i64 ((2 : Int) + (IntKind.wrap .i64 ((IntKind.wrap .i64 ((IntKind.wrap .i64 ((IntKind.wrap .i64 ((0 : Int) + (1 : Int))) + (1 : Int))) + (1 : Int))) + (1 : Int)))))), (.int q49 n50), (.int q53 n54)]), (.bool true)]))))
                                                                            else none)
                                                                          else none)
                                                                        else none)))
                                                                  else none)
                                                                else none)
                                                              else none)
                                                            else (tkOut (env 101 [(.rptr 1 5 (fun u47 => [(pSite s), (sl eSpan 2 (Day.press y)), (sl eSpan 2 (Day.warm y)), B, C]) 0 0)]) none (fun v47 => (tkRow v47 none fun nl48 n49 wd50 g51 => (tkOut (env 102 [(.row nl48 n49 wd50 g51), (.fn (.func 67) [] [])]) none (fun v52 => (tkInt v52 none fun q53 n54 => (bif (decide (q53 = .i64)) then (bif (decide (n54 ≥ (0 : Int))) then (bif (wd50 == 4) then (bif (decide ((0 : Int) ≤ n54)) then (bif (decide (n54 < ((n49 : Nat) : Int))) then (tkCons (g51 (Int.toNat n54)) none fun v55 r56 => (tkInt v55 none fun q57 n58 => (bif (wd50 == 4) then (bif (decide ((0 : Int) ≤ n54)) then (bif (decide (n54 < ((n49 : Nat) : Int))) then (tkCons (List.drop 1 (g51 (Int.toNat n54))) none fun v59 r60 => (tkInt v59 none fun q61 n62 => some (.ret (.tup [(.agg [(.int .i64 n), (.int .i64 (IntKind.wrap .i64 ((2 : Int) + (IntKind.wrap .i64 ((IntKind.wrap .i64 ((IntKind.wrap .i64 ((IntKind.wrap .i64 ((IntKind.wrap .i64 ((0 : Int) + (1 : Int))) + (1 : Int))) + (1 : Int))) + (1 : Int))) + (1 : Int)))))), (.int q57 n58), (.int q61 n62)]), (.bool true)]))))
                                                                                        else none)
                                                                                      else none)
                                                                                    else none)))
                                                                              else none)
                                                                            else none)
                                                                          else none)
                                                                        else some (.ret (.tup [(.agg [(.int .i64 (0 : Int)), (.int .i64 (1 : Int)), (.int .i64 (0 : Int)), (.int .i64 (0 : Int))]), (.bool false)])))
                                                                      else none)))
                                                                  (fun p52 => (tkIfc p52 none fun t53 x54 => (bif (flatP (.iface t53 x54)) then some (.pan (.iface t53 x54))
                                                                      else none))))))
                                                              (fun p47 => (tkIfc p47 none fun t48 x49 => (bif (flatP (.iface t48 x49)) then some (.pan (.iface t48 x49))
                                                                  else none)))))
                                                          else none)))
                                                      (fun p44 => (tkIfc p44 none fun t45 x46 => (bif (flatP (.iface t45 x46)) then some (.pan (.iface t45 x46))
                                                          else none))))))
                                                  (fun p39 => (tkIfc p39 none fun t40 x41 => (bif (flatP (.iface t40 x41)) then some (.pan (.iface t40 x41))
                                                      else none)))))
                                              else none)))
                                          (fun p36 => (tkIfc p36 none fun t37 x38 => (bif (flatP (.iface t37 x38)) then some (.pan (.iface t37 x38))
                                              else none))))))
                                      (fun p31 => (tkIfc p31 none fun t32 x33 => (bif (flatP (.iface t32 x33)) then some (.pan (.iface t32 x33))
                                          else none)))))
                                  else none)))
                              (fun p28 => (tkIfc p28 none fun t29 x30 => (bif (flatP (.iface t29 x30)) then some (.pan (.iface t29 x30))
                                  else none))))))
                          (fun p23 => (tkIfc p23 none fun t24 x25 => (bif (flatP (.iface t24 x25)) then some (.pan (.iface t24 x25))
                              else none)))))
                      else none)))
                  (fun p20 => (tkIfc p20 none fun t21 x22 => (bif (flatP (.iface t21 x22)) then some (.pan (.iface t21 x22))
                      else none))))))
              (fun p15 => (tkIfc p15 none fun t16 x17 => (bif (flatP (.iface t16 x17)) then some (.pan (.iface t16 x17))
                  else none)))))
          else none)))
      (fun p12 => (tkIfc p12 none fun t13 x14 => (bif (flatP (.iface t13 x14)) then some (.pan (.iface t13 x14))
          else none))))))
  (fun p7 => (tkIfc p7 none fun t8 x9 => (bif (flatP (.iface t8 x9)) then some (.pan (.iface t8 x9))
      else none)))) := by kernel_rfl

end Go.Sim.Cr

/-
  What the evaluator says of these functions (printed by a private program; each row is checked by the kernel).
-/
set_option maxRecDepth 100000
namespace Go.Sim.Cr
open Go.Proofs

theorem t46 (env : Env) (F : Nat) : (evFun Try.prog (cfg F) env 46 []) =
  some (.ret (.agg [(.row false 2 11 (fun u2 => (List.take 11 (List.drop ((Min.min u2 1) * 11) [(.int .i64 (0 : Int)), (.int .i64 (0 : Int)), (.int .i64 (30000 : Int)), (.int .i64 (31000 : Int)), (.int .i64 (400000 : Int)), (.int .i64 (410000 : Int)), (.int .i64 (20000 : Int)), (.int .i64 (399800 : Int)), (.int .i64 (6000 : Int)), (.int .i64 (16000 : Int)), (.int .i64 (3000 : Int)), (.int .i64 (100 : Int)), (.int .i64 (0 : Int)), (.int .i64 (30000 : Int)), (.int .i64 (30500 : Int)), (.int .i64 (300000 : Int)), (.int .i64 (300000 : Int)), (.int .i64 (20000 : Int)), (.int .i64 (290000 : Int)), (.int .i64 (6000 : Int)), (.int .i64 (16000 : Int)), (.int .i64 (3000 : Int))])))), (.row false 3 5 (fun u2 => (List.take 5 (List.drop ((Min.min u2 2) * 5) [(.int .i64 (0 : Int)), (.int .i64 (0 : Int)), (.int .i64 (10 : Int)), (.int .i64 (0 : Int)), (.int .i64 (0 : Int)), (.int .i64 (8000 : Int)), (.int .i64 (20 : Int)), (.int .i64 (50 : Int)), (.int .i64 (0 : Int)), (.int .i64 (5 : Int)), (.int .i64 (14000 : Int)), (.int .i64 (100 : Int)), (.int .i64 (200 : Int)), (.int .i64 (10 : Int)), (.int .i64 (30 : Int))])))), (.row false 2 3 (fun u2 => (List.take 3 (List.drop ((Min.min u2 1) * 3) [(.int .i64 (3000 : Int)), (.int .i64 (1000 : Int)), (.int .i64 (1000 : Int)), (.int .i64 (3200 : Int)), (.int .i64 (1000 : Int)), (.int .i64 (1200 : Int))])))), (.int .i64 (38440 : Int)), (.row false 2 3 (fun u2 => (List.take 3 (List.drop ((Min.min u2 1) * 3) [(.int .i64 (50 : Int)), (.int .i64 (900 : Int)), (.int .i64 (1000 : Int)), (.int .i64 (150 : Int)), (.int .i64 (100 : Int)), (.int .i64 (200 : Int))])))), (.row false 1 3 (fun u2 => [(.int .i64 (40 : Int)), (.int .i64 (0 : Int)), (.int .i64 (1 : Int))]))])) := by kernel_rfl

theorem t47 (env : Env) (F : Nat) : (evFun Try.prog (cfg F) env 47 []) =
  some (.ret (.agg [(.row false 2 2 (fun u2 => (List.take 2 (List.drop ((Min.min u2 1) * 2) [(.int .i64 (10000 : Int)), (.int .i64 (12000 : Int)), (.int .i64 (15000 : Int)), (.int .i64 (15000 : Int))])))), (.row false 2 2 (fun u2 => (List.take 2 (List.drop ((Min.min u2 1) * 2) [(.int .i64 (3100 : Int)), (.int .i64 (3100 : Int)), (.int .i64 (3100 : Int)), (.int .i64 (3100 : Int))]))))])) := by kernel_rfl

theorem t13 (env : Env) (F : Nat) : (evFun Try.prog (cfg F) env 13 []) =
  (tkOut (env 46 []) none (fun v2 => (tkAgg v2 none fun l3 => (tkCons l3 none fun v4 r5 => (tkRow v4 none fun nl6 n7 wd8 g9 => (tkCons r5 none fun v10 r11 => (tkRow v10 none fun nl12 n13 wd14 g15 => (tkCons r11 none fun v16 r17 => (tkRow v16 none fun nl18 n19 wd20 g21 => (tkCons r17 none fun v22 r23 => (tkInt v22 none fun q24 n25 => (tkCons r23 none fun v26 r27 => (tkRow v26 none fun nl28 n29 wd30 g31 => (tkCons r27 none fun v32 r33 => (tkRow v32 none fun nl34 n35 wd36 g37 => (tkNil r33 none ((tkOut (env 24 [(.agg [(.row nl6 n7 wd8 g9), (.row nl12 n13 wd14 g15), (.row nl18 n19 wd20 g21), (.int q24 n25), (.row nl28 n29 wd30 g31), (.row nl34 n35 wd36 g37)])]) none (fun v38 => (tkTup v38 none fun l39 => (tkCons l39 none fun v40 r41 => (tkRow v40 none fun nl42 n43 wd44 g45 => (tkCons r41 none fun v46 r47 => (tkInt v46 none fun q48 n49 => (tkNil r47 none ((tkOut (env 46 []) none (fun v50 => (tkAgg v50 none fun l51 => (tkCons l51 none fun v52 r53 => (tkRow v52 none fun nl54 n55 wd56 g57 => (tkCons r53 none fun v58 r59 => (tkRow v58 none fun nl60 n61 wd62 g63 => (tkCons r59 none fun v64 r65 => (tkRow v64 none fun nl66 n67 wd68 g69 => (tkCons r65 none fun v70 r71 => (tkInt v70 none fun q72 n73 => (tkCons r71 none fun v74 r75 => (tkRow v74 none fun nl76 n77 wd78 g79 => (tkCons r75 none fun v80 r81 => (tkRow v80 none fun nl82 n83 wd84 g85 => (tkNil r81 none ((tkOut (env 47 []) none (fun v86 => (tkAgg v86 none fun l87 => (tkCons l87 none fun v88 r89 => (tkRow v88 none fun nl90 n91 wd92 g93 => (tkCons r89 none fun v94 r95 => (tkRow v94 none fun nl96 n97 wd98 g99 => (tkNil r95 none ((tkOut (env 14 [(.agg [(.row nl54 n55 wd56 g57), (.row nl60 n61 wd62 g63), (.row nl66 n67 wd68 g69), (.int q72 n73), (.row nl76 n77 wd78 g79), (.row nl82 n83 wd84 g85)]), (.row nl42 n43 wd44 g45), (.agg [(.row nl90 n91 wd92 g93), (.row nl96 n97 wd98 g99)])]) none (fun v100 => (tkTup v100 none fun l101 => (tkCons l101 none fun v102 r103 => (tkRow v102 none fun nl104 n105 wd106 g107 => (tkCons r103 none fun v108 r109 => (tkInt v108 none fun q110 n111 => (tkNil r109 none ((tkOut (env 46 []) none (fun v112 => (tkAgg v112 none fun l113 => (tkCons l113 none fun v114 r115 => (tkRow v114 none fun nl116 n117 wd118 g119 => (tkCons r115 none fun v120 r121 => (tkRow v120 none fun nl122 n123 wd124 g125 => (tkCons r121 none fun v126 r127 => (tkRow v126 none fun nl128 n129 wd130 g131 => (tkCons r127 none fun v132 r133 => (tkInt v132 none fun q134 n135 => (tkCons r133 none fun v136 r137 => (tkRow v136 none fun nl138 n139 wd140 g141 => (tkCons r137 none fun v142 r143 => (tkRow v142 none fun nl144 n145 wd146 g147 => (tkNil r143 none ((tkOut (env 37 [(.agg [(.row nl116 n117 wd118 g119), (.row nl122 n123 wd124 g125), (.row nl128 n129 wd130 g131), (.int q134 n135), (.row nl138 n139 wd140 g141), (.row nl144 n145 wd146 g147)]), (.int .i64 (0 : Int)), (.int .i64 (1 : Int))]) none (fun v148 => (tkTup v148 none fun l149 => (tkCons l149 none fun v150 r151 => (tkAgg v150 none fun l152 => (tkCons l152 none fun v153 r154 => (tkInt v153 none fun q155 n156 => (tkCons r154 none fun v157 r158 => (tkInt v157 none fun q159 n160 => (tkNil r158 none ((tkCons r151 none fun v161 r162 => (tkInt v161 none fun q163 n164 => (tkNil r162 none ((tkOut (env 46 []) none (fun v165 => (tkAgg v165 none fun l166 => (tkCons l166 none fun v167 r168 => (tkRow v167 none fun nl169 n170 wd171 g172 => (tkCons r168 none fun v173 r174 => (tkRow v173 none fun nl175 n176 wd177 g178 => (tkCons r174 none fun v179 r180 => (tkRow v179 none fun nl181 n182 wd183 g184 => (tkCons r180 none fun v185 r186 => (tkInt v185 none fun q187 n188 => (tkCons r186 none fun v189 r190 => (tkRow v189 none fun nl191 n192 wd193 g194 => (tkCons r190 none fun v195 r196 => (tkRow v195 none fun nl197 n198 wd199 g200 => (tkNil r196 none ((tkOut (env 15 [(.agg [(.row nl169 n170 wd171 g172), (.row nl175 n176 wd177 g178), (.row nl181 n182 wd183 g184), (.int q187 n188), (.row nl191 n192 wd193 g194), (.row nl197 n198 wd199 g200)]), (.row nl104 n105 wd106 g107), (.int .i64 (40 : Int)), (.int .i64 (0 : Int))]) none (fun v201 => (tkTup v201 none fun l202 => (tkCons l202 none fun v203 r204 => (tkAgg v203 none fun l205 => (tkCons l205 none fun v206 r207 => (tkInt v206 none fun q208 n209 => (tkCons r207 none fun v210 r211 => (tkInt v210 none fun q212 n213 => (tkNil r211 none ((tkCons r204 none fun v214 r215 => (tkInt v214 none fun q216 n217 => (tkNil r215 none ((tkOut (env 46 []) none (fun v218 => (tkAgg v218 none fun l219 => (tkCons l219 none fun v220 r221 => (tkRow v220 none fun nl222 n223 wd224 g225 => (tkCons r221 none fun v226 r227 => (tkRow v226 none fun nl228 n229 wd230 g231 => (tkCons r227 none fun v232 r233 => (tkRow v232 none fun nl234 n235 wd236 g237 => (tkCons r233 none fun v238 r239 => (tkInt v238 none fun q240 n241 => (tkCons r239 none fun v242 r243 => (tkRow v242 none fun nl244 n245 wd246 g247 => (tkCons r243 none fun v248 r249 => (tkRow v248 none fun nl250 n251 wd252 g253 => (tkNil r249 none ((tkOut (env 47 []) none (fun v254 => (tkAgg v254 none fun l255 => (tkCons l255 none fun v256 r257 => (tkRow v256 none fun nl258 n259 wd260 g261 => (tkCons r257 none fun v262 r263 => (tkRow v262 none fun nl264 n265 wd266 g267 => (tkNil r263 none ((tkOut (env 30 [(.agg [(.row nl222 n223 wd224 g225), (.row nl228 n229 wd230 g231), (.row nl234 n235 wd236 g237), (.int q240 n241), (.row nl244 n245 wd246 g247), (.row nl250 n251 wd252 g253)]), (.row false 1 2 (fun u268 => [(.row nl258 n259 wd260 g261), (.row nl264 n265 wd266 g267)]))]) none (fun v268 => (tkTup v268 none fun l269 => (tkCons l269 none fun v270 r271 => (tkAgg v270 none fun l272 => (tkCons l272 none fun v273 r274 => (tkInt v273 none fun q275 n276 => (tkCons r274 none fun v277 r278 => (tkInt v277 none fun q279 n280 => (tkCons r278 none fun v281 r282 => (tkInt v281 none fun q283 n284 => (tkCons r282 none fun v285 r286 => (tkInt v285 none fun q287 n288 => (tkNil r286 none ((tkCons r271 none fun v289 r290 => (tkAgg v289 none fun l291 => (tkCons l291 none fun v292 r293 => (tkInt v292 none fun q294 n295 => (tkCons r293 none fun v296 r297 => (tkInt v296 none fun q298 n299 => (tkCons r297 none fun v300 r301 => (tkInt v300 none fun q302 n303 => (tkCons r301 none fun v304 r305 => (tkInt v304 none fun q306 n307 => (tkNil r305 none ((tkCons r290 none fun v308 r309 => (tkInt v308 none fun q310 n311 => (tkNil r309 none ((tkOut (env 46 []) none (fun v312 => (tkAgg v312 none fun l313 => (tkCons l313 none fun v314 r315 => (tkRow v314 none fun nl316 n317 wd318 g319 => (tkCons r315 none fun v320 r321 => (tkRow v320 none fun nl322 n323 wd324 g325 => (tkCons r321 none fun v326 r327 => (tkRow v326 none fun nl328 n329 wd330 g331 => (tkCons r327 none fun v332 r333 => (tkInt v332 none fun q334 n335 => (tkCons r333 none fun v336 r337 => (tkRow v336 none fun nl338 n339 wd340 g341 => (tkCons r337 none fun v342 r343 => (tkRow v342 none fun nl344 n345 wd346 g347 => (tkNil r343 none ((tkOut (env 41 [(.agg [(.row nl316 n317 wd318 g319), (.row nl322 n323 wd324 g325), (.row nl328 n329 wd330 g331), (.int q334 n335), (.row nl338 n339 wd340 g341), (.row nl344 n345 wd346 g347)]), (.int .i64 (0 : Int)), (.agg [(.int .i64 (10000 : Int)), (.int .i64 (12000 : Int))]), (.agg [(.int .i64 (3100 : Int)), (.int .i64 (3100 : Int))])]) none (fun v348 => (tkTup v348 none fun l349 => (tkCons l349 none fun v350 r351 => (tkInt v350 none fun q352 n353 => (tkCons r351 none fun v354 r355 => (tkInt v354 none fun q356 n357 => (tkNil r355 none ((bif (decide (q48 = .i64)) then (bif (n49 != (0 : Int)) then some (.ret (.bool false))
                        else (bif (decide (q110 = .i64)) then (bif (n111 != (0 : Int)) then some (.ret (.bool false))
                        else (bif (decide (q163 = .i64)) then (bif (n164 != (0 : Int)) then some (.ret (.bool false))
                        else (bif (decide (q216 = .i64)) then (bif (n217 != (0 : Int)) then some (.ret (.bool false))
                        else (bif (decide (q310 = .i64)) then (bif (n311 != (0 : Int)) then some (.ret (.bool false))
                        else (bif (decide (q356 = .i64)) then (bif (n357 != (0 : Int)) then some (.ret (.bool false))
                        else (bif (((n105 : Nat) : Int) != (2 : Int)) then some (.ret (.bool false))
                        else (bif (decide (q352 = .i64)) then (bif (n353 != (2 : Int)) then some (.ret (.bool false))
                        else (bif (wd106 == 6) then (bif (decide ((0 : Int) < ((n105 : Nat) : Int))) then (bif ((List.length (List.take 6 (g107 0))) == 6) then (tkCons (List.take 6 (g107 0)) none fun v358 r359 => (tkInt v358 none fun q360 n361 => (tkCons r359 none fun v362 r363 => (tkInt v362 none fun q364 n365 => (tkCons r363 none fun v366 r367 => (tkInt v366 none fun q368 n369 => (tkCons r367 none fun v370 r371 => (tkInt v370 none fun q372 n373 => (tkCons r371 none fun v374 r375 => (tkInt v374 none fun q376 n377 => (tkCons r375 none fun v378 r379 => (tkInt v378 none fun q380 n381 => (tkNil r379 none ((bif (decide (q360 = .i64)) then (bif (decide (q364 = .i64)) then (bif (decide (q368 = .i64)) then (bif (decide (q372 = .i64)) then (bif (decide (q376 = .i64)) then (bif (decide (q380 = .i64)) then (bif ((n361 == (30000 : Int)) && ((n365 == (31030 : Int)) && ((n369 == (399904 : Int)) && ((n373 == (409992 : Int)) && ((n377 == (8 : Int)) && ((n381 == (99 : Int)) && true)))))) then (bif (decide (q155 = .i64)) then (bif (decide (q159 = .i64)) then (bif ((n156 == (38500 : Int)) && ((n160 == (40000 : Int)) && true)) then (bif (decide (q208 = .i64)) then (bif (decide (q212 = .i64)) then (bif ((n209 == (0 : Int)) && ((n213 == (2 : Int)) && true)) then (bif (decide (q275 = .i64)) then (bif (decide (q279 = .i64)) then (bif (decide (q283 = .i64)) then (bif (decide (q287 = .i64)) then (bif ((n276 == (0 : Int)) && ((n280 == (7 : Int)) && ((n284 == (0 : Int)) && ((n288 == (0 : Int)) && true)))) then (bif (decide (q294 = .i64)) then (bif (decide (q298 = .i64)) then (bif (decide (q302 = .i64)) then (bif (decide (q306 = .i64)) then some (.ret (.bool ((n295 == (0 : Int)) && ((n299 == (1 : Int)) && ((n303 == (0 : Int)) && ((n307 == (0 : Int)) && true))))))
                        else none)
                        else none)
                        else none)
                        else none)
                        else some (.ret (.bool false)))
                        else none)
                        else none)
                        else none)
                        else none)
                        else some (.ret (.bool false)))
                        else none)
                        else none)
                        else some (.ret (.bool false)))
                        else none)
                        else none)
                        else some (.ret (.bool false)))
                        else none)
                        else none)
                        else none)
                        else none)
                        else none)
                        else none)))))))))))))))
                        else none)
                        else none)
                        else none))
                        else none)))
                        else none))
                        else none))
                        else none))
                        else none))
                        else none))
                        else none)))))))))
                        (fun p348 => (tkIfc p348 none fun t349 x350 => (bif (flatP (.iface t349 x350)) then some (.pan (.iface t349 x350))
                        else none))))))))))))))))))))
                        (fun p312 => (tkIfc p312 none fun t313 x314 => (bif (flatP (.iface t313 x314)) then some (.pan (.iface t313 x314))
                        else none))))))))))))))))))))))))))))))))))
                        (fun p268 => (tkIfc p268 none fun t269 x270 => (bif (flatP (.iface t269 x270)) then some (.pan (.iface t269 x270))
                        else none))))))))))))
                        (fun p254 => (tkIfc p254 none fun t255 x256 => (bif (flatP (.iface t255 x256)) then some (.pan (.iface t255 x256))
                        else none))))))))))))))))))))
                        (fun p218 => (tkIfc p218 none fun t219 x220 => (bif (flatP (.iface t219 x220)) then some (.pan (.iface t219 x220))
                        else none))))))))))))))))))
                        (fun p201 => (tkIfc p201 none fun t202 x203 => (bif (flatP (.iface t202 x203)) then some (.pan (.iface t202 x203))
                        else none))))))))))))))))))))
                        (fun p165 => (tkIfc p165 none fun t166 x167 => (bif (flatP (.iface t166 x167)) then some (.pan (.iface t166 x167))
                        else none))))))))))))))))))
                        (fun p148 => (tkIfc p148 none fun t149 x150 => (bif (flatP (.iface t149 x150)) then some (.pan (.iface t149 x150))
                        else none))))))))))))))))))))
                        (fun p112 => (tkIfc p112 none fun t113 x114 => (bif (flatP (.iface t113 x114)) then some (.pan (.iface t113 x114))
                        else none))))))))))))
                        (fun p100 => (tkIfc p100 none fun t101 x102 => (bif (flatP (.iface t101 x102)) then some (.pan (.iface t101 x102))
                        else none))))))))))))
                        (fun p86 => (tkIfc p86 none fun t87 x88 => (bif (flatP (.iface t87 x88)) then some (.pan (.iface t87 x88))
                        else none))))))))))))))))))))
                        (fun p50 => (tkIfc p50 none fun t51 x52 => (bif (flatP (.iface t51 x52)) then some (.pan (.iface t51 x52))
                        else none))))))))))))
                        (fun p38 => (tkIfc p38 none fun t39 x40 => (bif (flatP (.iface t39 x40)) then some (.pan (.iface t39 x40))
                        else none))))))))))))))))))))
  (fun p2 => (tkIfc p2 none fun t3 x4 => (bif (flatP (.iface t3 x4)) then some (.pan (.iface t3 x4))
      else none)))) := by kernel_rfl

end Go.Sim.Cr
