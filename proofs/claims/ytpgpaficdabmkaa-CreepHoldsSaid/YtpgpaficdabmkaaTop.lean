/-
  CreepHolds holds for every input: called with any site, days and percentages, the law returns true, and its arguments read behind the call as before. No condition.
-/
import Derived.Test.YtpgpaficdabmkaaAf
import Derived.KernelRfl
set_option linter.unusedVariables false
set_option linter.unusedSimpArgs false
set_option linter.unusedSectionVars false
/-
  What the evaluator says of these functions (printed by a private program; each row is checked by the kernel).
-/
set_option maxRecDepth 100000
namespace Go.Sim.Cr
open Go.Proofs

noncomputable def L6x0 (env : Env) (F : Nat) (s : Site) (ds : Sl Day) (wh : Sl Int) (fu : Nat) (i0 : Int) : Option Out := atLoop Try.prog (cfg F) env 6 [.r, .r, .l, .r, .d] [] fu { tm := tmL 241 0 [(1, (sl eDay 2 ds)), (2, (sl eInt 1 wh)), (3, (.optr 0 0 0)), (7, (.int .i64 i0))], hp := [(.box 28 (eSite s) true)] }
noncomputable def L6x1 (env : Env) (F : Nat) (s : Site) (ds : Sl Day) (wh : Sl Int) (fu : Nat) (q0 : IntKind) (i1 : Int) (q2 : IntKind) (i3 : Int) (q4 : IntKind) (i5 : Int) (q6 : IntKind) (i7 : Int) (q8 : IntKind) (i9 : Int) (q10 : IntKind) (i11 : Int) (q12 : IntKind) (i13 : Int) (q14 : IntKind) (i15 : Int) : Option Out := atLoop Try.prog (cfg F) env 6 [.r, .r, .r, .r, .r, .r, .l, .r, .d] [] fu { tm := tmL 241 0 [(1, (sl eDay 2 ds)), (2, (sl eInt 1 wh)), (3, (.optr 0 0 0)), (8, (.optr 1 0 0)), (9, (.optr 2 0 0)), (11, (.row true 0 0 (fun u22 => []))), (12, (.int .i64 (0 : Int)))], hp := [(.box 28 (eSite s) true), (.box 71 [(.int q0 i1), (.int q2 i3), (.int q4 i5), (.int q6 i7)] true), (.box 71 [(.int q8 i9), (.int q10 i11), (.int q12 i13), (.int q14 i15)] true)] }
noncomputable def L6x2 (env : Env) (F : Nat) (s : Site) (ds : Sl Day) (wh : Sl Int) (fu : Nat) (k0 : Nat) (i1 : Int) (q2 : IntKind) (i3 : Int) (q4 : IntKind) (i5 : Int) (q6 : IntKind) (i7 : Int) (q8 : IntKind) (i9 : Int) (q10 : IntKind) (i11 : Int) (q12 : IntKind) (i13 : Int) (q14 : IntKind) (i15 : Int) (q16 : IntKind) (i17 : Int) (k18 : Nat) (g19 : Nat → List V) : Option Out := atLoop Try.prog (cfg F) env 6 [.r, .r, .r, .r, .r, .r, .l, .r, .d] [] fu { tm := tmL 241 0 [(1, (sl eDay 2 ds)), (2, (sl eInt 1 wh)), (3, (.optr 0 0 0)), (8, (.optr 1 0 0)), (9, (.optr 2 0 0)), (11, (.osl 3 0 k0)), (12, (.int .i64 i1))], hp := [(.box 28 (eSite s) true), (.box 71 [(.int q2 i3), (.int q4 i5), (.int q6 i7), (.int q8 i9)] true), (.box 71 [(.int q10 i11), (.int q12 i13), (.int q14 i15), (.int q16 i17)] true), (.arr 61 3 k18 g19 true)] }
noncomputable def L6x3 (env : Env) (F : Nat) (s : Site) (ds : Sl Day) (wh : Sl Int) (fu : Nat) (i0 : Int) (q1 : IntKind) (i2 : Int) (q3 : IntKind) (i4 : Int) (q5 : IntKind) (i6 : Int) (q7 : IntKind) (i8 : Int) (q9 : IntKind) (i10 : Int) (q11 : IntKind) (i12 : Int) (q13 : IntKind) (i14 : Int) (q15 : IntKind) (i16 : Int) : Option Out := atLoop Try.prog (cfg F) env 6 [.r, .r, .r, .r, .r, .r, .r, .r, .l, .r, .d] [] fu { tm := tmL 241 0 [(1, (sl eDay 2 ds)), (2, (sl eInt 1 wh)), (3, (.optr 0 0 0)), (8, (.optr 1 0 0)), (9, (.optr 2 0 0)), (11, (.row true 0 0 (fun u23 => []))), (14, (.row true 0 0 (fun u23 => []))), (15, (.int .i64 i0))], hp := [(.box 28 (eSite s) true), (.box 71 [(.int q1 i2), (.int q3 i4), (.int q5 i6), (.int q7 i8)] true), (.box 71 [(.int q9 i10), (.int q11 i12), (.int q13 i14), (.int q15 i16)] true)] }
noncomputable def L6x4 (env : Env) (F : Nat) (s : Site) (ds : Sl Day) (wh : Sl Int) (fu : Nat) (k0 : Nat) (i1 : Int) (q2 : IntKind) (i3 : Int) (q4 : IntKind) (i5 : Int) (q6 : IntKind) (i7 : Int) (q8 : IntKind) (i9 : Int) (q10 : IntKind) (i11 : Int) (q12 : IntKind) (i13 : Int) (q14 : IntKind) (i15 : Int) (q16 : IntKind) (i17 : Int) (k18 : Nat) (g19 : Nat → List V) : Option Out := atLoop Try.prog (cfg F) env 6 [.r, .r, .r, .r, .r, .r, .r, .r, .l, .r, .d] [] fu { tm := tmL 241 0 [(1, (sl eDay 2 ds)), (2, (sl eInt 1 wh)), (3, (.optr 0 0 0)), (8, (.optr 1 0 0)), (9, (.optr 2 0 0)), (11, (.osl 3 0 k0)), (14, (.row true 0 0 (fun u26 => []))), (15, (.int .i64 i1))], hp := [(.box 28 (eSite s) true), (.box 71 [(.int q2 i3), (.int q4 i5), (.int q6 i7), (.int q8 i9)] true), (.box 71 [(.int q10 i11), (.int q12 i13), (.int q14 i15), (.int q16 i17)] true), (.arr 61 3 k18 g19 true)] }
noncomputable def L6x5 (env : Env) (F : Nat) (s : Site) (ds : Sl Day) (wh : Sl Int) (m0 : Nat) (fu : Nat) (i0 : Int) (q1 : IntKind) (i2 : Int) (q3 : IntKind) (i4 : Int) (q5 : IntKind) (i6 : Int) (q7 : IntKind) (i8 : Int) (q9 : IntKind) (i10 : Int) (q11 : IntKind) (i12 : Int) (q13 : IntKind) (i14 : Int) (q15 : IntKind) (i16 : Int) : Option Out := atLoop Try.prog (cfg F) env 6 [.r, .r, .r, .r, .r, .r, .r, .r, .l, .r, .d, .d, .r, .l, .d, .r, .l, .r, .d] [m0] fu { tm := tmL 241 0 [(1, (sl eDay 2 ds)), (2, (sl eInt 1 wh)), (3, (.optr 0 0 0)), (8, (.optr 1 0 0)), (9, (.optr 2 0 0)), (11, (.row true 0 0 (fun u24 => []))), (14, (.row true 0 0 (fun u24 => []))), (15, (.int .i64 i0)), (16, (.row true 0 0 (fun u24 => []))), (17, (.int .i64 (0 : Int)))], hp := [(.box 28 (eSite s) true), (.box 71 [(.int q1 i2), (.int q3 i4), (.int q5 i6), (.int q7 i8)] true), (.box 71 [(.int q9 i10), (.int q11 i12), (.int q13 i14), (.int q15 i16)] true)] }
noncomputable def L6x6 (env : Env) (F : Nat) (s : Site) (ds : Sl Day) (wh : Sl Int) (m0 : Nat) (fu : Nat) (k0 : Nat) (i1 : Int) (q2 : IntKind) (i3 : Int) (q4 : IntKind) (i5 : Int) (q6 : IntKind) (i7 : Int) (q8 : IntKind) (i9 : Int) (q10 : IntKind) (i11 : Int) (q12 : IntKind) (i13 : Int) (q14 : IntKind) (i15 : Int) (q16 : IntKind) (i17 : Int) (k18 : Nat) (g19 : Nat → List V) : Option Out := atLoop Try.prog (cfg F) env 6 [.r, .r, .r, .r, .r, .r, .r, .r, .l, .r, .d, .d, .r, .l, .d, .r, .l, .r, .d] [m0] fu { tm := tmL 241 0 [(1, (sl eDay 2 ds)), (2, (sl eInt 1 wh)), (3, (.optr 0 0 0)), (8, (.optr 1 0 0)), (9, (.optr 2 0 0)), (11, (.osl 3 0 k0)), (14, (.row true 0 0 (fun u27 => []))), (15, (.int .i64 i1)), (16, (.row true 0 0 (fun u27 => []))), (17, (.int .i64 (0 : Int)))], hp := [(.box 28 (eSite s) true), (.box 71 [(.int q2 i3), (.int q4 i5), (.int q6 i7), (.int q8 i9)] true), (.box 71 [(.int q10 i11), (.int q12 i13), (.int q14 i15), (.int q16 i17)] true), (.arr 61 3 k18 g19 true)] }
noncomputable def L6x7 (env : Env) (F : Nat) (s : Site) (ds : Sl Day) (wh : Sl Int) (m0 : Nat) (fu : Nat) (k0 : Nat) (i1 : Int) (k2 : Nat) (i3 : Int) (q4 : IntKind) (i5 : Int) (q6 : IntKind) (i7 : Int) (q8 : IntKind) (i9 : Int) (q10 : IntKind) (i11 : Int) (q12 : IntKind) (i13 : Int) (q14 : IntKind) (i15 : Int) (q16 : IntKind) (i17 : Int) (q18 : IntKind) (i19 : Int) (k20 : Nat) (g21 : Nat → List V) (k22 : Nat) (g23 : Nat → List V) : Option Out := atLoop Try.prog (cfg F) env 6 [.r, .r, .r, .r, .r, .r, .r, .r, .l, .r, .d, .d, .r, .l, .d, .r, .l, .r, .d] [m0] fu { tm := tmL 241 0 [(1, (sl eDay 2 ds)), (2, (sl eInt 1 wh)), (3, (.optr 0 0 0)), (8, (.optr 1 0 0)), (9, (.optr 2 0 0)), (11, (.osl 3 0 k0)), (14, (.row true 0 0 (fun u31 => []))), (15, (.int .i64 i1)), (16, (.osl 4 0 k2)), (17, (.int .i64 i3))], hp := [(.box 28 (eSite s) true), (.box 71 [(.int q4 i5), (.int q6 i7), (.int q8 i9), (.int q10 i11)] true), (.box 71 [(.int q12 i13), (.int q14 i15), (.int q16 i17), (.int q18 i19)] true), (.arr 61 3 k20 g21 true), (.arr 3 1 k22 g23 true)] }
noncomputable def L6x8 (env : Env) (F : Nat) (s : Site) (ds : Sl Day) (wh : Sl Int) (fu : Nat) (k0 : Nat) (k1 : Nat) (i2 : Int) (q3 : IntKind) (i4 : Int) (q5 : IntKind) (i6 : Int) (q7 : IntKind) (i8 : Int) (q9 : IntKind) (i10 : Int) (q11 : IntKind) (i12 : Int) (q13 : IntKind) (i14 : Int) (q15 : IntKind) (i16 : Int) (q17 : IntKind) (i18 : Int) (k19 : Nat) (g20 : Nat → List V) (k21 : Nat) (g22 : Nat → List V) : Option Out := atLoop Try.prog (cfg F) env 6 [.r, .r, .r, .r, .r, .r, .r, .r, .l, .r, .d] [] fu { tm := tmL 241 0 [(1, (sl eDay 2 ds)), (2, (sl eInt 1 wh)), (3, (.optr 0 0 0)), (8, (.optr 1 0 0)), (9, (.optr 2 0 0)), (11, (.osl 3 0 k0)), (14, (.osl 4 0 k1)), (15, (.int .i64 i2))], hp := [(.box 28 (eSite s) true), (.box 71 [(.int q3 i4), (.int q5 i6), (.int q7 i8), (.int q9 i10)] true), (.box 71 [(.int q11 i12), (.int q13 i14), (.int q15 i16), (.int q17 i18)] true), (.arr 61 3 k19 g20 true), (.arr 3 1 k21 g22 true)] }
noncomputable def L6x9 (env : Env) (F : Nat) (s : Site) (ds : Sl Day) (wh : Sl Int) (m0 : Nat) (fu : Nat) (k0 : Nat) (k1 : Nat) (i2 : Int) (q3 : IntKind) (i4 : Int) (q5 : IntKind) (i6 : Int) (q7 : IntKind) (i8 : Int) (q9 : IntKind) (i10 : Int) (q11 : IntKind) (i12 : Int) (q13 : IntKind) (i14 : Int) (q15 : IntKind) (i16 : Int) (q17 : IntKind) (i18 : Int) (k19 : Nat) (g20 : Nat → List V) (k21 : Nat) (g22 : Nat → List V) : Option Out := atLoop Try.prog (cfg F) env 6 [.r, .r, .r, .r, .r, .r, .r, .r, .l, .r, .d, .d, .r, .l, .d, .r, .l, .r, .d] [m0] fu { tm := tmL 241 0 [(1, (sl eDay 2 ds)), (2, (sl eInt 1 wh)), (3, (.optr 0 0 0)), (8, (.optr 1 0 0)), (9, (.optr 2 0 0)), (11, (.osl 3 0 k0)), (14, (.osl 4 0 k1)), (15, (.int .i64 i2)), (16, (.row true 0 0 (fun u30 => []))), (17, (.int .i64 (0 : Int)))], hp := [(.box 28 (eSite s) true), (.box 71 [(.int q3 i4), (.int q5 i6), (.int q7 i8), (.int q9 i10)] true), (.box 71 [(.int q11 i12), (.int q13 i14), (.int q15 i16), (.int q17 i18)] true), (.arr 61 3 k19 g20 true), (.arr 3 1 k21 g22 true)] }
noncomputable def L6x10 (env : Env) (F : Nat) (s : Site) (ds : Sl Day) (wh : Sl Int) (m0 : Nat) (fu : Nat) (k0 : Nat) (k1 : Nat) (i2 : Int) (k3 : Nat) (i4 : Int) (q5 : IntKind) (i6 : Int) (q7 : IntKind) (i8 : Int) (q9 : IntKind) (i10 : Int) (q11 : IntKind) (i12 : Int) (q13 : IntKind) (i14 : Int) (q15 : IntKind) (i16 : Int) (q17 : IntKind) (i18 : Int) (q19 : IntKind) (i20 : Int) (k21 : Nat) (g22 : Nat → List V) (k23 : Nat) (g24 : Nat → List V) (k25 : Nat) (g26 : Nat → List V) : Option Out := atLoop Try.prog (cfg F) env 6 [.r, .r, .r, .r, .r, .r, .r, .r, .l, .r, .d, .d, .r, .l, .d, .r, .l, .r, .d] [m0] fu { tm := tmL 241 0 [(1, (sl eDay 2 ds)), (2, (sl eInt 1 wh)), (3, (.optr 0 0 0)), (8, (.optr 1 0 0)), (9, (.optr 2 0 0)), (11, (.osl 3 0 k0)), (14, (.osl 4 0 k1)), (15, (.int .i64 i2)), (16, (.osl 5 0 k3)), (17, (.int .i64 i4))], hp := [(.box 28 (eSite s) true), (.box 71 [(.int q5 i6), (.int q7 i8), (.int q9 i10), (.int q11 i12)] true), (.box 71 [(.int q13 i14), (.int q15 i16), (.int q17 i18), (.int q19 i20)] true), (.arr 61 3 k21 g22 true), (.arr 3 1 k23 g24 true), (.arr 3 1 k25 g26 true)] }
theorem t6 (env : Env) (F : Nat) (s : Site) (ds : Sl Day) (wh : Sl Int) : (evFun Try.prog (cfg F) env 6 [(.agg (eSite s)), (sl eDay 2 ds), (sl eInt 1 wh)]) =
  (tkOut (env 11 [(.agg (eSite s))]) none (fun v5 => (tkBool v5 none fun b6 => (bif (!b6) then (tkOut (env 13 []) none (fun v7 => (tkBool v7 none fun b8 => some (.ret (.bool b8))))
        (fun p7 => (tkIfc p7 none fun t8 x9 => (bif (flatP (.iface t8 x9)) then some (.pan (.iface t8 x9))
            else none))))
      else (tkOut (env 16 [(.agg (eSite s))]) none (fun v7 => (tkBool v7 none fun b8 => (bif (!b8) then (tkOut (env 13 []) none (fun v9 => (tkBool v9 none fun b10 => some (.ret (.bool b10))))
              (fun p9 => (tkIfc p9 none fun t10 x11 => (bif (flatP (.iface t10 x11)) then some (.pan (.iface t10 x11))
                  else none))))
            else (bif (decide ((((Sl.len ds) : Nat) : Int) > (8 : Int))) then (tkOut (env 13 []) none (fun v9 => (tkBool v9 none fun b10 => some (.ret (.bool b10))))
                (fun p9 => (tkIfc p9 none fun t10 x11 => (bif (flatP (.iface t10 x11)) then some (.pan (.iface t10 x11))
                    else none))))
              else (tkOut (env 12 [(sl eDay 2 ds), (.int .i64 (8 : Int))]) none (fun v9 => (tkBool v9 none fun b10 => (bif (!b10) then (tkOut (env 13 []) none (fun v11 => (tkBool v11 none fun b12 => some (.ret (.bool b12))))
                      (fun p11 => (tkIfc p11 none fun t12 x13 => (bif (flatP (.iface t12 x13)) then some (.pan (.iface t12 x13))
                          else none))))
                    else (tkOut (env 23 [(sl eInt 1 wh)]) none (fun v11 => (tkBool v11 none fun b12 => (bif (!b12) then (tkOut (env 13 []) none (fun v13 => (tkBool v13 none fun b14 => some (.ret (.bool b14))))
                            (fun p13 => (tkIfc p13 none fun t14 x15 => (bif (flatP (.iface t14 x15)) then some (.pan (.iface t14 x15))
                                else none))))
                          else (L6x0 env F s ds wh F (0 : Int)))))
                      (fun p11 => (tkIfc p11 none fun t12 x13 => (bif (flatP (.iface t12 x13)) then some (.pan (.iface t12 x13))
                          else none)))))))
                (fun p9 => (tkIfc p9 none fun t10 x11 => (bif (flatP (.iface t10 x11)) then some (.pan (.iface t10 x11))
                    else none))))))))
        (fun p7 => (tkIfc p7 none fun t8 x9 => (bif (flatP (.iface t8 x9)) then some (.pan (.iface t8 x9))
            else none)))))))
  (fun p5 => (tkIfc p5 none fun t6 x7 => (bif (flatP (.iface t6 x7)) then some (.pan (.iface t6 x7))
      else none)))) := by kernel_rfl
theorem L6x0s (env : Env) (F : Nat) (s : Site) (ds : Sl Day) (wh : Sl Int) (fu : Nat) (i0 : Int) : L6x0 env F s ds wh (fu + 1) i0 =
  (bif (decide (i0 < (((Sl.len ds) : Nat) : Int))) then (bif (decide ((0 : Int) ≤ i0)) then (bif (decide (i0 < (((Sl.len ds) : Nat) : Int))) then (tkOut (env 20 [(.agg (eSite s)), (.agg [(sl eSpan 2 (Day.press (Sl.el ds (Int.toNat i0)))), (sl eSpan 2 (Day.warm (Sl.el ds (Int.toNat i0))))])]) none (fun v7 => (tkBool v7 none fun b8 => (bif (!b8) then (tkOut (env 13 []) none (fun v9 => (tkBool v9 none fun b10 => some (.ret (.bool b10))))
              (fun p9 => (tkIfc p9 none fun t10 x11 => (bif (flatP (.iface t10 x11)) then some (.pan (.iface t10 x11))
                  else none))))
            else (L6x0 env F s ds wh fu (IntKind.wrap .i64 (i0 + (1 : Int)))))))
        (fun p7 => (tkIfc p7 none fun t8 x9 => (bif (flatP (.iface t8 x9)) then some (.pan (.iface t8 x9))
            else none))))
      else none)
    else none)
  else (tkOut (env 30 [(.agg (eSite s)), (sl eDay 2 ds)]) none (fun v7 => (tkTup v7 none fun l8 => (tkCons l8 none fun v9 r10 => (tkAgg v9 none fun l11 => (tkCons l11 none fun v12 r13 => (tkInt v12 none fun q14 n15 => (tkCons r13 none fun v16 r17 => (tkInt v16 none fun q18 n19 => (tkCons r17 none fun v20 r21 => (tkInt v20 none fun q22 n23 => (tkCons r21 none fun v24 r25 => (tkInt v24 none fun q26 n27 => (tkNil r25 none ((tkCons r10 none fun v28 r29 => (tkAgg v28 none fun l30 => (tkCons l30 none fun v31 r32 => (tkInt v31 none fun q33 n34 => (tkCons r32 none fun v35 r36 => (tkInt v35 none fun q37 n38 => (tkCons r36 none fun v39 r40 => (tkInt v39 none fun q41 n42 => (tkCons r40 none fun v43 r44 => (tkInt v43 none fun q45 n46 => (tkNil r44 none ((tkCons r29 none fun v47 r48 => (tkInt v47 none fun q49 n50 => (tkNil r48 none ((bif (decide (q49 = .i64)) then (bif (n50 != (0 : Int)) then some (.ret (.bool false))
                                                            else (bif (decide (q18 = .i64)) then (bif (n19 == (1 : Int)) then (bif (decide (q37 = .i64)) then (bif (n38 != (1 : Int)) then some (.ret (.bool false))
                                                                    else (bif (decide (q37 = .i64)) then (bif (n38 != (1 : Int)) then (bif (decide (q33 = q14)) then (bif (decide (n34 < n15)) then some (.ret (.bool false))
                                                                            else (L6x1 env F s ds wh F q14 n15 q18 n19 q22 n23 q26 n27 q33 n34 q37 n38 q41 n42 q45 n46))
                                                                          else none)
                                                                        else (L6x1 env F s ds wh F q14 n15 q18 n19 q22 n23 q26 n27 q33 n34 q37 n38 q41 n42 q45 n46))
                                                                      else none))
                                                                  else none)
                                                                else (bif (decide (q37 = .i64)) then (bif (n38 != (1 : Int)) then (bif (decide (q33 = q14)) then (bif (decide (n34 < n15)) then some (.ret (.bool false))
                                                                        else (L6x1 env F s ds wh F q14 n15 q18 n19 q22 n23 q26 n27 q33 n34 q37 n38 q41 n42 q45 n46))
                                                                      else none)
                                                                    else (L6x1 env F s ds wh F q14 n15 q18 n19 q22 n23 q26 n27 q33 n34 q37 n38 q41 n42 q45 n46))
                                                                  else none))
                                                              else none))
                                                          else none)))))))))))))))))))))))))))))))
    (fun p7 => (tkIfc p7 none fun t8 x9 => (bif (flatP (.iface t8 x9)) then some (.pan (.iface t8 x9))
        else none))))) := by kernel_rfl
theorem L6x1s (env : Env) (F : Nat) (s : Site) (ds : Sl Day) (wh : Sl Int) (fu : Nat) (q0 : IntKind) (i1 : Int) (q2 : IntKind) (i3 : Int) (q4 : IntKind) (i5 : Int) (q6 : IntKind) (i7 : Int) (q8 : IntKind) (i9 : Int) (q10 : IntKind) (i11 : Int) (q12 : IntKind) (i13 : Int) (q14 : IntKind) (i15 : Int) : L6x1 env F s ds wh (fu + 1) q0 i1 q2 i3 q4 i5 q6 i7 q8 i9 q10 i11 q12 i13 q14 i15 =
  (bif (decide ((0 : Int) < (((Sl.len (Site.cavs s)) : Nat) : Int))) then (bif (decide ((0 : Int) < (((Sl.len (Site.cavs s)) : Nat) : Int))) then (tkOut (env 26 [(sl eInt 1 wh), (.int .i64 (IntKind.wrap .i64 ((2 : Int) * (0 : Int))))]) none (fun v22 => (tkInt v22 none fun q23 n24 => (tkOut (env 25 [(.agg (eSpan (Cav.rad (Sl.el (Site.cavs s) 0)))), (.int q23 n24)]) none (fun v25 => (tkInt v25 none fun q26 n27 => (tkOut (env 26 [(sl eInt 1 wh), (.int .i64 (IntKind.wrap .i64 ((IntKind.wrap .i64 ((2 : Int) * (0 : Int))) + (1 : Int))))]) none (fun v28 => (tkInt v28 none fun q29 n30 => (tkOut (env 25 [(.agg (eSpan (Cav.vol (Sl.el (Site.cavs s) 0)))), (.int q29 n30)]) none (fun v31 => (tkInt v31 none fun q32 n33 => (L6x2 env F s ds wh fu 1 (IntKind.wrap .i64 ((0 : Int) + (1 : Int))) q0 i1 q2 i3 q4 i5 q6 i7 q8 i9 q10 i11 q12 i13 q14 i15 1 (fun u34 => [(.int q26 n27), (.int q32 n33), (.int .i64 (0 : Int))]))))
                  (fun p31 => (tkIfc p31 none fun t32 x33 => (bif (flatP (.iface t32 x33)) then some (.pan (.iface t32 x33))
                      else none))))))
              (fun p28 => (tkIfc p28 none fun t29 x30 => (bif (flatP (.iface t29 x30)) then some (.pan (.iface t29 x30))
                  else none))))))
          (fun p25 => (tkIfc p25 none fun t26 x27 => (bif (flatP (.iface t26 x27)) then none
              else none))))))
      (fun p22 => (tkIfc p22 none fun t23 x24 => (bif (flatP (.iface t23 x24)) then none
          else none))))
    else none)
  else (L6x3 env F s ds wh F (0 : Int) q0 i1 q2 i3 q4 i5 q6 i7 q8 i9 q10 i11 q12 i13 q14 i15)) := by kernel_rfl
theorem L6x2s (env : Env) (F : Nat) (s : Site) (ds : Sl Day) (wh : Sl Int) (fu : Nat) (k0 : Nat) (i1 : Int) (q2 : IntKind) (i3 : Int) (q4 : IntKind) (i5 : Int) (q6 : IntKind) (i7 : Int) (q8 : IntKind) (i9 : Int) (q10 : IntKind) (i11 : Int) (q12 : IntKind) (i13 : Int) (q14 : IntKind) (i15 : Int) (q16 : IntKind) (i17 : Int) (k18 : Nat) (g19 : Nat → List V) : L6x2 env F s ds wh (fu + 1) k0 i1 q2 i3 q4 i5 q6 i7 q8 i9 q10 i11 q12 i13 q14 i15 q16 i17 k18 g19 =
  (bif (decide (i1 < (((Sl.len (Site.cavs s)) : Nat) : Int))) then (bif (decide ((0 : Int) ≤ i1)) then (bif (decide (i1 < (((Sl.len (Site.cavs s)) : Nat) : Int))) then (tkOut (env 26 [(sl eInt 1 wh), (.int .i64 (IntKind.wrap .i64 ((2 : Int) * i1)))]) none (fun v26 => (tkInt v26 none fun q27 n28 => (tkOut (env 25 [(.agg (eSpan (Cav.rad (Sl.el (Site.cavs s) (Int.toNat i1))))), (.int q27 n28)]) none (fun v29 => (tkInt v29 none fun q30 n31 => (tkOut (env 26 [(sl eInt 1 wh), (.int .i64 (IntKind.wrap .i64 ((IntKind.wrap .i64 ((2 : Int) * i1)) + (1 : Int))))]) none (fun v32 => (tkInt v32 none fun q33 n34 => (tkOut (env 25 [(.agg (eSpan (Cav.vol (Sl.el (Site.cavs s) (Int.toNat i1))))), (.int q33 n34)]) none (fun v35 => (tkInt v35 none fun q36 n37 => (bif (decide (((k0 + 1) * 24) ≤ 140737488355328)) then (L6x2 env F s ds wh fu (k0 + 1) (IntKind.wrap .i64 (i1 + (1 : Int))) q2 i3 q4 i5 q6 i7 q8 i9 q10 i11 q12 i13 q14 i15 q16 i17 (k0 + 1) (appGet k0 g19 (fun u38 => [(.int q30 n31), (.int q36 n37), (.int .i64 (0 : Int))])))
                        else none)))
                    (fun p35 => (tkIfc p35 none fun t36 x37 => (bif (flatP (.iface t36 x37)) then some (.pan (.iface t36 x37))
                        else none))))))
                (fun p32 => (tkIfc p32 none fun t33 x34 => (bif (flatP (.iface t33 x34)) then some (.pan (.iface t33 x34))
                    else none))))))
            (fun p29 => (tkIfc p29 none fun t30 x31 => (bif (flatP (.iface t30 x31)) then none
                else none))))))
        (fun p26 => (tkIfc p26 none fun t27 x28 => (bif (flatP (.iface t27 x28)) then none
            else none))))
      else none)
    else none)
  else (L6x4 env F s ds wh F k0 (0 : Int) q2 i3 q4 i5 q6 i7 q8 i9 q10 i11 q12 i13 q14 i15 q16 i17 k18 g19)) := by kernel_rfl
theorem L6x3s (env : Env) (F : Nat) (s : Site) (ds : Sl Day) (wh : Sl Int) (fu : Nat) (i0 : Int) (q1 : IntKind) (i2 : Int) (q3 : IntKind) (i4 : Int) (q5 : IntKind) (i6 : Int) (q7 : IntKind) (i8 : Int) (q9 : IntKind) (i10 : Int) (q11 : IntKind) (i12 : Int) (q13 : IntKind) (i14 : Int) (q15 : IntKind) (i16 : Int) : L6x3 env F s ds wh (fu + 1) i0 q1 i2 q3 i4 q5 i6 q7 i8 q9 i10 q11 i12 q13 i14 q15 i16 =
  (bif (decide (i0 < (((Sl.len ds) : Nat) : Int))) then (L6x5 env F s ds wh fu F i0 q1 i2 q3 i4 q5 i6 q7 i8 q9 i10 q11 i12 q13 i14 q15 i16)
  else (tkOut (env 13 []) none (fun v23 => (tkBool v23 none fun b24 => some (.ret (.bool b24))))
    (fun p23 => (tkIfc p23 none fun t24 x25 => (bif (flatP (.iface t24 x25)) then some (.pan (.iface t24 x25))
        else none))))) := by kernel_rfl
theorem L6x4s (env : Env) (F : Nat) (s : Site) (ds : Sl Day) (wh : Sl Int) (fu : Nat) (k0 : Nat) (i1 : Int) (q2 : IntKind) (i3 : Int) (q4 : IntKind) (i5 : Int) (q6 : IntKind) (i7 : Int) (q8 : IntKind) (i9 : Int) (q10 : IntKind) (i11 : Int) (q12 : IntKind) (i13 : Int) (q14 : IntKind) (i15 : Int) (q16 : IntKind) (i17 : Int) (k18 : Nat) (g19 : Nat → List V) : L6x4 env F s ds wh (fu + 1) k0 i1 q2 i3 q4 i5 q6 i7 q8 i9 q10 i11 q12 i13 q14 i15 q16 i17 k18 g19 =
  (bif (decide (i1 < (((Sl.len ds) : Nat) : Int))) then (L6x6 env F s ds wh fu F k0 i1 q2 i3 q4 i5 q6 i7 q8 i9 q10 i11 q12 i13 q14 i15 q16 i17 k18 g19)
  else (tkOut (env 13 []) none (fun v26 => (tkBool v26 none fun b27 => some (.ret (.bool b27))))
    (fun p26 => (tkIfc p26 none fun t27 x28 => (bif (flatP (.iface t27 x28)) then some (.pan (.iface t27 x28))
        else none))))) := by kernel_rfl
theorem L6x5s (env : Env) (F : Nat) (s : Site) (ds : Sl Day) (wh : Sl Int) (m0 : Nat) (fu : Nat) (i0 : Int) (q1 : IntKind) (i2 : Int) (q3 : IntKind) (i4 : Int) (q5 : IntKind) (i6 : Int) (q7 : IntKind) (i8 : Int) (q9 : IntKind) (i10 : Int) (q11 : IntKind) (i12 : Int) (q13 : IntKind) (i14 : Int) (q15 : IntKind) (i16 : Int) : L6x5 env F s ds wh m0 (fu + 1) i0 q1 i2 q3 i4 q5 i6 q7 i8 q9 i10 q11 i12 q13 i14 q15 i16 =
  (tkOut (env 33 [(.agg (eSite s)), (.row true 0 0 (fun u24 => [])), (.row true 0 0 (fun u24 => [])), (.row true 0 0 (fun u24 => []))]) none (fun v24 => (tkBool v24 none fun b25 => (bif b25 then (bif (decide (q3 = .i64)) then (bif (i4 == (1 : Int)) then some (.ret (.bool false))
          else (bif (decide (.i64 = q1)) then (bif (decide (i0 < i2)) then some (.ret (.bool false))
              else (bif b25 then (tkOut (env 13 []) none (fun v26 => (tkBool v26 none fun b27 => some (.ret (.bool b27))))
                  (fun p26 => (tkIfc p26 none fun t27 x28 => (bif (flatP (.iface t27 x28)) then some (.pan (.iface t27 x28))
                      else none))))
                else (bif (decide (q11 = .i64)) then (bif (i12 != (1 : Int)) then (bif (decide (.i64 = q9)) then (bif (decide (i0 ≥ i10)) then some (.ret (.bool false))
                        else (L6x3 env F s ds wh m0 (IntKind.wrap .i64 (i0 + (1 : Int))) q1 i2 q3 i4 q5 i6 q7 i8 q9 i10 q11 i12 q13 i14 q15 i16))
                      else none)
                    else (L6x3 env F s ds wh m0 (IntKind.wrap .i64 (i0 + (1 : Int))) q1 i2 q3 i4 q5 i6 q7 i8 q9 i10 q11 i12 q13 i14 q15 i16))
                  else none)))
            else none))
        else none)
      else (bif b25 then (tkOut (env 13 []) none (fun v26 => (tkBool v26 none fun b27 => some (.ret (.bool b27))))
          (fun p26 => (tkIfc p26 none fun t27 x28 => (bif (flatP (.iface t27 x28)) then some (.pan (.iface t27 x28))
              else none))))
        else (bif (decide (q11 = .i64)) then (bif (i12 != (1 : Int)) then (bif (decide (.i64 = q9)) then (bif (decide (i0 ≥ i10)) then some (.ret (.bool false))
                else (L6x3 env F s ds wh m0 (IntKind.wrap .i64 (i0 + (1 : Int))) q1 i2 q3 i4 q5 i6 q7 i8 q9 i10 q11 i12 q13 i14 q15 i16))
              else none)
            else (L6x3 env F s ds wh m0 (IntKind.wrap .i64 (i0 + (1 : Int))) q1 i2 q3 i4 q5 i6 q7 i8 q9 i10 q11 i12 q13 i14 q15 i16))
          else none)))))
  (fun p24 => (tkIfc p24 none fun t25 x26 => (bif (flatP (.iface t25 x26)) then some (.pan (.iface t25 x26))
      else none)))) := by kernel_rfl
theorem L6x6s (env : Env) (F : Nat) (s : Site) (ds : Sl Day) (wh : Sl Int) (m0 : Nat) (fu : Nat) (k0 : Nat) (i1 : Int) (q2 : IntKind) (i3 : Int) (q4 : IntKind) (i5 : Int) (q6 : IntKind) (i7 : Int) (q8 : IntKind) (i9 : Int) (q10 : IntKind) (i11 : Int) (q12 : IntKind) (i13 : Int) (q14 : IntKind) (i15 : Int) (q16 : IntKind) (i17 : Int) (k18 : Nat) (g19 : Nat → List V) : L6x6 env F s ds wh m0 (fu + 1) k0 i1 q2 i3 q4 i5 q6 i7 q8 i9 q10 i11 q12 i13 q14 i15 q16 i17 k18 g19 =
  (bif (decide ((0 : Int) < ((k0 : Nat) : Int))) then (bif (decide ((0 : Int) ≤ i1)) then (bif (decide (i1 < (((Sl.len ds) : Nat) : Int))) then (bif (decide ((0 : Int) < (((Sl.len (Day.press (Sl.el ds (Int.toNat i1)))) : Nat) : Int))) then (bif (decide ((0 : Int) ≤ i1)) then (bif (decide (i1 < (((Sl.len ds) : Nat) : Int))) then (bif (decide ((0 : Int) < (((Sl.len (Day.warm (Sl.el ds (Int.toNat i1)))) : Nat) : Int))) then (tkOut (env 32 [(.agg (eSite s)), (.int .i64 (0 : Int)), (.agg (eSpan (Sl.el (Day.press (Sl.el ds (Int.toNat i1))) 0))), (.agg (eSpan (Sl.el (Day.warm (Sl.el ds (Int.toNat i1))) 0)))]) none (fun v27 => (tkBool v27 none fun b28 => (bif b28 then (bif (decide (q4 = .i64)) then (bif (i5 != (1 : Int)) then (bif (decide (q2 = .i64)) then (bif (decide (i3 ≤ i1)) then (bif (decide (q12 = .i64)) then (bif (i13 == (1 : Int)) then (tkOut (env 13 []) none (fun v29 => (tkBool v29 none fun b30 => some (.ret (.bool b30))))
                                  (fun p29 => (tkIfc p29 none fun t30 x31 => (bif (flatP (.iface t30 x31)) then some (.pan (.iface t30 x31))
                                      else none))))
                                else (bif (decide (q10 = .i64)) then (bif (decide (i11 < i1)) then (tkOut (env 13 []) none (fun v29 => (tkBool v29 none fun b30 => some (.ret (.bool b30))))
                                      (fun p29 => (tkIfc p29 none fun t30 x31 => (bif (flatP (.iface t30 x31)) then some (.pan (.iface t30 x31))
                                          else none))))
                                    else some (.ret (.bool false)))
                                  else none))
                              else none)
                            else some (.ret (.bool false)))
                          else none)
                        else some (.ret (.bool false)))
                      else none)
                    else (tkOut (env 26 [(sl eInt 1 wh), (.int .i64 (IntKind.wrap .i64 ((6 : Int) * (IntKind.wrap .i64 ((IntKind.wrap .i64 (((k0 : Nat) : Int) * i1)) + (0 : Int))))))]) none (fun v29 => (tkInt v29 none fun q30 n31 => (tkOut (env 25 [(.agg (eSpan (Sl.el (Day.press (Sl.el ds (Int.toNat i1))) 0))), (.int q30 n31)]) none (fun v32 => (tkInt v32 none fun q33 n34 => (bif (decide ((0 : Int) < ((k0 : Nat) : Int))) then (bif ((List.length (List.take 3 (g19 0))) == 3) then (tkCons (List.take 3 (g19 0)) none fun v35 r36 => (tkInt v35 none fun q37 n38 => (tkCons r36 none fun v39 r40 => (tkInt v39 none fun q41 n42 => (tkCons r40 none fun v43 r44 => (tkInt v43 none fun q45 n46 => (tkNil r44 none ((tkOut (env 27 [(.agg (eSite s)), (.int .i64 (0 : Int)), (.agg [(.int q37 n38), (.int q41 n42), (.int q45 n46)]), (.agg (eSpan (Sl.el (Day.press (Sl.el ds (Int.toNat i1))) 0))), (.agg (eSpan (Sl.el (Day.warm (Sl.el ds (Int.toNat i1))) 0))), (sl eInt 1 wh), (.int .i64 (IntKind.wrap .i64 ((6 : Int) * (IntKind.wrap .i64 ((IntKind.wrap .i64 (((k0 : Nat) : Int) * i1)) + (0 : Int))))))]) none (fun v47 => (tkAgg v47 none fun l48 => (tkCons l48 none fun v49 r50 => (tkInt v49 none fun q51 n52 => (tkCons r50 none fun v53 r54 => (tkInt v53 none fun q55 n56 => (tkCons r54 none fun v57 r58 => (tkInt v57 none fun q59 n60 => (tkNil r58 none ((bif (decide ((0 : Int) < ((k0 : Nat) : Int))) then (L6x7 env F s ds wh m0 fu k0 i1 1 (IntKind.wrap .i64 ((0 : Int) + (1 : Int))) q2 i3 q4 i5 q6 i7 q8 i9 q10 i11 q12 i13 q14 i15 q16 i17 k18 (updGet g19 0 0 [(.int q51 n52), (.int q55 n56), (.int q59 n60)]) 1 (fun u61 => [(.int q33 n34)]))
                                                                  else none)))))))))))
                                                (fun p47 => (tkIfc p47 none fun t48 x49 => (bif (flatP (.iface t48 x49)) then some (.pan (.iface t48 x49))
                                                    else none))))))))))))
                                else none)
                              else none)))
                          (fun p32 => (tkIfc p32 none fun t33 x34 => (bif (flatP (.iface t33 x34)) then some (.pan (.iface t33 x34))
                              else none))))))
                      (fun p29 => (tkIfc p29 none fun t30 x31 => (bif (flatP (.iface t30 x31)) then some (.pan (.iface t30 x31))
                          else none)))))))
                (fun p27 => (tkIfc p27 none fun t28 x29 => (bif (flatP (.iface t28 x29)) then some (.pan (.iface t28 x29))
                    else none))))
              else none)
            else none)
          else none)
        else none)
      else none)
    else none)
  else (tkOut (env 33 [(.agg (eSite s)), (.row false k0 3 (fun u27 => (g19 u27))), (.row true 0 0 (fun u27 => [])), (.row true 0 0 (fun u27 => []))]) none (fun v27 => (tkBool v27 none fun b28 => (bif b28 then (bif (decide (q4 = .i64)) then (bif (i5 == (1 : Int)) then some (.ret (.bool false))
            else (bif (decide (.i64 = q2)) then (bif (decide (i1 < i3)) then some (.ret (.bool false))
                else (bif b28 then (tkOut (env 13 []) none (fun v29 => (tkBool v29 none fun b30 => some (.ret (.bool b30))))
                    (fun p29 => (tkIfc p29 none fun t30 x31 => (bif (flatP (.iface t30 x31)) then some (.pan (.iface t30 x31))
                        else none))))
                  else (bif (decide (q12 = .i64)) then (bif (i13 != (1 : Int)) then (bif (decide (.i64 = q10)) then (bif (decide (i1 ≥ i11)) then some (.ret (.bool false))
                          else (L6x4 env F s ds wh m0 k0 (IntKind.wrap .i64 (i1 + (1 : Int))) q2 i3 q4 i5 q6 i7 q8 i9 q10 i11 q12 i13 q14 i15 q16 i17 k18 g19))
                        else none)
                      else (L6x4 env F s ds wh m0 k0 (IntKind.wrap .i64 (i1 + (1 : Int))) q2 i3 q4 i5 q6 i7 q8 i9 q10 i11 q12 i13 q14 i15 q16 i17 k18 g19))
                    else none)))
              else none))
          else none)
        else (bif b28 then (tkOut (env 13 []) none (fun v29 => (tkBool v29 none fun b30 => some (.ret (.bool b30))))
            (fun p29 => (tkIfc p29 none fun t30 x31 => (bif (flatP (.iface t30 x31)) then some (.pan (.iface t30 x31))
                else none))))
          else (bif (decide (q12 = .i64)) then (bif (i13 != (1 : Int)) then (bif (decide (.i64 = q10)) then (bif (decide (i1 ≥ i11)) then some (.ret (.bool false))
                  else (L6x4 env F s ds wh m0 k0 (IntKind.wrap .i64 (i1 + (1 : Int))) q2 i3 q4 i5 q6 i7 q8 i9 q10 i11 q12 i13 q14 i15 q16 i17 k18 g19))
                else none)
              else (L6x4 env F s ds wh m0 k0 (IntKind.wrap .i64 (i1 + (1 : Int))) q2 i3 q4 i5 q6 i7 q8 i9 q10 i11 q12 i13 q14 i15 q16 i17 k18 g19))
            else none)))))
    (fun p27 => (tkIfc p27 none fun t28 x29 => (bif (flatP (.iface t28 x29)) then some (.pan (.iface t28 x29))
        else none))))) := by kernel_rfl
theorem L6x7s (env : Env) (F : Nat) (s : Site) (ds : Sl Day) (wh : Sl Int) (m0 : Nat) (fu : Nat) (k0 : Nat) (i1 : Int) (k2 : Nat) (i3 : Int) (q4 : IntKind) (i5 : Int) (q6 : IntKind) (i7 : Int) (q8 : IntKind) (i9 : Int) (q10 : IntKind) (i11 : Int) (q12 : IntKind) (i13 : Int) (q14 : IntKind) (i15 : Int) (q16 : IntKind) (i17 : Int) (q18 : IntKind) (i19 : Int) (k20 : Nat) (g21 : Nat → List V) (k22 : Nat) (g23 : Nat → List V) : L6x7 env F s ds wh m0 (fu + 1) k0 i1 k2 i3 q4 i5 q6 i7 q8 i9 q10 i11 q12 i13 q14 i15 q16 i17 q18 i19 k20 g21 k22 g23 =
  (bif (decide (i3 < ((k0 : Nat) : Int))) then (bif (decide ((0 : Int) ≤ i1)) then (bif (decide (i1 < (((Sl.len ds) : Nat) : Int))) then (bif (decide ((0 : Int) ≤ i3)) then (bif (decide (i3 < (((Sl.len (Day.press (Sl.el ds (Int.toNat i1)))) : Nat) : Int))) then (bif (decide ((0 : Int) ≤ i1)) then (bif (decide (i1 < (((Sl.len ds) : Nat) : Int))) then (bif (decide ((0 : Int) ≤ i3)) then (bif (decide (i3 < (((Sl.len (Day.warm (Sl.el ds (Int.toNat i1)))) : Nat) : Int))) then (tkOut (env 32 [(.agg (eSite s)), (.int .i64 i3), (.agg (eSpan (Sl.el (Day.press (Sl.el ds (Int.toNat i1))) (Int.toNat i3)))), (.agg (eSpan (Sl.el (Day.warm (Sl.el ds (Int.toNat i1))) (Int.toNat i3))))]) none (fun v31 => (tkBool v31 none fun b32 => (bif b32 then (bif (decide (q6 = .i64)) then (bif (i7 != (1 : Int)) then (bif (decide (q4 = .i64)) then (bif (decide (i5 ≤ i1)) then (bif (decide (q14 = .i64)) then (bif (i15 == (1 : Int)) then (tkOut (env 13 []) none (fun v33 => (tkBool v33 none fun b34 => some (.ret (.bool b34))))
                                      (fun p33 => (tkIfc p33 none fun t34 x35 => (bif (flatP (.iface t34 x35)) then some (.pan (.iface t34 x35))
                                          else none))))
                                    else (bif (decide (q12 = .i64)) then (bif (decide (i13 < i1)) then (tkOut (env 13 []) none (fun v33 => (tkBool v33 none fun b34 => some (.ret (.bool b34))))
                                          (fun p33 => (tkIfc p33 none fun t34 x35 => (bif (flatP (.iface t34 x35)) then some (.pan (.iface t34 x35))
                                              else none))))
                                        else some (.ret (.bool false)))
                                      else none))
                                  else none)
                                else some (.ret (.bool false)))
                              else none)
                            else some (.ret (.bool false)))
                          else none)
                        else (tkOut (env 26 [(sl eInt 1 wh), (.int .i64 (IntKind.wrap .i64 ((6 : Int) * (IntKind.wrap .i64 ((IntKind.wrap .i64 (((k0 : Nat) : Int) * i1)) + i3)))))]) none (fun v33 => (tkInt v33 none fun q34 n35 => (tkOut (env 25 [(.agg (eSpan (Sl.el (Day.press (Sl.el ds (Int.toNat i1))) (Int.toNat i3)))), (.int q34 n35)]) none (fun v36 => (tkInt v36 none fun q37 n38 => (bif (decide (((k2 + 1) * 8) ≤ 140737488355328)) then (bif (decide ((0 : Int) ≤ i3)) then (bif (decide (i3 < ((k0 : Nat) : Int))) then (bif ((List.length (List.take 3 (g21 (Int.toNat i3)))) == 3) then (tkCons (List.take 3 (g21 (Int.toNat i3))) none fun v39 r40 => (tkInt v39 none fun q41 n42 => (tkCons r40 none fun v43 r44 => (tkInt v43 none fun q45 n46 => (tkCons r44 none fun v47 r48 => (tkInt v47 none fun q49 n50 => (tkNil r48 none ((tkOut (env 27 [(.agg (eSite s)), (.int .i64 i3), (.agg [(.int q41 n42), (.int q45 n46), (.int q49 n50)]), (.agg (eSpan (Sl.el (Day.press (Sl.el ds (Int.toNat i1))) (Int.toNat i3)))), (.agg (eSpan (Sl.el (Day.warm (Sl.el ds (Int.toNat i1))) (Int.toNat i3)))), (sl eInt 1 wh), (.int .i64 (IntKind.wrap .i64 ((6 : Int) * (IntKind.wrap .i64 ((IntKind.wrap .i64 (((k0 : Nat) : Int) * i1)) + i3)))))]) none (fun v51 => (tkAgg v51 none fun l52 => (tkCons l52 none fun v53 r54 => (tkInt v53 none fun q55 n56 => (tkCons r54 none fun v57 r58 => (tkInt v57 none fun q59 n60 => (tkCons r58 none fun v61 r62 => (tkInt v61 none fun q63 n64 => (tkNil r62 none ((bif (decide ((0 : Int) ≤ i3)) then (bif (decide (i3 < ((k0 : Nat) : Int))) then (L6x7 env F s ds wh m0 fu k0 i1 (k2 + 1) (IntKind.wrap .i64 (i3 + (1 : Int))) q4 i5 q6 i7 q8 i9 q10 i11 q12 i13 q14 i15 q16 i17 q18 i19 k20 (updGet g21 (Int.toNat i3) 0 [(.int q55 n56), (.int q59 n60), (.int q63 n64)]) (k2 + 1) (appGet k2 g23 (fun u65 => [(.int q37 n38)])))
                                                                            else none)
                                                                          else none)))))))))))
                                                        (fun p51 => (tkIfc p51 none fun t52 x53 => (bif (flatP (.iface t52 x53)) then some (.pan (.iface t52 x53))
                                                            else none))))))))))))
                                        else none)
                                      else none)
                                    else none)
                                  else none)))
                              (fun p36 => (tkIfc p36 none fun t37 x38 => (bif (flatP (.iface t37 x38)) then some (.pan (.iface t37 x38))
                                  else none))))))
                          (fun p33 => (tkIfc p33 none fun t34 x35 => (bif (flatP (.iface t34 x35)) then some (.pan (.iface t34 x35))
                              else none)))))))
                    (fun p31 => (tkIfc p31 none fun t32 x33 => (bif (flatP (.iface t32 x33)) then some (.pan (.iface t32 x33))
                        else none))))
                  else none)
                else none)
              else none)
            else none)
          else none)
        else none)
      else none)
    else none)
  else (tkOut (env 33 [(.agg (eSite s)), (.row false k0 3 (fun u31 => (g21 u31))), (.row false k2 1 (fun u31 => (g23 u31))), (.row true 0 0 (fun u31 => []))]) none (fun v31 => (tkBool v31 none fun b32 => (bif b32 then (bif (decide (q6 = .i64)) then (bif (i7 == (1 : Int)) then some (.ret (.bool false))
            else (bif (decide (.i64 = q4)) then (bif (decide (i1 < i5)) then some (.ret (.bool false))
                else (bif b32 then (tkOut (env 13 []) none (fun v33 => (tkBool v33 none fun b34 => some (.ret (.bool b34))))
                    (fun p33 => (tkIfc p33 none fun t34 x35 => (bif (flatP (.iface t34 x35)) then some (.pan (.iface t34 x35))
                        else none))))
                  else (bif (decide (q14 = .i64)) then (bif (i15 != (1 : Int)) then (bif (decide (.i64 = q12)) then (bif (decide (i1 ≥ i13)) then some (.ret (.bool false))
                          else (L6x8 env F s ds wh m0 k0 k2 (IntKind.wrap .i64 (i1 + (1 : Int))) q4 i5 q6 i7 q8 i9 q10 i11 q12 i13 q14 i15 q16 i17 q18 i19 k20 g21 k22 g23))
                        else none)
                      else (L6x8 env F s ds wh m0 k0 k2 (IntKind.wrap .i64 (i1 + (1 : Int))) q4 i5 q6 i7 q8 i9 q10 i11 q12 i13 q14 i15 q16 i17 q18 i19 k20 g21 k22 g23))
                    else none)))
              else none))
          else none)
        else (bif b32 then (tkOut (env 13 []) none (fun v33 => (tkBool v33 none fun b34 => some (.ret (.bool b34))))
            (fun p33 => (tkIfc p33 none fun t34 x35 => (bif (flatP (.iface t34 x35)) then some (.pan (.iface t34 x35))
                else none))))
          else (bif (decide (q14 = .i64)) then (bif (i15 != (1 : Int)) then (bif (decide (.i64 = q12)) then (bif (decide (i1 ≥ i13)) then some (.ret (.bool false))
                  else (L6x8 env F s ds wh m0 k0 k2 (IntKind.wrap .i64 (i1 + (1 : Int))) q4 i5 q6 i7 q8 i9 q10 i11 q12 i13 q14 i15 q16 i17 q18 i19 k20 g21 k22 g23))
                else none)
              else (L6x8 env F s ds wh m0 k0 k2 (IntKind.wrap .i64 (i1 + (1 : Int))) q4 i5 q6 i7 q8 i9 q10 i11 q12 i13 q14 i15 q16 i17 q18 i19 k20 g21 k22 g23))
            else none)))))
    (fun p31 => (tkIfc p31 none fun t32 x33 => (bif (flatP (.iface t32 x33)) then some (.pan (.iface t32 x33))
        else none))))) := by kernel_rfl
theorem L6x8s (env : Env) (F : Nat) (s : Site) (ds : Sl Day) (wh : Sl Int) (fu : Nat) (k0 : Nat) (k1 : Nat) (i2 : Int) (q3 : IntKind) (i4 : Int) (q5 : IntKind) (i6 : Int) (q7 : IntKind) (i8 : Int) (q9 : IntKind) (i10 : Int) (q11 : IntKind) (i12 : Int) (q13 : IntKind) (i14 : Int) (q15 : IntKind) (i16 : Int) (q17 : IntKind) (i18 : Int) (k19 : Nat) (g20 : Nat → List V) (k21 : Nat) (g22 : Nat → List V) : L6x8 env F s ds wh (fu + 1) k0 k1 i2 q3 i4 q5 i6 q7 i8 q9 i10 q11 i12 q13 i14 q15 i16 q17 i18 k19 g20 k21 g22 =
  (bif (decide (i2 < (((Sl.len ds) : Nat) : Int))) then (L6x9 env F s ds wh fu F k0 k1 i2 q3 i4 q5 i6 q7 i8 q9 i10 q11 i12 q13 i14 q15 i16 q17 i18 k19 g20 k21 g22)
  else (tkOut (env 13 []) none (fun v29 => (tkBool v29 none fun b30 => some (.ret (.bool b30))))
    (fun p29 => (tkIfc p29 none fun t30 x31 => (bif (flatP (.iface t30 x31)) then some (.pan (.iface t30 x31))
        else none))))) := by kernel_rfl
theorem L6x9s (env : Env) (F : Nat) (s : Site) (ds : Sl Day) (wh : Sl Int) (m0 : Nat) (fu : Nat) (k0 : Nat) (k1 : Nat) (i2 : Int) (q3 : IntKind) (i4 : Int) (q5 : IntKind) (i6 : Int) (q7 : IntKind) (i8 : Int) (q9 : IntKind) (i10 : Int) (q11 : IntKind) (i12 : Int) (q13 : IntKind) (i14 : Int) (q15 : IntKind) (i16 : Int) (q17 : IntKind) (i18 : Int) (k19 : Nat) (g20 : Nat → List V) (k21 : Nat) (g22 : Nat → List V) : L6x9 env F s ds wh m0 (fu + 1) k0 k1 i2 q3 i4 q5 i6 q7 i8 q9 i10 q11 i12 q13 i14 q15 i16 q17 i18 k19 g20 k21 g22 =
  (bif (decide ((0 : Int) < ((k0 : Nat) : Int))) then (bif (decide ((0 : Int) ≤ i2)) then (bif (decide (i2 < (((Sl.len ds) : Nat) : Int))) then (bif (decide ((0 : Int) < (((Sl.len (Day.press (Sl.el ds (Int.toNat i2)))) : Nat) : Int))) then (bif (decide ((0 : Int) ≤ i2)) then (bif (decide (i2 < (((Sl.len ds) : Nat) : Int))) then (bif (decide ((0 : Int) < (((Sl.len (Day.warm (Sl.el ds (Int.toNat i2)))) : Nat) : Int))) then (tkOut (env 32 [(.agg (eSite s)), (.int .i64 (0 : Int)), (.agg (eSpan (Sl.el (Day.press (Sl.el ds (Int.toNat i2))) 0))), (.agg (eSpan (Sl.el (Day.warm (Sl.el ds (Int.toNat i2))) 0)))]) none (fun v30 => (tkBool v30 none fun b31 => (bif b31 then (bif (decide (q5 = .i64)) then (bif (i6 != (1 : Int)) then (bif (decide (q3 = .i64)) then (bif (decide (i4 ≤ i2)) then (bif (decide (q13 = .i64)) then (bif (i14 == (1 : Int)) then (tkOut (env 13 []) none (fun v32 => (tkBool v32 none fun b33 => some (.ret (.bool b33))))
                                  (fun p32 => (tkIfc p32 none fun t33 x34 => (bif (flatP (.iface t33 x34)) then some (.pan (.iface t33 x34))
                                      else none))))
                                else (bif (decide (q11 = .i64)) then (bif (decide (i12 < i2)) then (tkOut (env 13 []) none (fun v32 => (tkBool v32 none fun b33 => some (.ret (.bool b33))))
                                      (fun p32 => (tkIfc p32 none fun t33 x34 => (bif (flatP (.iface t33 x34)) then some (.pan (.iface t33 x34))
                                          else none))))
                                    else some (.ret (.bool false)))
                                  else none))
                              else none)
                            else some (.ret (.bool false)))
                          else none)
                        else some (.ret (.bool false)))
                      else none)
                    else (tkOut (env 26 [(sl eInt 1 wh), (.int .i64 (IntKind.wrap .i64 ((6 : Int) * (IntKind.wrap .i64 ((IntKind.wrap .i64 (((k0 : Nat) : Int) * i2)) + (0 : Int))))))]) none (fun v32 => (tkInt v32 none fun q33 n34 => (tkOut (env 25 [(.agg (eSpan (Sl.el (Day.press (Sl.el ds (Int.toNat i2))) 0))), (.int q33 n34)]) none (fun v35 => (tkInt v35 none fun q36 n37 => (bif (decide ((0 : Int) < ((k0 : Nat) : Int))) then (bif ((List.length (List.take 3 (g20 0))) == 3) then (tkCons (List.take 3 (g20 0)) none fun v38 r39 => (tkInt v38 none fun q40 n41 => (tkCons r39 none fun v42 r43 => (tkInt v42 none fun q44 n45 => (tkCons r43 none fun v46 r47 => (tkInt v46 none fun q48 n49 => (tkNil r47 none ((tkOut (env 27 [(.agg (eSite s)), (.int .i64 (0 : Int)), (.agg [(.int q40 n41), (.int q44 n45), (.int q48 n49)]), (.agg (eSpan (Sl.el (Day.press (Sl.el ds (Int.toNat i2))) 0))), (.agg (eSpan (Sl.el (Day.warm (Sl.el ds (Int.toNat i2))) 0))), (sl eInt 1 wh), (.int .i64 (IntKind.wrap .i64 ((6 : Int) * (IntKind.wrap .i64 ((IntKind.wrap .i64 (((k0 : Nat) : Int) * i2)) + (0 : Int))))))]) none (fun v50 => (tkAgg v50 none fun l51 => (tkCons l51 none fun v52 r53 => (tkInt v52 none fun q54 n55 => (tkCons r53 none fun v56 r57 => (tkInt v56 none fun q58 n59 => (tkCons r57 none fun v60 r61 => (tkInt v60 none fun q62 n63 => (tkNil r61 none ((bif (decide ((0 : Int) < ((k0 : Nat) : Int))) then (L6x10 env F s ds wh m0 fu k0 k1 i2 1 (IntKind.wrap .i64 ((0 : Int) + (1 : Int))) q3 i4 q5 i6 q7 i8 q9 i10 q11 i12 q13 i14 q15 i16 q17 i18 k19 (updGet g20 0 0 [(.int q54 n55), (.int q58 n59), (.int q62 n63)]) k21 g22 1 (fun u64 => [(.int q36 n37)]))
                                                                  else none)))))))))))
                                                (fun p50 => (tkIfc p50 none fun t51 x52 => (bif (flatP (.iface t51 x52)) then some (.pan (.iface t51 x52))
                                                    else none))))))))))))
                                else none)
                              else none)))
                          (fun p35 => (tkIfc p35 none fun t36 x37 => (bif (flatP (.iface t36 x37)) then some (.pan (.iface t36 x37))
                              else none))))))
                      (fun p32 => (tkIfc p32 none fun t33 x34 => (bif (flatP (.iface t33 x34)) then some (.pan (.iface t33 x34))
                          else none)))))))
                (fun p30 => (tkIfc p30 none fun t31 x32 => (bif (flatP (.iface t31 x32)) then some (.pan (.iface t31 x32))
                    else none))))
              else none)
            else none)
          else none)
        else none)
      else none)
    else none)
  else (tkOut (env 33 [(.agg (eSite s)), (.row false k0 3 (fun u30 => (g20 u30))), (.row true 0 0 (fun u30 => [])), (.row false k1 1 (fun u30 => (g22 u30)))]) none (fun v30 => (tkBool v30 none fun b31 => (bif b31 then (bif (decide (q5 = .i64)) then (bif (i6 == (1 : Int)) then some (.ret (.bool false))
            else (bif (decide (.i64 = q3)) then (bif (decide (i2 < i4)) then some (.ret (.bool false))
                else (bif b31 then (tkOut (env 13 []) none (fun v32 => (tkBool v32 none fun b33 => some (.ret (.bool b33))))
                    (fun p32 => (tkIfc p32 none fun t33 x34 => (bif (flatP (.iface t33 x34)) then some (.pan (.iface t33 x34))
                        else none))))
                  else (bif (decide (q13 = .i64)) then (bif (i14 != (1 : Int)) then (bif (decide (.i64 = q11)) then (bif (decide (i2 ≥ i12)) then some (.ret (.bool false))
                          else (L6x4 env F s ds wh m0 k0 (IntKind.wrap .i64 (i2 + (1 : Int))) q3 i4 q5 i6 q7 i8 q9 i10 q11 i12 q13 i14 q15 i16 q17 i18 k19 g20))
                        else none)
                      else (L6x4 env F s ds wh m0 k0 (IntKind.wrap .i64 (i2 + (1 : Int))) q3 i4 q5 i6 q7 i8 q9 i10 q11 i12 q13 i14 q15 i16 q17 i18 k19 g20))
                    else none)))
              else none))
          else none)
        else (bif b31 then (tkOut (env 13 []) none (fun v32 => (tkBool v32 none fun b33 => some (.ret (.bool b33))))
            (fun p32 => (tkIfc p32 none fun t33 x34 => (bif (flatP (.iface t33 x34)) then some (.pan (.iface t33 x34))
                else none))))
          else (bif (decide (q13 = .i64)) then (bif (i14 != (1 : Int)) then (bif (decide (.i64 = q11)) then (bif (decide (i2 ≥ i12)) then some (.ret (.bool false))
                  else (L6x4 env F s ds wh m0 k0 (IntKind.wrap .i64 (i2 + (1 : Int))) q3 i4 q5 i6 q7 i8 q9 i10 q11 i12 q13 i14 q15 i16 q17 i18 k19 g20))
                else none)
              else (L6x4 env F s ds wh m0 k0 (IntKind.wrap .i64 (i2 + (1 : Int))) q3 i4 q5 i6 q7 i8 q9 i10 q11 i12 q13 i14 q15 i16 q17 i18 k19 g20))
            else none)))))
    (fun p30 => (tkIfc p30 none fun t31 x32 => (bif (flatP (.iface t31 x32)) then some (.pan (.iface t31 x32))
        else none))))) := by kernel_rfl
theorem L6x10s (env : Env) (F : Nat) (s : Site) (ds : Sl Day) (wh : Sl Int) (m0 : Nat) (fu : Nat) (k0 : Nat) (k1 : Nat) (i2 : Int) (k3 : Nat) (i4 : Int) (q5 : IntKind) (i6 : Int) (q7 : IntKind) (i8 : Int) (q9 : IntKind) (i10 : Int) (q11 : IntKind) (i12 : Int) (q13 : IntKind) (i14 : Int) (q15 : IntKind) (i16 : Int) (q17 : IntKind) (i18 : Int) (q19 : IntKind) (i20 : Int) (k21 : Nat) (g22 : Nat → List V) (k23 : Nat) (g24 : Nat → List V) (k25 : Nat) (g26 : Nat → List V) : L6x10 env F s ds wh m0 (fu + 1) k0 k1 i2 k3 i4 q5 i6 q7 i8 q9 i10 q11 i12 q13 i14 q15 i16 q17 i18 q19 i20 k21 g22 k23 g24 k25 g26 =
  (bif (decide (i4 < ((k0 : Nat) : Int))) then (bif (decide ((0 : Int) ≤ i2)) then (bif (decide (i2 < (((Sl.len ds) : Nat) : Int))) then (bif (decide ((0 : Int) ≤ i4)) then (bif (decide (i4 < (((Sl.len (Day.press (Sl.el ds (Int.toNat i2)))) : Nat) : Int))) then (bif (decide ((0 : Int) ≤ i2)) then (bif (decide (i2 < (((Sl.len ds) : Nat) : Int))) then (bif (decide ((0 : Int) ≤ i4)) then (bif (decide (i4 < (((Sl.len (Day.warm (Sl.el ds (Int.toNat i2)))) : Nat) : Int))) then (tkOut (env 32 [(.agg (eSite s)), (.int .i64 i4), (.agg (eSpan (Sl.el (Day.press (Sl.el ds (Int.toNat i2))) (Int.toNat i4)))), (.agg (eSpan (Sl.el (Day.warm (Sl.el ds (Int.toNat i2))) (Int.toNat i4))))]) none (fun v34 => (tkBool v34 none fun b35 => (bif b35 then (bif (decide (q7 = .i64)) then (bif (i8 != (1 : Int)) then (bif (decide (q5 = .i64)) then (bif (decide (i6 ≤ i2)) then (bif (decide (q15 = .i64)) then (bif (i16 == (1 : Int)) then (tkOut (env 13 []) none (fun v36 => (tkBool v36 none fun b37 => some (.ret (.bool b37))))
                                      (fun p36 => (tkIfc p36 none fun t37 x38 => (bif (flatP (.iface t37 x38)) then some (.pan (.iface t37 x38))
                                          else none))))
                                    else (bif (decide (q13 = .i64)) then (bif (decide (i14 < i2)) then (tkOut (env 13 []) none (fun v36 => (tkBool v36 none fun b37 => some (.ret (.bool b37))))
                                          (fun p36 => (tkIfc p36 none fun t37 x38 => (bif (flatP (.iface t37 x38)) then some (.pan (.iface t37 x38))
                                              else none))))
                                        else some (.ret (.bool false)))
                                      else none))
                                  else none)
                                else some (.ret (.bool false)))
                              else none)
                            else some (.ret (.bool false)))
                          else none)
                        else (tkOut (env 26 [(sl eInt 1 wh), (.int .i64 (IntKind.wrap .i64 ((6 : Int) * (IntKind.wrap .i64 ((IntKind.wrap .i64 (((k0 : Nat) : Int) * i2)) + i4)))))]) none (fun v36 => (tkInt v36 none fun q37 n38 => (tkOut (env 25 [(.agg (eSpan (Sl.el (Day.press (Sl.el ds (Int.toNat i2))) (Int.toNat i4)))), (.int q37 n38)]) none (fun v39 => (tkInt v39 none fun q40 n41 => (bif (decide (((k3 + 1) * 8) ≤ 140737488355328)) then (bif (decide ((0 : Int) ≤ i4)) then (bif (decide (i4 < ((k0 : Nat) : Int))) then (bif ((List.length (List.take 3 (g22 (Int.toNat i4)))) == 3) then (tkCons (List.take 3 (g22 (Int.toNat i4))) none fun v42 r43 => (tkInt v42 none fun q44 n45 => (tkCons r43 none fun v46 r47 => (tkInt v46 none fun q48 n49 => (tkCons r47 none fun v50 r51 => (tkInt v50 none fun q52 n53 => (tkNil r51 none ((tkOut (env 27 [(.agg (eSite s)), (.int .i64 i4), (.agg [(.int q44 n45), (.int q48 n49), (.int q52 n53)]), (.agg (eSpan (Sl.el (Day.press (Sl.el ds (Int.toNat i2))) (Int.toNat i4)))), (.agg (eSpan (Sl.el (Day.warm (Sl.el ds (Int.toNat i2))) (Int.toNat i4)))), (sl eInt 1 wh), (.int .i64 (IntKind.wrap .i64 ((6 : Int) * (IntKind.wrap .i64 ((IntKind.wrap .i64 (((k0 : Nat) : Int) * i2)) + i4)))))]) none (fun v54 => (tkAgg v54 none fun l55 => (tkCons l55 none fun v56 r57 => (tkInt v56 none fun q58 n59 => (tkCons r57 none fun v60 r61 => (tkInt v60 none fun q62 n63 => (tkCons r61 none fun v64 r65 => (tkInt v64 none fun q66 n67 => (tkNil r65 none ((bif (decide ((0 : Int) ≤ i4)) then (bif (decide (i4 < ((k0 : Nat) : Int))) then (L6x10 env F s ds wh m0 fu k0 k1 i2 (k3 + 1) (IntKind.wrap .i64 (i4 + (1 : Int))) q5 i6 q7 i8 q9 i10 q11 i12 q13 i14 q15 i16 q17 i18 q19 i20 k21 (updGet g22 (Int.toNat i4) 0 [(.int q58 n59), (.int q62 n63), (.int q66 n67)]) k23 g24 (k3 + 1) (appGet k3 g26 (fun u68 => [(.int q40 n41)])))
                                                                            else none)
                                                                          else none)))))))))))
                                                        (fun p54 => (tkIfc p54 none fun t55 x56 => (bif (flatP (.iface t55 x56)) then some (.pan (.iface t55 x56))
                                                            else none))))))))))))
                                        else none)
                                      else none)
                                    else none)
                                  else none)))
                              (fun p39 => (tkIfc p39 none fun t40 x41 => (bif (flatP (.iface t40 x41)) then some (.pan (.iface t40 x41))
                                  else none))))))
                          (fun p36 => (tkIfc p36 none fun t37 x38 => (bif (flatP (.iface t37 x38)) then some (.pan (.iface t37 x38))
                              else none)))))))
                    (fun p34 => (tkIfc p34 none fun t35 x36 => (bif (flatP (.iface t35 x36)) then some (.pan (.iface t35 x36))
                        else none))))
                  else none)
                else none)
              else none)
            else none)
          else none)
        else none)
      else none)
    else none)
  else (tkOut (env 33 [(.agg (eSite s)), (.row false k0 3 (fun u34 => (g22 u34))), (.row false k3 1 (fun u34 => (g26 u34))), (.row false k1 1 (fun u34 => (g24 u34)))]) none (fun v34 => (tkBool v34 none fun b35 => (bif b35 then (bif (decide (q7 = .i64)) then (bif (i8 == (1 : Int)) then some (.ret (.bool false))
            else (bif (decide (.i64 = q5)) then (bif (decide (i2 < i6)) then some (.ret (.bool false))
                else (bif b35 then (tkOut (env 13 []) none (fun v36 => (tkBool v36 none fun b37 => some (.ret (.bool b37))))
                    (fun p36 => (tkIfc p36 none fun t37 x38 => (bif (flatP (.iface t37 x38)) then some (.pan (.iface t37 x38))
                        else none))))
                  else (bif (decide (q15 = .i64)) then (bif (i16 != (1 : Int)) then (bif (decide (.i64 = q13)) then (bif (decide (i2 ≥ i14)) then some (.ret (.bool false))
                          else (L6x8 env F s ds wh m0 k0 k3 (IntKind.wrap .i64 (i2 + (1 : Int))) q5 i6 q7 i8 q9 i10 q11 i12 q13 i14 q15 i16 q17 i18 q19 i20 k21 g22 k25 g26))
                        else none)
                      else (L6x8 env F s ds wh m0 k0 k3 (IntKind.wrap .i64 (i2 + (1 : Int))) q5 i6 q7 i8 q9 i10 q11 i12 q13 i14 q15 i16 q17 i18 q19 i20 k21 g22 k25 g26))
                    else none)))
              else none))
          else none)
        else (bif b35 then (tkOut (env 13 []) none (fun v36 => (tkBool v36 none fun b37 => some (.ret (.bool b37))))
            (fun p36 => (tkIfc p36 none fun t37 x38 => (bif (flatP (.iface t37 x38)) then some (.pan (.iface t37 x38))
                else none))))
          else (bif (decide (q15 = .i64)) then (bif (i16 != (1 : Int)) then (bif (decide (.i64 = q13)) then (bif (decide (i2 ≥ i14)) then some (.ret (.bool false))
                  else (L6x8 env F s ds wh m0 k0 k3 (IntKind.wrap .i64 (i2 + (1 : Int))) q5 i6 q7 i8 q9 i10 q11 i12 q13 i14 q15 i16 q17 i18 q19 i20 k21 g22 k25 g26))
                else none)
              else (L6x8 env F s ds wh m0 k0 k3 (IntKind.wrap .i64 (i2 + (1 : Int))) q5 i6 q7 i8 q9 i10 q11 i12 q13 i14 q15 i16 q17 i18 q19 i20 k21 g22 k25 g26))
            else none)))))
    (fun p34 => (tkIfc p34 none fun t35 x36 => (bif (flatP (.iface t35 x36)) then some (.pan (.iface t35 x36))
        else none))))) := by kernel_rfl

end Go.Sim.Cr

/-
  CreepHolds: the calls; what is known of the first faults, day by day.
-/
namespace Go.Sim.Cr
open Go.Proofs
variable (F d : Nat)
/-- A nil list of numbers, as the evaluator sees it elsewhere. -/
def fixI : V → V
  | .row nl n wd g => bif wd == 0 && (nl && n == 0) then .row true 0 1 (fun _ => eInt 0) else .row nl n wd g
  | v => v
theorem fixI_ok (w : World) (pv : Nat → Prop) (v : Value) (c : V) (h : Rel w pv none_ v c) : Rel w pv none_ v (fixI c) := by
  cases c with
  | row nl n wd g =>
    show Rel w pv none_ v (bif wd == 0 && (nl && n == 0) then .row true 0 1 (fun _ => eInt 0) else .row nl n wd g)
    cases e : wd == 0 && (nl && n == 0) with
    | false => exact h
    | true =>
      simp only [Bool.and_eq_true, beq_iff_eq] at e
      obtain ⟨_, rfl, rfl⟩ := e
      exact rel_nil h
  | _ => exact h
noncomputable def EX6 (F d : Nat) : Env := fun g args => E F d g (args.map fixI)
theorem okEX6 (F d : Nat) : OkEnv Try.prog (EX6 F d) := okFix (okE F d) fixI fixI_ok
noncomputable def E6 (F d : Nat) : Env := fun f args => evFun Try.prog (cfg F) (EX6 F d) f args
theorem okE6 (F d : Nat) : OkEnv Try.prog (E6 F d) := okEv (okCfg F) names (okEX6 F d)
theorem x13 (hF : 67108864 < F) : EX6 F (d + 11) 13 [] = some (.ret (.bool true)) := s13 F d hF
theorem x26 (w : Sl Int) (n : Nat) (h1 : 1 ≤ w.len) : EX6 F (d + 11) 26 [sl eInt 1 w, .int .i64 (n : Int)] = some (.ret (.int .i64 (chs w n))) := s26 F (d + 10) w n h1
theorem x25 (p : Span) (n : Int) (hp : SpanIn p 0 1000000000) (hn : 0 ≤ n ∧ n ≤ 100) : EX6 F (d + 11) 25 [.agg (eSpan p), .int .i64 n] = some (.ret (.int .i64 (partS p n))) := s25 F (d + 10) p n hp hn
theorem x32 (s : Site) (i : Nat) (p q : Span) (hS : SiteF s) (hi : i < s.cavs.len) (hp : SpanIn p 0 50000) : EX6 F (d + 11) 32 [.agg (eSite s), .int .i64 (i : Int), .agg (eSpan p), .agg (eSpan q)] = some (.ret (.bool (farB s (s.cavs.el i) p q))) := s32 F (d + 9) s i p q hS hi hp
theorem x27 {s : Site} {p q : Span} {w : Sl Int} (i : Nat) (t : Truth) (n : Nat) (hS : SiteF s) (hi : i < s.cavs.len) (hf : farB s (s.cavs.el i) p q = false) (hp : SpanIn p 0 50000) (hq : SpanIn q 0 10000) (hw : PctOk w) (hv : 0 ≤ t.vol ∧ t.vol ≤ 10000000) (hr : 0 ≤ t.rad ∧ t.rad ≤ 1000000) (hl : 0 ≤ t.lost ∧ t.lost ≤ 1000000000) (hn : n ≤ 1000000) (hF : 8 < F) :
    EX6 F (d + 11) 27 [.agg (eSite s), .int .i64 (i : Int), .agg [.int .i64 t.rad, .int .i64 t.vol, .int .i64 t.lost], .agg (eSpan p), .agg (eSpan q), sl eInt 1 w, .int .i64 (n : Int)] = some (.ret (.agg (eTruth (grownT s (s.cavs.el i) t p q w n)))) := s27 F (d + 8) i t n hS hi hf hp hq hw hv hr hl hn hF
theorem fixI_agg (l : List V) : fixI (.agg l) = .agg l := rfl
theorem fixI_3 (nl : Bool) (n : Nat) (g : Nat → List V) : fixI (.row nl n 3 g) = .row nl n 3 g := rfl
theorem fixI_1 (nl : Bool) (n : Nat) (g : Nat → List V) : fixI (.row nl n 1 g) = .row nl n 1 g := rfl
theorem fixI_0 (g : Nat → List V) : fixI (.row true 0 0 g) = .row true 0 1 (fun _ => eInt 0) := rfl
theorem x33 {s : Site} {n m : Nat} {T : Nat → Truth} {P Q : Nat → Int} (hS : SiteF s) (hT : FitT s ⟨false, n, T⟩ ⟨false, n, P⟩ ⟨false, m, Q⟩) (hF : 2147483648 < F) : EX6 F (d + 11) 33 [.agg (eSite s), .row false n 3 (fun j => eTruth (T j)), .row false n 1 (fun j => eInt (P j)), .row false m 1 (fun j => eInt (Q j))] = some (.ret (.bool (wrongT s ⟨false, n, T⟩ ⟨false, n, P⟩ ⟨false, m, Q⟩))) := by
  show E F (d + 11) 33 [fixI _, fixI _, fixI _, fixI _] = _
  rw [fixI_agg, fixI_3, fixI_1, fixI_1]
  exact s33 F (d + 8) (t := ⟨false, n, T⟩) (p := ⟨false, n, P⟩) (q := ⟨false, m, Q⟩) hS hT hF
theorem x33n {s : Site} {n : Nat} {T : Nat → Truth} {P : Nat → Int} (hS : SiteF s) (hT : FitT s ⟨false, n, T⟩ ⟨false, n, P⟩ ⟨true, 0, fun _ => 0⟩) (hF : 2147483648 < F) : EX6 F (d + 11) 33 [.agg (eSite s), .row false n 3 (fun j => eTruth (T j)), .row false n 1 (fun j => eInt (P j)), .row true 0 0 (fun _ => [])] = some (.ret (.bool (wrongT s ⟨false, n, T⟩ ⟨false, n, P⟩ ⟨true, 0, fun _ => 0⟩))) := by
  show E F (d + 11) 33 [fixI _, fixI _, fixI _, fixI _] = _
  rw [fixI_agg, fixI_3, fixI_1, fixI_0]
  exact s33 F (d + 8) (t := ⟨false, n, T⟩) (p := ⟨false, n, P⟩) (q := ⟨true, 0, fun _ => 0⟩) hS hT hF
/-- Nothing is wrong ahead of the first possible fault .. -/
structure AB (s : Site) (ds : Sl Day) (a b : Fault) (r t : Nat) (l : Sl Stt) : Prop where
  a : (a.rule ≠ 1 ∧ a.day < (t : Int)) ∨ a = refFrom s ds false r t l
  b : b = refFrom s ds true r t l
section
variable {s : Site} {ds : Sl Day} {a b : Fault} {r t : Nat} {l : Sl Stt}
theorem AB.far (h : AB s ds a b (r + 1) t l) (hf : farDay s (ds.el t) = true) : a.rule ≠ 1 ∧ a.day ≤ (t : Int) ∧ b.rule = 1 := by
  have hb := h.b
  rw [ref_step, hf] at hb
  have hb1 : b.rule = 1 := by rw [hb]; rfl
  rcases h.a with ⟨h1, h2⟩ | ha
  · exact ⟨h1, by omega, hb1⟩
  · obtain ⟨f, e⟩ := far_early hf (t : Int) (prevOf ds t)
    have e2 : faultR (t : Int) (isM false) (marksOf s (ds.el t) (prevOf ds t) (some (moved s l (ds.el t)))) = some f := by rw [marks_parts, faultR_append, e]
    rw [ref_step, Bool.and_false, cond_false, e2] at ha
    obtain ⟨g1, p, hp, g2, _⟩ := fR_inv e2
    have := rule_marks p hp
    simp only at ha
    subst ha
    exact ⟨by omega, by omega, hb1⟩
theorem AB.bday (h : AB s ds a b r t l) : b.rule = 1 ∨ (t : Int) ≤ b.day := by
  rw [h.b]
  rcases ref_day s ds true r t l with h | ⟨h, _⟩
  · rw [h]; exact .inl rfl
  · exact .inr h
theorem AB.wrong {tt : Sl Truth} {p q : Sl Int} (h : AB s ds a b (r + 1) t l) (hS : SiteF s) (hM : StatesOk s (moved s l (ds.el t))) (hT : Tr s (ds.el t) (prevOf ds t) (moved s l (ds.el t)) tt p q) (hw : wrongT s tt p q = true) : a.rule ≠ 1 ∧ a.day ≤ (t : Int) := by
  rcases h.a with ⟨h1, h2⟩ | ha
  · exact ⟨h1, by omega⟩
  · obtain ⟨f, e2⟩ := fR_of (n := (t : Int)) (is := isM false) (wrong_may hS hM hT hw)
    rw [ref_step, Bool.and_false, cond_false, e2] at ha
    obtain ⟨g1, p, hp, g2, _⟩ := fR_inv e2
    have := rule_marks p hp
    simp only at ha
    subst ha
    exact ⟨by omega, by omega⟩
theorem AB.step {tt : Sl Truth} {p q : Sl Int} (h : AB s ds a b (r + 1) t l) (hS : SiteF s) (hf : farDay s (ds.el t) = false) (hM : StatesOk s (moved s l (ds.el t))) (hT : Tr s (ds.el t) (prevOf ds t) (moved s l (ds.el t)) tt p q) (hw : wrongT s tt p q = false) : AB s ds a b r (t + 1) (moved s l (ds.el t)) := by
  have hb := h.b
  rw [ref_step, hf, Bool.false_and, cond_false] at hb
  refine ⟨?_, ?_⟩
  · rcases h.a with ⟨h1, h2⟩ | ha
    · exact .inl ⟨h1, by omega⟩
    · rw [ref_step, Bool.and_false, cond_false] at ha
      cases e2 : faultR (t : Int) (isM false) (marksOf s (ds.el t) (prevOf ds t) (some (moved s l (ds.el t)))) with
      | some f =>
        rw [e2] at ha
        obtain ⟨g1, p, hp, g2, _⟩ := fR_inv e2
        have := rule_marks p hp
        simp only at ha
        subst ha
        exact .inl ⟨by omega, by omega⟩
      | none => rw [e2] at ha; exact .inr ha
  · cases e2 : faultR (t : Int) (isM true) (marksOf s (ds.el t) (prevOf ds t) (some (moved s l (ds.el t)))) with
    | some f =>
      obtain ⟨_, p, hp, _, m, hm, hc⟩ := fR_inv e2
      rw [wrong_sure hS hM hT ⟨p, hp, m, hm, hc⟩] at hw
      cases hw
    | none => rw [e2] at hb; exact hb
end
end Go.Sim.Cr

/-
  CreepHolds: the loops.
-/
namespace Go.Sim.Cr
open Go.Proofs
variable (F d : Nat)
section
variable {s : Site} {ds : Sl Day} {w : Sl Int} {a b : Fault} {T0 : Nat → Truth} {N : Nat}
/-- The pressures of a day that are true. -/
abbrev prT (y : Day) (w : Sl Int) (N t : Nat) (j : Nat) : Int := partS (y.press.el j) (chs w (n4 N t j))
/-- A cavern that has been looked at. -/
structure Seen (s : Site) (y : Day) (l : Sl Stt) (T T0 : Nat → Truth) (t j : Nat) : Prop where
  inn : Within (T j) ((moved s l y).el j)
  rad : (T j).rad ≤ 200000 + 1000 * ((t + 1 : Nat) : Int)
  sum : (T j).vol + (T j).lost = (T0 j).vol
  near : farB s (s.cavs.el j) (y.press.el j) (y.warm.el j) = false
/-- One cavern's day. -/
theorem seen_step (hS : SiteF s) {y : Day} {l : Sl Stt} {T : Nat → Truth} {t i : Nat} (hL : StatesOk s l) (hD : DayOk s y) (hi : i < N) (hN : N = s.cavs.len) (ht : t < 8) (hK : Kn w T T0 l N i t) (hn : farB s (s.cavs.el i) (y.press.el i) (y.warm.el i) = false) :
    Seen s y l (updT T i (grownT s (s.cavs.el i) (T i) (y.press.el i) (y.warm.el i) w (n4 N t i))) T0 t i ∧ (0 ≤ (T i).vol ∧ (T i).vol ≤ 10000000) ∧ (0 ≤ (T i).rad ∧ (T i).rad ≤ 1000000) ∧ (0 ≤ (T i).lost ∧ (T i).lost ≤ 1000000000) ∧ n4 N t i ≤ 1000000 := by
  have h5 := hS.cavs5
  have hl := hL.1
  have hpl := hD.1.1
  have hwl := hD.2.1
  have hx := hL.2 i (by omega)
  have q1 := hD.1.2 i (by omega)
  have q2 := hD.2.2 i (by omega)
  obtain ⟨k1, k2, k3⟩ := hK.inn i (Nat.le_refl _) hi
  have krad := hK.rad i (Nat.le_refl _) hi
  have ksum := hK.sum i (Nat.le_refl _) hi
  have ktop := hK.top i hi
  have hNt : N * t ≤ 40 := Nat.le_trans (Nat.mul_le_mul (show N ≤ 5 by omega) (show t ≤ 8 by omega)) (by omega)
  have hgi := grown_in hS hn q1.2.1 q2.2.1 hK.ok (n4 N t i) hx ⟨k1, k2, k3⟩ (by omega) (by omega)
  have hlo := lostT_ok hS hn q1.2.1 q2.2.1 hK.ok (n4 N t i) (v := (T i).vol) (by omega)
  obtain ⟨_, _, _, _, f1, f2⟩ := rateT_ok hS hn q1.2.1 q2.2.1 hK.ok (n4 N t i)
  have hu : updT T i (grownT s (s.cavs.el i) (T i) (y.press.el i) (y.warm.el i) w (n4 N t i)) i = grownT s (s.cavs.el i) (T i) (y.press.el i) (y.warm.el i) w (n4 N t i) := if_pos rfl
  refine ⟨⟨?_, ?_, ?_, hn⟩, by omega, by omega, by omega, show 6 * (N * t + i) ≤ 1000000 by omega⟩
  · rw [hu, show (moved s l y).el i = mv s l y i from outL_el (by omega)]
    exact hgi
  · rw [hu]; simp only [grownT]; omega
  · rw [hu]; simp only [grownT]; omega
theorem Seen.upd {y : Day} {l : Sl Stt} {T : Nat → Truth} {t i j : Nat} {g : Truth} (h : Seen s y l T T0 t j) (hj : j ≠ i) : Seen s y l (updT T i g) T0 t j := by
  have : updT T i g j = T j := if_neg hj
  exact ⟨this ▸ h.inn, this ▸ h.rad, this ▸ h.sum, h.near⟩
theorem Kn.upd {l : Sl Stt} {T : Nat → Truth} {n i t : Nat} {g : Truth} (h : Kn w T T0 l n i t) : Kn w (updT T i g) T0 l n (i + 1) t := by
  have e : ∀ j, i + 1 ≤ j → updT T i g j = T j := fun j hj => if_neg (by omega)
  exact ⟨h.ok, fun j h1 h2 => by rw [e j h1]; exact h.inn j (by omega) h2, fun j h1 h2 => by rw [e j h1]; exact h.rad j (by omega) h2, fun j h1 h2 => by rw [e j h1]; exact h.sum j (by omega) h2, h.top⟩
theorem near_all {y : Day} {l : Sl Stt} {T : Nat → Truth} {t : Nat} (h : ∀ j, j < s.cavs.len → Seen s y l T T0 t j) : farDay s y = false := by
  cases e : farDay s y with
  | false => rfl
  | true =>
    obtain ⟨k, _, hk, e⟩ := (anyF_eq _ _ _).1 e
    have := (h k (by omega)).near
    unfold farAt at e
    rw [this] at e; cases e
theorem fit_day (hS : SiteF s) {y : Day} {l : Sl Stt} {T : Nat → Truth} {t : Nat} (hL : StatesOk s l) (hD : DayOk s y) (hN : N = s.cavs.len) (ht : t < 8) (hw : PctOk w) (h : ∀ j, j < N → Seen s y l T T0 t j) (q : Sl Int) (bf : Option (Sl Span)) (hb0 : bf = none → q.len = 0)
    (hb1 : ∀ x, bf = some x → q.len = N ∧ ∀ j, j < N → ((x.el j).lo ≤ q.el j ∧ q.el j ≤ (x.el j).hi) ∧ SpanIn (x.el j) 0 50000) :
    FitT s ⟨false, N, T⟩ ⟨false, N, fun j => prT y w N t (min j (N - 1))⟩ q ∧ Tr s y bf (moved s l y) ⟨false, N, T⟩ ⟨false, N, fun j => prT y w N t (min j (N - 1))⟩ q := by
  have hl := hL.1
  have hpl := hD.1.1
  have hM := moved_ok hS hL hD (near_all (fun j hj => h j (by omega)))
  have hml : (moved s l y).len = l.len := rfl
  have pin : ∀ j, j < N → ((y.press.el j).lo ≤ prT y w N t (min j (N - 1)) ∧ prT y w N t (min j (N - 1)) ≤ (y.press.el j).hi) ∧ SpanIn (y.press.el j) 0 50000 := fun j hj => by
    have q1 := hD.1.2 j (by omega)
    rw [show min j (N - 1) = j by omega]
    exact ⟨partS_ok q1.2.1 (chs_ok hw _), q1⟩
  refine ⟨⟨hN, hN, fun hq => ?_, fun j hj => ?_, fun j hj => ?_, fun j hj => ?_, fun j hj => ?_⟩, hN, hM.1, fun j hj => (h j hj).inn, fun j hj => (pin j hj).1, hb0, fun x hx => ⟨(hb1 x hx).1.trans hN, fun j hj => ((hb1 x hx).2 j hj).1⟩⟩
  · cases hb : bf with
    | none => have := hb0 hb; omega
    | some x => exact (hb1 x hb).1.trans hN
  · have h1 := (h j hj).inn.rad
    have h2 := (h j hj).rad
    have h3 := (hM.2 j (by have : j < N := hj; omega)).1
    simp only
    omega
  · have h1 := (h j hj).inn.lost
    have h3 := (hM.2 j (by have : j < N := hj; omega)).2.2
    simp only
    omega
  · have := pin j hj
    simp only
    omega
  · cases hb : bf with
    | none => have := hb0 hb; omega
    | some x =>
      obtain ⟨g1, g2⟩ := hb1 x hb
      have := g2 j (by omega)
      omega
theorem kn_next {y : Day} {l : Sl Stt} {T : Nat → Truth} {t : Nat} (hw : PctOk w) (ht : ∀ j, j < N → (T0 j).vol ≤ 10000000) (h : ∀ j, j < N → Seen s y l T T0 t j) : Kn w T T0 (moved s l y) N 0 (t + 1) :=
  ⟨hw, fun j _ hj => (h j hj).inn, fun j _ hj => (h j hj).rad, fun j _ hj => (h j hj).sum, ht⟩
theorem w6 {N t i : Nat} (h : N * t ≤ 1000) (hi : i ≤ 1000) : IntKind.i64.wrap ((6 : Int) * IntKind.i64.wrap (IntKind.i64.wrap ((N : Int) * (t : Int)) + (i : Int))) = ((n4 N t i : Nat) : Int) := by
  have e : (N : Int) * (t : Int) = ((N * t : Nat) : Int) := by push_cast; rfl
  rw [e, wr (n := ((N * t : Nat) : Int)) (by omega), wr (n := ((N * t : Nat) : Int) + (i : Int)) (by omega), wr (by omega)]
  show _ = ((6 * (N * t + i) : Nat) : Int)
  omega
theorem z11 : ((1 : Int) == 1) = true := rfl

/-- The caverns of a day, from the second one on. -/
theorem l6xn (hS : SiteF s) (hF : 2147483648 < F) {l : Sl Stt} {t : Nat} (hL : StatesOk s l) (hD : DayOk s (ds.el t)) (hN : N = s.cavs.len) (ht : t < ds.len) (h8 : ds.len ≤ 8) (hp0 : prevOf ds t = none) {rr : Nat} (hAB : AB s ds a b (rr + 1) t l) (m0 : Nat)
    (hO : ∀ T, Kn w T T0 (moved s l (ds.el t)) N 0 (t + 1) → farDay s (ds.el t) = false → AB s ds a b rr (t + 1) (moved s l (ds.el t)) →
      L6x8 (EX6 F (d + 11)) F s ds w m0 N N ((t + 1 : Nat) : Int) .i64 a.day .i64 a.rule .i64 a.of .i64 a.wth .i64 b.day .i64 b.rule .i64 b.of .i64 b.wth N (eTr T) N (fun j => eInt (prT (ds.el t) w N t (min j (N - 1)))) = some (.ret (.bool true))) :
    ∀ r i fu (T : Nat → Truth), N = i + r → r < fu → 1 ≤ i → Kn w T T0 l N i t → (∀ j, j < i → Seen s (ds.el t) l T T0 t j) →
    L6x7 (EX6 F (d + 11)) F s ds w m0 fu N (t : Int) i ((i : Nat) : Int) .i64 a.day .i64 a.rule .i64 a.of .i64 a.wth .i64 b.day .i64 b.rule .i64 b.of .i64 b.wth N (eTr T) i (fun j => eInt (prT (ds.el t) w N t (min j (i - 1)))) = some (.ret (.bool true)) := by
  have h5 := hS.cavs5
  have hl := hL.1
  have hpl := hD.1.1
  have hwl := hD.2.1
  have k := x13 F d (by omega)
  have hNt : N * t ≤ 40 := Nat.le_trans (Nat.mul_le_mul (show N ≤ 5 by omega) (show t ≤ 8 by omega)) (by omega)
  intro r
  induction r with
  | zero =>
    intro i fu T h hf hi1 hK hSn
    obtain ⟨fu, rfl⟩ : ∃ k, fu = k + 1 := ⟨fu - 1, by omega⟩
    obtain rfl : i = N := by omega
    have hnear : farDay s (ds.el t) = false := near_all (fun j hj => hSn j (by omega))
    have hM := moved_ok hS hL hD hnear
    obtain ⟨hFit, hTr⟩ := fit_day hS hL hD hN (by omega) hK.ok hSn ⟨true, 0, fun _ => 0⟩ (prevOf ds t) (fun _ => rfl) (fun x hx => by rw [hp0] at hx; cases hx)
    have e33 : EX6 F (d + 11) 33 [.agg (eSite s), .row false i 3 (fun j => eTruth (T j)), .row false i 1 (fun j => eInt (prT (ds.el t) w i t (min j (i - 1)))), (.row true 0 0 fun _ => [])] = some (.ret (.bool (wrongT s ⟨false, i, T⟩ ⟨false, i, fun j => prT (ds.el t) w i t (min j (i - 1))⟩ ⟨true, 0, fun _ => 0⟩))) := x33n F d hS hFit hF
    rw [L6x7s]
    simp only [Int.ofNat_lt, Nat.lt_irrefl, decide_false, pF, e33, pOut, pBool, decide_true, pT]
    cases hw : wrongT s ⟨false, i, T⟩ ⟨false, i, fun j => prT (ds.el t) w i t (min j (i - 1))⟩ ⟨true, 0, fun _ => 0⟩ with
    | true =>
      obtain ⟨g1, g2⟩ := hAB.wrong hS hM hTr hw
      have g3 : (a.rule == 1) = false := by simpa using g1
      simp only [pT, pF, g3, decide_eq_false (show ¬ (t : Int) < a.day by omega), k, pOut, pBool]
    | false =>
      have hnext := hAB.step hS hnear hM hTr hw
      have hfin := hO T (kn_next hK.ok hK.top hSn) hnear hnext
      simp only [pF, wrS (show t < 4611686018427387904 by omega)]
      rcases hnext.bday with g | g
      · have g3 : (b.rule != 1) = false := by rw [g]; rfl
        simp only [g3, pF]
        exact hfin
      · have g4 : decide ((t : Int) ≥ b.day) = false := decide_eq_false (by omega)
        cases b.rule != 1 with
        | true => simp only [pT, g4, pF]; exact hfin
        | false => simp only [pF]; exact hfin
  | succ r ih =>
    intro i fu T h hf hi1 hK hSn
    obtain ⟨fu, rfl⟩ : ∃ k, fu = k + 1 := ⟨fu - 1, by omega⟩
    have hi : i < N := by omega
    have hic : i < s.cavs.len := by omega
    have q1 := hD.1.2 i (by omega)
    have q2 := hD.2.2 i (by omega)
    rw [L6x7s]
    simp only [Int.ofNat_lt, hi, decide_true, pT, Int.natCast_nonneg, Int.toNat_natCast, ht, show i < (ds.el t).press.len by omega, show i < (ds.el t).warm.len by omega, x32 F d s i ((ds.el t).press.el i) ((ds.el t).warm.el i) hS hic q1, pOut, pBool]
    cases hn : farB s (s.cavs.el i) ((ds.el t).press.el i) ((ds.el t).warm.el i) with
    | true =>
      obtain ⟨g1, g2, g3⟩ := hAB.far ((anyF_eq _ _ _).2 ⟨i, Nat.zero_le _, by omega, hn⟩)
      have g4 : (a.rule != 1) = true := by simpa using g1
      simp only [pT, g4, decide_eq_true g2, g3, z11, k, pOut, pBool]
    | false =>
      obtain ⟨hsn, b1, b2', b3', b4⟩ := seen_step hS hL hD hi hN (by omega) hK hn
      have hct := chs_ok hK.ok (n4 N t i)
      simp only [pF, w6 (show N * t ≤ 1000 by omega) (show i ≤ 1000 by omega), x26 F d w (n4 N t i) hK.ok.2.1, pOut, pInt, x25 F d ((ds.el t).press.el i) (chs w (n4 N t i)) (by omega) hct, show (i + 1) * 8 ≤ 140737488355328 by omega, decide_true, pT,
        List.take, List.length, beq_self_eq_true, pCons, pNil, x27 F d i (T i) (n4 N t i) hS hic hn q1 q2 hK.ok b1 b2' b3' b4 (by omega), pAgg, wrS (show i < 4611686018427387904 by omega)]
      have g := ih (i + 1) fu (updT T i (grownT s (s.cavs.el i) (T i) ((ds.el t).press.el i) ((ds.el t).warm.el i) w (n4 N t i))) (by omega) (by omega) (by omega) hK.upd (fun j hj => by
        by_cases hji : j = i
        · rw [hji]; exact hsn
        · exact (hSn j (by omega)).upd hji)
      rw [show eTr (updT T i (grownT s (s.cavs.el i) (T i) ((ds.el t).press.el i) ((ds.el t).warm.el i) w (n4 N t i))) = updGet (eTr T) i 0 (eTruth (grownT s (s.cavs.el i) (T i) ((ds.el t).press.el i) ((ds.el t).warm.el i) w (n4 N t i))) from (upd_enc T i _).symm, show i + 1 - 1 = i from rfl, ← app_enc eInt (prT (ds.el t) w N t) hi1] at g
      exact g
/-- A whole day. -/
theorem f6xn (hS : SiteF s) (hF : 2147483648 < F) {l : Sl Stt} {t : Nat} (hL : StatesOk s l) (hD : DayOk s (ds.el t)) (hN : N = s.cavs.len) (ht : t < ds.len) (h8 : ds.len ≤ 8) (hp0 : prevOf ds t = none) {rr : Nat} (hAB : AB s ds a b (rr + 1) t l) (m0 : Nat)
    (hO : ∀ T, Kn w T T0 (moved s l (ds.el t)) N 0 (t + 1) → farDay s (ds.el t) = false → AB s ds a b rr (t + 1) (moved s l (ds.el t)) →
      L6x8 (EX6 F (d + 11)) F s ds w m0 N N ((t + 1 : Nat) : Int) .i64 a.day .i64 a.rule .i64 a.of .i64 a.wth .i64 b.day .i64 b.rule .i64 b.of .i64 b.wth N (eTr T) N (fun j => eInt (prT (ds.el t) w N t (min j (N - 1)))) = some (.ret (.bool true))) (fu : Nat) (T : Nat → Truth) (hf : N < fu) (hK : Kn w T T0 l N 0 t) :
    L6x6 (EX6 F (d + 11)) F s ds w m0 fu N (t : Int) .i64 a.day .i64 a.rule .i64 a.of .i64 a.wth .i64 b.day .i64 b.rule .i64 b.of .i64 b.wth N (eTr T) = some (.ret (.bool true)) := by
  have h5 := hS.cavs5
  have g1 := hS.cavs1
  have hl := hL.1
  have hpl := hD.1.1
  have hwl := hD.2.1
  have k := x13 F d (by omega)
  have hNt : N * t ≤ 40 := Nat.le_trans (Nat.mul_le_mul (show N ≤ 5 by omega) (show t ≤ 8 by omega)) (by omega)
  have hi : 0 < N := by omega
  have hic : 0 < s.cavs.len := by omega
  have q1 := hD.1.2 0 (by omega)
  have q2 := hD.2.2 0 (by omega)
  obtain ⟨fu, rfl⟩ : ∃ k, fu = k + 1 := ⟨fu - 1, by omega⟩
  have e32 : EX6 F (d + 11) 32 [.agg (eSite s), .int .i64 (0 : Int), .agg (eSpan ((ds.el t).press.el 0)), .agg (eSpan ((ds.el t).warm.el 0))] = _ := x32 F d s 0 ((ds.el t).press.el 0) ((ds.el t).warm.el 0) hS hic q1
  rw [L6x6s]
  simp only [zlt hi, zlt (show 0 < (ds.el t).press.len by omega), zlt (show 0 < (ds.el t).warm.len by omega), Int.ofNat_lt, decide_true, pT, Int.natCast_nonneg, Int.toNat_natCast, ht, e32, pOut, pBool]
  cases hn : farB s (s.cavs.el 0) ((ds.el t).press.el 0) ((ds.el t).warm.el 0) with
  | true =>
    obtain ⟨g1, g2, g3⟩ := hAB.far ((anyF_eq _ _ _).2 ⟨0, Nat.zero_le _, by omega, hn⟩)
    have g4 : (a.rule != 1) = true := by simpa using g1
    simp only [pT, g4, decide_eq_true g2, g3, z11, k, pOut, pBool]
  | false =>
    obtain ⟨hsn, b1, b2', b3', b4⟩ := seen_step hS hL hD hi hN (by omega) hK hn
    have hct := chs_ok hK.ok (n4 N t 0)
    have e6 : IntKind.i64.wrap ((6 : Int) * IntKind.i64.wrap (IntKind.i64.wrap ((N : Int) * (t : Int)) + 0)) = ((n4 N t 0 : Nat) : Int) := w6 (i := 0) (show N * t ≤ 1000 by omega) (by omega)
    have e27 : EX6 F (d + 11) 27 [.agg (eSite s), .int .i64 (0 : Int), .agg [.int .i64 (T 0).rad, .int .i64 (T 0).vol, .int .i64 (T 0).lost], .agg (eSpan ((ds.el t).press.el 0)), .agg (eSpan ((ds.el t).warm.el 0)), sl eInt 1 w, .int .i64 ((n4 N t 0 : Nat) : Int)] = _ := x27 F d 0 (T 0) (n4 N t 0) hS hic hn q1 q2 hK.ok b1 b2' b3' b4 (by omega)
    simp only [pF, e6, x26 F d w (n4 N t 0) hK.ok.2.1, pOut, pInt, x25 F d ((ds.el t).press.el 0) (chs w (n4 N t 0)) (by omega) hct, decide_true, pT,
      List.take, List.length, beq_self_eq_true, pCons, pNil, e27, pAgg, wr1]
    have g := l6xn F d hS hF hL hD hN ht h8 hp0 hAB m0 hO (N - 1) 1 fu (updT T 0 (grownT s (s.cavs.el 0) (T 0) ((ds.el t).press.el 0) ((ds.el t).warm.el 0) w (n4 N t 0))) (by omega) (by omega) (Nat.le_refl _) hK.upd (fun j hj => by
      obtain rfl : j = 0 := by omega
      exact hsn)
    rw [show eTr (updT T 0 (grownT s (s.cavs.el 0) (T 0) ((ds.el t).press.el 0) ((ds.el t).warm.el 0) w (n4 N t 0))) = updGet (eTr T) 0 0 (eTruth (grownT s (s.cavs.el 0) (T 0) ((ds.el t).press.el 0) ((ds.el t).warm.el 0) w (n4 N t 0))) from (upd_enc T 0 _).symm, ← one_enc eInt (prT (ds.el t) w N t)] at g
    exact g

/-- The caverns of a day, from the second one on. -/
theorem l6xr (hS : SiteF s) (hF : 2147483648 < F) {l : Sl Stt} {t : Nat} (hL : StatesOk s l) (hD : DayOk s (ds.el t)) (hN : N = s.cavs.len) (ht : t < ds.len) (h8 : ds.len ≤ 8) (Q : Nat → Int) (B : Sl Span) (hp0 : prevOf ds t = some B) (hQ : ∀ j, j < N → ((B.el j).lo ≤ Q j ∧ Q j ≤ (B.el j).hi) ∧ SpanIn (B.el j) 0 50000) {rr : Nat} (hAB : AB s ds a b (rr + 1) t l) (m0 : Nat)
    (hO : ∀ T, Kn w T T0 (moved s l (ds.el t)) N 0 (t + 1) → farDay s (ds.el t) = false → AB s ds a b rr (t + 1) (moved s l (ds.el t)) →
      L6x8 (EX6 F (d + 11)) F s ds w m0 N N ((t + 1 : Nat) : Int) .i64 a.day .i64 a.rule .i64 a.of .i64 a.wth .i64 b.day .i64 b.rule .i64 b.of .i64 b.wth N (eTr T) N (fun j => eInt (prT (ds.el t) w N t (min j (N - 1)))) = some (.ret (.bool true))) :
    ∀ r i fu (T : Nat → Truth), N = i + r → r < fu → 1 ≤ i → Kn w T T0 l N i t → (∀ j, j < i → Seen s (ds.el t) l T T0 t j) →
    L6x10 (EX6 F (d + 11)) F s ds w m0 fu N N (t : Int) i ((i : Nat) : Int) .i64 a.day .i64 a.rule .i64 a.of .i64 a.wth .i64 b.day .i64 b.rule .i64 b.of .i64 b.wth N (eTr T) N (fun j => eInt (Q j)) i (fun j => eInt (prT (ds.el t) w N t (min j (i - 1)))) = some (.ret (.bool true)) := by
  have h5 := hS.cavs5
  have hl := hL.1
  have hpl := hD.1.1
  have hwl := hD.2.1
  have k := x13 F d (by omega)
  have hNt : N * t ≤ 40 := Nat.le_trans (Nat.mul_le_mul (show N ≤ 5 by omega) (show t ≤ 8 by omega)) (by omega)
  intro r
  induction r with
  | zero =>
    intro i fu T h hf hi1 hK hSn
    obtain ⟨fu, rfl⟩ : ∃ k, fu = k + 1 := ⟨fu - 1, by omega⟩
    obtain rfl : i = N := by omega
    have hnear : farDay s (ds.el t) = false := near_all (fun j hj => hSn j (by omega))
    have hM := moved_ok hS hL hD hnear
    obtain ⟨hFit, hTr⟩ := fit_day hS hL hD hN (by omega) hK.ok hSn ⟨false, i, Q⟩ (prevOf ds t) (fun h => by rw [hp0] at h; cases h) (fun x hx => by rw [hp0] at hx; injection hx with hx; subst hx; exact ⟨rfl, hQ⟩)
    have e33 : EX6 F (d + 11) 33 [.agg (eSite s), .row false i 3 (fun j => eTruth (T j)), .row false i 1 (fun j => eInt (prT (ds.el t) w i t (min j (i - 1)))), (.row false i 1 fun j => eInt (Q j))] = some (.ret (.bool (wrongT s ⟨false, i, T⟩ ⟨false, i, fun j => prT (ds.el t) w i t (min j (i - 1))⟩ ⟨false, i, Q⟩))) := x33 F d hS hFit hF
    rw [L6x10s]
    simp only [Int.ofNat_lt, Nat.lt_irrefl, decide_false, pF, e33, pOut, pBool, decide_true, pT]
    cases hw : wrongT s ⟨false, i, T⟩ ⟨false, i, fun j => prT (ds.el t) w i t (min j (i - 1))⟩ ⟨false, i, Q⟩ with
    | true =>
      obtain ⟨g1, g2⟩ := hAB.wrong hS hM hTr hw
      have g3 : (a.rule == 1) = false := by simpa using g1
      simp only [pT, pF, g3, decide_eq_false (show ¬ (t : Int) < a.day by omega), k, pOut, pBool]
    | false =>
      have hnext := hAB.step hS hnear hM hTr hw
      have hfin := hO T (kn_next hK.ok hK.top hSn) hnear hnext
      simp only [pF, wrS (show t < 4611686018427387904 by omega)]
      rcases hnext.bday with g | g
      · have g3 : (b.rule != 1) = false := by rw [g]; rfl
        simp only [g3, pF]
        exact hfin
      · have g4 : decide ((t : Int) ≥ b.day) = false := decide_eq_false (by omega)
        cases b.rule != 1 with
        | true => simp only [pT, g4, pF]; exact hfin
        | false => simp only [pF]; exact hfin
  | succ r ih =>
    intro i fu T h hf hi1 hK hSn
    obtain ⟨fu, rfl⟩ : ∃ k, fu = k + 1 := ⟨fu - 1, by omega⟩
    have hi : i < N := by omega
    have hic : i < s.cavs.len := by omega
    have q1 := hD.1.2 i (by omega)
    have q2 := hD.2.2 i (by omega)
    rw [L6x10s]
    simp only [Int.ofNat_lt, hi, decide_true, pT, Int.natCast_nonneg, Int.toNat_natCast, ht, show i < (ds.el t).press.len by omega, show i < (ds.el t).warm.len by omega, x32 F d s i ((ds.el t).press.el i) ((ds.el t).warm.el i) hS hic q1, pOut, pBool]
    cases hn : farB s (s.cavs.el i) ((ds.el t).press.el i) ((ds.el t).warm.el i) with
    | true =>
      obtain ⟨g1, g2, g3⟩ := hAB.far ((anyF_eq _ _ _).2 ⟨i, Nat.zero_le _, by omega, hn⟩)
      have g4 : (a.rule != 1) = true := by simpa using g1
      simp only [pT, g4, decide_eq_true g2, g3, z11, k, pOut, pBool]
    | false =>
      obtain ⟨hsn, b1, b2', b3', b4⟩ := seen_step hS hL hD hi hN (by omega) hK hn
      have hct := chs_ok hK.ok (n4 N t i)
      simp only [pF, w6 (show N * t ≤ 1000 by omega) (show i ≤ 1000 by omega), x26 F d w (n4 N t i) hK.ok.2.1, pOut, pInt, x25 F d ((ds.el t).press.el i) (chs w (n4 N t i)) (by omega) hct, show (i + 1) * 8 ≤ 140737488355328 by omega, decide_true, pT,
        List.take, List.length, beq_self_eq_true, pCons, pNil, x27 F d i (T i) (n4 N t i) hS hic hn q1 q2 hK.ok b1 b2' b3' b4 (by omega), pAgg, wrS (show i < 4611686018427387904 by omega)]
      have g := ih (i + 1) fu (updT T i (grownT s (s.cavs.el i) (T i) ((ds.el t).press.el i) ((ds.el t).warm.el i) w (n4 N t i))) (by omega) (by omega) (by omega) hK.upd (fun j hj => by
        by_cases hji : j = i
        · rw [hji]; exact hsn
        · exact (hSn j (by omega)).upd hji)
      rw [show eTr (updT T i (grownT s (s.cavs.el i) (T i) ((ds.el t).press.el i) ((ds.el t).warm.el i) w (n4 N t i))) = updGet (eTr T) i 0 (eTruth (grownT s (s.cavs.el i) (T i) ((ds.el t).press.el i) ((ds.el t).warm.el i) w (n4 N t i))) from (upd_enc T i _).symm, show i + 1 - 1 = i from rfl, ← app_enc eInt (prT (ds.el t) w N t) hi1] at g
      exact g
/-- A whole day. -/
theorem f6xr (hS : SiteF s) (hF : 2147483648 < F) {l : Sl Stt} {t : Nat} (hL : StatesOk s l) (hD : DayOk s (ds.el t)) (hN : N = s.cavs.len) (ht : t < ds.len) (h8 : ds.len ≤ 8) (Q : Nat → Int) (B : Sl Span) (hp0 : prevOf ds t = some B) (hQ : ∀ j, j < N → ((B.el j).lo ≤ Q j ∧ Q j ≤ (B.el j).hi) ∧ SpanIn (B.el j) 0 50000) {rr : Nat} (hAB : AB s ds a b (rr + 1) t l) (m0 : Nat)
    (hO : ∀ T, Kn w T T0 (moved s l (ds.el t)) N 0 (t + 1) → farDay s (ds.el t) = false → AB s ds a b rr (t + 1) (moved s l (ds.el t)) →
      L6x8 (EX6 F (d + 11)) F s ds w m0 N N ((t + 1 : Nat) : Int) .i64 a.day .i64 a.rule .i64 a.of .i64 a.wth .i64 b.day .i64 b.rule .i64 b.of .i64 b.wth N (eTr T) N (fun j => eInt (prT (ds.el t) w N t (min j (N - 1)))) = some (.ret (.bool true))) (fu : Nat) (T : Nat → Truth) (hf : N < fu) (hK : Kn w T T0 l N 0 t) :
    L6x9 (EX6 F (d + 11)) F s ds w m0 fu N N (t : Int) .i64 a.day .i64 a.rule .i64 a.of .i64 a.wth .i64 b.day .i64 b.rule .i64 b.of .i64 b.wth N (eTr T) N (fun j => eInt (Q j)) = some (.ret (.bool true)) := by
  have h5 := hS.cavs5
  have g1 := hS.cavs1
  have hl := hL.1
  have hpl := hD.1.1
  have hwl := hD.2.1
  have k := x13 F d (by omega)
  have hNt : N * t ≤ 40 := Nat.le_trans (Nat.mul_le_mul (show N ≤ 5 by omega) (show t ≤ 8 by omega)) (by omega)
  have hi : 0 < N := by omega
  have hic : 0 < s.cavs.len := by omega
  have q1 := hD.1.2 0 (by omega)
  have q2 := hD.2.2 0 (by omega)
  obtain ⟨fu, rfl⟩ : ∃ k, fu = k + 1 := ⟨fu - 1, by omega⟩
  have e32 : EX6 F (d + 11) 32 [.agg (eSite s), .int .i64 (0 : Int), .agg (eSpan ((ds.el t).press.el 0)), .agg (eSpan ((ds.el t).warm.el 0))] = _ := x32 F d s 0 ((ds.el t).press.el 0) ((ds.el t).warm.el 0) hS hic q1
  rw [L6x9s]
  simp only [zlt hi, zlt (show 0 < (ds.el t).press.len by omega), zlt (show 0 < (ds.el t).warm.len by omega), Int.ofNat_lt, decide_true, pT, Int.natCast_nonneg, Int.toNat_natCast, ht, e32, pOut, pBool]
  cases hn : farB s (s.cavs.el 0) ((ds.el t).press.el 0) ((ds.el t).warm.el 0) with
  | true =>
    obtain ⟨g1, g2, g3⟩ := hAB.far ((anyF_eq _ _ _).2 ⟨0, Nat.zero_le _, by omega, hn⟩)
    have g4 : (a.rule != 1) = true := by simpa using g1
    simp only [pT, g4, decide_eq_true g2, g3, z11, k, pOut, pBool]
  | false =>
    obtain ⟨hsn, b1, b2', b3', b4⟩ := seen_step hS hL hD hi hN (by omega) hK hn
    have hct := chs_ok hK.ok (n4 N t 0)
    have e6 : IntKind.i64.wrap ((6 : Int) * IntKind.i64.wrap (IntKind.i64.wrap ((N : Int) * (t : Int)) + 0)) = ((n4 N t 0 : Nat) : Int) := w6 (i := 0) (show N * t ≤ 1000 by omega) (by omega)
    have e27 : EX6 F (d + 11) 27 [.agg (eSite s), .int .i64 (0 : Int), .agg [.int .i64 (T 0).rad, .int .i64 (T 0).vol, .int .i64 (T 0).lost], .agg (eSpan ((ds.el t).press.el 0)), .agg (eSpan ((ds.el t).warm.el 0)), sl eInt 1 w, .int .i64 ((n4 N t 0 : Nat) : Int)] = _ := x27 F d 0 (T 0) (n4 N t 0) hS hic hn q1 q2 hK.ok b1 b2' b3' b4 (by omega)
    simp only [pF, e6, x26 F d w (n4 N t 0) hK.ok.2.1, pOut, pInt, x25 F d ((ds.el t).press.el 0) (chs w (n4 N t 0)) (by omega) hct, decide_true, pT,
      List.take, List.length, beq_self_eq_true, pCons, pNil, e27, pAgg, wr1]
    have g := l6xr F d hS hF hL hD hN ht h8 Q B hp0 hQ hAB m0 hO (N - 1) 1 fu (updT T 0 (grownT s (s.cavs.el 0) (T 0) ((ds.el t).press.el 0) ((ds.el t).warm.el 0) w (n4 N t 0))) (by omega) (by omega) (Nat.le_refl _) hK.upd (fun j hj => by
      obtain rfl : j = 0 := by omega
      exact hsn)
    rw [show eTr (updT T 0 (grownT s (s.cavs.el 0) (T 0) ((ds.el t).press.el 0) ((ds.el t).warm.el 0) w (n4 N t 0))) = updGet (eTr T) 0 0 (eTruth (grownT s (s.cavs.el 0) (T 0) ((ds.el t).press.el 0) ((ds.el t).warm.el 0) w (n4 N t 0))) from (upd_enc T 0 _).symm, ← one_enc eInt (prT (ds.el t) w N t)] at g
    exact g
end
end Go.Sim.Cr

/-
  CreepTrue: the law answers true.
-/
namespace Go.Sim.Cr
open Go.Proofs
variable (F d : Nat)
section
variable (s : Site) (ds : Sl Day) (w : Sl Int) (x y : Int)
/-- What is true at first. -/
def first (i : Nat) : Truth := ⟨partS (s.cavs.el i).rad (chs w (2 * i)), partS (s.cavs.el i).vol (chs w (2 * i + 1)), 0⟩
theorem first_kn (hS : SiteF s) (hw : PctOk w) : Kn w (fun j => first s w (min j (s.cavs.len - 1))) (fun j => first s w (min j (s.cavs.len - 1))) (begin s) s.cavs.len 0 0 := by
  have at_ : ∀ j, j < s.cavs.len → min j (s.cavs.len - 1) = j := fun j hj => by omega
  refine ⟨hw, fun j _ hj => ?_, fun j _ hj => ?_, fun j _ hj => ?_, fun j hj => ?_⟩
  all_goals
    have hc := hS.cav j hj
    have a1 := partS_ok hc.2.1.2.1 (chs_ok hw (2 * j))
    have a2 := partS_ok hc.2.2.1.2.1 (chs_ok hw (2 * j + 1))
    simp only [at_ j hj]
  · rw [show (begin s).el j = start (s.cavs.el j) from outL_el hj]
    exact ⟨⟨by simp only [start, first]; omega, by simp only [start, first]; omega⟩, ⟨by simp only [start, first]; omega, by simp only [start, first]; omega⟩, by simp only [start, first]; omega, by simp only [start, first]; omega⟩
  · simp only [first]; omega
  · simp only [first]; omega
  · simp only [first]; omega
theorem l4x1 (hs : Small s F) (hS : SiteF s) (hp : Place x y) (hw : PctOk w) (hF : 2147483648 < F) (h8 : ds.len ≤ 8) (hFw : ∀ k, k < ds.len → (ds.el k).press.len ≤ 10 ∧ (ds.el k).warm.len ≤ 10) : ∀ r i fu, s.cavs.len = i + r → r < fu → 1 ≤ i →
    L4x1 (E F (d + 11)) F s ds w x y fu (begin s).nl (begin s).len 6 (fun i => eStt ((begin s).el i)) i (i : Int) i (fun j => eTruth (first s w (min j (i - 1)))) = some (.ret (.bool true)) := by
  have h5 := hS.cavs5
  intro r
  induction r with
  | zero =>
    intro i fu h hf hi1
    obtain ⟨fu, rfl⟩ : ∃ k, fu = k + 1 := ⟨fu - 1, by omega⟩
    obtain rfl : i = s.cavs.len := by omega
    have hbl : (begin s).len = s.cavs.len := rfl
    have hz : (s.cavs.len == 0) = false := by simp; omega
    rw [L4x1s]
    simp only [hbl, Int.ofNat_lt, Nat.lt_irrefl, decide_false, pF, hz, show s.cavs.len * 24 ≤ 140737488355328 by omega, decide_true, pT]
    exact l4x3 F d s ds w x y hs hS hp hF h8 hFw (fun j => first s w (min j (s.cavs.len - 1))) ds.len 0 F (begin s) (fun j => first s w (min j (s.cavs.len - 1))) (by omega) (by omega) (begin_ok hS) (first_kn s w hS hw)
  | succ r ih =>
    intro i fu h hf hi1
    obtain ⟨fu, rfl⟩ : ∃ k, fu = k + 1 := ⟨fu - 1, by omega⟩
    have hi : i < s.cavs.len := by omega
    have hbl : (begin s).len = s.cavs.len := rfl
    have hc := hS.cav i hi
    have w1 : IntKind.i64.wrap ((2 : Int) * (i : Int)) = ((2 * i : Nat) : Int) := by rw [wr (by omega)]; omega
    have w2 : IntKind.i64.wrap (((2 * i : Nat) : Int) + 1) = ((2 * i + 1 : Nat) : Int) := by rw [wr (by omega)]; omega
    rw [L4x1s]
    simp only [hbl, Int.ofNat_lt, hi, decide_true, pT, Int.natCast_nonneg, Int.toNat_natCast, w1, w2, s26 F (d + 10) w (2 * i) hw.2.1, s26 F (d + 10) w (2 * i + 1) hw.2.1, pOut, pInt, s25 F (d + 10) (s.cavs.el i).rad (chs w (2 * i)) (by omega) (chs_ok hw _), s25 F (d + 10) (s.cavs.el i).vol (chs w (2 * i + 1)) (by omega) (chs_ok hw _),
      show (i + 1) * 24 ≤ 140737488355328 by omega, wrS (show i < 4611686018427387904 by omega)]
    have g := ih (i + 1) fu (by omega) (by omega) (by omega)
    rw [show i + 1 - 1 = i from rfl, ← app_enc eTruth (first s w) hi1] at g
    exact g
end
set_option maxRecDepth 100000 in
set_option maxHeartbeats 1000000 in
theorem s4 (s : Site) (ds : Sl Day) (w : Sl Int) (x y : Int) (hwm : w.len ≤ 1000000000000000) (hdm : ds.len ≤ 1000000000000000) (hF : 1000000000000001 < F) : E F (d + 12) 4 [.agg (eSite s), sl eDay 2 ds, sl eInt 1 w, .int .i64 x, .int .i64 y] = some (.ret (.bool true)) := by
  have k := s13 F d (by omega)
  rw [E_succ, t4]
  simp only [s11 F (d + 10), pOut, pBool]
  by_cases h0 : ShortS s
  · have hs := small_of F h0 (by omega)
    have e16 := s16 F (d + 8) s hs
    simp only [decide_eq_true h0, Bool.not_true, pF, e16, pOut, pBool]
    cases h1 : siteB s with
    | false => simp only [Bool.not_false, pT, k, pOut, pBool]
    | true =>
      have hS := (siteB_iff s).1 h1
      have h5 := hS.cavs5
      have g1 := hS.cavs1
      simp only [Bool.not_true, pF]
      by_cases h2 : (ds.len : Int) > 8
      · simp only [decide_eq_true h2, pT, k, pOut, pBool]
      · have e12 := s12 F (d + 10) ds 8 (show ds.len < 4611686018427387904 by omega) (by omega)
        simp only [decide_eq_false h2, pF, e12, pOut, pBool]
        by_cases h3 : Few ds 8
        · have e23 := s23 F (d + 10) w (show w.len < 4611686018427387904 by omega) (by omega)
          simp only [decide_eq_true h3, Bool.not_true, pF, e23, pOut, pBool]
          by_cases h4 : PctOk w
          · have e18 := s18 F (d + 9) x y
            simp only [decide_eq_true h4, Bool.not_true, pF, e18, pOut, pBool]
            by_cases h8 : Place x y
            · have e24 := s24 F (d + 4) s hs (by omega)
              rw [h1] at e24
              have e24' : E F (d + 11) 24 [.agg (eSite s)] = some (.ret (.tup [.row (begin s).nl (begin s).len 6 (fun i => eStt ((begin s).el i)), .int .i64 0])) := e24
              have hbl : (((begin s).len : Int) == (s.cavs.len : Int)) = true := by show ((s.cavs.len : Int) == (s.cavs.len : Int)) = true; simp
              simp only [decide_eq_true h8, Bool.not_true, pF, e24', pOut, pTup, pCons, pRow, pInt, pNil, decide_true, bne, z00, hbl, pT]
              obtain ⟨fu, hfu⟩ : ∃ k, F = k + 1 := ⟨F - 1, by omega⟩
              have g := L4x0s (E F (d + 11)) F s ds w x y fu (begin s).nl (begin s).len 6 (fun i => eStt ((begin s).el i))
              rw [← hfu] at g
              refine g.trans ?_
              have hc := hS.cav 0 (by omega)
              have w1 : IntKind.i64.wrap ((2 : Int) * 0) = ((0 : Nat) : Int) := by rw [wr (by omega)]; rfl
              have w2 : IntKind.i64.wrap (((0 : Nat) : Int) + 1) = ((1 : Nat) : Int) := by rw [wr (by omega)]; rfl
              have e26 := s26 F (d + 10) w 0 h4.2.1
              have e26' := s26 F (d + 10) w 1 h4.2.1
              simp only [zlt (show 0 < (begin s).len from g1), zlt (show 0 < s.cavs.len by omega), pT, w1, w2, e26, e26', pOut, pInt, s25 F (d + 10) (s.cavs.el 0).rad (chs w 0) (by omega) (chs_ok h4 _), s25 F (d + 10) (s.cavs.el 0).vol (chs w 1) (by omega) (chs_ok h4 _), wr1]
              have e := l4x1 F d s ds w x y hs hS h8 h4 (by omega) (by omega) h3.1 (s.cavs.len - 1) 1 fu (by omega) (by omega) (Nat.le_refl _)
              rw [← one_enc eTruth (first s w)] at e
              exact e
            · simp only [decide_eq_false h8, Bool.not_false, pT, k, pOut, pBool]
          · simp only [decide_eq_false h4, Bool.not_false, pT, k, pOut, pBool]
        · simp only [decide_eq_false h3, Bool.not_false, pT, k, pOut, pBool]
  · simp only [decide_eq_false h0, Bool.not_false, pT, k, pOut, pBool]
end Go.Sim.Cr

/-
  CreepHolds: the law answers true.
-/
namespace Go.Sim.Cr
open Go.Proofs
variable (F d : Nat)
section
variable {s : Site} {ds : Sl Day} {w : Sl Int} {a b : Fault} {T0 : Nat → Truth} {N : Nat}
theorem days_near {s : Site} {y : Day} (hD : DayOk s y) {w : Sl Int} (hw : PctOk w) {N t : Nat} (hN : N = s.cavs.len) : ∀ j, j < N → ((y.press.el j).lo ≤ prT y w N t (min j (N - 1)) ∧ prT y w N t (min j (N - 1)) ≤ (y.press.el j).hi) ∧ SpanIn (y.press.el j) 0 50000 := by
  intro j hj
  have hpl := hD.1.1
  have q1 := hD.1.2 j (by omega)
  rw [show min j (N - 1) = j by omega]
  exact ⟨partS_ok q1.2.1 (chs_ok hw _), q1⟩
/-- Day by day, behind the first one. -/
theorem l6x8 (hS : SiteF s) (hF : 2147483648 < F) (hDs : DaysOk s ds) (hN : N = s.cavs.len) (h8 : ds.len ≤ 8) (hw : PctOk w) : ∀ r t fu (l : Sl Stt) (T : Nat → Truth), ds.len = t + 1 + r → r < fu → StatesOk s l → Kn w T T0 l N 0 (t + 1) → AB s ds a b r (t + 1) l →
    L6x8 (EX6 F (d + 11)) F s ds w fu N N ((t + 1 : Nat) : Int) .i64 a.day .i64 a.rule .i64 a.of .i64 a.wth .i64 b.day .i64 b.rule .i64 b.of .i64 b.wth N (eTr T) N (fun j => eInt (prT (ds.el t) w N t (min j (N - 1)))) = some (.ret (.bool true)) := by
  have k := x13 F d (by omega)
  intro r
  induction r with
  | zero =>
    intro t fu l T h hf hL hK hAB
    obtain ⟨fu, rfl⟩ : ∃ k, fu = k + 1 := ⟨fu - 1, by omega⟩
    rw [L6x8s]
    simp only [Int.ofNat_lt, show ¬ t + 1 < ds.len by omega, decide_false, pF, k, pOut, pBool]
  | succ r ih =>
    intro t fu l T h hf hL hK hAB
    obtain ⟨fu, rfl⟩ : ∃ k, fu = k + 1 := ⟨fu - 1, by omega⟩
    have h5 := hS.cavs5
    rw [L6x8s]
    simp only [Int.ofNat_lt, show t + 1 < ds.len by omega, decide_true, pT]
    exact f6xr F d hS hF hL (hDs (t + 1) (by omega)) hN (by omega) h8 (fun j => prT (ds.el t) w N t (min j (N - 1))) (ds.el t).press rfl (days_near (hDs t (by omega)) hw hN) hAB fu
      (fun T' hK' hnear hAB' => ih (t + 1) fu _ T' (by omega) (by omega) (moved_ok hS hL (hDs (t + 1) (by omega)) hnear) hK' hAB') F T (by omega) hK
theorem l6x4 (hS : SiteF s) (hF : 2147483648 < F) (hDs : DaysOk s ds) (hN : N = s.cavs.len) (h8 : ds.len ≤ 8) (hw : PctOk w) (fu : Nat) (T : Nat → Truth) (hf : 8 < fu) (hK : Kn w T T0 (begin s) N 0 0) (hAB : AB s ds a b ds.len 0 (begin s)) :
    L6x4 (EX6 F (d + 11)) F s ds w fu N ((0 : Nat) : Int) .i64 a.day .i64 a.rule .i64 a.of .i64 a.wth .i64 b.day .i64 b.rule .i64 b.of .i64 b.wth N (eTr T) = some (.ret (.bool true)) := by
  have k := x13 F d (by omega)
  have h5 := hS.cavs5
  obtain ⟨fu, rfl⟩ : ∃ k, fu = k + 1 := ⟨fu - 1, by omega⟩
  rw [L6x4s]
  by_cases hz : 0 < ds.len
  · obtain ⟨r, hr⟩ : ∃ r, ds.len = r + 1 := ⟨ds.len - 1, by omega⟩
    rw [hr] at hAB
    simp only [Int.ofNat_lt, hz, decide_true, pT]
    exact f6xn F d hS hF (begin_ok hS) (hDs 0 hz) hN hz h8 rfl hAB fu
      (fun T' hK' hnear hAB' => l6x8 F d hS hF hDs hN h8 hw r 0 fu _ T' (by omega) (by omega) (moved_ok hS (begin_ok hS) (hDs 0 hz) hnear) hK' hAB') F T (by omega) hK
  · simp only [Int.ofNat_lt, hz, decide_false, pF, k, pOut, pBool]
theorem l6x2 (hS : SiteF s) (hF : 2147483648 < F) (hDs : DaysOk s ds) (h8 : ds.len ≤ 8) (hw : PctOk w) (hAB : AB s ds a b ds.len 0 (begin s)) : ∀ r i fu, s.cavs.len = i + r → r < fu → 1 ≤ i →
    L6x2 (EX6 F (d + 11)) F s ds w fu i (i : Int) .i64 a.day .i64 a.rule .i64 a.of .i64 a.wth .i64 b.day .i64 b.rule .i64 b.of .i64 b.wth i (fun j => eTruth (first s w (min j (i - 1)))) = some (.ret (.bool true)) := by
  have h5 := hS.cavs5
  intro r
  induction r with
  | zero =>
    intro i fu h hf hi1
    obtain ⟨fu, rfl⟩ : ∃ k, fu = k + 1 := ⟨fu - 1, by omega⟩
    obtain rfl : i = s.cavs.len := by omega
    rw [L6x2s]
    simp only [Int.ofNat_lt, Nat.lt_irrefl, decide_false, pF]
    exact l6x4 F d hS hF hDs rfl h8 hw F (fun j => first s w (min j (s.cavs.len - 1))) (by omega) (first_kn s w hS hw) hAB
  | succ r ih =>
    intro i fu h hf hi1
    obtain ⟨fu, rfl⟩ : ∃ k, fu = k + 1 := ⟨fu - 1, by omega⟩
    have hi : i < s.cavs.len := by omega
    have hc := hS.cav i hi
    have w1 : IntKind.i64.wrap ((2 : Int) * (i : Int)) = ((2 * i : Nat) : Int) := by rw [wr (by omega)]; omega
    have w2 : IntKind.i64.wrap (((2 * i : Nat) : Int) + 1) = ((2 * i + 1 : Nat) : Int) := by rw [wr (by omega)]; omega
    rw [L6x2s]
    simp only [Int.ofNat_lt, hi, decide_true, pT, Int.natCast_nonneg, Int.toNat_natCast, w1, w2, x26 F d w (2 * i) hw.2.1, x26 F d w (2 * i + 1) hw.2.1, pOut, pInt, x25 F d (s.cavs.el i).rad (chs w (2 * i)) (by omega) (chs_ok hw _), x25 F d (s.cavs.el i).vol (chs w (2 * i + 1)) (by omega) (chs_ok hw _),
      show (i + 1) * 24 ≤ 140737488355328 by omega, wrS (show i < 4611686018427387904 by omega)]
    have g := ih (i + 1) fu (by omega) (by omega) (by omega)
    rw [show i + 1 - 1 = i from rfl, ← app_enc eTruth (first s w) hi1] at g
    exact g
/-- The first faults are what they are, and the truth begins. -/
theorem l6x1 (hS : SiteF s) (hF : 2147483648 < F) (hDs : DaysOk s ds) (h8 : ds.len ≤ 8) (hw : PctOk w) (hAB : AB s ds a b ds.len 0 (begin s)) :
    L6x1 (EX6 F (d + 11)) F s ds w F .i64 a.day .i64 a.rule .i64 a.of .i64 a.wth .i64 b.day .i64 b.rule .i64 b.of .i64 b.wth = some (.ret (.bool true)) := by
  have h5 := hS.cavs5
  have g1 := hS.cavs1
  obtain ⟨fu, hfu⟩ : ∃ k, F = k + 1 := ⟨F - 1, by omega⟩
  have g := L6x1s (EX6 F (d + 11)) F s ds w fu .i64 a.day .i64 a.rule .i64 a.of .i64 a.wth .i64 b.day .i64 b.rule .i64 b.of .i64 b.wth
  rw [← hfu] at g
  refine g.trans ?_
  have hc := hS.cav 0 (by omega)
  have w1 : IntKind.i64.wrap ((2 : Int) * 0) = ((0 : Nat) : Int) := by rw [wr (by omega)]; rfl
  have w2 : IntKind.i64.wrap (((0 : Nat) : Int) + 1) = ((1 : Nat) : Int) := by rw [wr (by omega)]; rfl
  simp only [zlt (show 0 < s.cavs.len by omega), pT, w1, w2, x26 F d w 0 hw.2.1, x26 F d w 1 hw.2.1, pOut, pInt, x25 F d (s.cavs.el 0).rad (chs w 0) (by omega) (chs_ok hw _), x25 F d (s.cavs.el 0).vol (chs w 1) (by omega) (chs_ok hw _), wr1]
  have e := l6x2 F d hS hF hDs h8 hw hAB (s.cavs.len - 1) 1 fu (by omega) (by omega) (Nat.le_refl _)
  rw [← one_enc eTruth (first s w)] at e
  exact e
theorem l6x0 (hs : Small s F) (hS : SiteF s) (hF : 2147483648 < F) (h8 : ds.len ≤ 8) (hFw : ShortD ds) (hw : PctOk w) : ∀ r i fu, ds.len = i + r → r < fu → (∀ j, j < i → DayOk s (ds.el j)) →
    L6x0 (EX6 F (d + 11)) F s ds w fu (i : Int) = some (.ret (.bool true)) := by
  have k := x13 F d (by omega)
  intro r
  induction r with
  | zero =>
    intro i fu h hf hD
    obtain ⟨fu, rfl⟩ : ∃ k, fu = k + 1 := ⟨fu - 1, by omega⟩
    have hDs : DaysOk s ds := fun j hj => hD j (by omega)
    have e30 := s30 F (d + 1) s ds hs hFw (show ds.len < 4611686018427387904 by omega) (by omega) (by omega)
    rw [decide_eq_false (show ¬ 60 < ds.len by omega), cond_false, (siteB_iff s).2 hS, decide_eq_true hDs, Bool.and_self, cond_true, faults_eq hS hDs] at e30
    have hord := ref_ord hS hDs ds.len 0 (begin s) (by omega) (begin_ok hS)
    have hda := ref_day s ds false ds.len 0 (begin s)
    have hdb := ref_day s ds true ds.len 0 (begin s)
    have hAB : AB s ds (refFrom s ds false ds.len 0 (begin s)) (refFrom s ds true ds.len 0 (begin s)) ds.len 0 (begin s) := ⟨.inr rfl, rfl⟩
    have hfin := l6x1 F d hS hF hDs h8 hw hAB
    generalize refFrom s ds false ds.len 0 (begin s) = a at e30 hord hda hfin
    generalize refFrom s ds true ds.len 0 (begin s) = b at e30 hord hdb hfin
    have e30' : EX6 F (d + 11) 30 [.agg (eSite s), sl eDay 2 ds] = some (.ret (.tup [.agg [.int .i64 a.day, .int .i64 a.rule, .int .i64 a.of, .int .i64 a.wth], .agg [.int .i64 b.day, .int .i64 b.rule, .int .i64 b.of, .int .i64 b.wth], .int .i64 0])) := e30
    rw [L6x0s]
    simp only [Int.ofNat_lt, show ¬ i < ds.len by omega, decide_false, pF, e30', pOut, pTup, pCons, pAgg, pInt, pNil, decide_true, pT, bne, z00, Bool.not_true]
    rcases hord with hb | ⟨ha, hab⟩
    · have hb1 : (b.rule == 1) = true := by rw [hb]; rfl
      simp only [hb1, Bool.not_true, pF]
      cases a.rule == 1 <;> simp only [pT, pF] <;> exact hfin
    · have ha1 : (a.rule == 1) = false := by
        rcases hda with h | ⟨_, h⟩
        · exact absurd h ha
        · rw [beq_eq_false_iff_ne]; omega
      simp only [ha1, pF, decide_eq_false (show ¬ b.day < a.day by omega)]
      cases !(b.rule == 1) <;> simp only [pT, pF] <;> exact hfin
  | succ r ih =>
    intro i fu h hf hD
    obtain ⟨fu, rfl⟩ : ∃ k, fu = k + 1 := ⟨fu - 1, by omega⟩
    have e20 : EX6 F (d + 11) 20 [.agg (eSite s), .agg [sl eSpan 2 (ds.el i).press, sl eSpan 2 (ds.el i).warm]] = _ := s20 F (d + 9) s (ds.el i) hs.cavs hs.cavsF
    rw [L6x0s]
    simp only [Int.ofNat_lt, show i < ds.len by omega, decide_true, pT, Int.natCast_nonneg, Int.toNat_natCast, e20, pOut, pBool, wrS (show i < 4611686018427387904 by omega)]
    by_cases hDi : DayOk s (ds.el i)
    · simp only [decide_eq_true hDi, Bool.not_true, pF]
      exact ih (i + 1) fu (by omega) (by omega) (fun j hj => by
        rcases Nat.lt_or_ge j i with h1 | h1
        · exact hD j h1
        · obtain rfl : j = i := by omega
          exact hDi)
    · simp only [decide_eq_false hDi, Bool.not_false, pT, k, pOut, pBool]
end
set_option maxRecDepth 100000 in
set_option maxHeartbeats 1000000 in
theorem s6 (s : Site) (ds : Sl Day) (w : Sl Int) (hwm : w.len ≤ 1000000000000000) (hdm : ds.len ≤ 1000000000000000) (hF : 1000000000000001 < F) : E6 F (d + 11) 6 [.agg (eSite s), sl eDay 2 ds, sl eInt 1 w] = some (.ret (.bool true)) := by
  have k := x13 F d (by omega)
  have e11 : EX6 F (d + 11) 11 [.agg (eSite s)] = _ := s11 F (d + 10) s
  show evFun Try.prog (cfg F) (EX6 F (d + 11)) 6 _ = _
  rw [t6]
  simp only [e11, pOut, pBool]
  by_cases h0 : ShortS s
  · have hs := small_of F h0 (by omega)
    have e16 : EX6 F (d + 11) 16 [.agg (eSite s)] = _ := s16 F (d + 8) s hs
    simp only [decide_eq_true h0, Bool.not_true, pF, e16, pOut, pBool]
    cases h1 : siteB s with
    | false => simp only [Bool.not_false, pT, k, pOut, pBool]
    | true =>
      have hS := (siteB_iff s).1 h1
      simp only [Bool.not_true, pF]
      by_cases h2 : (ds.len : Int) > 8
      · simp only [decide_eq_true h2, pT, k, pOut, pBool]
      · have e12 : EX6 F (d + 11) 12 [sl eDay 2 ds, .int .i64 8] = _ := s12 F (d + 10) ds 8 (show ds.len < 4611686018427387904 by omega) (by omega)
        simp only [decide_eq_false h2, pF, e12, pOut, pBool]
        by_cases h3 : Few ds 8
        · have e23 : EX6 F (d + 11) 23 [sl eInt 1 w] = _ := s23 F (d + 10) w (show w.len < 4611686018427387904 by omega) (by omega)
          simp only [decide_eq_true h3, Bool.not_true, pF, e23, pOut, pBool]
          by_cases h4 : PctOk w
          · simp only [decide_eq_true h4, Bool.not_true, pF]
            exact l6x0 F d hs hS (by omega) (by omega) h3.1 h4 ds.len 0 F (by omega) (by omega) (fun j hj => absurd hj (by omega))
          · simp only [decide_eq_false h4, Bool.not_false, pT, k, pOut, pBool]
        · simp only [decide_eq_false h3, Bool.not_false, pT, k, pOut, pBool]
  · simp only [decide_eq_false h0, Bool.not_false, pT, k, pOut, pBool]
end Go.Sim.Cr

/-
  CreepHolds: the row.
-/
namespace Go.Proofs.Ytpgpaficdabmkaa
open Go.ChangeShapes Go.WideShapes Go.ChangeAt Go.RowKit Go.Sim Go.Sim.Cr
set_option maxRecDepth 100000 in
theorem creepHolds_fit (cs : List V) (h : ArgsFit [(true, shSite), (false, [.row shDay]), (false, [.row [i8]])] cs) : E6 2000000000000000 11 6 cs = some (.ret (.bool true)) := by
  obtain ⟨l0, cs0, rfl, h0, g0⟩ := h
  obtain ⟨s1, c1, cs1, e1, rfl, h1, g1⟩ := g0
  obtain ⟨s2, c2, cs2, e2, rfl, h2, g2⟩ := g1
  injection e1 with e1 _; subst e1
  injection e2 with e2 _; subst e2
  obtain rfl : cs2 = [] := g2
  obtain ⟨a0, rfl⟩ := decSite l0 h0
  obtain ⟨a1, rfl, m1, n1⟩ := fitRow decDay h1
  obtain ⟨a2, rfl, m2, n2⟩ := fitRow decInt h2
  exact s6 2000000000000000 0 a0 a1 a2 (by omega) (by omega) (by omega)
set_option maxRecDepth 100000 in
theorem creepHolds_lifted (os : Os) (started : os.Started) (H : Type) (enc : TypeId × Value → H) :
    ReturnsInHanded {} Try.checked os 6 .any (Rows.creepHoldsSpec.pre6 enc Try.prog Try.f6 Rows.creepHoldsRow.domain false) (Rows.creepHoldsSpec.post enc Try.prog Try.f6 false true false false) := by
  refine returnsInHanded_of_change_sized (C := Try.checked) own started (by kernel_rfl) Try.func6
    (ChangeSpec.witness6 (enc := enc) (C := Try.checked) false ⟨#[], #[.agg #[.slice none 0 0, .slice none 0 0, .slice none 0 0, .int .i64 0, .slice none 0 0, .slice none 0 0], .slice none 0 0, .slice none 0 0], []⟩ 8 (by kernel_rfl) (by kernel_rfl) (by kernel_rfl) (by kernel_rfl)) ?_
  intro W base args ds gs before hval hW _ hwt _
  exact law_contract (tb := 4) (okE6 2000000000000000 11) (by kernel_rfl) creepHolds_fit
    ⟨rfl, fun H ds h => by match ds, h with | [_, _, _], _ => exact ⟨rfl, rfl, rfl⟩⟩ (by kernel_rfl) (by kernel_rfl) laid (by decide +kernel) W base args ds gs before hval hW hwt
theorem creepHolds_holds : Rows.CreepHoldsSaid :=
  OpenClaim.holds_of_wide 6 Try.f6 rfl rfl rfl rfl rfl rfl rfl ⟨rfl, rfl, rfl, rfl, rfl⟩ rfl rfl rfl rfl rfl (by kernel_rfl) Try.func6 (by kernel_rfl)
    (of_decide_eq_true (by kernel_rfl)) (by unfold Func.isWrapper; first | (rw [if_pos (by decide +kernel)]; kernel_rfl) | (rw [if_neg (by decide +kernel)]; exact ⟨rfl, rfl⟩))
    (fun os started H enc _ => creepHolds_lifted os started H enc)
#print axioms creepHolds_holds
end Go.Proofs.Ytpgpaficdabmkaa
