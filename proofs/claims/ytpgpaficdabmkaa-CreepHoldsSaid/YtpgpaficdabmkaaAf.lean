import Derived.Test.YtpgpaficdabmkaaAe
import Derived.KernelRfl
set_option linter.unusedVariables false
set_option linter.unusedSimpArgs false
set_option linter.unusedSectionVars false
/-
  Calls whose arguments are put otherwise, where what they stand for is the same.
-/
namespace Go.Sim
theorem okFix {P : Program} {env : Env} (h : OkEnv P env) (fix : V → V) (hf : ∀ (w : World) (pv : Nat → Prop) (v : Value) (c : V), Rel w pv none_ v c → Rel w pv none_ v (fix c)) : OkEnv P (fun g args => env g (args.map fix)) := by
  intro g args out ho
  obtain ⟨h1, h2⟩ := h g (args.map fix) out ho
  refine ⟨h1, fun w pv hlt vs hvs => h2 w pv hlt vs ⟨by simpa using hvs.1, fun i v c g1 g2 => ?_⟩⟩
  rw [List.getElem?_map] at g2
  obtain ⟨c', g3, rfl⟩ := Option.map_eq_some_iff.1 g2
  exact hf _ _ _ _ (hvs.2 i v c' g1 g3)
theorem okEv {P : Program} {C : Nat → Cfg} (hC : OkCfg P C) (hnm : OkNames P) {env : Env} (h : OkEnv P env) : OkEnv P (fun f args => evFun P C env f args) := by
  intro g args out ho
  have h' : evFun P C env g args = some out := ho
  refine ⟨?_, fun w pv hlt vs hvs => evFun_ok hC hnm h h' w pv hlt vs hvs⟩
  unfold evFun at h'
  split at h'
  · rename_i fn hfn
    split at h'
    · rename_i c hbody
      exact ⟨fn, c, hfn, hnm g fn c hfn hbody, hbody⟩
    · cases h'
  · cases h'
/-- A nil slice reads the same, whatever its elements are said to be. -/
theorem rel_nil {w : World} {pv : Nat → Prop} {ρ : Nat → Option Info} {v : Value} {wd wd' : Nat} {g g' : Nat → List V} (h : Rel w pv ρ v (.row true 0 wd g)) : Rel w pv ρ v (.row true 0 wd' g') := by
  cases h
  exact .nilrow
end Go.Sim

/-
  What the evaluator says of these functions (printed by a private program; each row is checked by the kernel).
-/
set_option maxRecDepth 100000
namespace Go.Sim.Cr
open Go.Proofs

theorem t34 (env : Env) (F : Nat) (p : Span) (a : Int) (b : Int) : (evFun Try.prog (cfg F) env 34 [(.agg (eSpan p)), (.int .i64 a), (.int .i64 b)]) =
  (tkOut (env 25 [(.agg (eSpan p)), (.int .i64 a)]) none (fun v5 => (tkInt v5 none fun q6 n7 => (tkOut (env 25 [(.agg (eSpan p)), (.int .i64 b)]) none (fun v8 => (tkInt v8 none fun q9 n10 => some (.ret (.agg [(.int q6 n7), (.int q9 n10)]))))
      (fun p8 => (tkIfc p8 none fun t9 x10 => (bif (flatP (.iface t9 x10)) then some (.pan (.iface t9 x10))
          else none))))))
  (fun p5 => (tkIfc p5 none fun t6 x7 => (bif (flatP (.iface t6 x7)) then none
      else none)))) := by kernel_rfl

noncomputable def L7x0 (env : Env) (F : Nat) (s : Site) (l : Sl Stt) (d : Day) (lo : Int) (hi : Int) (x : Int) (y : Int) (fu : Nat) (b0 : Bool) (k1 : Nat) (k2 : Nat) (g3 : Nat → List V) : Option Out := atLoop Try.prog (cfg F) env 7 [.r, .r, .r, .r, .r, .r, .l, .r, .d] [] fu { tm := tmL 277 0 [(1, (sl eStt 6 l)), (3, (.int .i64 lo)), (4, (.int .i64 hi)), (5, (.int .i64 x)), (6, (.int .i64 y)), (7, (.optr 0 0 0)), (9, (.optr 1 0 0)), (15, (.row b0 k1 k2 g3)), (17, (.optr 2 0 0)), (18, (.row true 0 0 (fun u14 => []))), (19, (.int .i64 (0 : Int)))], hp := [(.box 28 (eSite s) true), (.box 32 [(sl eSpan 2 (Day.press d)), (sl eSpan 2 (Day.warm d))] true), (.box 32 [(.row true 0 0 (fun u14 => [])), (.row true 0 0 (fun u14 => []))] true)] }
noncomputable def L7x1 (env : Env) (F : Nat) (s : Site) (l : Sl Stt) (d : Day) (lo : Int) (hi : Int) (x : Int) (y : Int) (fu : Nat) (b0 : Bool) (k1 : Nat) (k2 : Nat) (g3 : Nat → List V) (k4 : Nat) (i5 : Int) (k6 : Nat) (k7 : Nat) (k8 : Nat) (g9 : Nat → List V) (k10 : Nat) (g11 : Nat → List V) (k12 : Nat) (g13 : Nat → List V) : Option Out := atLoop Try.prog (cfg F) env 7 [.r, .r, .r, .r, .r, .r, .l, .r, .d] [] fu { tm := tmL 277 0 [(1, (sl eStt 6 l)), (3, (.int .i64 lo)), (4, (.int .i64 hi)), (5, (.int .i64 x)), (6, (.int .i64 y)), (7, (.optr 0 0 0)), (9, (.optr 1 0 0)), (15, (.row b0 k1 k2 g3)), (17, (.optr 2 0 0)), (18, (.osl 3 0 k4)), (19, (.int .i64 i5))], hp := [(.box 28 (eSite s) true), (.box 32 [(sl eSpan 2 (Day.press d)), (sl eSpan 2 (Day.warm d))] true), (.box 32 [(.osl 4 0 k6), (.osl 5 0 k7)] true), (.arr 65 6 k8 g9 true), (.arr 41 2 k10 g11 true), (.arr 41 2 k12 g13 true)] }
noncomputable def L7x2 (env : Env) (F : Nat) (s : Site) (l : Sl Stt) (d : Day) (lo : Int) (hi : Int) (x : Int) (y : Int) (fu : Nat) (b0 : Bool) (k1 : Nat) (k2 : Nat) (g3 : Nat → List V) (b4 : Bool) (k5 : Nat) (k6 : Nat) (g7 : Nat → List V) (i8 : Int) : Option Out := atLoop Try.prog (cfg F) env 7 [.r, .r, .r, .r, .r, .r, .r, .r, .r, .l, .r, .d] [] fu { tm := tmL 277 0 [(1, (sl eStt 6 l)), (5, (.int .i64 x)), (6, (.int .i64 y)), (7, (.optr 0 0 0)), (15, (.row b0 k1 k2 g3)), (20, (.row b4 k5 k6 g7)), (22, (.int .i64 i8))], hp := [(.box 28 (eSite s) true)] }
theorem t7 (env : Env) (F : Nat) (s : Site) (l : Sl Stt) (d : Day) (lo : Int) (hi : Int) (x : Int) (y : Int) : (evFun Try.prog (cfg F) env 7 [(.agg (eSite s)), (sl eStt 6 l), (.agg (eDay d)), (.int .i64 lo), (.int .i64 hi), (.int .i64 x), (.int .i64 y)]) =
  (tkOut (env 11 [(.agg (eSite s))]) none (fun v9 => (tkBool v9 none fun b10 => (bif (!b10) then (tkOut (env 13 []) none (fun v11 => (tkBool v11 none fun b12 => some (.ret (.bool b12))))
        (fun p11 => (tkIfc p11 none fun t12 x13 => (bif (flatP (.iface t12 x13)) then some (.pan (.iface t12 x13))
            else none))))
      else (tkOut (env 16 [(.agg (eSite s))]) none (fun v11 => (tkBool v11 none fun b12 => (bif (!b12) then (tkOut (env 13 []) none (fun v13 => (tkBool v13 none fun b14 => some (.ret (.bool b14))))
              (fun p13 => (tkIfc p13 none fun t14 x15 => (bif (flatP (.iface t14 x15)) then some (.pan (.iface t14 x15))
                  else none))))
            else (tkOut (env 17 [(.agg (eSite s)), (sl eStt 6 l)]) none (fun v13 => (tkBool v13 none fun b14 => (bif (!b14) then (tkOut (env 13 []) none (fun v15 => (tkBool v15 none fun b16 => some (.ret (.bool b16))))
                    (fun p15 => (tkIfc p15 none fun t16 x17 => (bif (flatP (.iface t16 x17)) then some (.pan (.iface t16 x17))
                        else none))))
                  else (tkOut (env 20 [(.agg (eSite s)), (.agg [(sl eSpan 2 (Day.press d)), (sl eSpan 2 (Day.warm d))])]) none (fun v15 => (tkBool v15 none fun b16 => (bif (!b16) then (tkOut (env 13 []) none (fun v17 => (tkBool v17 none fun b18 => some (.ret (.bool b18))))
                          (fun p17 => (tkIfc p17 none fun t18 x19 => (bif (flatP (.iface t18 x19)) then some (.pan (.iface t18 x19))
                              else none))))
                        else (bif (decide (lo < (0 : Int))) then (tkOut (env 13 []) none (fun v17 => (tkBool v17 none fun b18 => some (.ret (.bool b18))))
                            (fun p17 => (tkIfc p17 none fun t18 x19 => (bif (flatP (.iface t18 x19)) then some (.pan (.iface t18 x19))
                                else none))))
                          else (bif (decide (lo > hi)) then (tkOut (env 13 []) none (fun v17 => (tkBool v17 none fun b18 => some (.ret (.bool b18))))
                              (fun p17 => (tkIfc p17 none fun t18 x19 => (bif (flatP (.iface t18 x19)) then some (.pan (.iface t18 x19))
                                  else none))))
                            else (bif (decide (hi > (100 : Int))) then (tkOut (env 13 []) none (fun v17 => (tkBool v17 none fun b18 => some (.ret (.bool b18))))
                                (fun p17 => (tkIfc p17 none fun t18 x19 => (bif (flatP (.iface t18 x19)) then some (.pan (.iface t18 x19))
                                    else none))))
                              else (tkOut (env 18 [(.int .i64 x), (.int .i64 y)]) none (fun v17 => (tkBool v17 none fun b18 => (bif (!b18) then (tkOut (env 13 []) none (fun v19 => (tkBool v19 none fun b20 => some (.ret (.bool b20))))
                                      (fun p19 => (tkIfc p19 none fun t20 x21 => (bif (flatP (.iface t20 x21)) then some (.pan (.iface t20 x21))
                                          else none))))
                                    else (tkOut (env 14 [(.agg (eSite s)), (sl eStt 6 l), (.agg [(sl eSpan 2 (Day.press d)), (sl eSpan 2 (Day.warm d))])]) none (fun v19 => (tkTup v19 none fun l20 => (tkCons l20 none fun v21 r22 => (tkRow v21 none fun nl23 n24 wd25 g26 => (tkCons r22 none fun v27 r28 => (tkInt v27 none fun q29 n30 => (tkNil r28 none ((bif (decide (q29 = .i64)) then (bif (n30 != (0 : Int)) then (bif (decide (q29 = .i64)) then (bif (n30 == (7 : Int)) then (tkOut (env 13 []) none (fun v31 => (tkBool v31 none fun b32 => some (.ret (.bool b32))))
                                                            (fun p31 => (tkIfc p31 none fun t32 x33 => (bif (flatP (.iface t32 x33)) then some (.pan (.iface t32 x33))
                                                                else none))))
                                                          else some (.ret (.bool false)))
                                                        else none)
                                                      else (L7x0 env F s l d lo hi x y F nl23 n24 wd25 g26))
                                                    else none)))))))))
                                      (fun p19 => (tkIfc p19 none fun t20 x21 => (bif (flatP (.iface t20 x21)) then some (.pan (.iface t20 x21))
                                          else none)))))))
                                (fun p17 => (tkIfc p17 none fun t18 x19 => (bif (flatP (.iface t18 x19)) then some (.pan (.iface t18 x19))
                                    else none))))))))))
                    (fun p15 => (tkIfc p15 none fun t16 x17 => (bif (flatP (.iface t16 x17)) then some (.pan (.iface t16 x17))
                        else none)))))))
              (fun p13 => (tkIfc p13 none fun t14 x15 => (bif (flatP (.iface t14 x15)) then some (.pan (.iface t14 x15))
                  else none)))))))
        (fun p11 => (tkIfc p11 none fun t12 x13 => (bif (flatP (.iface t12 x13)) then some (.pan (.iface t12 x13))
            else none)))))))
  (fun p9 => (tkIfc p9 none fun t10 x11 => (bif (flatP (.iface t10 x11)) then some (.pan (.iface t10 x11))
      else none)))) := by kernel_rfl
theorem L7x0s (env : Env) (F : Nat) (s : Site) (l : Sl Stt) (d : Day) (lo : Int) (hi : Int) (x : Int) (y : Int) (fu : Nat) (b0 : Bool) (k1 : Nat) (k2 : Nat) (g3 : Nat → List V) : L7x0 env F s l d lo hi x y (fu + 1) b0 k1 k2 g3 =
  (bif (decide ((0 : Int) < (((Sl.len l) : Nat) : Int))) then (bif (decide ((0 : Int) < (((Sl.len (Day.press d)) : Nat) : Int))) then (tkOut (env 34 [(.agg (eSpan (Sl.el (Day.press d) 0))), (.int .i64 lo), (.int .i64 hi)]) none (fun v14 => (tkAgg v14 none fun l15 => (tkCons l15 none fun v16 r17 => (tkInt v16 none fun q18 n19 => (tkCons r17 none fun v20 r21 => (tkInt v20 none fun q22 n23 => (tkNil r21 none ((bif (decide ((0 : Int) < (((Sl.len (Day.warm d)) : Nat) : Int))) then (tkOut (env 34 [(.agg (eSpan (Sl.el (Day.warm d) 0))), (.int .i64 lo), (.int .i64 hi)]) none (fun v24 => (tkAgg v24 none fun l25 => (tkCons l25 none fun v26 r27 => (tkInt v26 none fun q28 n29 => (tkCons r27 none fun v30 r31 => (tkInt v30 none fun q32 n33 => (tkNil r31 none ((bif (decide ((0 : Int) < (((Sl.len l) : Nat) : Int))) then (tkOut (env 34 [(.agg (eSpan (Stt.rad (Sl.el l 0)))), (.int .i64 lo), (.int .i64 hi)]) none (fun v34 => (tkAgg v34 none fun l35 => (tkCons l35 none fun v36 r37 => (tkInt v36 none fun q38 n39 => (tkCons r37 none fun v40 r41 => (tkInt v40 none fun q42 n43 => (tkNil r41 none ((bif (decide ((0 : Int) < (((Sl.len l) : Nat) : Int))) then (tkOut (env 34 [(.agg (eSpan (Stt.vol (Sl.el l 0)))), (.int .i64 lo), (.int .i64 hi)]) none (fun v44 => (tkAgg v44 none fun l45 => (tkCons l45 none fun v46 r47 => (tkInt v46 none fun q48 n49 => (tkCons r47 none fun v50 r51 => (tkInt v50 none fun q52 n53 => (tkNil r51 none ((bif (decide ((0 : Int) < (((Sl.len l) : Nat) : Int))) then (tkOut (env 34 [(.agg (eSpan (Stt.lost (Sl.el l 0)))), (.int .i64 lo), (.int .i64 hi)]) none (fun v54 => (tkAgg v54 none fun l55 => (tkCons l55 none fun v56 r57 => (tkInt v56 none fun q58 n59 => (tkCons r57 none fun v60 r61 => (tkInt v60 none fun q62 n63 => (tkNil r61 none ((L7x1 env F s l d lo hi x y fu b0 k1 k2 g3 1 (IntKind.wrap .i64 ((0 : Int) + (1 : Int))) 1 1 1 (fun u64 => [(.int q38 n39), (.int q42 n43), (.int q48 n49), (.int q52 n53), (.int q58 n59), (.int q62 n63)]) 1 (fun u64 => [(.int q18 n19), (.int q22 n23)]) 1 (fun u64 => [(.int q28 n29), (.int q32 n33)]))))))))))
                                                                      (fun p54 => (tkIfc p54 none fun t55 x56 => (bif (flatP (.iface t55 x56)) then some (.pan (.iface t55 x56))
                                                                          else none))))
                                                                    else none)))))))))
                                                      (fun p44 => (tkIfc p44 none fun t45 x46 => (bif (flatP (.iface t45 x46)) then none
                                                          else none))))
                                                    else none)))))))))
                                      (fun p34 => (tkIfc p34 none fun t35 x36 => (bif (flatP (.iface t35 x36)) then none
                                          else none))))
                                    else none)))))))))
                      (fun p24 => (tkIfc p24 none fun t25 x26 => (bif (flatP (.iface t25 x26)) then none
                          else none))))
                    else none)))))))))
      (fun p14 => (tkIfc p14 none fun t15 x16 => (bif (flatP (.iface t15 x16)) then none
          else none))))
    else none)
  else (tkOut (env 14 [(.agg (eSite s)), (.row true 0 0 (fun u14 => [])), (.agg [(.row true 0 0 (fun u14 => [])), (.row true 0 0 (fun u14 => []))])]) none (fun v14 => (tkTup v14 none fun l15 => (tkCons l15 none fun v16 r17 => (tkRow v16 none fun nl18 n19 wd20 g21 => (tkCons r17 none fun v22 r23 => (tkInt v22 none fun q24 n25 => (tkNil r23 none ((bif (decide (q24 = .i64)) then (bif (n25 != (0 : Int)) then some (.ret (.bool false))
                    else (bif (((k1 : Nat) : Int) != (((Sl.len l) : Nat) : Int)) then some (.ret (.bool false))
                      else (bif (((n19 : Nat) : Int) != (((Sl.len l) : Nat) : Int)) then some (.ret (.bool false))
                        else (L7x2 env F s l d lo hi x y F b0 k1 k2 g3 nl18 n19 wd20 g21 (0 : Int)))))
                  else none)))))))))
    (fun p14 => (tkIfc p14 none fun t15 x16 => (bif (flatP (.iface t15 x16)) then some (.pan (.iface t15 x16))
        else none))))) := by kernel_rfl
theorem L7x1s (env : Env) (F : Nat) (s : Site) (l : Sl Stt) (d : Day) (lo : Int) (hi : Int) (x : Int) (y : Int) (fu : Nat) (b0 : Bool) (k1 : Nat) (k2 : Nat) (g3 : Nat → List V) (k4 : Nat) (i5 : Int) (k6 : Nat) (k7 : Nat) (k8 : Nat) (g9 : Nat → List V) (k10 : Nat) (g11 : Nat → List V) (k12 : Nat) (g13 : Nat → List V) : L7x1 env F s l d lo hi x y (fu + 1) b0 k1 k2 g3 k4 i5 k6 k7 k8 g9 k10 g11 k12 g13 =
  (bif (decide (i5 < (((Sl.len l) : Nat) : Int))) then (bif (decide ((0 : Int) ≤ i5)) then (bif (decide (i5 < (((Sl.len (Day.press d)) : Nat) : Int))) then (tkOut (env 34 [(.agg (eSpan (Sl.el (Day.press d) (Int.toNat i5)))), (.int .i64 lo), (.int .i64 hi)]) none (fun v24 => (tkAgg v24 none fun l25 => (tkCons l25 none fun v26 r27 => (tkInt v26 none fun q28 n29 => (tkCons r27 none fun v30 r31 => (tkInt v30 none fun q32 n33 => (tkNil r31 none ((bif (decide (((k6 + 1) * 16) ≤ 140737488355328)) then (bif (decide ((0 : Int) ≤ i5)) then (bif (decide (i5 < (((Sl.len (Day.warm d)) : Nat) : Int))) then (tkOut (env 34 [(.agg (eSpan (Sl.el (Day.warm d) (Int.toNat i5)))), (.int .i64 lo), (.int .i64 hi)]) none (fun v34 => (tkAgg v34 none fun l35 => (tkCons l35 none fun v36 r37 => (tkInt v36 none fun q38 n39 => (tkCons r37 none fun v40 r41 => (tkInt v40 none fun q42 n43 => (tkNil r41 none ((bif (decide (((k7 + 1) * 16) ≤ 140737488355328)) then (bif (decide ((0 : Int) ≤ i5)) then (bif (decide (i5 < (((Sl.len l) : Nat) : Int))) then (tkOut (env 34 [(.agg (eSpan (Stt.rad (Sl.el l (Int.toNat i5))))), (.int .i64 lo), (.int .i64 hi)]) none (fun v44 => (tkAgg v44 none fun l45 => (tkCons l45 none fun v46 r47 => (tkInt v46 none fun q48 n49 => (tkCons r47 none fun v50 r51 => (tkInt v50 none fun q52 n53 => (tkNil r51 none ((bif (decide ((0 : Int) ≤ i5)) then (bif (decide (i5 < (((Sl.len l) : Nat) : Int))) then (tkOut (env 34 [(.agg (eSpan (Stt.vol (Sl.el l (Int.toNat i5))))), (.int .i64 lo), (.int .i64 hi)]) none (fun v54 => (tkAgg v54 none fun l55 => (tkCons l55 none fun v56 r57 => (tkInt v56 none fun q58 n59 => (tkCons r57 none fun v60 r61 => (tkInt v60 none fun q62 n63 => (tkNil r61 none ((bif (decide ((0 : Int) ≤ i5)) then (bif (decide (i5 < (((Sl.len l) : Nat) : Int))) then (tkOut (env 34 [(.agg (eSpan (Stt.lost (Sl.el l (Int.toNat i5))))), (.int .i64 lo), (.int .i64 hi)]) none (fun v64 => (tkAgg v64 none fun l65 => (tkCons l65 none fun v66 r67 => (tkInt v66 none fun q68 n69 => (tkCons r67 none fun v70 r71 => (tkInt v70 none fun q72 n73 => (tkNil r71 none ((bif (decide (((k4 + 1) * 48) ≤ 140737488355328)) then (L7x1 env F s l d lo hi x y fu b0 k1 k2 g3 (k4 + 1) (IntKind.wrap .i64 (i5 + (1 : Int))) (k6 + 1) (k7 + 1) (k4 + 1) (appGet k4 g9 (fun u74 => [(.int q48 n49), (.int q52 n53), (.int q58 n59), (.int q62 n63), (.int q68 n69), (.int q72 n73)])) (k6 + 1) (appGet k6 g11 (fun u74 => [(.int q28 n29), (.int q32 n33)])) (k7 + 1) (appGet k7 g13 (fun u74 => [(.int q38 n39), (.int q42 n43)])))
                                                                                                  else none)))))))))
                                                                                    (fun p64 => (tkIfc p64 none fun t65 x66 => (bif (flatP (.iface t65 x66)) then some (.pan (.iface t65 x66))
                                                                                        else none))))
                                                                                  else none)
                                                                                else none)))))))))
                                                                  (fun p54 => (tkIfc p54 none fun t55 x56 => (bif (flatP (.iface t55 x56)) then none
                                                                      else none))))
                                                                else none)
                                                              else none)))))))))
                                                (fun p44 => (tkIfc p44 none fun t45 x46 => (bif (flatP (.iface t45 x46)) then none
                                                    else none))))
                                              else none)
                                            else none)
                                          else none)))))))))
                            (fun p34 => (tkIfc p34 none fun t35 x36 => (bif (flatP (.iface t35 x36)) then none
                                else none))))
                          else none)
                        else none)
                      else none)))))))))
        (fun p24 => (tkIfc p24 none fun t25 x26 => (bif (flatP (.iface t25 x26)) then none
            else none))))
      else none)
    else none)
  else (tkOut (env 14 [(.agg (eSite s)), (.row false k4 6 (fun u24 => (g9 u24))), (.agg [(.row false k6 2 (fun u24 => (g11 u24))), (.row false k7 2 (fun u24 => (g13 u24)))])]) none (fun v24 => (tkTup v24 none fun l25 => (tkCons l25 none fun v26 r27 => (tkRow v26 none fun nl28 n29 wd30 g31 => (tkCons r27 none fun v32 r33 => (tkInt v32 none fun q34 n35 => (tkNil r33 none ((bif (decide (q34 = .i64)) then (bif (n35 != (0 : Int)) then some (.ret (.bool false))
                    else (bif (((k1 : Nat) : Int) != (((Sl.len l) : Nat) : Int)) then some (.ret (.bool false))
                      else (bif (((n29 : Nat) : Int) != (((Sl.len l) : Nat) : Int)) then some (.ret (.bool false))
                        else (L7x2 env F s l d lo hi x y F b0 k1 k2 g3 nl28 n29 wd30 g31 (0 : Int)))))
                  else none)))))))))
    (fun p24 => (tkIfc p24 none fun t25 x26 => (bif (flatP (.iface t25 x26)) then some (.pan (.iface t25 x26))
        else none))))) := by kernel_rfl
theorem L7x2s (env : Env) (F : Nat) (s : Site) (l : Sl Stt) (d : Day) (lo : Int) (hi : Int) (x : Int) (y : Int) (fu : Nat) (b0 : Bool) (k1 : Nat) (k2 : Nat) (g3 : Nat → List V) (b4 : Bool) (k5 : Nat) (k6 : Nat) (g7 : Nat → List V) (i8 : Int) : L7x2 env F s l d lo hi x y (fu + 1) b0 k1 k2 g3 b4 k5 k6 g7 i8 =
  (bif (decide (i8 < ((k5 : Nat) : Int))) then (bif (k6 == 6) then (bif (decide ((0 : Int) ≤ i8)) then (bif (decide (i8 < ((k5 : Nat) : Int))) then (bif ((List.length (List.take 2 (g7 (Int.toNat i8)))) == 2) then (tkCons (List.take 2 (g7 (Int.toNat i8))) none fun v19 r20 => (tkInt v19 none fun q21 n22 => (tkCons r20 none fun v23 r24 => (tkInt v23 none fun q25 n26 => (tkNil r24 none ((bif (k2 == 6) then (bif (decide ((0 : Int) ≤ i8)) then (bif (decide (i8 < ((k1 : Nat) : Int))) then (bif ((List.length (List.take 2 (g3 (Int.toNat i8)))) == 2) then (tkCons (List.take 2 (g3 (Int.toNat i8))) none fun v27 r28 => (tkInt v27 none fun q29 n30 => (tkCons r28 none fun v31 r32 => (tkInt v31 none fun q33 n34 => (tkNil r32 none ((tkOut (env 35 [(.agg [(.int q21 n22), (.int q25 n26)]), (.agg [(.int q29 n30), (.int q33 n34)])]) none (fun v35 => (tkBool v35 none fun b36 => (bif (!b36) then some (.ret (.bool false))
                                            else (bif (k6 == 6) then (bif (decide ((0 : Int) ≤ i8)) then (bif (decide (i8 < ((k5 : Nat) : Int))) then (bif ((List.length (List.take 2 (List.drop 2 (g7 (Int.toNat i8))))) == 2) then (tkCons (List.take 2 (List.drop 2 (g7 (Int.toNat i8)))) none fun v37 r38 => (tkInt v37 none fun q39 n40 => (tkCons r38 none fun v41 r42 => (tkInt v41 none fun q43 n44 => (tkNil r42 none ((bif (k2 == 6) then (bif (decide ((0 : Int) ≤ i8)) then (bif (decide (i8 < ((k1 : Nat) : Int))) then (bif ((List.length (List.take 2 (List.drop 2 (g3 (Int.toNat i8))))) == 2) then (tkCons (List.take 2 (List.drop 2 (g3 (Int.toNat i8)))) none fun v45 r46 => (tkInt v45 none fun q47 n48 => (tkCons r46 none fun v49 r50 => (tkInt v49 none fun q51 n52 => (tkNil r50 none ((tkOut (env 35 [(.agg [(.int q39 n40), (.int q43 n44)]), (.agg [(.int q47 n48), (.int q51 n52)])]) none (fun v53 => (tkBool v53 none fun b54 => (bif (!b54) then some (.ret (.bool false))
                                                                                      else (bif (k6 == 6) then (bif (decide ((0 : Int) ≤ i8)) then (bif (decide (i8 < ((k5 : Nat) : Int))) then (bif ((List.length (List.take 2 (List.drop 4 (g7 (Int.toNat i8))))) == 2) then (tkCons (List.take 2 (List.drop 4 (g7 (Int.toNat i8)))) none fun v55 r56 => (tkInt v55 none fun q57 n58 => (tkCons r56 none fun v59 r60 => (tkInt v59 none fun q61 n62 => (tkNil r60 none ((bif (k2 == 6) then (bif (decide ((0 : Int) ≤ i8)) then (bif (decide (i8 < ((k1 : Nat) : Int))) then (bif ((List.length (List.take 2 (List.drop 4 (g3 (Int.toNat i8))))) == 2) then (tkCons (List.take 2 (List.drop 4 (g3 (Int.toNat i8)))) none fun v63 r64 => (tkInt v63 none fun q65 n66 => (tkCons r64 none fun v67 r68 => (tkInt v67 none fun q69 n70 => (tkNil r68 none ((tkOut (env 35 [(.agg [(.int q57 n58), (.int q61 n62)]), (.agg [(.int q65 n66), (.int q69 n70)])]) none (fun v71 => (tkBool v71 none fun b72 => (bif (!b72) then some (.ret (.bool false))
                                                                                                                                else (bif (k2 == 6) then (bif (decide ((0 : Int) ≤ i8)) then (bif (decide (i8 < ((k1 : Nat) : Int))) then (tkCons (List.drop 5 (g3 (Int.toNat i8))) none fun v73 r74 => (tkInt v73 none fun q75 n76 => (bif (decide ((0 : Int) ≤ i8)) then (bif (decide (i8 < (((Sl.len l) : Nat) : Int))) then (bif (decide (q75 = .i64)) then (bif (decide ((0 : Int) ≤ i8)) then (bif (decide (i8 < (((Sl.len l) : Nat) : Int))) then (bif (decide (q75 = .i64)) then (bif (decide ((IntKind.wrap q75 (n76 - (Span.hi (Stt.lost (Sl.el l (Int.toNat i8)))))) > (Span.hi (Stt.vol (Sl.el l (Int.toNat i8)))))) then some (.ret (.bool false))
                                                                                                                                                        else (bif (k2 == 6) then (bif (decide ((0 : Int) ≤ i8)) then (bif (decide (i8 < ((k1 : Nat) : Int))) then (tkCons (List.drop 3 (g3 (Int.toNat i8))) none fun v77 r78 => (tkInt v77 none fun q79 n80 => (bif (decide ((0 : Int) ≤ i8)) then (bif (decide (i8 < (((Sl.len l) : Nat) : Int))) then (bif (decide (q79 = .i64)) then (bif (decide (n80 > (Span.hi (Stt.vol (Sl.el l (Int.toNat i8)))))) then some (.ret (.bool false))
                                                                                                                                                                          else (L7x2 env F s l d lo hi x y fu b0 k1 k2 g3 b4 k5 k6 g7 (IntKind.wrap .i64 (i8 + (1 : Int)))))
                                                                                                                                                                        else none)
                                                                                                                                                                      else none)
                                                                                                                                                                    else none)))
                                                                                                                                                              else none)
                                                                                                                                                            else none)
                                                                                                                                                          else none))
                                                                                                                                                      else none)
                                                                                                                                                    else none)
                                                                                                                                                  else none)
                                                                                                                                                else none)
                                                                                                                                              else none)
                                                                                                                                            else none)))
                                                                                                                                      else none)
                                                                                                                                    else none)
                                                                                                                                  else none))))
                                                                                                                            (fun p71 => (tkIfc p71 none fun t72 x73 => (bif (flatP (.iface t72 x73)) then some (.pan (.iface t72 x73))
                                                                                                                                else none))))))))))
                                                                                                                else none)
                                                                                                              else none)
                                                                                                            else none)
                                                                                                          else none)))))))
                                                                                              else none)
                                                                                            else none)
                                                                                          else none)
                                                                                        else none))))
                                                                                  (fun p53 => (tkIfc p53 none fun t54 x55 => (bif (flatP (.iface t54 x55)) then some (.pan (.iface t54 x55))
                                                                                      else none))))))))))
                                                                      else none)
                                                                    else none)
                                                                  else none)
                                                                else none)))))))
                                                    else none)
                                                  else none)
                                                else none)
                                              else none))))
                                        (fun p35 => (tkIfc p35 none fun t36 x37 => (bif (flatP (.iface t36 x37)) then some (.pan (.iface t36 x37))
                                            else none))))))))))
                            else none)
                          else none)
                        else none)
                      else none)))))))
          else none)
        else none)
      else none)
    else none)
  else (tkOut (env 15 [(.agg (eSite s)), (.row b0 k1 k2 g3), (.int .i64 x), (.int .i64 y)]) none (fun v19 => (tkTup v19 none fun l20 => (tkCons l20 none fun v21 r22 => (tkAgg v21 none fun l23 => (tkCons l23 none fun v24 r25 => (tkInt v24 none fun q26 n27 => (tkCons r25 none fun v28 r29 => (tkInt v28 none fun q30 n31 => (tkNil r29 none ((tkCons r22 none fun v32 r33 => (tkInt v32 none fun q34 n35 => (tkNil r33 none ((tkOut (env 15 [(.agg (eSite s)), (.row b4 k5 k6 g7), (.int .i64 x), (.int .i64 y)]) none (fun v36 => (tkTup v36 none fun l37 => (tkCons l37 none fun v38 r39 => (tkAgg v38 none fun l40 => (tkCons l40 none fun v41 r42 => (tkInt v41 none fun q43 n44 => (tkCons r42 none fun v45 r46 => (tkInt v45 none fun q47 n48 => (tkNil r46 none ((tkCons r39 none fun v49 r50 => (tkInt v49 none fun q51 n52 => (tkNil r50 none ((bif (decide (q34 = .i64)) then (bif (n35 == (0 : Int)) then (bif (decide (q51 = .i64)) then (bif (n52 == (0 : Int)) then (tkOut (env 35 [(.agg [(.int q43 n44), (.int q47 n48)]), (.agg [(.int q26 n27), (.int q30 n31)])]) none (fun v53 => (tkBool v53 none fun b54 => (bif b54 then (tkOut (env 13 []) none (fun v55 => (tkBool v55 none fun b56 => some (.ret (.bool b56))))
                                                                  (fun p55 => (tkIfc p55 none fun t56 x57 => (bif (flatP (.iface t56 x57)) then some (.pan (.iface t56 x57))
                                                                      else none))))
                                                                else some (.ret (.bool false)))))
                                                            (fun p53 => (tkIfc p53 none fun t54 x55 => (bif (flatP (.iface t54 x55)) then some (.pan (.iface t54 x55))
                                                                else none))))
                                                          else some (.ret (.bool false)))
                                                        else none)
                                                      else some (.ret (.bool false)))
                                                    else none)))))))))))))))
                            (fun p36 => (tkIfc p36 none fun t37 x38 => (bif (flatP (.iface t37 x38)) then some (.pan (.iface t37 x38))
                                else none))))))))))))))))))
    (fun p19 => (tkIfc p19 none fun t20 x21 => (bif (flatP (.iface t20 x21)) then some (.pan (.iface t20 x21))
        else none))))) := by kernel_rfl

end Go.Sim.Cr

/-
  Parts of spans.
-/
namespace Go.Sim.Cr
open Go.Proofs
variable (F d : Nat)
/-- What lies so many percent of the way. -/
def partS (p : Span) (n : Int) : Int := p.lo + (p.hi - p.lo) * n / 100
abbrev narrowS (p : Span) (a b : Int) : Span := ⟨partS p a, partS p b⟩
theorem partS_ok {p : Span} {n : Int} (h : p.lo ≤ p.hi) (hn : 0 ≤ n ∧ n ≤ 100) : p.lo ≤ partS p n ∧ partS p n ≤ p.hi := by
  have h1 := mulB (show 0 ≤ p.hi - p.lo ∧ p.hi - p.lo ≤ p.hi - p.lo by omega) hn
  unfold partS
  omega
theorem partS_mono {p : Span} {a b : Int} (h : p.lo ≤ p.hi) (hab : a ≤ b) : partS p a ≤ partS p b := by
  have h1 : (p.hi - p.lo) * a ≤ (p.hi - p.lo) * b := Int.mul_le_mul_of_nonneg_left hab (by omega)
  have h2 : (p.hi - p.lo) * a / 100 ≤ (p.hi - p.lo) * b / 100 := Int.ediv_le_ediv (by omega) h1
  unfold partS
  omega
theorem s25 (p : Span) (n : Int) (hp : SpanIn p 0 1000000000) (hn : 0 ≤ n ∧ n ≤ 100) : E F (d + 1) 25 [.agg (eSpan p), .int .i64 n] = some (.ret (.int .i64 (partS p n))) := by
  have h1 := mulB (show 0 ≤ p.hi - p.lo ∧ p.hi - p.lo ≤ 1000000000 by omega) hn
  have h2 := partS_ok hp.2.1 hn
  unfold partS at h2 ⊢
  rw [E_succ, t25, wr (n := p.hi - p.lo) (by omega), wr (n := (p.hi - p.lo) * n) (by omega), Int.tdiv_eq_ediv_of_nonneg h1.1, wr (n := (p.hi - p.lo) * n / 100) (by omega), wr (by omega)]
theorem s34 (p : Span) (a b : Int) (hp : SpanIn p 0 1000000000) (ha : 0 ≤ a ∧ a ≤ 100) (hb : 0 ≤ b ∧ b ≤ 100) : E F (d + 2) 34 [.agg (eSpan p), .int .i64 a, .int .i64 b] = some (.ret (.agg (eSpan (narrowS p a b)))) := by
  rw [E_succ, t34]
  simp only [s25 F d p a hp ha, s25 F d p b hp hb, tkOut_ret, tkInt_i]
end Go.Sim.Cr

/-
  What the evaluator says of these functions (printed by a private program; each row is checked by the kernel).
-/
set_option maxRecDepth 100000
namespace Go.Sim.Cr
open Go.Proofs

noncomputable def L23x0 (env : Env) (F : Nat) (l : Sl Int) (fu : Nat) (i0 : Int) : Option Out := atLoop Try.prog (cfg F) env 23 [.r, .l, .r, .d] [] fu { tm := tmL 30 0 [(0, (sl eInt 1 l)), (3, (.int .i64 i0))], hp := [] }
theorem t23 (env : Env) (F : Nat) (l : Sl Int) : (evFun Try.prog (cfg F) env 23 [(sl eInt 1 l)]) =
  (L23x0 env F l F (0 : Int)) := by kernel_rfl
theorem L23x0s (env : Env) (F : Nat) (l : Sl Int) (fu : Nat) (i0 : Int) : L23x0 env F l (fu + 1) i0 =
  (bif (decide (i0 < (((Sl.len l) : Nat) : Int))) then (bif (decide ((0 : Int) ≤ i0)) then (bif (decide (i0 < (((Sl.len l) : Nat) : Int))) then (bif (decide ((Sl.el l (Int.toNat i0)) < (0 : Int))) then some (.ret (.bool false))
        else (bif (decide ((0 : Int) ≤ i0)) then (bif (decide (i0 < (((Sl.len l) : Nat) : Int))) then (bif (decide ((Sl.el l (Int.toNat i0)) > (100 : Int))) then some (.ret (.bool false))
              else (L23x0 env F l fu (IntKind.wrap .i64 (i0 + (1 : Int)))))
            else none)
          else none))
      else none)
    else none)
  else (bif (decide ((((Sl.len l) : Nat) : Int) ≥ (1 : Int))) then some (.ret (.bool (decide ((((Sl.len l) : Nat) : Int) ≤ (1000 : Int)))))
    else some (.ret (.bool false)))) := by kernel_rfl

theorem t26 (env : Env) (F : Nat) (l : Sl Int) (n : Int) : (evFun Try.prog (cfg F) env 26 [(sl eInt 1 l), (.int .i64 n)]) =
  (bif (decide ((((Sl.len l) : Nat) : Int) = (0 : Int))) then none
  else (bif (decide ((0 : Int) ≤ (Int.tmod n (((Sl.len l) : Nat) : Int)))) then (bif (decide ((Int.tmod n (((Sl.len l) : Nat) : Int)) < (((Sl.len l) : Nat) : Int))) then some (.ret (.int .i64 (Sl.el l (Int.toNat (Int.tmod n (((Sl.len l) : Nat) : Int))))))
      else none)
    else none)) := by kernel_rfl

theorem t27 (env : Env) (F : Nat) (s : Site) (c : Int) (t : Truth) (p : Span) (q : Span) (l : Sl Int) (n : Int) : (evFun Try.prog (cfg F) env 27 [(.agg (eSite s)), (.int .i64 c), (.agg (eTruth t)), (.agg (eSpan p)), (.agg (eSpan q)), (sl eInt 1 l), (.int .i64 n)]) =
  (tkOut (env 26 [(sl eInt 1 l), (.int .i64 n)]) none (fun v9 => (tkInt v9 none fun q10 n11 => (tkOut (env 25 [(.agg (eSpan p)), (.int q10 n11)]) none (fun v12 => (tkInt v12 none fun q13 n14 => (tkOut (env 26 [(sl eInt 1 l), (.int .i64 (IntKind.wrap .i64 (n + (1 : Int))))]) none (fun v15 => (tkInt v15 none fun q16 n17 => (tkOut (env 25 [(.agg (eSpan q)), (.int q16 n17)]) none (fun v18 => (tkInt v18 none fun q19 n20 => (bif (decide ((0 : Int) ≤ c)) then (bif (decide (c < (((Sl.len (Site.cavs s)) : Nat) : Int))) then (bif (decide (.i64 = q13)) then (bif (decide ((0 : Int) ≤ c)) then (bif (decide (c < (((Sl.len (Site.cavs s)) : Nat) : Int))) then (bif (decide (.i64 = q13)) then (tkOut (env 58 [(.agg (eSite s)), (.agg [(.int .i64 (IntKind.wrap .i64 ((Cav.rock (Sl.el (Site.cavs s) (Int.toNat c))) - n14))), (.int .i64 (IntKind.wrap .i64 ((Cav.rock (Sl.el (Site.cavs s) (Int.toNat c))) - n14)))])]) none (fun v21 => (tkAgg v21 none fun l22 => (tkCons l22 none fun v23 r24 => (tkInt v23 none fun q25 n26 => (tkCons r24 none fun v27 r28 => (tkInt v27 none fun q29 n30 => (tkNil r28 none ((tkOut (env 26 [(sl eInt 1 l), (.int .i64 (IntKind.wrap .i64 (n + (2 : Int))))]) none (fun v31 => (tkInt v31 none fun q32 n33 => (tkOut (env 25 [(.agg [(.int q25 n26), (.int q29 n30)]), (.int q32 n33)]) none (fun v34 => (tkInt v34 none fun q35 n36 => (tkOut (env 59 [(.agg (eSite s)), (.agg [(.int q19 n20), (.int q19 n20)])]) none (fun v37 => (tkAgg v37 none fun l38 => (tkCons l38 none fun v39 r40 => (tkInt v39 none fun q41 n42 => (tkCons r40 none fun v43 r44 => (tkInt v43 none fun q45 n46 => (tkNil r44 none ((tkOut (env 26 [(sl eInt 1 l), (.int .i64 (IntKind.wrap .i64 (n + (3 : Int))))]) none (fun v47 => (tkInt v47 none fun q48 n49 => (tkOut (env 25 [(.agg [(.int q41 n42), (.int q45 n46)]), (.int q48 n49)]) none (fun v50 => (tkInt v50 none fun q51 n52 => (tkOut (env 60 [(.agg (eSite s)), (.agg [(.int .i64 (IntKind.wrap .i64 ((Cav.rock (Sl.el (Site.cavs s) (Int.toNat c))) - n14))), (.int .i64 (IntKind.wrap .i64 ((Cav.rock (Sl.el (Site.cavs s) (Int.toNat c))) - n14)))])]) none (fun v53 => (tkAgg v53 none fun l54 => (tkCons l54 none fun v55 r56 => (tkInt v55 none fun q57 n58 => (tkCons r56 none fun v59 r60 => (tkInt v59 none fun q61 n62 => (tkNil r60 none ((tkOut (env 26 [(sl eInt 1 l), (.int .i64 (IntKind.wrap .i64 (n + (4 : Int))))]) none (fun v63 => (tkInt v63 none fun q64 n65 => (tkOut (env 25 [(.agg [(.int q57 n58), (.int q61 n62)]), (.int q64 n65)]) none (fun v66 => (tkInt v66 none fun q67 n68 => (tkOut (env 61 [(.int .i64 (Truth.vol t)), (.int q35 n36), (.int q51 n52)]) none (fun v69 => (tkInt v69 none fun q70 n71 => (tkOut (env 26 [(sl eInt 1 l), (.int .i64 (IntKind.wrap .i64 (n + (5 : Int))))]) none (fun v72 => (tkInt v72 none fun q73 n74 => (bif (decide (q73 = .i64)) then (bif (decide (n74 ≥ (50 : Int))) then (tkOut (env 62 [(.int .i64 (Truth.vol t)), (.int q35 n36), (.int q51 n52)]) none (fun v75 => (tkInt v75 none fun q76 n77 => (bif (decide (.i64 = q67)) then some (.ret (.agg [(.int .i64 (IntKind.wrap .i64 ((Truth.rad t) + n68))), (.int .i64 (IntKind.wrap .i64 ((Truth.vol t) - (if n77 < (Truth.vol t) then n77 else (Truth.vol t))))), (.int .i64 (IntKind.wrap .i64 ((Truth.lost t) + (if n77 < (Truth.vol t) then n77 else (Truth.vol t)))))]))
                                                                                                                else none)))
                                                                                                            (fun p75 => (tkIfc p75 none fun t76 x77 => (bif (flatP (.iface t76 x77)) then some (.pan (.iface t76 x77))
                                                                                                                else none))))
                                                                                                          else (bif (decide (.i64 = q67)) then (bif (decide (.i64 = q70)) then (bif (decide (.i64 = q70)) then some (.ret (.agg [(.int .i64 (IntKind.wrap .i64 ((Truth.rad t) + n68))), (.int .i64 (IntKind.wrap .i64 ((Truth.vol t) - n71))), (.int .i64 (IntKind.wrap .i64 ((Truth.lost t) + n71)))]))
                                                                                                                else none)
                                                                                                              else none)
                                                                                                            else none))
                                                                                                        else none)))
                                                                                                    (fun p72 => (tkIfc p72 none fun t73 x74 => (bif (flatP (.iface t73 x74)) then some (.pan (.iface t73 x74))
                                                                                                        else none))))))
                                                                                                (fun p69 => (tkIfc p69 none fun t70 x71 => (bif (flatP (.iface t70 x71)) then some (.pan (.iface t70 x71))
                                                                                                    else none))))))
                                                                                            (fun p66 => (tkIfc p66 none fun t67 x68 => (bif (flatP (.iface t67 x68)) then some (.pan (.iface t67 x68))
                                                                                                else none))))))
                                                                                        (fun p63 => (tkIfc p63 none fun t64 x65 => (bif (flatP (.iface t64 x65)) then some (.pan (.iface t64 x65))
                                                                                            else none))))))))))))
                                                                          (fun p53 => (tkIfc p53 none fun t54 x55 => (bif (flatP (.iface t54 x55)) then none
                                                                              else none))))))
                                                                      (fun p50 => (tkIfc p50 none fun t51 x52 => (bif (flatP (.iface t51 x52)) then none
                                                                          else none))))))
                                                                  (fun p47 => (tkIfc p47 none fun t48 x49 => (bif (flatP (.iface t48 x49)) then none
                                                                      else none))))))))))))
                                                    (fun p37 => (tkIfc p37 none fun t38 x39 => (bif (flatP (.iface t38 x39)) then none
                                                        else none))))))
                                                (fun p34 => (tkIfc p34 none fun t35 x36 => (bif (flatP (.iface t35 x36)) then none
                                                    else none))))))
                                            (fun p31 => (tkIfc p31 none fun t32 x33 => (bif (flatP (.iface t32 x33)) then none
                                                else none))))))))))))
                              (fun p21 => (tkIfc p21 none fun t22 x23 => (bif (flatP (.iface t22 x23)) then none
                                  else none))))
                            else none)
                          else none)
                        else none)
                      else none)
                    else none)
                  else none)))
              (fun p18 => (tkIfc p18 none fun t19 x20 => (bif (flatP (.iface t19 x20)) then some (.pan (.iface t19 x20))
                  else none))))))
          (fun p15 => (tkIfc p15 none fun t16 x17 => (bif (flatP (.iface t16 x17)) then some (.pan (.iface t16 x17))
              else none))))))
      (fun p12 => (tkIfc p12 none fun t13 x14 => (bif (flatP (.iface t13 x14)) then none
          else none))))))
  (fun p9 => (tkIfc p9 none fun t10 x11 => (bif (flatP (.iface t10 x11)) then none
      else none)))) := by kernel_rfl

noncomputable def L33x0 (env : Env) (F : Nat) (s : Site) (t : Sl Truth) (p : Sl Int) (q : Sl Int) (fu : Nat) (i0 : Int) : Option Out := atLoop Try.prog (cfg F) env 33 [.r, .l, .r, .d] [] fu { tm := tmL 151 0 [(1, (sl eTruth 3 t)), (2, (sl eInt 1 p)), (3, (sl eInt 1 q)), (4, (.optr 0 0 0)), (9, (.int .i64 i0))], hp := [(.box 28 (eSite s) true)] }
noncomputable def L33x1 (env : Env) (F : Nat) (s : Site) (t : Sl Truth) (p : Sl Int) (q : Sl Int) (m0 : Nat) (fu : Nat) (i0 : Int) (i1 : Int) : Option Out := atLoop Try.prog (cfg F) env 33 [.r, .l, .r, .d, .d, .r, .l, .d, .r, .r, .r, .d] [m0] fu { tm := tmL 151 0 [(1, (sl eTruth 3 t)), (2, (sl eInt 1 p)), (3, (sl eInt 1 q)), (4, (.optr 0 0 0)), (9, (.int .i64 i0)), (11, (.int .i64 i1))], hp := [(.box 28 (eSite s) true)] }
noncomputable def L33x2 (env : Env) (F : Nat) (s : Site) (t : Sl Truth) (p : Sl Int) (q : Sl Int) (fu : Nat) (i0 : Int) : Option Out := atLoop Try.prog (cfg F) env 33 [.r, .r, .l, .r, .d] [] fu { tm := tmL 151 0 [(1, (sl eTruth 3 t)), (4, (.optr 0 0 0)), (12, (.int .i64 i0))], hp := [(.box 28 (eSite s) true)] }
noncomputable def L33x3 (env : Env) (F : Nat) (s : Site) (t : Sl Truth) (p : Sl Int) (q : Sl Int) (m0 : Nat) (fu : Nat) (i0 : Int) (i1 : Int) (i2 : Int) (i3 : Int) (i4 : Int) (i5 : Int) : Option Out := atLoop Try.prog (cfg F) env 33 [.r, .r, .l, .r, .d, .d, .r, .l, .d, .r, .l, .r, .d] [m0] fu { tm := tmL 151 0 [(1, (sl eTruth 3 t)), (4, (.optr 0 0 0)), (12, (.int .i64 i0)), (13, (.optr 1 0 0)), (14, (.int .i64 i1)), (15, (.int .i64 i2))], hp := [(.box 28 (eSite s) true), (.box 111 [(.int .i64 i3), (.int .i64 i4), (.int .i64 i5)] true)] }
theorem t33 (env : Env) (F : Nat) (s : Site) (t : Sl Truth) (p : Sl Int) (q : Sl Int) : (evFun Try.prog (cfg F) env 33 [(.agg (eSite s)), (sl eTruth 3 t), (sl eInt 1 p), (sl eInt 1 q)]) =
  (L33x0 env F s t p q F (0 : Int)) := by kernel_rfl
theorem L33x0s (env : Env) (F : Nat) (s : Site) (t : Sl Truth) (p : Sl Int) (q : Sl Int) (fu : Nat) (i0 : Int) : L33x0 env F s t p q (fu + 1) i0 =
  (bif (decide (i0 < (((Sl.len t) : Nat) : Int))) then (bif (decide ((0 : Int) ≤ i0)) then (bif (decide (i0 < (((Sl.len (Site.cavs s)) : Nat) : Int))) then (bif (decide ((0 : Int) ≤ i0)) then (bif (decide (i0 < (((Sl.len p) : Nat) : Int))) then (tkOut (env 28 [(.int .i64 (Sl.el p (Int.toNat i0))), (.agg (eSpan (Cav.gate (Sl.el (Site.cavs s) (Int.toNat i0)))))]) none (fun v8 => (tkBool v8 none fun b9 => (bif (!b9) then some (.ret (.bool true))
                else (bif (decide ((((Sl.len q) : Nat) : Int) > (0 : Int))) then (bif (decide ((0 : Int) ≤ i0)) then (bif (decide (i0 < (((Sl.len p) : Nat) : Int))) then (bif (decide ((0 : Int) ≤ i0)) then (bif (decide (i0 < (((Sl.len q) : Nat) : Int))) then (bif (decide ((IntKind.wrap .i64 ((Sl.el p (Int.toNat i0)) - (Sl.el q (Int.toNat i0)))) > (Cav.change (Sl.el (Site.cavs s) (Int.toNat i0))))) then some (.ret (.bool true))
                            else (bif (decide ((0 : Int) ≤ i0)) then (bif (decide (i0 < (((Sl.len q) : Nat) : Int))) then (bif (decide ((0 : Int) ≤ i0)) then (bif (decide (i0 < (((Sl.len p) : Nat) : Int))) then (bif (decide ((IntKind.wrap .i64 ((Sl.el q (Int.toNat i0)) - (Sl.el p (Int.toNat i0)))) > (Cav.change (Sl.el (Site.cavs s) (Int.toNat i0))))) then some (.ret (.bool true))
                                      else (bif (decide ((0 : Int) ≤ i0)) then (bif (decide (i0 < (((Sl.len t) : Nat) : Int))) then (bif (decide ((Truth.vol (Sl.el t (Int.toNat i0))) < (Cav.floor (Sl.el (Site.cavs s) (Int.toNat i0))))) then some (.ret (.bool true))
                                            else (L33x1 env F s t p q fu F i0 (IntKind.wrap .i64 (i0 + (1 : Int)))))
                                          else none)
                                        else none))
                                    else none)
                                  else none)
                                else none)
                              else none))
                          else none)
                        else none)
                      else none)
                    else none)
                  else (bif (decide ((0 : Int) ≤ i0)) then (bif (decide (i0 < (((Sl.len t) : Nat) : Int))) then (bif (decide ((Truth.vol (Sl.el t (Int.toNat i0))) < (Cav.floor (Sl.el (Site.cavs s) (Int.toNat i0))))) then some (.ret (.bool true))
                        else (L33x1 env F s t p q fu F i0 (IntKind.wrap .i64 (i0 + (1 : Int)))))
                      else none)
                    else none)))))
            (fun p8 => (tkIfc p8 none fun t9 x10 => (bif (flatP (.iface t9 x10)) then some (.pan (.iface t9 x10))
                else none))))
          else none)
        else none)
      else none)
    else none)
  else (L33x2 env F s t p q F (0 : Int))) := by kernel_rfl
theorem L33x1s (env : Env) (F : Nat) (s : Site) (t : Sl Truth) (p : Sl Int) (q : Sl Int) (m0 : Nat) (fu : Nat) (i0 : Int) (i1 : Int) : L33x1 env F s t p q m0 (fu + 1) i0 i1 =
  (bif (decide (i1 < (((Sl.len t) : Nat) : Int))) then (tkOut (env 71 [(.agg (eSite s)), (.int .i64 i0), (.int .i64 i1)]) none (fun v10 => (tkInt v10 none fun q11 n12 => (bif (decide ((0 : Int) ≤ i0)) then (bif (decide (i0 < (((Sl.len t) : Nat) : Int))) then (bif (decide (q11 = .i64)) then (bif (decide ((0 : Int) ≤ i1)) then (bif (decide (i1 < (((Sl.len t) : Nat) : Int))) then (bif (decide (q11 = .i64)) then (bif (decide (q11 = .i64)) then (bif (decide ((IntKind.wrap q11 ((IntKind.wrap q11 (n12 - (Truth.rad (Sl.el t (Int.toNat i0))))) - (Truth.rad (Sl.el t (Int.toNat i1))))) < (Site.wall s))) then some (.ret (.bool true))
                      else (L33x1 env F s t p q m0 fu i0 (IntKind.wrap .i64 (i1 + (1 : Int)))))
                    else none)
                  else none)
                else none)
              else none)
            else none)
          else none)
        else none)))
    (fun p10 => (tkIfc p10 none fun t11 x12 => (bif (flatP (.iface t11 x12)) then none
        else none))))
  else (L33x0 env F s t p q m0 (IntKind.wrap .i64 (i0 + (1 : Int))))) := by kernel_rfl
theorem L33x2s (env : Env) (F : Nat) (s : Site) (t : Sl Truth) (p : Sl Int) (q : Sl Int) (fu : Nat) (i0 : Int) : L33x2 env F s t p q (fu + 1) i0 =
  (bif (decide (i0 < (((Sl.len (Site.houses s)) : Nat) : Int))) then (bif (decide ((0 : Int) ≤ i0)) then (bif (decide (i0 < (((Sl.len (Site.houses s)) : Nat) : Int))) then (L33x3 env F s t p q fu F i0 (0 : Int) (0 : Int) (House.x (Sl.el (Site.houses s) (Int.toNat i0))) (House.y (Sl.el (Site.houses s) (Int.toNat i0))) (House.most (Sl.el (Site.houses s) (Int.toNat i0))))
      else none)
    else none)
  else some (.ret (.bool false))) := by kernel_rfl
theorem L33x3s (env : Env) (F : Nat) (s : Site) (t : Sl Truth) (p : Sl Int) (q : Sl Int) (m0 : Nat) (fu : Nat) (i0 : Int) (i1 : Int) (i2 : Int) (i3 : Int) (i4 : Int) (i5 : Int) : L33x3 env F s t p q m0 (fu + 1) i0 i1 i2 i3 i4 i5 =
  (bif (decide (i2 < (((Sl.len t) : Nat) : Int))) then (tkOut (env 29 [(.agg (eSite s)), (.int .i64 i2), (.int .i64 i3), (.int .i64 i4)]) none (fun v14 => (tkTup v14 none fun l15 => (tkCons l15 none fun v16 r17 => (tkAgg v16 none fun l18 => (tkCons l18 none fun v19 r20 => (tkInt v19 none fun q21 n22 => (tkCons r20 none fun v23 r24 => (tkInt v23 none fun q25 n26 => (tkNil r24 none ((tkCons r17 none fun v27 r28 => (tkBool v27 none fun b29 => (tkNil r28 none ((bif b29 then (bif (decide ((0 : Int) ≤ i2)) then (bif (decide (i2 < (((Sl.len t) : Nat) : Int))) then (bif (decide (.i64 = q21)) then (L33x3 env F s t p q m0 fu i0 (IntKind.wrap .i64 (i1 + (IntKind.wrap .i64 (Int.tdiv (IntKind.wrap .i64 ((Truth.lost (Sl.el t (Int.toNat i2))) * n22)) (1000000 : Int))))) (IntKind.wrap .i64 (i2 + (1 : Int))) i3 i4 i5)
                                  else none)
                                else none)
                              else none)
                            else (L33x3 env F s t p q m0 fu i0 i1 (IntKind.wrap .i64 (i2 + (1 : Int))) i3 i4 i5))))))))))))))))
    (fun p14 => (tkIfc p14 none fun t15 x16 => (bif (flatP (.iface t15 x16)) then some (.pan (.iface t15 x16))
        else none))))
  else (bif (decide (i1 > i5)) then some (.ret (.bool true))
    else (L33x2 env F s t p q m0 (IntKind.wrap .i64 (i0 + (1 : Int)))))) := by kernel_rfl

end Go.Sim.Cr

/-
  What is true of a cavern after a day: where the truth lies, in percent.
-/
namespace Go.Sim.Cr
open Go.Proofs
variable (F d : Nat)
/-- The percentage with a number of a list that is gone through again and again. -/
abbrev chs (w : Sl Int) (n : Nat) : Int := w.el (n % w.len)
abbrev PctOk (w : Sl Int) : Prop := (∀ i, i < w.len → 0 ≤ w.el i ∧ w.el i ≤ 100) ∧ 1 ≤ w.len ∧ w.len ≤ 1000
theorem chs_ok {w : Sl Int} (h : PctOk w) (n : Nat) : 0 ≤ chs w n ∧ chs w n ≤ 100 := h.1 _ (Nat.mod_lt _ h.2.1)
theorem l23 (l : Sl Int) (hB : l.len < Big) : ∀ n i fu, l.len = i + n → n < fu →
    L23x0 (E F d) F l fu (i : Int) = some (.ret (.bool (allF (fun k => decide (0 ≤ l.el k ∧ l.el k ≤ 100)) (decide (1 ≤ l.len ∧ l.len ≤ 1000)) n i))) := by
  intro n
  induction n with
  | zero =>
    intro i fu h hf
    obtain ⟨fu, rfl⟩ : ∃ k, fu = k + 1 := ⟨fu - 1, by omega⟩
    rw [L23x0s]
    simp only [Int.ofNat_lt, show ¬ i < l.len by omega, decide_false, cond_false, allF, cAnd]
    refine b3 (b2 ?_)
    simp only [Bool.and_eq_true, decide_eq_true_iff]
    omega
  | succ n ih =>
    intro i fu h hf
    obtain ⟨fu, rfl⟩ : ∃ k, fu = k + 1 := ⟨fu - 1, by omega⟩
    rw [L23x0s]
    simp only [Int.ofNat_lt, show i < l.len by omega, decide_true, cond_true, Int.natCast_nonneg, Int.toNat_natCast, wrS (show i < Big by omega), ih (i + 1) fu (by omega) (by omega), allF]
    by_cases h1 : l.el i < 0
    · rw [decide_eq_true h1, cond_true, decide_eq_false (by omega)]; rfl
    · by_cases h2 : l.el i > 100
      · rw [decide_eq_false h1, cond_false, decide_eq_true h2, cond_true, decide_eq_false (by omega)]; rfl
      · rw [decide_eq_false h1, cond_false, decide_eq_false h2, cond_false, decide_eq_true (show 0 ≤ l.el i ∧ l.el i ≤ 100 by omega)]; rfl
theorem s23 (l : Sl Int) (hB : l.len < Big) (hF : l.len < F) : E F (d + 1) 23 [sl eInt 1 l] = some (.ret (.bool (decide (PctOk l)))) := by
  rw [E_succ, t23, show L23x0 (E F d) F l F 0 = _ from l23 F d l hB l.len 0 F (by omega) hF]
  refine b3 (b2 ?_)
  rw [allF_0]
  simp only [decide_eq_true_iff]
theorem s26 (w : Sl Int) (n : Nat) (h1 : 1 ≤ w.len) : E F (d + 1) 26 [sl eInt 1 w, .int .i64 (n : Int)] = some (.ret (.int .i64 (chs w n))) := by
  have e : Int.tmod (n : Int) (w.len : Int) = ((n % w.len : Nat) : Int) := (Int.ofNat_tmod n w.len).symm
  rw [E_succ, t26, decide_eq_false (show ¬ (w.len : Int) = 0 by omega), cond_false, e, decide_eq_true (Int.natCast_nonneg _), cond_true, decide_eq_true (Int.ofNat_lt.2 (Nat.mod_lt _ h1)), cond_true, Int.toNat_natCast]
theorem s25r (a b n : Int) (hp : 0 ≤ a ∧ a ≤ b ∧ b ≤ 1000000000) (hn : 0 ≤ n ∧ n ≤ 100) : E F (d + 1) 25 [.agg [.int .i64 a, .int .i64 b], .int .i64 n] = some (.ret (.int .i64 (partS ⟨a, b⟩ n))) := s25 F d ⟨a, b⟩ n hp hn
/-- One number of a span. -/
abbrev ptS (p : Span) (k : Int) : Span := ⟨partS p k, partS p k⟩
/-- What is true of rate, factor and fall. -/
def rateT (s : Site) (c : Cav) (p : Span) (w : Sl Int) (n : Nat) : Int := partS (rateOf s c (ptS p (chs w n))) (chs w (n + 2))
def factT (s : Site) (q : Span) (w : Sl Int) (n : Nat) : Int := partS (factorOf s (ptS q (chs w (n + 1)))) (chs w (n + 3))
def fallT (s : Site) (c : Cav) (p : Span) (w : Sl Int) (n : Nat) : Int := partS (fallOf s c (ptS p (chs w n))) (chs w (n + 4))
def lostT (s : Site) (c : Cav) (v : Int) (p q : Span) (w : Sl Int) (n : Nat) : Int :=
  shrink v (rateT s c p w n) (factT s q w n) (bif decide (chs w (n + 5) ≥ 50) then 999999999 else 0)
def grownT (s : Site) (c : Cav) (t : Truth) (p q : Span) (w : Sl Int) (n : Nat) : Truth :=
  ⟨t.rad + fallT s c p w n, t.vol - lostT s c t.vol p q w n, t.lost + lostT s c t.vol p q w n⟩
theorem ptS_sub {p : Span} {k : Int} (h : p.lo ≤ p.hi) (hk : 0 ≤ k ∧ k ≤ 100) : Sub (ptS p k) p := partS_ok h hk
section
variable {s : Site} {c : Cav} {p q : Span} {w : Sl Int}
theorem rateT_ok (hS : SiteF s) (hf : farB s c p q = false) (hp : p.lo ≤ p.hi) (hq : q.lo ≤ q.hi) (hw : PctOk w) (n : Nat) :
    ((rateOf s c (ptS p (chs w n))).lo ≤ rateT s c p w n ∧ rateT s c p w n ≤ (rateOf s c (ptS p (chs w n))).hi ∧ 0 ≤ rateT s c p w n ∧ rateT s c p w n ≤ 100000) ∧
    ((factorOf s (ptS q (chs w (n + 1)))).lo ≤ factT s q w n ∧ factT s q w n ≤ (factorOf s (ptS q (chs w (n + 1)))).hi ∧ 0 ≤ factT s q w n ∧ factT s q w n ≤ 10000) ∧
    (fallOf s c (ptS p (chs w n))).lo ≤ fallT s c p w n ∧ fallT s c p w n ≤ (fallOf s c (ptS p (chs w n))).hi ∧ 0 ≤ fallT s c p w n ∧ fallT s c p w n ≤ 1000 := by
  have sp := ptS_sub hp (chs_ok hw n)
  have sq := ptS_sub hq (chs_ok hw (n + 1))
  obtain ⟨k1, k2, k3, k4, k5, k6⟩ := rates_ok hS (far_sub hf sp sq)
  obtain ⟨_, _, r3, r4⟩ := rate_sub hS hf sp (Int.le_refl _)
  obtain ⟨_, g2⟩ := factor_sub hS hf sq (Int.le_refl _)
  have a1 := partS_ok r3 (chs_ok hw (n + 2))
  have a2 := partS_ok g2 (chs_ok hw (n + 3))
  have a3 := partS_ok r4 (chs_ok hw (n + 4))
  unfold rateT factT fallT
  omega
theorem lostT_ok (hS : SiteF s) (hf : farB s c p q = false) (hp : p.lo ≤ p.hi) (hq : q.lo ≤ q.hi) (hw : PctOk w) (n : Nat) {v : Int} (hv : 0 ≤ v ∧ v ≤ 10000000) : 0 ≤ lostT s c v p q w n ∧ lostT s c v p q w n ≤ v := by
  obtain ⟨h1, h2, _⟩ := rateT_ok hS hf hp hq hw n
  refine shrink_ok hv h1.2.2 h2.2.2 ?_
  cases decide (chs w (n + 5) ≥ 50) <;> simp
theorem shrink0 {v r f : Int} (hv : 0 ≤ v ∧ v ≤ 10000000) (hr : 0 ≤ r ∧ r ≤ 100000) (hf : 0 ≤ f ∧ f ≤ 10000) : v * r * f / 1000000000 = shrink v r f 0 := by
  have := upDown v hv hr hf
  unfold shrink minI
  split <;> omega
theorem s27 (i : Nat) (t : Truth) (n : Nat) (hS : SiteF s) (hi : i < s.cavs.len) (hf : farB s (s.cavs.el i) p q = false) (hp : SpanIn p 0 50000) (hq : SpanIn q 0 10000) (hw : PctOk w) (hv : 0 ≤ t.vol ∧ t.vol ≤ 10000000) (hr : 0 ≤ t.rad ∧ t.rad ≤ 1000000) (hl : 0 ≤ t.lost ∧ t.lost ≤ 1000000000) (hn : n ≤ 1000000) (hF : 8 < F) :
    E F (d + 3) 27 [.agg (eSite s), .int .i64 (i : Int), .agg (eTruth t), .agg (eSpan p), .agg (eSpan q), sl eInt 1 w, .int .i64 (n : Int)] = some (.ret (.agg (eTruth (grownT s (s.cavs.el i) t p q w n)))) := by
  have sp := ptS_sub hp.2.1 (chs_ok hw n)
  have sq := ptS_sub hq.2.1 (chs_ok hw (n + 1))
  have hf' := far_sub hf sp sq
  obtain ⟨o1, o2⟩ := far_split hf'
  obtain ⟨k1, k2, k3, k4, k5, k6⟩ := rates_ok hS hf'
  obtain ⟨_, _, r3, r4⟩ := rate_sub hS hf sp (Int.le_refl _)
  obtain ⟨_, g2⟩ := factor_sub hS hf sq (Int.le_refl _)
  obtain ⟨⟨x1, x2, x3⟩, ⟨y1, y2, y3⟩, z1, z2, z3⟩ := rateT_ok hS hf hp.2.1 hq.2.1 hw n
  have hl2 := lostT_ok hS hf hp.2.1 hq.2.1 hw n hv
  have hrk := (hS.cav i hi).2.2.2.1
  have pk := partS_ok hp.2.1 (chs_ok hw n)
  have w1 : ∀ j : Nat, j ≤ 10 → IntKind.i64.wrap ((n : Int) + (j : Int)) = ((n + j : Nat) : Int) := fun j hj => by rw [wr (by omega)]; omega
  have w2 : IntKind.i64.wrap ((n : Int) + 1) = ((n + 1 : Nat) : Int) := w1 1 (by omega)
  have w3 : IntKind.i64.wrap ((n : Int) + 2) = ((n + 2 : Nat) : Int) := w1 2 (by omega)
  have w4 : IntKind.i64.wrap ((n : Int) + 3) = ((n + 3 : Nat) : Int) := w1 3 (by omega)
  have w5 : IntKind.i64.wrap ((n : Int) + 4) = ((n + 4 : Nat) : Int) := w1 4 (by omega)
  have w6 : IntKind.i64.wrap ((n : Int) + 5) = ((n + 5 : Nat) : Int) := w1 5 (by omega)
  have e58 : E F (d + 2) 58 [.agg (eSite s), .agg [.int .i64 ((s.cavs.el i).rock - partS p (chs w n)), .int .i64 ((s.cavs.el i).rock - partS p (chs w n))]] = some (.ret (.agg [.int .i64 (rateOf s (s.cavs.el i) (ptS p (chs w n))).lo, .int .i64 (rateOf s (s.cavs.el i) (ptS p (chs w n))).hi])) := s58 F d s ⟨_, _⟩ hS o1 hF
  have e60 : E F (d + 2) 60 [.agg (eSite s), .agg [.int .i64 ((s.cavs.el i).rock - partS p (chs w n)), .int .i64 ((s.cavs.el i).rock - partS p (chs w n))]] = some (.ret (.agg [.int .i64 (fallOf s (s.cavs.el i) (ptS p (chs w n))).lo, .int .i64 (fallOf s (s.cavs.el i) (ptS p (chs w n))).hi])) := s60 F d s ⟨_, _⟩ hS o1 hF
  have e59 : E F (d + 2) 59 [.agg (eSite s), .agg [.int .i64 (partS q (chs w (n + 1))), .int .i64 (partS q (chs w (n + 1)))]] = some (.ret (.agg [.int .i64 (factorOf s (ptS q (chs w (n + 1)))).lo, .int .i64 (factorOf s (ptS q (chs w (n + 1)))).hi])) := s59 F (d + 1) s ⟨_, _⟩ hS o2 hF
  have e25r := s25r F (d + 1) (rateOf s (s.cavs.el i) (ptS p (chs w n))).lo (rateOf s (s.cavs.el i) (ptS p (chs w n))).hi (chs w (n + 2)) (by omega) (chs_ok hw (n + 2))
  have e25f := s25r F (d + 1) (factorOf s (ptS q (chs w (n + 1)))).lo (factorOf s (ptS q (chs w (n + 1)))).hi (chs w (n + 3)) (by omega) (chs_ok hw (n + 3))
  have e25l := s25r F (d + 1) (fallOf s (s.cavs.el i) (ptS p (chs w n))).lo (fallOf s (s.cavs.el i) (ptS p (chs w n))).hi (chs w (n + 4)) (by omega) (chs_ok hw (n + 4))
  change E F (d + 2) 25 _ = some (.ret (.int .i64 (rateT s (s.cavs.el i) p w n))) at e25r
  change E F (d + 2) 25 _ = some (.ret (.int .i64 (factT s q w n))) at e25f
  change E F (d + 2) 25 _ = some (.ret (.int .i64 (fallT s (s.cavs.el i) p w n))) at e25l
  have e61 := s61 F (d + 1) t.vol (rateT s (s.cavs.el i) p w n) (factT s q w n) hv x3 y3
  have e62 := s62 F (d + 1) t.vol (rateT s (s.cavs.el i) p w n) (factT s q w n) hv x3 y3
  have hlt : lostT s (s.cavs.el i) t.vol p q w n = shrink t.vol (rateT s (s.cavs.el i) p w n) (factT s q w n) (bif decide (chs w (n + 5) ≥ 50) then 999999999 else 0) := rfl
  have a1 : IntKind.i64.wrap (t.rad + fallT s (s.cavs.el i) p w n) = t.rad + fallT s (s.cavs.el i) p w n := wr (by omega)
  have a2 : IntKind.i64.wrap (t.vol - lostT s (s.cavs.el i) t.vol p q w n) = t.vol - lostT s (s.cavs.el i) t.vol p q w n := wr (by omega)
  have a3 : IntKind.i64.wrap (t.lost + lostT s (s.cavs.el i) t.vol p q w n) = t.lost + lostT s (s.cavs.el i) t.vol p q w n := wr (by omega)
  rw [E_succ, t27]
  simp only [s26 F (d + 1) w n hw.2.1, pOut, pInt, s25 F (d + 1) p (chs w n) (by omega) (chs_ok hw n), w2, s26 F (d + 1) w (n + 1) hw.2.1, s25 F (d + 1) q (chs w (n + 1)) (by omega) (chs_ok hw (n + 1)),
    Int.natCast_nonneg, Int.ofNat_lt, hi, decide_true, pT, Int.toNat_natCast, wr (show _ ∧ (s.cavs.el i).rock - partS p (chs w n) ≤ _ by omega), e58, pAgg, pCons, pNil, w3, s26 F (d + 1) w (n + 2) hw.2.1, e25r, e59, w4, s26 F (d + 1) w (n + 3) hw.2.1, e25f,
    e60, w5, s26 F (d + 1) w (n + 4) hw.2.1, e25l, e61, w6, s26 F (d + 1) w (n + 5) hw.2.1, e62, a1]
  cases h5 : decide (chs w (n + 5) ≥ 50) with
  | true =>
    rw [h5, cond_true] at hlt
    have hm : (if (t.vol * rateT s (s.cavs.el i) p w n * factT s q w n + 999999999) / 1000000000 < t.vol then (t.vol * rateT s (s.cavs.el i) p w n * factT s q w n + 999999999) / 1000000000 else t.vol) = lostT s (s.cavs.el i) t.vol p q w n := hlt.symm
    simp only [pT, hm, a2, a3]
    rfl
  | false =>
    rw [h5, cond_false] at hlt
    have hm : t.vol * rateT s (s.cavs.el i) p w n * factT s q w n / 1000000000 = lostT s (s.cavs.el i) t.vol p q w n := (shrink0 hv x3 y3).trans hlt.symm
    simp only [pF, hm, a2, a3]
    rfl
/-- The truth lies within a state. -/
structure Within (t : Truth) (x : Stt) : Prop where
  rad : x.rad.lo ≤ t.rad ∧ t.rad ≤ x.rad.hi
  vol : x.vol.lo ≤ t.vol ∧ t.vol ≤ x.vol.hi
  lost : x.lost.lo ≤ t.lost ∧ t.lost ≤ x.lost.hi
theorem grown_in (hS : SiteF s) (hf : farB s c p q = false) (hp : p.lo ≤ p.hi) (hq : q.lo ≤ q.hi) (hw : PctOk w) (n : Nat) {t : Truth} {x : Stt} (hx : SttOk x) (ht : Within t x) (hr : t.rad ≤ 399000) (hl : t.lost + t.vol ≤ 1000000000) :
    Within (grownT s c t p q w n) (move1 s c x p q) := by
  have sp := ptS_sub hp (chs_ok hw n)
  have sq := ptS_sub hq (chs_ok hw (n + 1))
  obtain ⟨⟨x1, x2, x3⟩, ⟨y1, y2, y3⟩, z1, z2, z3⟩ := rateT_ok hS hf hp hq hw n
  obtain ⟨k1, k2, k3, k4, k5, k6⟩ := rates_ok hS hf
  obtain ⟨r1, r2, r3, r4⟩ := rate_sub hS hf sp (Int.le_refl _)
  obtain ⟨g1, g2⟩ := factor_sub hS hf sq (Int.le_refl _)
  obtain ⟨t1, t2, t3⟩ := ht
  have hv : 0 ≤ t.vol ∧ t.vol ≤ 10000000 := by omega
  have hlo := lostT_ok hS hf hp hq hw n hv
  have hk : 0 ≤ (bif decide (chs w (n + 5) ≥ 50) then (999999999 : Int) else 0) ∧ (bif decide (chs w (n + 5) ≥ 50) then (999999999 : Int) else 0) ≤ 999999999 := by cases decide (chs w (n + 5) ≥ 50) <;> simp
  have a1 := @shrink_mono t.vol t.vol (rateT s c p w n) (rateOf s c p).hi (factT s q w n) (factorOf s q).hi (bif decide (chs w (n + 5) ≥ 50) then 999999999 else 0) 999999999 (by omega) (by omega) (by omega) (by omega) (by omega) (by omega) hk.2
  have a2 := @shrink_mono t.vol t.vol (rateOf s c p).lo (rateT s c p w n) (factorOf s q).lo (factT s q w n) 0 (bif decide (chs w (n + 5) ≥ 50) then 999999999 else 0) (by omega) (by omega) (by omega) (by omega) (by omega) (by omega) hk.1
  have b1 := @shrink_rest x.vol.lo t.vol (rateOf s c p).hi (factorOf s q).hi 999999999 (by omega) k2 k6
  have b2 := @shrink_rest t.vol x.vol.hi (rateOf s c p).lo (factorOf s q).lo 0 (by omega) k1 k5
  have c1 := @shrink_mono x.vol.lo t.vol (rateOf s c p).lo (rateOf s c p).lo (factorOf s q).lo (factorOf s q).lo 0 0 (by omega) (by omega) (by omega) (by omega) (by omega) (by omega) (by omega)
  have c2 := @shrink_mono t.vol x.vol.hi (rateOf s c p).hi (rateOf s c p).hi (factorOf s q).hi (factorOf s q).hi 999999999 999999999 (by omega) (by omega) (by omega) (by omega) (by omega) (by omega) (by omega)
  change 0 ≤ lostT s c t.vol p q w n ∧ _ at hlo
  change lostT s c t.vol p q w n ≤ _ at a1
  change _ ≤ lostT s c t.vol p q w n at a2
  refine ⟨⟨?_, ?_⟩, ⟨?_, ?_⟩, ?_, ?_⟩
  · show minI (x.rad.lo + (fallOf s c p).lo) 400000 ≤ t.rad + fallT s c p w n; unfold minI; split <;> omega
  · show t.rad + fallT s c p w n ≤ minI (x.rad.hi + (fallOf s c p).hi) 400000; unfold minI; split <;> omega
  · show x.vol.lo - _ ≤ t.vol - lostT s c t.vol p q w n; omega
  · show t.vol - lostT s c t.vol p q w n ≤ x.vol.hi - _; omega
  · show minI _ 1000000000 ≤ t.lost + lostT s c t.vol p q w n; unfold minI; split <;> omega
  · show t.lost + lostT s c t.vol p q w n ≤ minI _ 1000000000; unfold minI; split <;> omega
end
end Go.Sim.Cr

/-
  What the evaluator says of these functions (printed by a private program; each row is checked by the kernel).
-/
set_option maxRecDepth 100000
namespace Go.Sim.Cr
open Go.Proofs

noncomputable def L4x0 (env : Env) (F : Nat) (s : Site) (ds : Sl Day) (wh : Sl Int) (x : Int) (y : Int) (fu : Nat) (b0 : Bool) (k1 : Nat) (k2 : Nat) (g3 : Nat → List V) : Option Out := atLoop Try.prog (cfg F) env 4 [.r, .r, .r, .r, .r, .l, .r, .d] [] fu { tm := tmL 309 0 [(1, (sl eDay 2 ds)), (2, (sl eInt 1 wh)), (3, (.int .i64 x)), (4, (.int .i64 y)), (5, (.optr 0 0 0)), (11, (.row b0 k1 k2 g3)), (13, (.row true 0 0 (fun u12 => []))), (14, (.int .i64 (0 : Int)))], hp := [(.box 28 (eSite s) true)] }
noncomputable def L4x1 (env : Env) (F : Nat) (s : Site) (ds : Sl Day) (wh : Sl Int) (x : Int) (y : Int) (fu : Nat) (b0 : Bool) (k1 : Nat) (k2 : Nat) (g3 : Nat → List V) (k4 : Nat) (i5 : Int) (k6 : Nat) (g7 : Nat → List V) : Option Out := atLoop Try.prog (cfg F) env 4 [.r, .r, .r, .r, .r, .l, .r, .d] [] fu { tm := tmL 309 0 [(1, (sl eDay 2 ds)), (2, (sl eInt 1 wh)), (3, (.int .i64 x)), (4, (.int .i64 y)), (5, (.optr 0 0 0)), (11, (.row b0 k1 k2 g3)), (13, (.osl 1 0 k4)), (14, (.int .i64 i5))], hp := [(.box 28 (eSite s) true), (.arr 61 3 k6 g7 true)] }
noncomputable def L4x2 (env : Env) (F : Nat) (s : Site) (ds : Sl Day) (wh : Sl Int) (x : Int) (y : Int) (fu : Nat) (b0 : Bool) (k1 : Nat) (k2 : Nat) (g3 : Nat → List V) (i4 : Int) : Option Out := atLoop Try.prog (cfg F) env 4 [.r, .r, .r, .r, .r, .r, .r, .l, .r, .d] [] fu { tm := tmL 309 0 [(1, (sl eDay 2 ds)), (2, (sl eInt 1 wh)), (3, (.int .i64 x)), (4, (.int .i64 y)), (5, (.optr 0 0 0)), (11, (.row b0 k1 k2 g3)), (13, (.row true 0 0 (fun u13 => []))), (16, (.row true 0 0 (fun u13 => []))), (17, (.int .i64 i4))], hp := [(.box 28 (eSite s) true)] }
noncomputable def L4x3 (env : Env) (F : Nat) (s : Site) (ds : Sl Day) (wh : Sl Int) (x : Int) (y : Int) (fu : Nat) (b0 : Bool) (k1 : Nat) (k2 : Nat) (g3 : Nat → List V) (k4 : Nat) (k5 : Nat) (i6 : Int) (k7 : Nat) (g8 : Nat → List V) (k9 : Nat) (g10 : Nat → List V) : Option Out := atLoop Try.prog (cfg F) env 4 [.r, .r, .r, .r, .r, .r, .r, .l, .r, .d] [] fu { tm := tmL 309 0 [(1, (sl eDay 2 ds)), (2, (sl eInt 1 wh)), (3, (.int .i64 x)), (4, (.int .i64 y)), (5, (.optr 0 0 0)), (11, (.row b0 k1 k2 g3)), (13, (.osl 1 0 k4)), (16, (.osl 2 0 k5)), (17, (.int .i64 i6))], hp := [(.box 28 (eSite s) true), (.arr 61 3 k7 g8 true), (.arr 61 3 k9 g10 true)] }
noncomputable def L4x4 (env : Env) (F : Nat) (s : Site) (ds : Sl Day) (wh : Sl Int) (x : Int) (y : Int) (m0 : Nat) (fu : Nat) (i0 : Int) (b1 : Bool) (k2 : Nat) (k3 : Nat) (g4 : Nat → List V) : Option Out := atLoop Try.prog (cfg F) env 4 [.r, .r, .r, .r, .r, .r, .r, .l, .r, .d, .d, .r, .l, .d, .r, .r, .r, .r, .r, .l, .r, .d] [m0] fu { tm := tmL 309 0 [(1, (sl eDay 2 ds)), (2, (sl eInt 1 wh)), (3, (.int .i64 x)), (4, (.int .i64 y)), (5, (.optr 0 0 0)), (13, (.row true 0 0 (fun u14 => []))), (16, (.row true 0 0 (fun u14 => []))), (17, (.int .i64 i0)), (18, (.row b1 k2 k3 g4)), (20, (.int .i64 (0 : Int))), (21, (.int .i64 (0 : Int))), (22, (.int .i64 (0 : Int)))], hp := [(.box 28 (eSite s) true)] }
noncomputable def L4x5 (env : Env) (F : Nat) (s : Site) (ds : Sl Day) (wh : Sl Int) (x : Int) (y : Int) (m0 : Nat) (fu : Nat) (k0 : Nat) (k1 : Nat) (i2 : Int) (b3 : Bool) (k4 : Nat) (k5 : Nat) (g6 : Nat → List V) (i7 : Int) (i8 : Int) (i9 : Int) (k10 : Nat) (g11 : Nat → List V) (k12 : Nat) (g13 : Nat → List V) : Option Out := atLoop Try.prog (cfg F) env 4 [.r, .r, .r, .r, .r, .r, .r, .l, .r, .d, .d, .r, .l, .d, .r, .r, .r, .r, .r, .l, .r, .d] [m0] fu { tm := tmL 309 0 [(1, (sl eDay 2 ds)), (2, (sl eInt 1 wh)), (3, (.int .i64 x)), (4, (.int .i64 y)), (5, (.optr 0 0 0)), (13, (.osl 1 0 k0)), (16, (.osl 2 0 k1)), (17, (.int .i64 i2)), (18, (.row b3 k4 k5 g6)), (20, (.int .i64 i7)), (21, (.int .i64 i8)), (22, (.int .i64 i9))], hp := [(.box 28 (eSite s) true), (.arr 61 3 k10 g11 true), (.arr 61 3 k12 g13 true)] }
noncomputable def L4x6 (env : Env) (F : Nat) (s : Site) (ds : Sl Day) (wh : Sl Int) (x : Int) (y : Int) (fu : Nat) (b0 : Bool) (k1 : Nat) (k2 : Nat) (g3 : Nat → List V) (k4 : Nat) (i5 : Int) (k6 : Nat) (g7 : Nat → List V) : Option Out := atLoop Try.prog (cfg F) env 4 [.r, .r, .r, .r, .r, .r, .r, .l, .r, .d] [] fu { tm := tmL 309 0 [(1, (sl eDay 2 ds)), (2, (sl eInt 1 wh)), (3, (.int .i64 x)), (4, (.int .i64 y)), (5, (.optr 0 0 0)), (11, (.row b0 k1 k2 g3)), (13, (.osl 1 0 k4)), (16, (.row true 0 0 (fun u16 => []))), (17, (.int .i64 i5))], hp := [(.box 28 (eSite s) true), (.arr 61 3 k6 g7 true)] }
noncomputable def L4x7 (env : Env) (F : Nat) (s : Site) (ds : Sl Day) (wh : Sl Int) (x : Int) (y : Int) (m0 : Nat) (fu : Nat) (k0 : Nat) (i1 : Int) (b2 : Bool) (k3 : Nat) (k4 : Nat) (g5 : Nat → List V) (k6 : Nat) (g7 : Nat → List V) : Option Out := atLoop Try.prog (cfg F) env 4 [.r, .r, .r, .r, .r, .r, .r, .l, .r, .d, .d, .r, .l, .d, .r, .r, .r, .r, .r, .l, .r, .d] [m0] fu { tm := tmL 309 0 [(1, (sl eDay 2 ds)), (2, (sl eInt 1 wh)), (3, (.int .i64 x)), (4, (.int .i64 y)), (5, (.optr 0 0 0)), (13, (.osl 1 0 k0)), (16, (.row true 0 0 (fun u17 => []))), (17, (.int .i64 i1)), (18, (.row b2 k3 k4 g5)), (20, (.int .i64 (0 : Int))), (21, (.int .i64 (0 : Int))), (22, (.int .i64 (0 : Int)))], hp := [(.box 28 (eSite s) true), (.arr 61 3 k6 g7 true)] }
theorem t4 (env : Env) (F : Nat) (s : Site) (ds : Sl Day) (wh : Sl Int) (x : Int) (y : Int) : (evFun Try.prog (cfg F) env 4 [(.agg (eSite s)), (sl eDay 2 ds), (sl eInt 1 wh), (.int .i64 x), (.int .i64 y)]) =
  (tkOut (env 11 [(.agg (eSite s))]) none (fun v7 => (tkBool v7 none fun b8 => (bif (!b8) then (tkOut (env 13 []) none (fun v9 => (tkBool v9 none fun b10 => some (.ret (.bool b10))))
        (fun p9 => (tkIfc p9 none fun t10 x11 => (bif (flatP (.iface t10 x11)) then some (.pan (.iface t10 x11))
            else none))))
      else (tkOut (env 16 [(.agg (eSite s))]) none (fun v9 => (tkBool v9 none fun b10 => (bif (!b10) then (tkOut (env 13 []) none (fun v11 => (tkBool v11 none fun b12 => some (.ret (.bool b12))))
              (fun p11 => (tkIfc p11 none fun t12 x13 => (bif (flatP (.iface t12 x13)) then some (.pan (.iface t12 x13))
                  else none))))
            else (bif (decide ((((Sl.len ds) : Nat) : Int) > (8 : Int))) then (tkOut (env 13 []) none (fun v11 => (tkBool v11 none fun b12 => some (.ret (.bool b12))))
                (fun p11 => (tkIfc p11 none fun t12 x13 => (bif (flatP (.iface t12 x13)) then some (.pan (.iface t12 x13))
                    else none))))
              else (tkOut (env 12 [(sl eDay 2 ds), (.int .i64 (8 : Int))]) none (fun v11 => (tkBool v11 none fun b12 => (bif (!b12) then (tkOut (env 13 []) none (fun v13 => (tkBool v13 none fun b14 => some (.ret (.bool b14))))
                      (fun p13 => (tkIfc p13 none fun t14 x15 => (bif (flatP (.iface t14 x15)) then some (.pan (.iface t14 x15))
                          else none))))
                    else (tkOut (env 23 [(sl eInt 1 wh)]) none (fun v13 => (tkBool v13 none fun b14 => (bif (!b14) then (tkOut (env 13 []) none (fun v15 => (tkBool v15 none fun b16 => some (.ret (.bool b16))))
                            (fun p15 => (tkIfc p15 none fun t16 x17 => (bif (flatP (.iface t16 x17)) then some (.pan (.iface t16 x17))
                                else none))))
                          else (tkOut (env 18 [(.int .i64 x), (.int .i64 y)]) none (fun v15 => (tkBool v15 none fun b16 => (bif (!b16) then (tkOut (env 13 []) none (fun v17 => (tkBool v17 none fun b18 => some (.ret (.bool b18))))
                                  (fun p17 => (tkIfc p17 none fun t18 x19 => (bif (flatP (.iface t18 x19)) then some (.pan (.iface t18 x19))
                                      else none))))
                                else (tkOut (env 24 [(.agg (eSite s))]) none (fun v17 => (tkTup v17 none fun l18 => (tkCons l18 none fun v19 r20 => (tkRow v19 none fun nl21 n22 wd23 g24 => (tkCons r20 none fun v25 r26 => (tkInt v25 none fun q27 n28 => (tkNil r26 none ((bif (decide (q27 = .i64)) then (bif (n28 != (0 : Int)) then some (.ret (.bool false))
                                                  else (bif (((n22 : Nat) : Int) != (((Sl.len (Site.cavs s)) : Nat) : Int)) then some (.ret (.bool false))
                                                    else (L4x0 env F s ds wh x y F nl21 n22 wd23 g24)))
                                                else none)))))))))
                                  (fun p17 => (tkIfc p17 none fun t18 x19 => (bif (flatP (.iface t18 x19)) then some (.pan (.iface t18 x19))
                                      else none)))))))
                            (fun p15 => (tkIfc p15 none fun t16 x17 => (bif (flatP (.iface t16 x17)) then some (.pan (.iface t16 x17))
                                else none)))))))
                      (fun p13 => (tkIfc p13 none fun t14 x15 => (bif (flatP (.iface t14 x15)) then some (.pan (.iface t14 x15))
                          else none)))))))
                (fun p11 => (tkIfc p11 none fun t12 x13 => (bif (flatP (.iface t12 x13)) then some (.pan (.iface t12 x13))
                    else none))))))))
        (fun p9 => (tkIfc p9 none fun t10 x11 => (bif (flatP (.iface t10 x11)) then some (.pan (.iface t10 x11))
            else none)))))))
  (fun p7 => (tkIfc p7 none fun t8 x9 => (bif (flatP (.iface t8 x9)) then some (.pan (.iface t8 x9))
      else none)))) := by kernel_rfl
theorem L4x0s (env : Env) (F : Nat) (s : Site) (ds : Sl Day) (wh : Sl Int) (x : Int) (y : Int) (fu : Nat) (b0 : Bool) (k1 : Nat) (k2 : Nat) (g3 : Nat → List V) : L4x0 env F s ds wh x y (fu + 1) b0 k1 k2 g3 =
  (bif (decide ((0 : Int) < ((k1 : Nat) : Int))) then (bif (decide ((0 : Int) < (((Sl.len (Site.cavs s)) : Nat) : Int))) then (tkOut (env 26 [(sl eInt 1 wh), (.int .i64 (IntKind.wrap .i64 ((2 : Int) * (0 : Int))))]) none (fun v12 => (tkInt v12 none fun q13 n14 => (tkOut (env 25 [(.agg (eSpan (Cav.rad (Sl.el (Site.cavs s) 0)))), (.int q13 n14)]) none (fun v15 => (tkInt v15 none fun q16 n17 => (tkOut (env 26 [(sl eInt 1 wh), (.int .i64 (IntKind.wrap .i64 ((IntKind.wrap .i64 ((2 : Int) * (0 : Int))) + (1 : Int))))]) none (fun v18 => (tkInt v18 none fun q19 n20 => (tkOut (env 25 [(.agg (eSpan (Cav.vol (Sl.el (Site.cavs s) 0)))), (.int q19 n20)]) none (fun v21 => (tkInt v21 none fun q22 n23 => (L4x1 env F s ds wh x y fu b0 k1 k2 g3 1 (IntKind.wrap .i64 ((0 : Int) + (1 : Int))) 1 (fun u24 => [(.int q16 n17), (.int q22 n23), (.int .i64 (0 : Int))]))))
                  (fun p21 => (tkIfc p21 none fun t22 x23 => (bif (flatP (.iface t22 x23)) then some (.pan (.iface t22 x23))
                      else none))))))
              (fun p18 => (tkIfc p18 none fun t19 x20 => (bif (flatP (.iface t19 x20)) then some (.pan (.iface t19 x20))
                  else none))))))
          (fun p15 => (tkIfc p15 none fun t16 x17 => (bif (flatP (.iface t16 x17)) then none
              else none))))))
      (fun p12 => (tkIfc p12 none fun t13 x14 => (bif (flatP (.iface t13 x14)) then none
          else none))))
    else none)
  else (L4x2 env F s ds wh x y F b0 k1 k2 g3 (0 : Int))) := by kernel_rfl
theorem L4x1s (env : Env) (F : Nat) (s : Site) (ds : Sl Day) (wh : Sl Int) (x : Int) (y : Int) (fu : Nat) (b0 : Bool) (k1 : Nat) (k2 : Nat) (g3 : Nat → List V) (k4 : Nat) (i5 : Int) (k6 : Nat) (g7 : Nat → List V) : L4x1 env F s ds wh x y (fu + 1) b0 k1 k2 g3 k4 i5 k6 g7 =
  (bif (decide (i5 < ((k1 : Nat) : Int))) then (bif (decide ((0 : Int) ≤ i5)) then (bif (decide (i5 < (((Sl.len (Site.cavs s)) : Nat) : Int))) then (tkOut (env 26 [(sl eInt 1 wh), (.int .i64 (IntKind.wrap .i64 ((2 : Int) * i5)))]) none (fun v16 => (tkInt v16 none fun q17 n18 => (tkOut (env 25 [(.agg (eSpan (Cav.rad (Sl.el (Site.cavs s) (Int.toNat i5))))), (.int q17 n18)]) none (fun v19 => (tkInt v19 none fun q20 n21 => (tkOut (env 26 [(sl eInt 1 wh), (.int .i64 (IntKind.wrap .i64 ((IntKind.wrap .i64 ((2 : Int) * i5)) + (1 : Int))))]) none (fun v22 => (tkInt v22 none fun q23 n24 => (tkOut (env 25 [(.agg (eSpan (Cav.vol (Sl.el (Site.cavs s) (Int.toNat i5))))), (.int q23 n24)]) none (fun v25 => (tkInt v25 none fun q26 n27 => (bif (decide (((k4 + 1) * 24) ≤ 140737488355328)) then (L4x1 env F s ds wh x y fu b0 k1 k2 g3 (k4 + 1) (IntKind.wrap .i64 (i5 + (1 : Int))) (k4 + 1) (appGet k4 g7 (fun u28 => [(.int q20 n21), (.int q26 n27), (.int .i64 (0 : Int))])))
                        else none)))
                    (fun p25 => (tkIfc p25 none fun t26 x27 => (bif (flatP (.iface t26 x27)) then some (.pan (.iface t26 x27))
                        else none))))))
                (fun p22 => (tkIfc p22 none fun t23 x24 => (bif (flatP (.iface t23 x24)) then some (.pan (.iface t23 x24))
                    else none))))))
            (fun p19 => (tkIfc p19 none fun t20 x21 => (bif (flatP (.iface t20 x21)) then none
                else none))))))
        (fun p16 => (tkIfc p16 none fun t17 x18 => (bif (flatP (.iface t17 x18)) then none
            else none))))
      else none)
    else none)
  else (bif (k4 == 0) then (L4x6 env F s ds wh x y F b0 k1 k2 g3 k4 (0 : Int) k6 g7)
    else (bif (decide ((k4 * 24) ≤ 140737488355328)) then (L4x3 env F s ds wh x y F b0 k1 k2 g3 k4 k4 (0 : Int) k6 g7 k4 (fun u16 => (g7 u16)))
      else none))) := by kernel_rfl
theorem L4x2s (env : Env) (F : Nat) (s : Site) (ds : Sl Day) (wh : Sl Int) (x : Int) (y : Int) (fu : Nat) (b0 : Bool) (k1 : Nat) (k2 : Nat) (g3 : Nat → List V) (i4 : Int) : L4x2 env F s ds wh x y (fu + 1) b0 k1 k2 g3 i4 =
  (bif (decide (i4 < (((Sl.len ds) : Nat) : Int))) then (bif (decide ((0 : Int) ≤ i4)) then (bif (decide (i4 < (((Sl.len ds) : Nat) : Int))) then (tkOut (env 20 [(.agg (eSite s)), (.agg [(sl eSpan 2 (Day.press (Sl.el ds (Int.toNat i4)))), (sl eSpan 2 (Day.warm (Sl.el ds (Int.toNat i4))))])]) none (fun v13 => (tkBool v13 none fun b14 => (bif (!b14) then (tkOut (env 13 []) none (fun v15 => (tkBool v15 none fun b16 => some (.ret (.bool b16))))
              (fun p15 => (tkIfc p15 none fun t16 x17 => (bif (flatP (.iface t16 x17)) then some (.pan (.iface t16 x17))
                  else none))))
            else (bif (decide ((0 : Int) ≤ i4)) then (bif (decide (i4 < (((Sl.len ds) : Nat) : Int))) then (tkOut (env 14 [(.agg (eSite s)), (.row b0 k1 k2 g3), (.agg [(sl eSpan 2 (Day.press (Sl.el ds (Int.toNat i4)))), (sl eSpan 2 (Day.warm (Sl.el ds (Int.toNat i4))))])]) none (fun v15 => (tkTup v15 none fun l16 => (tkCons l16 none fun v17 r18 => (tkRow v17 none fun nl19 n20 wd21 g22 => (tkCons r18 none fun v23 r24 => (tkInt v23 none fun q25 n26 => (tkNil r24 none ((bif (decide (q25 = .i64)) then (bif (n26 != (0 : Int)) then (bif (decide (q25 = .i64)) then (bif (n26 == (7 : Int)) then (tkOut (env 13 []) none (fun v27 => (tkBool v27 none fun b28 => some (.ret (.bool b28))))
                                        (fun p27 => (tkIfc p27 none fun t28 x29 => (bif (flatP (.iface t28 x29)) then some (.pan (.iface t28 x29))
                                            else none))))
                                      else some (.ret (.bool false)))
                                    else none)
                                  else (bif (((n20 : Nat) : Int) != ((0 : Nat) : Int)) then some (.ret (.bool false))
                                    else (L4x4 env F s ds wh x y fu F i4 nl19 n20 wd21 g22)))
                                else none)))))))))
                  (fun p15 => (tkIfc p15 none fun t16 x17 => (bif (flatP (.iface t16 x17)) then some (.pan (.iface t16 x17))
                      else none))))
                else none)
              else none))))
        (fun p13 => (tkIfc p13 none fun t14 x15 => (bif (flatP (.iface t14 x15)) then some (.pan (.iface t14 x15))
            else none))))
      else none)
    else none)
  else (tkOut (env 13 []) none (fun v13 => (tkBool v13 none fun b14 => some (.ret (.bool b14))))
    (fun p13 => (tkIfc p13 none fun t14 x15 => (bif (flatP (.iface t14 x15)) then some (.pan (.iface t14 x15))
        else none))))) := by kernel_rfl
theorem L4x3s (env : Env) (F : Nat) (s : Site) (ds : Sl Day) (wh : Sl Int) (x : Int) (y : Int) (fu : Nat) (b0 : Bool) (k1 : Nat) (k2 : Nat) (g3 : Nat → List V) (k4 : Nat) (k5 : Nat) (i6 : Int) (k7 : Nat) (g8 : Nat → List V) (k9 : Nat) (g10 : Nat → List V) : L4x3 env F s ds wh x y (fu + 1) b0 k1 k2 g3 k4 k5 i6 k7 g8 k9 g10 =
  (bif (decide (i6 < (((Sl.len ds) : Nat) : Int))) then (bif (decide ((0 : Int) ≤ i6)) then (bif (decide (i6 < (((Sl.len ds) : Nat) : Int))) then (tkOut (env 20 [(.agg (eSite s)), (.agg [(sl eSpan 2 (Day.press (Sl.el ds (Int.toNat i6)))), (sl eSpan 2 (Day.warm (Sl.el ds (Int.toNat i6))))])]) none (fun v19 => (tkBool v19 none fun b20 => (bif (!b20) then (tkOut (env 13 []) none (fun v21 => (tkBool v21 none fun b22 => some (.ret (.bool b22))))
              (fun p21 => (tkIfc p21 none fun t22 x23 => (bif (flatP (.iface t22 x23)) then some (.pan (.iface t22 x23))
                  else none))))
            else (bif (decide ((0 : Int) ≤ i6)) then (bif (decide (i6 < (((Sl.len ds) : Nat) : Int))) then (tkOut (env 14 [(.agg (eSite s)), (.row b0 k1 k2 g3), (.agg [(sl eSpan 2 (Day.press (Sl.el ds (Int.toNat i6)))), (sl eSpan 2 (Day.warm (Sl.el ds (Int.toNat i6))))])]) none (fun v21 => (tkTup v21 none fun l22 => (tkCons l22 none fun v23 r24 => (tkRow v23 none fun nl25 n26 wd27 g28 => (tkCons r24 none fun v29 r30 => (tkInt v29 none fun q31 n32 => (tkNil r30 none ((bif (decide (q31 = .i64)) then (bif (n32 != (0 : Int)) then (bif (decide (q31 = .i64)) then (bif (n32 == (7 : Int)) then (tkOut (env 13 []) none (fun v33 => (tkBool v33 none fun b34 => some (.ret (.bool b34))))
                                        (fun p33 => (tkIfc p33 none fun t34 x35 => (bif (flatP (.iface t34 x35)) then some (.pan (.iface t34 x35))
                                            else none))))
                                      else some (.ret (.bool false)))
                                    else none)
                                  else (bif (((n26 : Nat) : Int) != ((k4 : Nat) : Int)) then some (.ret (.bool false))
                                    else (L4x5 env F s ds wh x y fu F k4 k5 i6 nl25 n26 wd27 g28 (0 : Int) (0 : Int) (0 : Int) k7 g8 k9 g10)))
                                else none)))))))))
                  (fun p21 => (tkIfc p21 none fun t22 x23 => (bif (flatP (.iface t22 x23)) then some (.pan (.iface t22 x23))
                      else none))))
                else none)
              else none))))
        (fun p19 => (tkIfc p19 none fun t20 x21 => (bif (flatP (.iface t20 x21)) then some (.pan (.iface t20 x21))
            else none))))
      else none)
    else none)
  else (tkOut (env 13 []) none (fun v19 => (tkBool v19 none fun b20 => some (.ret (.bool b20))))
    (fun p19 => (tkIfc p19 none fun t20 x21 => (bif (flatP (.iface t20 x21)) then some (.pan (.iface t20 x21))
        else none))))) := by kernel_rfl
theorem L4x4s (env : Env) (F : Nat) (s : Site) (ds : Sl Day) (wh : Sl Int) (x : Int) (y : Int) (m0 : Nat) (fu : Nat) (i0 : Int) (b1 : Bool) (k2 : Nat) (k3 : Nat) (g4 : Nat → List V) : L4x4 env F s ds wh x y m0 (fu + 1) i0 b1 k2 k3 g4 =
  (tkOut (env 15 [(.agg (eSite s)), (.row b1 k2 k3 g4), (.int .i64 x), (.int .i64 y)]) none (fun v14 => (tkTup v14 none fun l15 => (tkCons l15 none fun v16 r17 => (tkAgg v16 none fun l18 => (tkCons l18 none fun v19 r20 => (tkInt v19 none fun q21 n22 => (tkCons r20 none fun v23 r24 => (tkInt v23 none fun q25 n26 => (tkNil r24 none ((tkCons r17 none fun v27 r28 => (tkInt v27 none fun q29 n30 => (tkNil r28 none ((bif (decide (q29 = .i64)) then (bif (n30 != (0 : Int)) then some (.ret (.bool false))
                            else (bif (decide (.i64 = q21)) then (bif (decide ((0 : Int) < n22)) then some (.ret (.bool false))
                                else (bif (decide (.i64 = q25)) then (bif (decide ((0 : Int) > n26)) then some (.ret (.bool false))
                                    else (L4x2 env F s ds wh x y m0 b1 k2 k3 g4 (IntKind.wrap .i64 (i0 + (1 : Int)))))
                                  else none))
                              else none))
                          else none)))))))))))))))
  (fun p14 => (tkIfc p14 none fun t15 x16 => (bif (flatP (.iface t15 x16)) then some (.pan (.iface t15 x16))
      else none)))) := by kernel_rfl
theorem L4x5s (env : Env) (F : Nat) (s : Site) (ds : Sl Day) (wh : Sl Int) (x : Int) (y : Int) (m0 : Nat) (fu : Nat) (k0 : Nat) (k1 : Nat) (i2 : Int) (b3 : Bool) (k4 : Nat) (k5 : Nat) (g6 : Nat → List V) (i7 : Int) (i8 : Int) (i9 : Int) (k10 : Nat) (g11 : Nat → List V) (k12 : Nat) (g13 : Nat → List V) : L4x5 env F s ds wh x y m0 (fu + 1) k0 k1 i2 b3 k4 k5 g6 i7 i8 i9 k10 g11 k12 g13 =
  (bif (decide (i9 < ((k0 : Nat) : Int))) then (bif (decide ((0 : Int) ≤ i9)) then (bif (decide (i9 < ((k0 : Nat) : Int))) then (bif ((List.length (List.take 3 (g11 (Int.toNat i9)))) == 3) then (tkCons (List.take 3 (g11 (Int.toNat i9))) none fun v23 r24 => (tkInt v23 none fun q25 n26 => (tkCons r24 none fun v27 r28 => (tkInt v27 none fun q29 n30 => (tkCons r28 none fun v31 r32 => (tkInt v31 none fun q33 n34 => (tkNil r32 none ((bif (decide ((0 : Int) ≤ i2)) then (bif (decide (i2 < (((Sl.len ds) : Nat) : Int))) then (bif (decide ((0 : Int) ≤ i9)) then (bif (decide (i9 < (((Sl.len (Day.press (Sl.el ds (Int.toNat i2)))) : Nat) : Int))) then (bif (decide ((0 : Int) ≤ i2)) then (bif (decide (i2 < (((Sl.len ds) : Nat) : Int))) then (bif (decide ((0 : Int) ≤ i9)) then (bif (decide (i9 < (((Sl.len (Day.warm (Sl.el ds (Int.toNat i2)))) : Nat) : Int))) then (tkOut (env 27 [(.agg (eSite s)), (.int .i64 i9), (.agg [(.int q25 n26), (.int q29 n30), (.int q33 n34)]), (.agg (eSpan (Sl.el (Day.press (Sl.el ds (Int.toNat i2))) (Int.toNat i9)))), (.agg (eSpan (Sl.el (Day.warm (Sl.el ds (Int.toNat i2))) (Int.toNat i9)))), (sl eInt 1 wh), (.int .i64 (IntKind.wrap .i64 ((6 : Int) * (IntKind.wrap .i64 ((IntKind.wrap .i64 (((k0 : Nat) : Int) * i2)) + i9)))))]) none (fun v35 => (tkAgg v35 none fun l36 => (tkCons l36 none fun v37 r38 => (tkInt v37 none fun q39 n40 => (tkCons r38 none fun v41 r42 => (tkInt v41 none fun q43 n44 => (tkCons r42 none fun v45 r46 => (tkInt v45 none fun q47 n48 => (tkNil r46 none ((bif (decide ((0 : Int) ≤ i9)) then (bif (decide (i9 < ((k0 : Nat) : Int))) then (bif (decide ((0 : Int) ≤ i9)) then (bif (decide (i9 < ((k0 : Nat) : Int))) then (tkCons (updGet g11 (Int.toNat i9) 0 [(.int q39 n40), (.int q43 n44), (.int q47 n48)] (Int.toNat i9)) none fun v49 r50 => (tkInt v49 none fun q51 n52 => (bif (k5 == 6) then (bif (decide ((0 : Int) ≤ i9)) then (bif (decide (i9 < ((k4 : Nat) : Int))) then (bif ((List.length (List.take 2 (g6 (Int.toNat i9)))) == 2) then (tkCons (List.take 2 (g6 (Int.toNat i9))) none fun v53 r54 => (tkInt v53 none fun q55 n56 => (tkCons r54 none fun v57 r58 => (tkInt v57 none fun q59 n60 => (tkNil r58 none ((tkOut (env 28 [(.int q51 n52), (.agg [(.int q55 n56), (.int q59 n60)])]) none (fun v61 => (tkBool v61 none fun b62 => (bif (!b62) then some (.ret (.bool false))
                                                                                            else (bif (decide ((0 : Int) ≤ i9)) then (bif (decide (i9 < ((k0 : Nat) : Int))) then (tkCons (List.drop 1 (updGet g11 (Int.toNat i9) 0 [(.int q39 n40), (.int q43 n44), (.int q47 n48)] (Int.toNat i9))) none fun v63 r64 => (tkInt v63 none fun q65 n66 => (bif (k5 == 6) then (bif (decide ((0 : Int) ≤ i9)) then (bif (decide (i9 < ((k4 : Nat) : Int))) then (bif ((List.length (List.take 2 (List.drop 2 (g6 (Int.toNat i9))))) == 2) then (tkCons (List.take 2 (List.drop 2 (g6 (Int.toNat i9)))) none fun v67 r68 => (tkInt v67 none fun q69 n70 => (tkCons r68 none fun v71 r72 => (tkInt v71 none fun q73 n74 => (tkNil r72 none ((tkOut (env 28 [(.int q65 n66), (.agg [(.int q69 n70), (.int q73 n74)])]) none (fun v75 => (tkBool v75 none fun b76 => (bif (!b76) then some (.ret (.bool false))
                                                                                                                            else (bif (decide ((0 : Int) ≤ i9)) then (bif (decide (i9 < ((k0 : Nat) : Int))) then (tkCons (List.drop 2 (updGet g11 (Int.toNat i9) 0 [(.int q39 n40), (.int q43 n44), (.int q47 n48)] (Int.toNat i9))) none fun v77 r78 => (tkInt v77 none fun q79 n80 => (bif (k5 == 6) then (bif (decide ((0 : Int) ≤ i9)) then (bif (decide (i9 < ((k4 : Nat) : Int))) then (bif ((List.length (List.take 2 (List.drop 4 (g6 (Int.toNat i9))))) == 2) then (tkCons (List.take 2 (List.drop 4 (g6 (Int.toNat i9)))) none fun v81 r82 => (tkInt v81 none fun q83 n84 => (tkCons r82 none fun v85 r86 => (tkInt v85 none fun q87 n88 => (tkNil r86 none ((tkOut (env 28 [(.int q79 n80), (.agg [(.int q83 n84), (.int q87 n88)])]) none (fun v89 => (tkBool v89 none fun b90 => (bif (!b90) then some (.ret (.bool false))
                                                                                                                                                            else (bif (decide ((0 : Int) ≤ i9)) then (bif (decide (i9 < ((k0 : Nat) : Int))) then (tkCons (List.drop 1 (updGet g11 (Int.toNat i9) 0 [(.int q39 n40), (.int q43 n44), (.int q47 n48)] (Int.toNat i9))) none fun v91 r92 => (tkInt v91 none fun q93 n94 => (bif (decide ((0 : Int) ≤ i9)) then (bif (decide (i9 < ((k0 : Nat) : Int))) then (tkCons (List.drop 2 (updGet g11 (Int.toNat i9) 0 [(.int q39 n40), (.int q43 n44), (.int q47 n48)] (Int.toNat i9))) none fun v95 r96 => (tkInt v95 none fun q97 n98 => (bif (decide (q93 = q97)) then (bif (decide ((0 : Int) ≤ i9)) then (bif (decide (i9 < ((k1 : Nat) : Int))) then (tkCons (List.drop 1 (g13 (Int.toNat i9))) none fun v99 r100 => (tkInt v99 none fun q101 n102 => (bif (decide (q93 = q101)) then (bif ((IntKind.wrap q93 (n94 + n98)) != n102) then some (.ret (.bool false))
                                                                                                                                                                                          else (bif (decide ((0 : Int) ≤ i9)) then (bif (decide (i9 < ((k0 : Nat) : Int))) then (tkCons (List.drop 1 (updGet g11 (Int.toNat i9) 0 [(.int q39 n40), (.int q43 n44), (.int q47 n48)] (Int.toNat i9))) none fun v103 r104 => (tkInt v103 none fun q105 n106 => (bif (decide (q105 = .i64)) then (bif (decide (n106 < (0 : Int))) then some (.ret (.bool false))
                                                                                                                                                                                                      else (tkOut (env 29 [(.agg (eSite s)), (.int .i64 i9), (.int .i64 x), (.int .i64 y)]) none (fun v107 => (tkTup v107 none fun l108 => (tkCons l108 none fun v109 r110 => (tkAgg v109 none fun l111 => (tkCons l111 none fun v112 r113 => (tkInt v112 none fun q114 n115 => (tkCons r113 none fun v116 r117 => (tkInt v116 none fun q118 n119 => (tkNil r117 none ((tkCons r110 none fun v120 r121 => (tkBool v120 none fun b122 => (tkNil r121 none ((bif b122 then (bif (decide ((0 : Int) ≤ i9)) then (bif (decide (i9 < ((k0 : Nat) : Int))) then (tkCons (List.drop 2 (updGet g11 (Int.toNat i9) 0 [(.int q39 n40), (.int q43 n44), (.int q47 n48)] (Int.toNat i9))) none fun v123 r124 => (tkInt v123 none fun q125 n126 => (tkOut (env 26 [(sl eInt 1 wh), (.int .i64 i2)]) none (fun v127 => (tkInt v127 none fun q128 n129 => (tkOut (env 25 [(.agg [(.int q114 n115), (.int q118 n119)]), (.int q128 n129)]) none (fun v130 => (tkInt v130 none fun q131 n132 => (bif (decide (q125 = q131)) then (bif (decide (q125 = .i64)) then (bif (decide (.i64 = q125)) then (bif (decide ((0 : Int) ≤ i9)) then (bif (decide (i9 < ((k0 : Nat) : Int))) then (tkCons (List.drop 2 (updGet g11 (Int.toNat i9) 0 [(.int q39 n40), (.int q43 n44), (.int q47 n48)] (Int.toNat i9))) none fun v133 r134 => (tkInt v133 none fun q135 n136 => (tkOut (env 26 [(sl eInt 1 wh), (.int .i64 i2)]) none (fun v137 => (tkInt v137 none fun q138 n139 => (tkOut (env 25 [(.agg [(.int q114 n115), (.int q118 n119)]), (.int q138 n139)]) none (fun v140 => (tkInt v140 none fun q141 n142 => (bif (decide (q135 = q141)) then (bif (decide (q135 = .i64)) then (bif (decide (q135 = .i64)) then (bif (decide (.i64 = q135)) then (L4x5 env F s ds wh x y m0 fu k0 k1 i2 b3 k4 k5 g6 (IntKind.wrap .i64 (i7 + (IntKind.wrap q125 (Int.tdiv (IntKind.wrap q125 (n126 * n132)) (1000000 : Int))))) (IntKind.wrap .i64 (i8 + (IntKind.wrap q135 (Int.tdiv (IntKind.wrap q135 ((IntKind.wrap q135 (n136 * n142)) + (999999 : Int))) (1000000 : Int))))) (IntKind.wrap .i64 (i9 + (1 : Int))) k10 (updGet g11 (Int.toNat i9) 0 [(.int q39 n40), (.int q43 n44), (.int q47 n48)]) k12 g13)
                                                                                                                                                                                                                                                                              else none)
                                                                                                                                                                                                                                                                            else none)
                                                                                                                                                                                                                                                                          else none)
                                                                                                                                                                                                                                                                        else none)))
                                                                                                                                                                                                                                                                    (fun p140 => (tkIfc p140 none fun t141 x142 => (bif (flatP (.iface t141 x142)) then some (.pan (.iface t141 x142))
                                                                                                                                                                                                                                                                        else none))))))
                                                                                                                                                                                                                                                                (fun p137 => (tkIfc p137 none fun t138 x139 => (bif (flatP (.iface t138 x139)) then some (.pan (.iface t138 x139))
                                                                                                                                                                                                                                                                    else none))))))
                                                                                                                                                                                                                                                          else none)
                                                                                                                                                                                                                                                        else none)
                                                                                                                                                                                                                                                      else none)
                                                                                                                                                                                                                                                    else none)
                                                                                                                                                                                                                                                  else none)))
                                                                                                                                                                                                                                              (fun p130 => (tkIfc p130 none fun t131 x132 => (bif (flatP (.iface t131 x132)) then none
                                                                                                                                                                                                                                                  else none))))))
                                                                                                                                                                                                                                          (fun p127 => (tkIfc p127 none fun t128 x129 => (bif (flatP (.iface t128 x129)) then none
                                                                                                                                                                                                                                              else none))))))
                                                                                                                                                                                                                                    else none)
                                                                                                                                                                                                                                  else none)
                                                                                                                                                                                                                                else (L4x5 env F s ds wh x y m0 fu k0 k1 i2 b3 k4 k5 g6 i7 i8 (IntKind.wrap .i64 (i9 + (1 : Int))) k10 (updGet g11 (Int.toNat i9) 0 [(.int q39 n40), (.int q43 n44), (.int q47 n48)]) k12 g13))))))))))))))))
                                                                                                                                                                                                        (fun p107 => (tkIfc p107 none fun t108 x109 => (bif (flatP (.iface t108 x109)) then some (.pan (.iface t108 x109))
                                                                                                                                                                                                            else none)))))
                                                                                                                                                                                                    else none)))
                                                                                                                                                                                              else none)
                                                                                                                                                                                            else none))
                                                                                                                                                                                        else none)))
                                                                                                                                                                                  else none)
                                                                                                                                                                                else none)
                                                                                                                                                                              else none)))
                                                                                                                                                                        else none)
                                                                                                                                                                      else none)))
                                                                                                                                                                else none)
                                                                                                                                                              else none))))
                                                                                                                                                        (fun p89 => (tkIfc p89 none fun t90 x91 => (bif (flatP (.iface t90 x91)) then some (.pan (.iface t90 x91))
                                                                                                                                                            else none))))))))))
                                                                                                                                            else none)
                                                                                                                                          else none)
                                                                                                                                        else none)
                                                                                                                                      else none)))
                                                                                                                                else none)
                                                                                                                              else none))))
                                                                                                                        (fun p75 => (tkIfc p75 none fun t76 x77 => (bif (flatP (.iface t76 x77)) then some (.pan (.iface t76 x77))
                                                                                                                            else none))))))))))
                                                                                                            else none)
                                                                                                          else none)
                                                                                                        else none)
                                                                                                      else none)))
                                                                                                else none)
                                                                                              else none))))
                                                                                        (fun p61 => (tkIfc p61 none fun t62 x63 => (bif (flatP (.iface t62 x63)) then some (.pan (.iface t62 x63))
                                                                                            else none))))))))))
                                                                            else none)
                                                                          else none)
                                                                        else none)
                                                                      else none)))
                                                                else none)
                                                              else none)
                                                            else none)
                                                          else none)))))))))))
                                        (fun p35 => (tkIfc p35 none fun t36 x37 => (bif (flatP (.iface t36 x37)) then some (.pan (.iface t36 x37))
                                            else none))))
                                      else none)
                                    else none)
                                  else none)
                                else none)
                              else none)
                            else none)
                          else none)
                        else none)))))))))
        else none)
      else none)
    else none)
  else (tkOut (env 15 [(.agg (eSite s)), (.row b3 k4 k5 g6), (.int .i64 x), (.int .i64 y)]) none (fun v23 => (tkTup v23 none fun l24 => (tkCons l24 none fun v25 r26 => (tkAgg v25 none fun l27 => (tkCons l27 none fun v28 r29 => (tkInt v28 none fun q30 n31 => (tkCons r29 none fun v32 r33 => (tkInt v32 none fun q34 n35 => (tkNil r33 none ((tkCons r26 none fun v36 r37 => (tkInt v36 none fun q38 n39 => (tkNil r37 none ((bif (decide (q38 = .i64)) then (bif (n39 != (0 : Int)) then some (.ret (.bool false))
                              else (bif (decide (.i64 = q30)) then (bif (decide (i7 < n31)) then some (.ret (.bool false))
                                  else (bif (decide (.i64 = q34)) then (bif (decide (i8 > n35)) then some (.ret (.bool false))
                                      else (L4x3 env F s ds wh x y m0 b3 k4 k5 g6 k0 k1 (IntKind.wrap .i64 (i2 + (1 : Int))) k10 g11 k12 g13))
                                    else none))
                                else none))
                            else none)))))))))))))))
    (fun p23 => (tkIfc p23 none fun t24 x25 => (bif (flatP (.iface t24 x25)) then some (.pan (.iface t24 x25))
        else none))))) := by kernel_rfl
theorem L4x6s (env : Env) (F : Nat) (s : Site) (ds : Sl Day) (wh : Sl Int) (x : Int) (y : Int) (fu : Nat) (b0 : Bool) (k1 : Nat) (k2 : Nat) (g3 : Nat → List V) (k4 : Nat) (i5 : Int) (k6 : Nat) (g7 : Nat → List V) : L4x6 env F s ds wh x y (fu + 1) b0 k1 k2 g3 k4 i5 k6 g7 =
  (bif (decide (i5 < (((Sl.len ds) : Nat) : Int))) then (bif (decide ((0 : Int) ≤ i5)) then (bif (decide (i5 < (((Sl.len ds) : Nat) : Int))) then (tkOut (env 20 [(.agg (eSite s)), (.agg [(sl eSpan 2 (Day.press (Sl.el ds (Int.toNat i5)))), (sl eSpan 2 (Day.warm (Sl.el ds (Int.toNat i5))))])]) none (fun v16 => (tkBool v16 none fun b17 => (bif (!b17) then (tkOut (env 13 []) none (fun v18 => (tkBool v18 none fun b19 => some (.ret (.bool b19))))
              (fun p18 => (tkIfc p18 none fun t19 x20 => (bif (flatP (.iface t19 x20)) then some (.pan (.iface t19 x20))
                  else none))))
            else (bif (decide ((0 : Int) ≤ i5)) then (bif (decide (i5 < (((Sl.len ds) : Nat) : Int))) then (tkOut (env 14 [(.agg (eSite s)), (.row b0 k1 k2 g3), (.agg [(sl eSpan 2 (Day.press (Sl.el ds (Int.toNat i5)))), (sl eSpan 2 (Day.warm (Sl.el ds (Int.toNat i5))))])]) none (fun v18 => (tkTup v18 none fun l19 => (tkCons l19 none fun v20 r21 => (tkRow v20 none fun nl22 n23 wd24 g25 => (tkCons r21 none fun v26 r27 => (tkInt v26 none fun q28 n29 => (tkNil r27 none ((bif (decide (q28 = .i64)) then (bif (n29 != (0 : Int)) then (bif (decide (q28 = .i64)) then (bif (n29 == (7 : Int)) then (tkOut (env 13 []) none (fun v30 => (tkBool v30 none fun b31 => some (.ret (.bool b31))))
                                        (fun p30 => (tkIfc p30 none fun t31 x32 => (bif (flatP (.iface t31 x32)) then some (.pan (.iface t31 x32))
                                            else none))))
                                      else some (.ret (.bool false)))
                                    else none)
                                  else (bif (((n23 : Nat) : Int) != ((k4 : Nat) : Int)) then some (.ret (.bool false))
                                    else (L4x7 env F s ds wh x y fu F k4 i5 nl22 n23 wd24 g25 k6 g7)))
                                else none)))))))))
                  (fun p18 => (tkIfc p18 none fun t19 x20 => (bif (flatP (.iface t19 x20)) then some (.pan (.iface t19 x20))
                      else none))))
                else none)
              else none))))
        (fun p16 => (tkIfc p16 none fun t17 x18 => (bif (flatP (.iface t17 x18)) then some (.pan (.iface t17 x18))
            else none))))
      else none)
    else none)
  else (tkOut (env 13 []) none (fun v16 => (tkBool v16 none fun b17 => some (.ret (.bool b17))))
    (fun p16 => (tkIfc p16 none fun t17 x18 => (bif (flatP (.iface t17 x18)) then some (.pan (.iface t17 x18))
        else none))))) := by kernel_rfl
theorem L4x7s (env : Env) (F : Nat) (s : Site) (ds : Sl Day) (wh : Sl Int) (x : Int) (y : Int) (m0 : Nat) (fu : Nat) (k0 : Nat) (i1 : Int) (b2 : Bool) (k3 : Nat) (k4 : Nat) (g5 : Nat → List V) (k6 : Nat) (g7 : Nat → List V) : L4x7 env F s ds wh x y m0 (fu + 1) k0 i1 b2 k3 k4 g5 k6 g7 =
  (bif (decide ((0 : Int) < ((k0 : Nat) : Int))) then (bif (decide ((0 : Int) < ((k0 : Nat) : Int))) then (bif ((List.length (List.take 3 (g7 0))) == 3) then (tkCons (List.take 3 (g7 0)) none fun v17 r18 => (tkInt v17 none fun q19 n20 => (tkCons r18 none fun v21 r22 => (tkInt v21 none fun q23 n24 => (tkCons r22 none fun v25 r26 => (tkInt v25 none fun q27 n28 => (tkNil r26 none ((bif (decide ((0 : Int) ≤ i1)) then (bif (decide (i1 < (((Sl.len ds) : Nat) : Int))) then (bif (decide ((0 : Int) < (((Sl.len (Day.press (Sl.el ds (Int.toNat i1)))) : Nat) : Int))) then (bif (decide ((0 : Int) ≤ i1)) then (bif (decide (i1 < (((Sl.len ds) : Nat) : Int))) then (bif (decide ((0 : Int) < (((Sl.len (Day.warm (Sl.el ds (Int.toNat i1)))) : Nat) : Int))) then (tkOut (env 27 [(.agg (eSite s)), (.int .i64 (0 : Int)), (.agg [(.int q19 n20), (.int q23 n24), (.int q27 n28)]), (.agg (eSpan (Sl.el (Day.press (Sl.el ds (Int.toNat i1))) 0))), (.agg (eSpan (Sl.el (Day.warm (Sl.el ds (Int.toNat i1))) 0))), (sl eInt 1 wh), (.int .i64 (IntKind.wrap .i64 ((6 : Int) * (IntKind.wrap .i64 ((IntKind.wrap .i64 (((k0 : Nat) : Int) * i1)) + (0 : Int))))))]) none (fun v29 => (tkAgg v29 none fun l30 => (tkCons l30 none fun v31 r32 => (tkInt v31 none fun q33 n34 => (tkCons r32 none fun v35 r36 => (tkInt v35 none fun q37 n38 => (tkCons r36 none fun v39 r40 => (tkInt v39 none fun q41 n42 => (tkNil r40 none ((bif (decide ((0 : Int) < ((k0 : Nat) : Int))) then (bif (decide ((0 : Int) < ((k0 : Nat) : Int))) then (tkCons (updGet g7 0 0 [(.int q33 n34), (.int q37 n38), (.int q41 n42)] 0) none fun v43 r44 => (tkInt v43 none fun q45 n46 => (bif (k4 == 6) then (bif (decide ((0 : Int) < ((k3 : Nat) : Int))) then (bif ((List.length (List.take 2 (g5 0))) == 2) then (tkCons (List.take 2 (g5 0)) none fun v47 r48 => (tkInt v47 none fun q49 n50 => (tkCons r48 none fun v51 r52 => (tkInt v51 none fun q53 n54 => (tkNil r52 none ((tkOut (env 28 [(.int q45 n46), (.agg [(.int q49 n50), (.int q53 n54)])]) none (fun v55 => (tkBool v55 none fun b56 => (bif (!b56) then some (.ret (.bool false))
                                                                                else (bif (decide ((0 : Int) < ((k0 : Nat) : Int))) then (bif (k4 == 6) then (bif (decide ((0 : Int) < ((k3 : Nat) : Int))) then (bif ((List.length (List.take 2 (List.drop 2 (g5 0)))) == 2) then (tkCons (List.take 2 (List.drop 2 (g5 0))) none fun v57 r58 => (tkInt v57 none fun q59 n60 => (tkCons r58 none fun v61 r62 => (tkInt v61 none fun q63 n64 => (tkNil r62 none ((tkOut (env 28 [(.int q37 n38), (.agg [(.int q59 n60), (.int q63 n64)])]) none (fun v65 => (tkBool v65 none fun b66 => (bif (!b66) then some (.ret (.bool false))
                                                                                                        else (bif (decide ((0 : Int) < ((k0 : Nat) : Int))) then (bif (k4 == 6) then (bif (decide ((0 : Int) < ((k3 : Nat) : Int))) then (bif ((List.length (List.take 2 (List.drop 4 (g5 0)))) == 2) then (tkCons (List.take 2 (List.drop 4 (g5 0))) none fun v67 r68 => (tkInt v67 none fun q69 n70 => (tkCons r68 none fun v71 r72 => (tkInt v71 none fun q73 n74 => (tkNil r72 none ((tkOut (env 28 [(.int q41 n42), (.agg [(.int q69 n70), (.int q73 n74)])]) none (fun v75 => (tkBool v75 none fun b76 => (bif (!b76) then some (.ret (.bool false))
                                                                                                                                else (bif (decide ((0 : Int) < ((k0 : Nat) : Int))) then (bif (decide ((0 : Int) < ((k0 : Nat) : Int))) then (bif (decide (q37 = q41)) then none
                                                                                                                                      else none)
                                                                                                                                    else none)
                                                                                                                                  else none))))
                                                                                                                            (fun p75 => (tkIfc p75 none fun t76 x77 => (bif (flatP (.iface t76 x77)) then some (.pan (.iface t76 x77))
                                                                                                                                else none))))))))))
                                                                                                                else none)
                                                                                                              else none)
                                                                                                            else none)
                                                                                                          else none))))
                                                                                                    (fun p65 => (tkIfc p65 none fun t66 x67 => (bif (flatP (.iface t66 x67)) then some (.pan (.iface t66 x67))
                                                                                                        else none))))))))))
                                                                                        else none)
                                                                                      else none)
                                                                                    else none)
                                                                                  else none))))
                                                                            (fun p55 => (tkIfc p55 none fun t56 x57 => (bif (flatP (.iface t56 x57)) then some (.pan (.iface t56 x57))
                                                                                else none))))))))))
                                                                else none)
                                                              else none)
                                                            else none)))
                                                      else none)
                                                    else none)))))))))))
                                  (fun p29 => (tkIfc p29 none fun t30 x31 => (bif (flatP (.iface t30 x31)) then some (.pan (.iface t30 x31))
                                      else none))))
                                else none)
                              else none)
                            else none)
                          else none)
                        else none)
                      else none)))))))))
      else none)
    else none)
  else (tkOut (env 15 [(.agg (eSite s)), (.row b2 k3 k4 g5), (.int .i64 x), (.int .i64 y)]) none (fun v17 => (tkTup v17 none fun l18 => (tkCons l18 none fun v19 r20 => (tkAgg v19 none fun l21 => (tkCons l21 none fun v22 r23 => (tkInt v22 none fun q24 n25 => (tkCons r23 none fun v26 r27 => (tkInt v26 none fun q28 n29 => (tkNil r27 none ((tkCons r20 none fun v30 r31 => (tkInt v30 none fun q32 n33 => (tkNil r31 none ((bif (decide (q32 = .i64)) then (bif (n33 != (0 : Int)) then some (.ret (.bool false))
                              else (bif (decide (.i64 = q24)) then (bif (decide ((0 : Int) < n25)) then some (.ret (.bool false))
                                  else (bif (decide (.i64 = q28)) then (bif (decide ((0 : Int) > n29)) then some (.ret (.bool false))
                                      else (L4x6 env F s ds wh x y m0 b2 k3 k4 g5 k0 (IntKind.wrap .i64 (i1 + (1 : Int))) k6 g7))
                                    else none))
                                else none))
                            else none)))))))))))))))
    (fun p17 => (tkIfc p17 none fun t18 x19 => (bif (flatP (.iface t18 x19)) then some (.pan (.iface t18 x19))
        else none))))) := by kernel_rfl

end Go.Sim.Cr

/-
  CreepTrue: the loops.
-/
namespace Go.Sim.Cr
open Go.Proofs
variable (F d : Nat)
abbrev eTr (T : Nat → Truth) : Nat → List V := fun j => eTruth (T j)
def updT (T : Nat → Truth) (i : Nat) (t : Truth) : Nat → Truth := fun j => if j = i then t else T j
theorem upd_at (T : Nat → Truth) (i : Nat) (a b c : Int) : updGet (fun j => eTruth (T j)) i 0 [.int .i64 a, .int .i64 b, .int .i64 c] i = [.int .i64 a, .int .i64 b, .int .i64 c] := by
  simp [updGet, splice]
theorem upd_enc (T : Nat → Truth) (i : Nat) (t : Truth) : updGet (fun j => eTruth (T j)) i 0 (eTruth t) = fun j => eTruth (updT T i t j) := by
  funext j
  unfold updGet updT
  by_cases h : j = i
  · rw [if_pos h, if_pos h]; rfl
  · rw [if_neg h, if_neg h]
theorem s28r (n a b : Int) : E F (d + 1) 28 [.int .i64 n, .agg [.int .i64 a, .int .i64 b]] = some (.ret (.bool (decide (a ≤ n ∧ n ≤ b)))) := s28 F d n ⟨a, b⟩
/-- What is known of the truth behind so many days. -/
structure Kn (w : Sl Int) (T T0 : Nat → Truth) (l : Sl Stt) (n i : Nat) (t : Nat) : Prop where
  ok : PctOk w
  inn : ∀ j, i ≤ j → j < n → Within (T j) (l.el j)
  rad : ∀ j, i ≤ j → j < n → (T j).rad ≤ 200000 + 1000 * (t : Int)
  sum : ∀ j, i ≤ j → j < n → (T j).vol + (T j).lost = (T0 j).vol
  top : ∀ j, j < n → (T0 j).vol ≤ 10000000
section
variable (s : Site) (ds : Sl Day) (w : Sl Int) (x y : Int)
abbrev n4 (n t i : Nat) : Nat := 6 * (n * t + i)
theorem mulT {lo sh a b : Int} (h1 : 0 ≤ a ∧ a ≤ lo) (h2 : 0 ≤ b ∧ b ≤ sh) : a * b / 1000000 ≤ lo * sh / 1000000 := by
  have : a * b ≤ lo * sh := Int.mul_le_mul h1.2 h2.2 h2.1 (by omega)
  exact Int.ediv_le_ediv (by omega) this
theorem mulT' {lo sh a b : Int} (h1 : 0 ≤ a ∧ a ≤ lo) (h2 : 0 ≤ b ∧ b ≤ sh) : (a * b + 999999) / 1000000 ≤ (lo * sh + 999999) / 1000000 := by
  have : a * b ≤ lo * sh := Int.mul_le_mul h1.2 h2.2 h2.1 (by omega)
  exact Int.ediv_le_ediv (by omega) (by omega)
/-- The caverns of a day, one by one. -/
theorem l4x5 (hs : Small s F) (hS : SiteF s) (hp : Place x y) (hF : 2147483648 < F) (t : Nat) (ht : t < ds.len) (h8 : ds.len ≤ 8) (hD : DayOk s (ds.el t)) (hfd : farDay s (ds.el t) = false) (l m : Sl Stt) (hL : StatesOk s l) (hm : m = moved s l (ds.el t)) (T0 : Nat → Truth) (N : Nat) (hN : N = s.cavs.len) (m0 : Nat)
    (hO : ∀ T, Kn w T T0 m N 0 (t + 1) → L4x3 (E F (d + 11)) F s ds w x y m0 m.nl m.len 6 (fun i => eStt (m.el i)) N N ((t + 1 : Nat) : Int) N (eTr T) N (eTr T0) = some (.ret (.bool true))) :
    ∀ r i fu (T : Nat → Truth) (a b a' b' : Int), N = i + r → r < fu → Kn w T T0 l N i t → (∀ j, j < i → Within (T j) (m.el j) ∧ (T j).rad ≤ 200000 + 1000 * ((t + 1 : Nat) : Int) ∧ (T j).vol + (T j).lost = (T0 j).vol) →
    sunkFrom s m x y r i a b = sunk s m x y → a ≤ a' → b' ≤ b → 0 ≤ a' → a' ≤ 1000000000 * (i : Int) → 0 ≤ b' → b' ≤ 1000000000 * (i : Int) →
    L4x5 (E F (d + 11)) F s ds w x y m0 fu N N (t : Int) m.nl m.len 6 (fun i => eStt (m.el i)) a' b' (i : Int) N (eTr T) N (eTr T0) = some (.ret (.bool true)) := by
  have h5 := hS.cavs5
  have hl := hL.1
  have hpl := hD.1.1
  have hwl := hD.2.1
  have hM : StatesOk s m := hm ▸ moved_ok hS hL hD hfd
  have hml := hM.1
  intro r
  induction r with
  | zero =>
    intro i fu T a b a' b' h hf hK hD1 hsk ha hb ha0 ha1 hb0 hb1
    obtain ⟨fu, rfl⟩ : ∃ k, fu = k + 1 := ⟨fu - 1, by omega⟩
    rw [L4x5s]
    have e15 := s15 F (d + 4) s m x y hs (show m.len < 4611686018427387904 by omega) (by omega) (by omega)
    rw [(siteB_iff s).2 hS, decide_eq_true hM, decide_eq_true hp] at e15
    have hsk' : sunk s m x y = ⟨a, b⟩ := hsk.symm
    have g1 : decide (a' < (sunk s m x y).lo) = false := decide_eq_false (by rw [hsk']; simp only; omega)
    have g2 : decide (b' > (sunk s m x y).hi) = false := decide_eq_false (by rw [hsk']; simp only; omega)
    simp only [Int.ofNat_lt, show ¬ i < N by omega, decide_false, pF, e15, Bool.and_self, pT, pOut, pTup, pCons, pAgg, pInt, pNil, decide_true, bne, z00, Bool.not_true, g1, g2, wrS (show t < 4611686018427387904 by omega)]
    exact hO T ⟨hK.ok, fun j _ hj => (hD1 j (by omega)).1, fun j _ hj => (hD1 j (by omega)).2.1, fun j _ hj => (hD1 j (by omega)).2.2, hK.top⟩
  | succ r ih =>
    intro i fu T a b a' b' h hf hK hD1 hsk ha hb ha0 ha1 hb0 hb1
    obtain ⟨fu, rfl⟩ : ∃ k, fu = k + 1 := ⟨fu - 1, by omega⟩
    have hi : i < N := by omega
    have hic : i < s.cavs.len := by omega
    have hx := hL.2 i (by omega)
    have q1 := hD.1.2 i (by omega)
    have q2 := hD.2.2 i (by omega)
    have hw := hK.ok
    have kin := hK.inn i (Nat.le_refl _) hi
    have krad := hK.rad i (Nat.le_refl _) hi
    have ksum := hK.sum i (Nat.le_refl _) hi
    have ktop := hK.top i hi
    obtain ⟨kin1, kin2, kin3⟩ := kin
    have nf : farB s (s.cavs.el i) ((ds.el t).press.el i) ((ds.el t).warm.el i) = false := by
      cases e : farB s (s.cavs.el i) ((ds.el t).press.el i) ((ds.el t).warm.el i) with
      | false => rfl
      | true =>
        have : farDay s (ds.el t) = true := (anyF_eq _ _ _).2 ⟨i, Nat.zero_le _, by omega, e⟩
        rw [hfd] at this; cases this
    have hNt : N * t ≤ 40 := Nat.le_trans (Nat.mul_le_mul (show N ≤ 5 by omega) (show t ≤ 8 by omega)) (by omega)
    have e27 := s27 F (d + 8) i (T i) (n4 N t i) hS hic nf q1 q2 hw (by omega) (by omega) (by omega) (show 6 * (N * t + i) ≤ 1000000 by omega) (by omega)
    have hgi := grown_in hS nf q1.2.1 q2.2.1 hw (n4 N t i) hx ⟨kin1, kin2, kin3⟩ (by omega) (by omega)
    have hlo := lostT_ok hS nf q1.2.1 q2.2.1 hw (n4 N t i) (v := (T i).vol) (by omega)
    obtain ⟨_, _, _, _, f1, f2⟩ := rateT_ok hS nf q1.2.1 q2.2.1 hw (n4 N t i)
    have hme : m.el i = move1 s (s.cavs.el i) (l.el i) ((ds.el t).press.el i) ((ds.el t).warm.el i) := by rw [hm]; exact outL_el (show i < l.len by omega)
    rw [← hme] at hgi
    have hv := hM.2 i (by omega)
    generalize hg : grownT s (s.cavs.el i) (T i) ((ds.el t).press.el i) ((ds.el t).warm.el i) w (n4 N t i) = g at e27 hgi
    have gr : g.rad = (T i).rad + fallT s (s.cavs.el i) ((ds.el t).press.el i) w (n4 N t i) := by rw [← hg]; rfl
    have gv : g.vol = (T i).vol - lostT s (s.cavs.el i) (T i).vol ((ds.el t).press.el i) ((ds.el t).warm.el i) w (n4 N t i) := by rw [← hg]; rfl
    have gl' : g.lost = (T i).lost + lostT s (s.cavs.el i) (T i).vol ((ds.el t).press.el i) ((ds.el t).warm.el i) w (n4 N t i) := by rw [← hg]; rfl
    obtain ⟨gi1, gi2, gi3⟩ := hgi
    have w1 : IntKind.i64.wrap ((N : Int) * (t : Int)) = ((N * t : Nat) : Int) := by rw [wr (by have : ((N * t : Nat) : Int) = (N : Int) * (t : Int) := by push_cast; rfl
                                                                                                omega)]; push_cast; rfl
    have w2 : IntKind.i64.wrap (((N * t : Nat) : Int) + (i : Int)) = ((N * t + i : Nat) : Int) := by rw [wr (by omega)]; omega
    have w3 : IntKind.i64.wrap ((6 : Int) * ((N * t + i : Nat) : Int)) = ((n4 N t i : Nat) : Int) := by rw [wr (by omega)]; show _ = ((6 * (N * t + i) : Nat) : Int); omega
    have hsum : ((g.vol + g.lost) != (T0 i).vol) = false := by simp; omega
    have hpl' := (hS.cav i hic).1
    have e29 := s29 F (d + 10) s i x y hS.away hic hpl' hp (by have := hS.rings8; show s.rings.len < 4611686018427387904; omega) (by have := hS.rings8; omega)
    have e26 := s26 F (d + 10) w t hw.2.1
    have hct := chs_ok hw t
    rw [L4x5s]
    have step : ∀ a2 b2 a2' b2', sunkFrom s m x y r (i + 1) a2 b2 = sunk s m x y → a2 ≤ a2' → b2' ≤ b2 → 0 ≤ a2' → a2' ≤ 1000000000 * ((i + 1 : Nat) : Int) → 0 ≤ b2' → b2' ≤ 1000000000 * ((i + 1 : Nat) : Int) →
        L4x5 (E F (d + 11)) F s ds w x y m0 fu N N (t : Int) m.nl m.len 6 (fun i => eStt (m.el i)) a2' b2' ((i + 1 : Nat) : Int) N (updGet (eTr T) i 0 [.int .i64 g.rad, .int .i64 g.vol, .int .i64 g.lost]) N (eTr T0) = some (.ret (.bool true)) := by
      intro a2 b2 a2' b2' h1 h2 h3 h4 h5 h6 h7
      rw [show updGet (eTr T) i 0 [.int .i64 g.rad, .int .i64 g.vol, .int .i64 g.lost] = eTr (updT T i g) from upd_enc T i g]
      refine ih (i + 1) fu (updT T i g) a2 b2 a2' b2' (by omega) (by omega) ⟨hw, fun j h1 h2 => ?_, fun j h1 h2 => ?_, fun j h1 h2 => ?_, hK.top⟩ (fun j hj => ?_) h1 h2 h3 h4 h5 h6 h7
      · rw [show updT T i g j = T j from if_neg (by omega)]; exact hK.inn j (by omega) h2
      · rw [show updT T i g j = T j from if_neg (by omega)]; exact hK.rad j (by omega) h2
      · rw [show updT T i g j = T j from if_neg (by omega)]; exact hK.sum j (by omega) h2
      · by_cases hj' : j = i
        · rw [show updT T i g j = g from if_pos hj', hj']
          exact ⟨⟨gi1, gi2, gi3⟩, by omega, by omega⟩
        · rw [show updT T i g j = T j from if_neg hj']
          exact hD1 j (by omega)
    have hsk2 : sunkFrom s m x y r (i + 1) (a + (m.el i).lost.lo * (shareOf s (s.cavs.el i) x y).lo / 1000000) (b + ((m.el i).lost.hi * (shareOf s (s.cavs.el i) x y).hi + 999999) / 1000000) = sunk s m x y := hsk
    have hq := shareOf_ok hS (s.cavs.el i) x y
    simp only [Int.ofNat_lt, hi, show i < N from hi, decide_true, pT, Int.natCast_nonneg, Int.toNat_natCast, List.take, List.drop, List.length, beq_self_eq_true, pCons, pInt, pNil, show t < ds.len from ht, show i < (ds.el t).press.len by omega, show i < (ds.el t).warm.len by omega,
      w1, w2, w3, e27, pOut, pAgg, upd_at, show i < m.len by omega, s28r F (d + 10), decide_eq_true gi1, decide_eq_true gi2, decide_eq_true gi3, Bool.not_true, pF, wr (show _ ∧ g.vol + g.lost ≤ _ by omega), hsum, decide_eq_false (show ¬ g.vol < 0 by omega), e29]
    cases hr : ringOf s (s.cavs.el i) x y with
    | none =>
      have hz : shareOf s (s.cavs.el i) x y = zSpan := by show (ringOf s (s.cavs.el i) x y).getD zSpan = _; rw [hr]; rfl
      rw [hz] at hsk2
      simp only [Bool.not_true, pOut, pTup, pCons, pAgg, pInt, pNil, pBool, pF, wrS (show i < 4611686018427387904 by omega)]
      exact step _ _ a' b' hsk2 (by simp; omega) (by simp; omega) ha0 (by omega) hb0 (by omega)
    | some sh =>
      have hz : shareOf s (s.cavs.el i) x y = sh := by show (ringOf s (s.cavs.el i) x y).getD zSpan = _; rw [hr]; rfl
      rw [hz] at hsk2 hq
      have e25 := s25r F (d + 10) sh.lo sh.hi (chs w t) (by omega) hct
      have hps := partS_ok hq.2.1 hct
      have hgl : 0 ≤ g.lost ∧ g.lost ≤ 1000000000 := by omega
      have hpp : 0 ≤ partS sh (chs w t) ∧ partS sh (chs w t) ≤ 1000000 := by omega
      simp only [Bool.not_true, pF, pOut, pTup, pCons, pAgg, pInt, pNil, pBool, pT, e26, e25, decide_true, lowW hgl hpp (show 0 ≤ a' ∧ a' ≤ 1000000000000 by omega), highW hgl hpp (show 0 ≤ b' ∧ b' ≤ 1000000000000 by omega), wrS (show i < 4611686018427387904 by omega)]
      have hd0 := div_ok hgl hpp (show (0 : Int) ≤ 0 ∧ (0 : Int) ≤ 999999 by omega)
      have hd9 := div_ok hgl hpp (show (0 : Int) ≤ 999999 ∧ (999999 : Int) ≤ 999999 by omega)
      rw [Int.add_zero] at hd0
      have u1 := mulT (lo := g.lost) (sh := partS sh (chs w t)) (a := (m.el i).lost.lo) (b := sh.lo) (by omega) (by omega)
      have u2 := mulT' (lo := (m.el i).lost.hi) (sh := sh.hi) (a := g.lost) (b := partS sh (chs w t)) (by omega) (by omega)
      exact step _ _ _ _ hsk2 (by omega) (by omega) (by omega) (by omega) (by omega) (by omega)
/-- Day by day. -/
theorem l4x3 (hs : Small s F) (hS : SiteF s) (hp : Place x y) (hF : 2147483648 < F) (h8 : ds.len ≤ 8) (hFw : ∀ k, k < ds.len → (ds.el k).press.len ≤ 10 ∧ (ds.el k).warm.len ≤ 10) (T0 : Nat → Truth) : ∀ r t fu (l : Sl Stt) (T : Nat → Truth), ds.len = t + r → r < fu → StatesOk s l → Kn w T T0 l s.cavs.len 0 t →
    L4x3 (E F (d + 11)) F s ds w x y fu l.nl l.len 6 (fun i => eStt (l.el i)) s.cavs.len s.cavs.len (t : Int) s.cavs.len (eTr T) s.cavs.len (eTr T0) = some (.ret (.bool true)) := by
  have k := s13 F d (by omega)
  have h5 := hS.cavs5
  intro r
  induction r with
  | zero =>
    intro t fu l T h hf hL hK
    obtain ⟨fu, rfl⟩ : ∃ k, fu = k + 1 := ⟨fu - 1, by omega⟩
    rw [L4x3s]
    simp only [Int.ofNat_lt, show ¬ t < ds.len by omega, decide_false, pF, k, pOut, pBool]
  | succ r ih =>
    intro t fu l T h hf hL hK
    obtain ⟨fu, rfl⟩ : ∃ k, fu = k + 1 := ⟨fu - 1, by omega⟩
    have ht : t < ds.len := by omega
    have hl := hL.1
    have e20 := s20 F (d + 9) s (ds.el t) hs.cavs hs.cavsF
    obtain ⟨g1, g2⟩ := hFw t ht
    have e14 := s14 F (d + 3) s l (ds.el t) hs (show l.len < 4611686018427387904 by omega) (by omega) (show (ds.el t).press.len < 4611686018427387904 by omega) (show (ds.el t).warm.len < 4611686018427387904 by omega) (by omega) (by omega) (by omega)
    rw [(siteB_iff s).2 hS, decide_eq_true hL] at e14
    rw [L4x3s]
    simp only [Int.ofNat_lt, ht, decide_true, pT, Int.natCast_nonneg, Int.toNat_natCast, e20, pOut, pBool]
    by_cases hD : DayOk s (ds.el t)
    · rw [decide_eq_true hD] at e14
      simp only [decide_eq_true hD, Bool.not_true, pF]
      cases h9 : farDay s (ds.el t) with
      | true =>
        rw [h9] at e14
        have z70 : ((7 : Int) == 0) = false := rfl
        have e14' : E F (d + 11) 14 [.agg (eSite s), .row l.nl l.len 6 (fun i => eStt (l.el i)), .agg [sl eSpan 2 (ds.el t).press, sl eSpan 2 (ds.el t).warm]] = some (.ret (.tup [noneRow, .int .i64 7])) := e14
        simp only [e14', pOut, pTup, pCons, pRow, pInt, pNil, decide_true, bne, z70, z77, Bool.not_false, k, pBool, pT]
      | false =>
        rw [h9] at e14
        have e14' : E F (d + 11) 14 [.agg (eSite s), .row l.nl l.len 6 (fun i => eStt (l.el i)), .agg [sl eSpan 2 (ds.el t).press, sl eSpan 2 (ds.el t).warm]] = some (.ret (.tup [sl eStt 6 (moved s l (ds.el t)), .int .i64 0])) := e14
        have hml : (((moved s l (ds.el t)).len : Int) == (s.cavs.len : Int)) = true := by show ((l.len : Int) == (s.cavs.len : Int)) = true; rw [hl]; simp
        simp only [e14', pOut, pTup, pCons, pRow, pInt, pNil, decide_true, bne, z00, hml, Bool.not_true, pF, pT]
        exact l4x5 F d s ds w x y hs hS hp hF t ht h8 hD h9 l (moved s l (ds.el t)) hL rfl T0 s.cavs.len rfl fu
          (fun T' hK' => ih (t + 1) fu _ T' (by omega) (by omega) (moved_ok hS hL hD h9) hK') s.cavs.len 0 F T 0 0 0 0 (by omega) (by omega) hK (fun j hj => absurd hj (by omega)) (by unfold sunk; rw [show (moved s l (ds.el t)).len = s.cavs.len from hl]) (by omega) (by omega) (by omega) (by omega) (by omega) (by omega)
    · simp only [decide_eq_false hD, Bool.not_false, pT, k, pOut, pBool]
end
end Go.Sim.Cr

/-
  What the evaluator says of these functions (printed by a private program; each row is checked by the kernel).
-/
set_option maxRecDepth 100000
namespace Go.Sim.Cr
open Go.Proofs

noncomputable def L68x0 (env : Env) (F : Nat) (s : Site) (n : Int) (ds : Sl Day) (l : Sl Stt) (b : Bool) (fu : Nat) (i0 : Int) : Option Out := atLoop Try.prog (cfg F) env 68 [.r, .r, .l, .r, .d] [] fu { tm := tmL 186 0 [(2, (.bool b)), (3, (.optr 0 0 0)), (4, (.optr 1 0 0)), (6, (.optr 2 0 0)), (8, (.optr 3 0 0)), (9, (.int .i64 i0))], hp := [(.box 28 (eSite s) true), (.box 127 [(.int .i64 n), (sl eDay 2 ds), (sl eStt 6 l)] true), (.box 71 [(.int .i64 (0 : Int)), (.int .i64 (0 : Int)), (.int .i64 (0 : Int)), (.int .i64 (0 : Int))] true), (.box 32 [(sl eSpan 2 (Day.press (Sl.el ds (Int.toNat n)))), (sl eSpan 2 (Day.warm (Sl.el ds (Int.toNat n))))] true)] }
noncomputable def L68x1 (env : Env) (F : Nat) (s : Site) (n : Int) (ds : Sl Day) (l : Sl Stt) (b : Bool) (fu : Nat) (i0 : Int) : Option Out := atLoop Try.prog (cfg F) env 68 [.r, .r, .r, .l, .r, .d] [] fu { tm := tmL 186 0 [(2, (.bool b)), (3, (.optr 0 0 0)), (4, (.optr 1 0 0)), (6, (.optr 2 0 0)), (8, (.optr 3 0 0)), (10, (.int .i64 i0))], hp := [(.box 28 (eSite s) true), (.box 127 [(.int .i64 n), (sl eDay 2 ds), (sl eStt 6 l)] true), (.box 71 [(.int .i64 (0 : Int)), (.int .i64 (0 : Int)), (.int .i64 (0 : Int)), (.int .i64 (0 : Int))] true), (.box 32 [(sl eSpan 2 (Day.press (Sl.el ds (Int.toNat n)))), (sl eSpan 2 (Day.warm (Sl.el ds (Int.toNat n))))] true)] }
noncomputable def L68x2 (env : Env) (F : Nat) (s : Site) (n : Int) (ds : Sl Day) (l : Sl Stt) (b : Bool) (fu : Nat) (i0 : Int) : Option Out := atLoop Try.prog (cfg F) env 68 [.r, .r, .r, .r, .l, .r, .d] [] fu { tm := tmL 186 0 [(2, (.bool b)), (3, (.optr 0 0 0)), (4, (.optr 1 0 0)), (6, (.optr 2 0 0)), (8, (.optr 3 0 0)), (13, (.int .i64 i0))], hp := [(.box 28 (eSite s) true), (.box 127 [(.int .i64 n), (sl eDay 2 ds), (sl eStt 6 l)] true), (.box 71 [(.int .i64 (0 : Int)), (.int .i64 (0 : Int)), (.int .i64 (0 : Int)), (.int .i64 (0 : Int))] true), (.box 32 [(sl eSpan 2 (Day.press (Sl.el ds (Int.toNat n)))), (sl eSpan 2 (Day.warm (Sl.el ds (Int.toNat n))))] true)] }
theorem t68 (env : Env) (F : Nat) (s : Site) (n : Int) (ds : Sl Day) (l : Sl Stt) (b : Bool) : (evFun Try.prog (cfg F) env 68 [(.agg (eSite s)), (.agg [(.int .i64 n), (sl eDay 2 ds), (sl eStt 6 l)]), (.bool b)]) =
  (bif (decide ((0 : Int) ≤ n)) then (bif (decide (n < (((Sl.len ds) : Nat) : Int))) then (L68x0 env F s n ds l b F (0 : Int))
    else none)
  else none) := by kernel_rfl
theorem L68x0s (env : Env) (F : Nat) (s : Site) (n : Int) (ds : Sl Day) (l : Sl Stt) (b : Bool) (fu : Nat) (i0 : Int) : L68x0 env F s n ds l b (fu + 1) i0 =
  (bif (decide (i0 < (((Sl.len (Site.cavs s)) : Nat) : Int))) then (bif (!b) then (bif (decide ((0 : Int) ≤ i0)) then (bif (decide (i0 < (((Sl.len (Day.press (Sl.el ds (Int.toNat n)))) : Nat) : Int))) then (bif (decide ((0 : Int) ≤ i0)) then (bif (decide (i0 < (((Sl.len (Day.warm (Sl.el ds (Int.toNat n)))) : Nat) : Int))) then (tkOut (env 32 [(.agg (eSite s)), (.int .i64 i0), (.agg (eSpan (Sl.el (Day.press (Sl.el ds (Int.toNat n))) (Int.toNat i0)))), (.agg (eSpan (Sl.el (Day.warm (Sl.el ds (Int.toNat n))) (Int.toNat i0))))]) none (fun v9 => (tkBool v9 none fun b10 => (bif b10 then some (.ret (.tup [(.agg [(.int .i64 n), (.int .i64 (2 : Int)), (.int .i64 i0), (.int .i64 (0 : Int))]), (.bool true)]))
                  else (L68x0 env F s n ds l b fu (IntKind.wrap .i64 (i0 + (1 : Int)))))))
              (fun p9 => (tkIfc p9 none fun t10 x11 => (bif (flatP (.iface t10 x11)) then some (.pan (.iface t10 x11))
                  else none))))
            else none)
          else none)
        else none)
      else none)
    else (L68x1 env F s n ds l b F (0 : Int)))
  else (L68x1 env F s n ds l b F (0 : Int))) := by kernel_rfl
theorem L68x1s (env : Env) (F : Nat) (s : Site) (n : Int) (ds : Sl Day) (l : Sl Stt) (b : Bool) (fu : Nat) (i0 : Int) : L68x1 env F s n ds l b (fu + 1) i0 =
  (bif (decide (i0 < (((Sl.len (Site.cavs s)) : Nat) : Int))) then (bif (decide ((0 : Int) ≤ i0)) then (bif (decide (i0 < (((Sl.len (Day.press (Sl.el ds (Int.toNat n)))) : Nat) : Int))) then (bif (decide ((0 : Int) ≤ i0)) then (bif (decide (i0 < (((Sl.len (Site.cavs s)) : Nat) : Int))) then (bif (!b) then (bif (decide ((Span.lo (Sl.el (Day.press (Sl.el ds (Int.toNat n))) (Int.toNat i0))) < (Span.lo (Cav.gate (Sl.el (Site.cavs s) (Int.toNat i0)))))) then some (.ret (.tup [(.agg [(.int .i64 n), (.int .i64 (3 : Int)), (.int .i64 i0), (.int .i64 (0 : Int))]), (.bool true)]))
              else (bif (decide ((Span.hi (Sl.el (Day.press (Sl.el ds (Int.toNat n))) (Int.toNat i0))) > (Span.hi (Cav.gate (Sl.el (Site.cavs s) (Int.toNat i0)))))) then some (.ret (.tup [(.agg [(.int .i64 n), (.int .i64 (3 : Int)), (.int .i64 i0), (.int .i64 (0 : Int))]), (.bool true)]))
                else (bif b then (bif (decide ((Span.hi (Sl.el (Day.press (Sl.el ds (Int.toNat n))) (Int.toNat i0))) < (Span.lo (Cav.gate (Sl.el (Site.cavs s) (Int.toNat i0)))))) then some (.ret (.tup [(.agg [(.int .i64 n), (.int .i64 (3 : Int)), (.int .i64 i0), (.int .i64 (0 : Int))]), (.bool true)]))
                    else (bif (decide ((Span.lo (Sl.el (Day.press (Sl.el ds (Int.toNat n))) (Int.toNat i0))) > (Span.hi (Cav.gate (Sl.el (Site.cavs s) (Int.toNat i0)))))) then some (.ret (.tup [(.agg [(.int .i64 n), (.int .i64 (3 : Int)), (.int .i64 i0), (.int .i64 (0 : Int))]), (.bool true)]))
                      else (L68x1 env F s n ds l b fu (IntKind.wrap .i64 (i0 + (1 : Int))))))
                  else (L68x1 env F s n ds l b fu (IntKind.wrap .i64 (i0 + (1 : Int)))))))
            else (bif b then (bif (decide ((Span.hi (Sl.el (Day.press (Sl.el ds (Int.toNat n))) (Int.toNat i0))) < (Span.lo (Cav.gate (Sl.el (Site.cavs s) (Int.toNat i0)))))) then some (.ret (.tup [(.agg [(.int .i64 n), (.int .i64 (3 : Int)), (.int .i64 i0), (.int .i64 (0 : Int))]), (.bool true)]))
                else (bif (decide ((Span.lo (Sl.el (Day.press (Sl.el ds (Int.toNat n))) (Int.toNat i0))) > (Span.hi (Cav.gate (Sl.el (Site.cavs s) (Int.toNat i0)))))) then some (.ret (.tup [(.agg [(.int .i64 n), (.int .i64 (3 : Int)), (.int .i64 i0), (.int .i64 (0 : Int))]), (.bool true)]))
                  else (L68x1 env F s n ds l b fu (IntKind.wrap .i64 (i0 + (1 : Int))))))
              else (L68x1 env F s n ds l b fu (IntKind.wrap .i64 (i0 + (1 : Int))))))
          else none)
        else none)
      else none)
    else none)
  else (L68x2 env F s n ds l b F (0 : Int))) := by kernel_rfl
theorem L68x2s (env : Env) (F : Nat) (s : Site) (n : Int) (ds : Sl Day) (l : Sl Stt) (b : Bool) (fu : Nat) (i0 : Int) : L68x2 env F s n ds l b (fu + 1) i0 =
  (bif (decide (i0 < (((Sl.len (Site.cavs s)) : Nat) : Int))) then (bif (decide (n > (0 : Int))) then (bif (decide ((0 : Int) ≤ i0)) then (bif (decide (i0 < (((Sl.len (Day.press (Sl.el ds (Int.toNat n)))) : Nat) : Int))) then (bif (decide ((0 : Int) ≤ (IntKind.wrap .i64 (n - (1 : Int))))) then (bif (decide ((IntKind.wrap .i64 (n - (1 : Int))) < (((Sl.len ds) : Nat) : Int))) then (bif (decide ((0 : Int) ≤ i0)) then (bif (decide (i0 < (((Sl.len (Day.press (Sl.el ds (Int.toNat (IntKind.wrap .i64 (n - (1 : Int))))))) : Nat) : Int))) then (bif (decide ((0 : Int) ≤ i0)) then (bif (decide (i0 < (((Sl.len (Site.cavs s)) : Nat) : Int))) then (bif (!b) then (bif (decide ((IntKind.wrap .i64 ((Span.hi (Sl.el (Day.press (Sl.el ds (Int.toNat n))) (Int.toNat i0))) - (Span.lo (Sl.el (Day.press (Sl.el ds (Int.toNat (IntKind.wrap .i64 (n - (1 : Int)))))) (Int.toNat i0))))) > (Cav.change (Sl.el (Site.cavs s) (Int.toNat i0))))) then some (.ret (.tup [(.agg [(.int .i64 n), (.int .i64 (4 : Int)), (.int .i64 i0), (.int .i64 (0 : Int))]), (.bool true)]))
                        else (bif (decide ((IntKind.wrap .i64 ((Span.hi (Sl.el (Day.press (Sl.el ds (Int.toNat (IntKind.wrap .i64 (n - (1 : Int)))))) (Int.toNat i0))) - (Span.lo (Sl.el (Day.press (Sl.el ds (Int.toNat n))) (Int.toNat i0))))) > (Cav.change (Sl.el (Site.cavs s) (Int.toNat i0))))) then some (.ret (.tup [(.agg [(.int .i64 n), (.int .i64 (4 : Int)), (.int .i64 i0), (.int .i64 (0 : Int))]), (.bool true)]))
                          else (bif b then (bif (decide ((IntKind.wrap .i64 ((Span.lo (Sl.el (Day.press (Sl.el ds (Int.toNat n))) (Int.toNat i0))) - (Span.hi (Sl.el (Day.press (Sl.el ds (Int.toNat (IntKind.wrap .i64 (n - (1 : Int)))))) (Int.toNat i0))))) > (Cav.change (Sl.el (Site.cavs s) (Int.toNat i0))))) then some (.ret (.tup [(.agg [(.int .i64 n), (.int .i64 (4 : Int)), (.int .i64 i0), (.int .i64 (0 : Int))]), (.bool true)]))
                              else (bif (decide ((IntKind.wrap .i64 ((Span.lo (Sl.el (Day.press (Sl.el ds (Int.toNat (IntKind.wrap .i64 (n - (1 : Int)))))) (Int.toNat i0))) - (Span.hi (Sl.el (Day.press (Sl.el ds (Int.toNat n))) (Int.toNat i0))))) > (Cav.change (Sl.el (Site.cavs s) (Int.toNat i0))))) then some (.ret (.tup [(.agg [(.int .i64 n), (.int .i64 (4 : Int)), (.int .i64 i0), (.int .i64 (0 : Int))]), (.bool true)]))
                                else (L68x2 env F s n ds l b fu (IntKind.wrap .i64 (i0 + (1 : Int))))))
                            else (L68x2 env F s n ds l b fu (IntKind.wrap .i64 (i0 + (1 : Int)))))))
                      else (bif b then (bif (decide ((IntKind.wrap .i64 ((Span.lo (Sl.el (Day.press (Sl.el ds (Int.toNat n))) (Int.toNat i0))) - (Span.hi (Sl.el (Day.press (Sl.el ds (Int.toNat (IntKind.wrap .i64 (n - (1 : Int)))))) (Int.toNat i0))))) > (Cav.change (Sl.el (Site.cavs s) (Int.toNat i0))))) then some (.ret (.tup [(.agg [(.int .i64 n), (.int .i64 (4 : Int)), (.int .i64 i0), (.int .i64 (0 : Int))]), (.bool true)]))
                          else (bif (decide ((IntKind.wrap .i64 ((Span.lo (Sl.el (Day.press (Sl.el ds (Int.toNat (IntKind.wrap .i64 (n - (1 : Int)))))) (Int.toNat i0))) - (Span.hi (Sl.el (Day.press (Sl.el ds (Int.toNat n))) (Int.toNat i0))))) > (Cav.change (Sl.el (Site.cavs s) (Int.toNat i0))))) then some (.ret (.tup [(.agg [(.int .i64 n), (.int .i64 (4 : Int)), (.int .i64 i0), (.int .i64 (0 : Int))]), (.bool true)]))
                            else (L68x2 env F s n ds l b fu (IntKind.wrap .i64 (i0 + (1 : Int))))))
                        else (L68x2 env F s n ds l b fu (IntKind.wrap .i64 (i0 + (1 : Int))))))
                    else none)
                  else none)
                else none)
              else none)
            else none)
          else none)
        else none)
      else none)
    else some (.ret (.tup [(.agg [(.int .i64 (0 : Int)), (.int .i64 (0 : Int)), (.int .i64 (0 : Int)), (.int .i64 (0 : Int))]), (.bool false)])))
  else some (.ret (.tup [(.agg [(.int .i64 (0 : Int)), (.int .i64 (0 : Int)), (.int .i64 (0 : Int)), (.int .i64 (0 : Int))]), (.bool false)]))) := by kernel_rfl

noncomputable def L69x0 (env : Env) (F : Nat) (s : Site) (n : Int) (ds : Sl Day) (l : Sl Stt) (b : Bool) (fu : Nat) (i0 : Int) : Option Out := atLoop Try.prog (cfg F) env 69 [.r, .l, .r, .d] [] fu { tm := tmL 112 0 [(2, (.bool b)), (3, (.optr 0 0 0)), (4, (.optr 1 0 0)), (6, (.optr 2 0 0)), (8, (.int .i64 i0))], hp := [(.box 28 (eSite s) true), (.box 127 [(.int .i64 n), (sl eDay 2 ds), (sl eStt 6 l)] true), (.box 71 [(.int .i64 (0 : Int)), (.int .i64 (0 : Int)), (.int .i64 (0 : Int)), (.int .i64 (0 : Int))] true)] }
noncomputable def L69x1 (env : Env) (F : Nat) (s : Site) (n : Int) (ds : Sl Day) (l : Sl Stt) (b : Bool) (fu : Nat) (i0 : Int) : Option Out := atLoop Try.prog (cfg F) env 69 [.r, .r, .l, .r, .d] [] fu { tm := tmL 112 0 [(2, (.bool b)), (3, (.optr 0 0 0)), (4, (.optr 1 0 0)), (6, (.optr 2 0 0)), (9, (.int .i64 i0))], hp := [(.box 28 (eSite s) true), (.box 127 [(.int .i64 n), (sl eDay 2 ds), (sl eStt 6 l)] true), (.box 71 [(.int .i64 (0 : Int)), (.int .i64 (0 : Int)), (.int .i64 (0 : Int)), (.int .i64 (0 : Int))] true)] }
noncomputable def L69x2 (env : Env) (F : Nat) (s : Site) (n : Int) (ds : Sl Day) (l : Sl Stt) (b : Bool) (m0 : Nat) (fu : Nat) (i0 : Int) (i1 : Int) : Option Out := atLoop Try.prog (cfg F) env 69 [.r, .r, .l, .r, .d, .d, .r, .l, .d, .r, .d] [m0] fu { tm := tmL 112 0 [(2, (.bool b)), (3, (.optr 0 0 0)), (4, (.optr 1 0 0)), (6, (.optr 2 0 0)), (9, (.int .i64 i0)), (10, (.int .i64 i1))], hp := [(.box 28 (eSite s) true), (.box 127 [(.int .i64 n), (sl eDay 2 ds), (sl eStt 6 l)] true), (.box 71 [(.int .i64 (0 : Int)), (.int .i64 (0 : Int)), (.int .i64 (0 : Int)), (.int .i64 (0 : Int))] true)] }
noncomputable def L69x3 (env : Env) (F : Nat) (s : Site) (n : Int) (ds : Sl Day) (l : Sl Stt) (b : Bool) (fu : Nat) (i0 : Int) : Option Out := atLoop Try.prog (cfg F) env 69 [.r, .r, .r, .l, .r, .d] [] fu { tm := tmL 112 0 [(2, (.bool b)), (3, (.optr 0 0 0)), (4, (.optr 1 0 0)), (6, (.optr 2 0 0)), (11, (.int .i64 i0))], hp := [(.box 28 (eSite s) true), (.box 127 [(.int .i64 n), (sl eDay 2 ds), (sl eStt 6 l)] true), (.box 71 [(.int .i64 (0 : Int)), (.int .i64 (0 : Int)), (.int .i64 (0 : Int)), (.int .i64 (0 : Int))] true)] }
theorem t69 (env : Env) (F : Nat) (s : Site) (n : Int) (ds : Sl Day) (l : Sl Stt) (b : Bool) : (evFun Try.prog (cfg F) env 69 [(.agg (eSite s)), (.agg [(.int .i64 n), (sl eDay 2 ds), (sl eStt 6 l)]), (.bool b)]) =
  (L69x0 env F s n ds l b F (0 : Int)) := by kernel_rfl
theorem L69x0s (env : Env) (F : Nat) (s : Site) (n : Int) (ds : Sl Day) (l : Sl Stt) (b : Bool) (fu : Nat) (i0 : Int) : L69x0 env F s n ds l b (fu + 1) i0 =
  (bif (decide (i0 < (((Sl.len l) : Nat) : Int))) then (bif (decide ((0 : Int) ≤ i0)) then (bif (decide (i0 < (((Sl.len l) : Nat) : Int))) then (tkOut (env 103 [(.agg (eSpan (Stt.vol (Sl.el l (Int.toNat i0))))), (.bool b)]) none (fun v9 => (tkInt v9 none fun q10 n11 => (bif (decide ((0 : Int) ≤ i0)) then (bif (decide (i0 < (((Sl.len (Site.cavs s)) : Nat) : Int))) then (bif (decide (q10 = .i64)) then (bif (decide (n11 < (Cav.floor (Sl.el (Site.cavs s) (Int.toNat i0))))) then some (.ret (.tup [(.agg [(.int .i64 n), (.int .i64 (5 : Int)), (.int .i64 i0), (.int .i64 (0 : Int))]), (.bool true)]))
                  else (L69x0 env F s n ds l b fu (IntKind.wrap .i64 (i0 + (1 : Int)))))
                else none)
              else none)
            else none)))
        (fun p9 => (tkIfc p9 none fun t10 x11 => (bif (flatP (.iface t10 x11)) then none
            else none))))
      else none)
    else none)
  else (L69x1 env F s n ds l b F (0 : Int))) := by kernel_rfl
theorem L69x1s (env : Env) (F : Nat) (s : Site) (n : Int) (ds : Sl Day) (l : Sl Stt) (b : Bool) (fu : Nat) (i0 : Int) : L69x1 env F s n ds l b (fu + 1) i0 =
  (bif (decide (i0 < (((Sl.len l) : Nat) : Int))) then (L69x2 env F s n ds l b fu F i0 (IntKind.wrap .i64 (i0 + (1 : Int))))
  else (L69x3 env F s n ds l b F (0 : Int))) := by kernel_rfl
theorem L69x2s (env : Env) (F : Nat) (s : Site) (n : Int) (ds : Sl Day) (l : Sl Stt) (b : Bool) (m0 : Nat) (fu : Nat) (i0 : Int) (i1 : Int) : L69x2 env F s n ds l b m0 (fu + 1) i0 i1 =
  (bif (decide (i1 < (((Sl.len l) : Nat) : Int))) then (bif (decide ((0 : Int) ≤ i0)) then (bif (decide (i0 < (((Sl.len l) : Nat) : Int))) then (bif (decide ((0 : Int) ≤ i1)) then (bif (decide (i1 < (((Sl.len l) : Nat) : Int))) then (tkOut (env 40 [(.agg (eSite s)), (.int .i64 i0), (.int .i64 i1), (.agg (eSpan (Stt.rad (Sl.el l (Int.toNat i0))))), (.agg (eSpan (Stt.rad (Sl.el l (Int.toNat i1)))))]) none (fun v11 => (tkAgg v11 none fun l12 => (tkCons l12 none fun v13 r14 => (tkInt v13 none fun q15 n16 => (tkCons r14 none fun v17 r18 => (tkInt v17 none fun q19 n20 => (tkNil r18 none ((tkOut (env 103 [(.agg [(.int q15 n16), (.int q19 n20)]), (.bool b)]) none (fun v21 => (tkInt v21 none fun q22 n23 => (bif (decide (q22 = .i64)) then (bif (decide (n23 < (Site.wall s))) then some (.ret (.tup [(.agg [(.int .i64 n), (.int .i64 (6 : Int)), (.int .i64 i0), (.int .i64 i1)]), (.bool true)]))
                                else (L69x2 env F s n ds l b m0 fu i0 (IntKind.wrap .i64 (i1 + (1 : Int)))))
                              else none)))
                          (fun p21 => (tkIfc p21 none fun t22 x23 => (bif (flatP (.iface t22 x23)) then none
                              else none))))))))))))
            (fun p11 => (tkIfc p11 none fun t12 x13 => (bif (flatP (.iface t12 x13)) then none
                else none))))
          else none)
        else none)
      else none)
    else none)
  else (L69x1 env F s n ds l b m0 (IntKind.wrap .i64 (i0 + (1 : Int))))) := by kernel_rfl
theorem L69x3s (env : Env) (F : Nat) (s : Site) (n : Int) (ds : Sl Day) (l : Sl Stt) (b : Bool) (fu : Nat) (i0 : Int) : L69x3 env F s n ds l b (fu + 1) i0 =
  (bif (decide (i0 < (((Sl.len (Site.houses s)) : Nat) : Int))) then (bif (decide ((0 : Int) ≤ i0)) then (bif (decide (i0 < (((Sl.len (Site.houses s)) : Nat) : Int))) then (tkOut (env 19 [(.agg (eSite s)), (sl eStt 6 l), (.int .i64 (House.x (Sl.el (Site.houses s) (Int.toNat i0)))), (.int .i64 (House.y (Sl.el (Site.houses s) (Int.toNat i0))))]) none (fun v9 => (tkAgg v9 none fun l10 => (tkCons l10 none fun v11 r12 => (tkInt v11 none fun q13 n14 => (tkCons r12 none fun v15 r16 => (tkInt v15 none fun q17 n18 => (tkNil r16 none ((tkOut (env 103 [(.agg [(.int q13 n14), (.int q17 n18)]), (.bool (!b))]) none (fun v19 => (tkInt v19 none fun q20 n21 => (bif (decide (q20 = .i64)) then (bif (decide (n21 > (House.most (Sl.el (Site.houses s) (Int.toNat i0))))) then some (.ret (.tup [(.agg [(.int .i64 n), (.int .i64 (7 : Int)), (.int .i64 i0), (.int .i64 (0 : Int))]), (.bool true)]))
                            else (L69x3 env F s n ds l b fu (IntKind.wrap .i64 (i0 + (1 : Int)))))
                          else none)))
                      (fun p19 => (tkIfc p19 none fun t20 x21 => (bif (flatP (.iface t20 x21)) then none
                          else none))))))))))))
        (fun p9 => (tkIfc p9 none fun t10 x11 => (bif (flatP (.iface t10 x11)) then none
            else none))))
      else none)
    else none)
  else some (.ret (.tup [(.agg [(.int .i64 (0 : Int)), (.int .i64 (0 : Int)), (.int .i64 (0 : Int)), (.int .i64 (0 : Int))]), (.bool false)]))) := by kernel_rfl

end Go.Sim.Cr

/-
  The specification's faults, in plain terms.
-/
namespace Go.Sim.Cr
open Go.Proofs
variable (F d : Nat)
def isM (b : Bool) (m : Mark) : Bool := bif b then m.certain else m.possible
abbrev eFaultZ (f : Option Fault) : V := match f with | some f => .tup [.agg (eFault f), .bool true] | none => .tup [.agg (eFault ⟨0, 0, 0, 0⟩), .bool false]
theorem fR_cons {n k : Int} {is : Mark → Bool} {m : Mark} {ms : List Mark} {r : List (Int × List Mark)} : faultR n is ((k, m :: ms) :: r) = bif is m then some ⟨n, k, m.at_, m.wth⟩ else faultR n is ((k, ms) :: r) := by
  simp only [faultR, List.find?_cons]
  cases is m <;> rfl
theorem fR_nil {n k : Int} {is : Mark → Bool} {r : List (Int × List Mark)} : faultR n is ((k, []) :: r) = faultR n is r := rfl
theorem s103 (a c : Int) (b : Bool) : E F (d + 1) 103 [.agg [.int .i64 a, .int .i64 c], .bool b] = some (.ret (.int .i64 (bif b then c else a))) := by
  have h := t103 (E F d) F ⟨a, c⟩ b
  rw [E_succ]
  refine h.trans ?_
  cases b <;> rfl
theorem maxI_gt (a b c : Int) : decide (maxI a b > c) = (decide (a > c) || decide (b > c)) := by
  apply b2
  simp only [Bool.or_eq_true, decide_eq_true_iff]
  unfold maxI
  split <;> omega
def prevOf (l : Sl Day) : Nat → Option (Sl Span)
  | 0 => none
  | k + 1 => some (l.el k).press
theorem predK (k : Nat) (h : k < 4611686018427387904) : IntKind.i64.wrap (((k + 1 : Nat) : Int) - 1) = (k : Int) := by rw [wr (by omega)]; omega
theorem l68x2z (s : Site) (ds : Sl Day) (l : Sl Stt) (b : Bool) (i fu : Nat) : L68x2 (E F d) F s ((0 : Nat) : Int) ds l b (fu + 1) (i : Int) = some (.ret (eFaultZ none)) := by
  rw [L68x2s]
  cases decide ((i : Int) < (s.cavs.len : Int)) <;> rfl
theorem l68x2 (s : Site) (ds : Sl Day) (l : Sl Stt) (b : Bool) (k : Nat) (hS : SiteF s) (hD : DaysOk s ds) (hk : k + 1 < ds.len) (hB : ds.len ≤ 100) : ∀ r i fu, s.cavs.len = i + r → r < fu →
    L68x2 (E F d) F s ((k + 1 : Nat) : Int) ds l b fu (i : Int) = some (.ret (eFaultZ (faultR ((k + 1 : Nat) : Int) (isM b) [(4, (List.range' i r).map (fastM s (ds.el (k + 1)) (ds.el k).press))]))) := by
  have h5 := hS.cavs5
  intro r
  induction r with
  | zero =>
    intro i fu h hf
    obtain ⟨fu, rfl⟩ : ∃ k, fu = k + 1 := ⟨fu - 1, by omega⟩
    rw [L68x2s]
    simp only [Int.ofNat_lt, show ¬ i < s.cavs.len by omega, decide_false, cond_false, List.range'_zero, List.map_nil]
    rfl
  | succ r ih =>
    intro i fu h hf
    obtain ⟨fu, rfl⟩ : ∃ k, fu = k + 1 := ⟨fu - 1, by omega⟩
    rw [L68x2s]
    have d1 := hD (k + 1) hk
    have d2 := hD k (by omega)
    have q1 := d1.1.2 i (by have := d1.1.1; omega)
    have q2 := d2.1.2 i (by have := d2.1.1; omega)
    have l1 := d1.1.1
    have l2 := d2.1.1
    simp only [Int.ofNat_lt, show i < s.cavs.len by omega, show i < (ds.el (k + 1)).press.len by omega, show i < (ds.el k).press.len by omega, show k < ds.len by omega, gt0, decide_true, cond_true, Int.natCast_nonneg, Int.toNat_natCast, predK k (by omega), wrS (show i < 4611686018427387904 by omega),
      wr (show _ ∧ ((ds.el (k + 1)).press.el i).hi - ((ds.el k).press.el i).lo ≤ _ by omega), wr (show _ ∧ ((ds.el k).press.el i).hi - ((ds.el (k + 1)).press.el i).lo ≤ _ by omega), wr (show _ ∧ ((ds.el (k + 1)).press.el i).lo - ((ds.el k).press.el i).hi ≤ _ by omega), wr (show _ ∧ ((ds.el k).press.el i).lo - ((ds.el (k + 1)).press.el i).hi ≤ _ by omega), ih (i + 1) fu (by omega) (by omega)]
    rw [List.range'_succ, List.map_cons, fR_cons]
    cases b with
    | false =>
      rw [show isM false (fastM s (ds.el (k + 1)) (ds.el k).press i) = _ from maxI_gt _ _ _]
      cases decide (((ds.el (k + 1)).press.el i).hi - ((ds.el k).press.el i).lo > (s.cavs.el i).change) <;> cases decide (((ds.el k).press.el i).hi - ((ds.el (k + 1)).press.el i).lo > (s.cavs.el i).change) <;> rfl
    | true =>
      rw [show isM true (fastM s (ds.el (k + 1)) (ds.el k).press i) = _ from maxI_gt _ _ _]
      cases decide (((ds.el (k + 1)).press.el i).lo - ((ds.el k).press.el i).hi > (s.cavs.el i).change) <;> cases decide (((ds.el k).press.el i).lo - ((ds.el (k + 1)).press.el i).hi > (s.cavs.el i).change) <;> rfl
theorem l68x1 (s : Site) (ds : Sl Day) (l : Sl Stt) (b : Bool) (n : Nat) (hS : SiteF s) (hy : DayOk s (ds.el n)) (rest : List (Int × List Mark)) (hR : L68x2 (E F d) F s (n : Int) ds l b F 0 = some (.ret (eFaultZ (faultR (n : Int) (isM b) rest)))) : ∀ r i fu, s.cavs.len = i + r → r < fu →
    L68x1 (E F d) F s (n : Int) ds l b fu (i : Int) = some (.ret (eFaultZ (faultR (n : Int) (isM b) ((3, (List.range' i r).map (gateM s (ds.el n))) :: rest)))) := by
  have h5 := hS.cavs5
  intro r
  induction r with
  | zero =>
    intro i fu h hf
    obtain ⟨fu, rfl⟩ : ∃ k, fu = k + 1 := ⟨fu - 1, by omega⟩
    rw [L68x1s]
    simp only [Int.ofNat_lt, show ¬ i < s.cavs.len by omega, decide_false, cond_false, List.range'_zero, List.map_nil, fR_nil, hR]
  | succ r ih =>
    intro i fu h hf
    obtain ⟨fu, rfl⟩ : ∃ k, fu = k + 1 := ⟨fu - 1, by omega⟩
    rw [L68x1s]
    have l1 := hy.1.1
    simp only [Int.ofNat_lt, show i < s.cavs.len by omega, show i < (ds.el n).press.len by omega, decide_true, cond_true, Int.natCast_nonneg, Int.toNat_natCast, wrS (show i < 4611686018427387904 by omega), ih (i + 1) fu (by omega) (by omega)]
    rw [List.range'_succ, List.map_cons, fR_cons]
    cases b with
    | false =>
      rw [show isM false (gateM s (ds.el n) i) = (decide (((ds.el n).press.el i).lo < (s.cavs.el i).gate.lo) || decide (((ds.el n).press.el i).hi > (s.cavs.el i).gate.hi)) from rfl]
      cases decide (((ds.el n).press.el i).lo < (s.cavs.el i).gate.lo) <;> cases decide (((ds.el n).press.el i).hi > (s.cavs.el i).gate.hi) <;> rfl
    | true =>
      rw [show isM true (gateM s (ds.el n) i) = (decide (((ds.el n).press.el i).hi < (s.cavs.el i).gate.lo) || decide (((ds.el n).press.el i).lo > (s.cavs.el i).gate.hi)) from rfl]
      cases decide (((ds.el n).press.el i).hi < (s.cavs.el i).gate.lo) <;> cases decide (((ds.el n).press.el i).lo > (s.cavs.el i).gate.hi) <;> rfl
theorem out_none (s : Site) (y : Day) (n k : Int) (rest : List (Int × List Mark)) : ∀ r i, faultR n (isM true) ((k, (List.range' i r).map (outM s y)) :: rest) = faultR n (isM true) rest := by
  intro r
  induction r with
  | zero => intro i; rfl
  | succ r ih =>
    intro i
    rw [List.range'_succ, List.map_cons, fR_cons, ih]
    rfl
theorem l68x0 (s : Site) (ds : Sl Day) (l : Sl Stt) (b : Bool) (n : Nat) (hS : SiteF s) (hy : DayOk s (ds.el n)) (rest : List (Int × List Mark)) (hR : L68x1 (E F (d + 2)) F s (n : Int) ds l b F 0 = some (.ret (eFaultZ (faultR (n : Int) (isM b) rest)))) : ∀ r i fu, s.cavs.len = i + r → r < fu →
    L68x0 (E F (d + 2)) F s (n : Int) ds l b fu (i : Int) = some (.ret (eFaultZ (faultR (n : Int) (isM b) ((2, (List.range' i r).map (outM s (ds.el n))) :: rest)))) := by
  have h5 := hS.cavs5
  intro r
  induction r with
  | zero =>
    intro i fu h hf
    obtain ⟨fu, rfl⟩ : ∃ k, fu = k + 1 := ⟨fu - 1, by omega⟩
    rw [L68x0s]
    simp only [Int.ofNat_lt, show ¬ i < s.cavs.len by omega, decide_false, cond_false, List.range'_zero, List.map_nil, fR_nil, hR]
  | succ r ih =>
    intro i fu h hf
    obtain ⟨fu, rfl⟩ : ∃ k, fu = k + 1 := ⟨fu - 1, by omega⟩
    rw [L68x0s]
    have l1 := hy.1.1
    have l2 := hy.2.1
    cases b with
    | true =>
      simp only [Int.ofNat_lt, show i < s.cavs.len by omega, decide_true, cond_true, Bool.not_true, cond_false, hR, out_none]
    | false =>
      simp only [Int.ofNat_lt, show i < s.cavs.len by omega, show i < (ds.el n).press.len by omega, show i < (ds.el n).warm.len by omega, decide_true, cond_true, Bool.not_false, Int.natCast_nonneg, Int.toNat_natCast, wrS (show i < 4611686018427387904 by omega), ih (i + 1) fu (by omega) (by omega),
        s32 F d s i ((ds.el n).press.el i) ((ds.el n).warm.el i) hS (by omega) (hy.1.2 i (by omega)), tkOut_ret, tkBool_b]
      rw [List.range'_succ, List.map_cons, fR_cons]
      rw [show isM false (outM s (ds.el n) i) = farB s (s.cavs.el i) ((ds.el n).press.el i) ((ds.el n).warm.el i) from rfl]
      cases farB s (s.cavs.el i) ((ds.el n).press.el i) ((ds.el n).warm.el i) <;> rfl
/-- The marks that are looked for ahead of a day's states, and behind them. -/
def earlyMs (s : Site) (y : Day) (b : Option (Sl Span)) : List (Int × List Mark) :=
  [(2, (List.range' 0 s.cavs.len).map (outM s y)), (3, (List.range' 0 s.cavs.len).map (gateM s y)), (4, fastMs s y b)]
noncomputable def lateMs (s : Site) (m : Option (Sl Stt)) : List (Int × List Mark) := [(5, smallMs s m), (6, thinMs s m), (7, sunkMs s m)]
theorem marks_parts (s : Site) (y : Day) (b : Option (Sl Span)) (m : Option (Sl Stt)) : marksOf s y b m = earlyMs s y b ++ lateMs s m := rfl
theorem s68 (s : Site) (ds : Sl Day) (l : Sl Stt) (b : Bool) (n : Nat) (hS : SiteF s) (hD : DaysOk s ds) (hn : n < ds.len) (hB : ds.len ≤ 100) (hF : 8 < F) :
    E F (d + 3) 68 [.agg (eSite s), .agg [.int .i64 (n : Int), sl eDay 2 ds, sl eStt 6 l], .bool b] = some (.ret (eFaultZ (faultR (n : Int) (isM b) (earlyMs s (ds.el n) (prevOf ds n))))) := by
  have h5 := hS.cavs5
  have hy := hD n hn
  rw [E_succ, t68]
  simp only [Int.natCast_nonneg, Int.ofNat_lt, hn, decide_true, cond_true]
  have h2 : L68x2 (E F (d + 2)) F s (n : Int) ds l b F 0 = some (.ret (eFaultZ (faultR (n : Int) (isM b) [(4, fastMs s (ds.el n) (prevOf ds n))]))) := by
    cases n with
    | zero =>
      obtain ⟨fu, rfl⟩ : ∃ k, F = k + 1 := ⟨F - 1, by omega⟩
      exact l68x2z (fu + 1) (d + 2) s ds l b 0 fu
    | succ k => exact l68x2 F (d + 2) s ds l b k hS hD hn hB s.cavs.len 0 F (by omega) (by omega)
  have h1 := l68x1 F (d + 2) s ds l b n hS hy _ h2 s.cavs.len 0 F (by omega) (by omega)
  exact l68x0 F d s ds l b n hS hy _ h1 s.cavs.len 0 F (by omega) (by omega)

section
variable (s : Site) (ds : Sl Day) (m : Sl Stt) (b : Bool) (n : Int)
theorem l69x3 (hS : SiteF s) (hL : StatesOk s m) (hF : 8 < F) : ∀ r i fu, s.houses.len = i + r → r < fu →
    L69x3 (E F (d + 3)) F s n ds m b fu (i : Int) = some (.ret (eFaultZ (faultR n (isM b) [(7, (List.range' i r).map (sunkM s m))]))) := by
  have h5 := hS.houses5
  intro r
  induction r with
  | zero =>
    intro i fu h hf
    obtain ⟨fu, rfl⟩ : ∃ k, fu = k + 1 := ⟨fu - 1, by omega⟩
    rw [L69x3s]
    simp only [Int.ofNat_lt, show ¬ i < s.houses.len by omega, decide_false, cond_false, List.range'_zero, List.map_nil]
    rfl
  | succ r ih =>
    intro i fu h hf
    obtain ⟨fu, rfl⟩ : ∃ k, fu = k + 1 := ⟨fu - 1, by omega⟩
    rw [L69x3s]
    have hp : Place (s.houses.el i).x (s.houses.el i).y := (hS.house i (by omega)).1
    simp only [Int.ofNat_lt, show i < s.houses.len by omega, decide_true, cond_true, Int.natCast_nonneg, Int.toNat_natCast, wrS (show i < 4611686018427387904 by omega), s19 F (d + 1) s m _ _ hS hL hp hF, s103 F (d + 2), tkOut_ret, tkAgg_a, tkCons_c, tkInt_i, tkNil_n, ih (i + 1) fu (by omega) (by omega)]
    rw [List.range'_succ, List.map_cons, fR_cons]
    cases b with
    | false =>
      rw [show isM false (sunkM s m i) = decide ((sunk s m (s.houses.el i).x (s.houses.el i).y).hi > (s.houses.el i).most) from rfl]
      simp only [Bool.not_false, cond_true]
      cases decide ((sunk s m (s.houses.el i).x (s.houses.el i).y).hi > (s.houses.el i).most) <;> rfl
    | true =>
      rw [show isM true (sunkM s m i) = decide ((sunk s m (s.houses.el i).x (s.houses.el i).y).lo > (s.houses.el i).most) from rfl]
      simp only [Bool.not_true, cond_false]
      cases decide ((sunk s m (s.houses.el i).x (s.houses.el i).y).lo > (s.houses.el i).most) <;> rfl
theorem l69x2 (hS : SiteF s) (hL : StatesOk s m) (hF : 2147483648 < F) (m0 i : Nat) (hi : i < s.cavs.len) (P : List Mark) (rest : List (Int × List Mark)) (hO : L69x1 (E F (d + 3)) F s n ds m b m0 ((i + 1 : Nat) : Int) = some (.ret (eFaultZ (faultR n (isM b) ((6, P) :: rest))))) : ∀ r j fu, s.cavs.len = j + r → r < fu →
    L69x2 (E F (d + 3)) F s n ds m b m0 fu (i : Int) (j : Int) = some (.ret (eFaultZ (faultR n (isM b) ((6, (List.range' j r).map (thinM s m i) ++ P) :: rest)))) := by
  have h5 := hS.cavs5
  have hl := hL.1
  intro r
  induction r with
  | zero =>
    intro j fu h hf
    obtain ⟨fu, rfl⟩ : ∃ k, fu = k + 1 := ⟨fu - 1, by omega⟩
    rw [L69x2s]
    simp only [Int.ofNat_lt, show ¬ j < m.len by omega, decide_false, cond_false, List.range'_zero, List.map_nil, List.nil_append, wrS (show i < 4611686018427387904 by omega), hO]
  | succ r ih =>
    intro j fu h hf
    obtain ⟨fu, rfl⟩ : ∃ k, fu = k + 1 := ⟨fu - 1, by omega⟩
    rw [L69x2s]
    have a1 := (hL.2 i (by omega)).1
    have a2 := (hL.2 j (by omega)).1
    have p1 := (hS.cav i hi).1
    have p2 := (hS.cav j (by omega)).1
    simp only [Int.ofNat_lt, show j < m.len by omega, show i < m.len by omega, decide_true, cond_true, Int.natCast_nonneg, Int.toNat_natCast, wrS (show j < 4611686018427387904 by omega), s40 F d s i j (m.el i).rad (m.el j).rad hi (by omega) p1 p2 (by omega) (by omega) hF, s103 F (d + 2), tkOut_ret, tkAgg_a, tkCons_c, tkInt_i, tkNil_n, ih (j + 1) fu (by omega) (by omega)]
    rw [List.range'_succ, List.map_cons, List.cons_append, fR_cons]
    cases b with
    | false =>
      rw [show isM false (thinM s m i j) = decide (distI (s.cavs.el i) (s.cavs.el j) - (m.el i).rad.hi - (m.el j).rad.hi < s.wall) from rfl]
      simp only [cond_false]
      cases decide (distI (s.cavs.el i) (s.cavs.el j) - (m.el i).rad.hi - (m.el j).rad.hi < s.wall) <;> rfl
    | true =>
      rw [show isM true (thinM s m i j) = decide (distI (s.cavs.el i) (s.cavs.el j) - (m.el i).rad.lo - (m.el j).rad.lo < s.wall) from rfl]
      simp only [cond_true]
      cases decide (distI (s.cavs.el i) (s.cavs.el j) - (m.el i).rad.lo - (m.el j).rad.lo < s.wall) <;> rfl
theorem l69x1 (hS : SiteF s) (hL : StatesOk s m) (hF : 2147483648 < F) (rest : List (Int × List Mark)) (hR : L69x3 (E F (d + 3)) F s n ds m b F 0 = some (.ret (eFaultZ (faultR n (isM b) rest)))) : ∀ k i fu, s.cavs.len = i + k → k < fu →
    L69x1 (E F (d + 3)) F s n ds m b fu (i : Int) = some (.ret (eFaultZ (faultR n (isM b) ((6, pairsM s m k i) :: rest)))) := by
  have h5 := hS.cavs5
  have hl := hL.1
  intro k
  induction k with
  | zero =>
    intro i fu h hf
    obtain ⟨fu, rfl⟩ : ∃ k, fu = k + 1 := ⟨fu - 1, by omega⟩
    rw [L69x1s]
    simp only [Int.ofNat_lt, show ¬ i < m.len by omega, decide_false, cond_false, pairsM, fR_nil, hR]
  | succ k ih =>
    intro i fu h hf
    obtain ⟨fu, rfl⟩ : ∃ k, fu = k + 1 := ⟨fu - 1, by omega⟩
    rw [L69x1s]
    simp only [Int.ofNat_lt, show i < m.len by omega, decide_true, cond_true, wrS (show i < 4611686018427387904 by omega), pairsM]
    exact l69x2 F d s ds m b n hS hL hF fu i (by omega) _ rest (ih (i + 1) fu (by omega) (by omega)) k (i + 1) F (by omega) (by omega)
theorem l69x0 (hS : SiteF s) (hL : StatesOk s m) (rest : List (Int × List Mark)) (hR : L69x1 (E F (d + 3)) F s n ds m b F 0 = some (.ret (eFaultZ (faultR n (isM b) rest)))) : ∀ r i fu, s.cavs.len = i + r → r < fu →
    L69x0 (E F (d + 3)) F s n ds m b fu (i : Int) = some (.ret (eFaultZ (faultR n (isM b) ((5, (List.range' i r).map (smallM s m)) :: rest)))) := by
  have h5 := hS.cavs5
  have hl := hL.1
  intro r
  induction r with
  | zero =>
    intro i fu h hf
    obtain ⟨fu, rfl⟩ : ∃ k, fu = k + 1 := ⟨fu - 1, by omega⟩
    rw [L69x0s]
    simp only [Int.ofNat_lt, show ¬ i < m.len by omega, decide_false, cond_false, List.range'_zero, List.map_nil, fR_nil, hR]
  | succ r ih =>
    intro i fu h hf
    obtain ⟨fu, rfl⟩ : ∃ k, fu = k + 1 := ⟨fu - 1, by omega⟩
    rw [L69x0s]
    simp only [Int.ofNat_lt, show i < m.len by omega, show i < s.cavs.len by omega, decide_true, cond_true, Int.natCast_nonneg, Int.toNat_natCast, wrS (show i < 4611686018427387904 by omega), s103 F (d + 2), tkOut_ret, tkInt_i, ih (i + 1) fu (by omega) (by omega)]
    rw [List.range'_succ, List.map_cons, fR_cons]
    cases b with
    | false =>
      rw [show isM false (smallM s m i) = decide ((m.el i).vol.lo < (s.cavs.el i).floor) from rfl]
      simp only [cond_false]
      cases decide ((m.el i).vol.lo < (s.cavs.el i).floor) <;> rfl
    | true =>
      rw [show isM true (smallM s m i) = decide ((m.el i).vol.hi < (s.cavs.el i).floor) from rfl]
      simp only [cond_true]
      cases decide ((m.el i).vol.hi < (s.cavs.el i).floor) <;> rfl
theorem s69 (hS : SiteF s) (hL : StatesOk s m) (hF : 2147483648 < F) :
    E F (d + 4) 69 [.agg (eSite s), .agg [.int .i64 n, sl eDay 2 ds, sl eStt 6 m], .bool b] = some (.ret (eFaultZ (faultR n (isM b) (lateMs s (some m))))) := by
  have h5 := hS.cavs5
  have h6 := hS.houses5
  rw [E_succ, t69]
  have h3 := l69x3 F d s ds m b n hS hL (by omega) s.houses.len 0 F (by omega) (by omega)
  have h1 := l69x1 F d s ds m b n hS hL hF _ h3 s.cavs.len 0 F (by omega) (by omega)
  exact l69x0 F d s ds m b n hS hL _ h1 s.cavs.len 0 F (by omega) (by omega)
end
end Go.Sim.Cr

/-
  The specification's faults are the program's.
-/
namespace Go.Sim.Cr
open Go.Proofs
variable (F d : Nat)
/-- The first possible, or the first certain fault of the days from one on, as the specification looks for it. -/
noncomputable def refFrom (s : Site) (l : Sl Day) (c : Bool) : Nat → Nat → Sl Stt → Fault
  | 0, _, _ => fineF
  | r + 1, i, now => bif farDay s (l.el i) && c then fineF else
      match faultR (i : Int) (isM c) (earlyMs s (l.el i) (prevOf l i)) with
      | some f => f
      | none => match faultR (i : Int) (isM c) (lateMs s (some (moved s now (l.el i)))) with
        | some f => f
        | none => refFrom s l c r (i + 1) (moved s now (l.el i))
theorem find_some {is : Mark → Bool} {ms : List Mark} (h : ∃ m ∈ ms, is m = true) : ∃ m, ms.find? is = some m := by
  cases e : ms.find? is with
  | some m => exact ⟨m, rfl⟩
  | none =>
    obtain ⟨m, h1, h2⟩ := h
    have := List.find?_eq_none.1 e m h1
    rw [h2] at this
    exact (this rfl).elim
theorem far_early {s : Site} {y : Day} (h : farDay s y = true) (n : Int) (b : Option (Sl Span)) : ∃ f, faultR n (isM false) (earlyMs s y b) = some f := by
  obtain ⟨k, _, hk, e⟩ := (anyF_eq _ _ _).1 h
  obtain ⟨m, hm⟩ := find_some (is := isM false) (ms := (List.range' 0 s.cavs.len).map (outM s y)) ⟨outM s y k, List.mem_map_of_mem (by rw [List.mem_range']; exact ⟨k, by omega, by omega⟩), e⟩
  refine ⟨⟨n, 2, m.at_, m.wth⟩, ?_⟩
  unfold earlyMs
  rw [faultR, hm]
theorem l31 (s : Site) (l : Sl Day) (c : Bool) (hS : SiteF s) (hD : DaysOk s l) (hB : l.len ≤ 100) (hF : 2147483648 < F) : ∀ r i fu (now : Sl Stt), l.len = i + r → r < fu → StatesOk s now →
    L31x0 (E F (d + 4)) F s l c fu now.nl now.len 6 (fun i => eStt (now.el i)) (i : Int) = some (.ret (.agg (eFault (refFrom s l c r i now)))) := by
  intro r
  induction r with
  | zero =>
    intro i fu now h hf hn
    obtain ⟨fu, rfl⟩ : ∃ k, fu = k + 1 := ⟨fu - 1, by omega⟩
    rw [L31x0s]
    simp only [Int.ofNat_lt, show ¬ i < l.len by omega, decide_false, cond_false, refFrom]
  | succ r ih =>
    intro i fu now h hf hn
    obtain ⟨fu, rfl⟩ : ∃ k, fu = k + 1 := ⟨fu - 1, by omega⟩
    rw [L31x0s]
    have hy := hD i (by omega)
    have e21 := s21 F d s now (l.el i) hS hn hy (by omega)
    have e68 := s68 F (d + 1) s l now c i hS hD (by omega) hB (by omega)
    simp only [Int.ofNat_lt, show i < l.len by omega, decide_true, cond_true, Int.natCast_nonneg, Int.toNat_natCast, e21, e68, tkOut_ret, wrS (show i < 4611686018427387904 by omega), moveR, refFrom]
    cases hfd : farDay s (l.el i) with
    | true =>
      simp only [cond_true, tkTup_t, tkCons_c, tkRow_r, tkBool_b, tkNil_n, Bool.not_false]
      cases c with
      | true => simp only [cond_true, Bool.and_self]
      | false =>
        obtain ⟨f, hf'⟩ := far_early hfd (i : Int) (prevOf l i)
        simp only [cond_false, cond_true, Bool.and_false, hf', tkTup_t, tkCons_c, tkAgg_a, tkInt_i, tkBool_b, tkNil_n]
    | false =>
      have hmv := moved_ok hS hn hy hfd
      have e69 := s69 F d s l (moved s now (l.el i)) c (i : Int) hS hmv hF
      have nx := ih (i + 1) fu (moved s now (l.el i)) (by omega) (by omega) hmv
      simp only [cond_false, tkTup_t, tkCons_c, tkRow_r, tkBool_b, tkNil_n, Bool.not_true, Bool.false_and]
      cases faultR (i : Int) (isM c) (earlyMs s (l.el i) (prevOf l i)) with
      | some f => simp only [tkTup_t, tkCons_c, tkAgg_a, tkInt_i, tkBool_b, tkNil_n, cond_true]
      | none =>
        simp only [tkTup_t, tkCons_c, tkAgg_a, tkInt_i, tkBool_b, tkNil_n, cond_false, e69, tkOut_ret]
        cases faultR (i : Int) (isM c) (lateMs s (some (moved s now (l.el i)))) with
        | some f => simp only [tkTup_t, tkCons_c, tkAgg_a, tkInt_i, tkBool_b, tkNil_n, cond_true]
        | none =>
          simp only [tkTup_t, tkCons_c, tkAgg_a, tkInt_i, tkBool_b, tkNil_n, cond_false]
          exact nx
theorem s31 (s : Site) (l : Sl Day) (c : Bool) (hS : SiteF s) (hD : DaysOk s l) (hB : l.len ≤ 100) (hF : 2147483648 < F) :
    E F (d + 5) 31 [.agg (eSite s), sl eDay 2 l, .bool c] = some (.ret (.agg (eFault (refFrom s l c l.len 0 (begin s))))) := by
  rw [E_succ, t31]
  simp only [s38 F (d + 3) s hS.cavs1 hS.cavs5 (by omega), tkOut_ret, tkRow_r]
  exact l31 F d s l c hS hD hB hF l.len 0 F (begin s) (by omega) (by omega) (begin_ok hS)

theorem faultR_append (n : Int) (is : Mark → Bool) : ∀ A B : List (Int × List Mark), faultR n is (A ++ B) = match faultR n is A with | some f => some f | none => faultR n is B := by
  intro A B
  induction A with
  | nil => rfl
  | cons a A ih =>
    obtain ⟨k, ms⟩ := a
    rw [List.cons_append]
    cases e : ms.find? is with
    | some m => rw [fR_some e, fR_some e]
    | none => rw [fR_none e, fR_none e]; exact ih
theorem late_none (s : Site) (n : Int) (is : Mark → Bool) : faultR n is (lateMs s none) = none := rfl
/-- What is certain is possible. -/
def Sure (mss : List (Int × List Mark)) : Prop := ∀ p ∈ mss, ∀ m ∈ p.2, m.certain = true → m.possible = true
theorem sure_some {n : Int} : ∀ {mss : List (Int × List Mark)}, Sure mss → (∃ f, faultR n (isM true) mss = some f) → ∃ f, faultR n (isM false) mss = some f := by
  intro mss
  induction mss with
  | nil => rintro _ ⟨f, h⟩; cases h
  | cons a mss ih =>
    obtain ⟨k, ms⟩ := a
    rintro hs ⟨f, h⟩
    unfold faultR at h ⊢
    cases e : ms.find? (isM false) with
    | some m => exact ⟨_, rfl⟩
    | none =>
      have e2 : ms.find? (isM true) = none := by
        rw [List.find?_eq_none] at e ⊢
        intro m hm hc
        exact e m hm (hs (k, ms) (by simp) m hm hc)
      rw [e2] at h
      exact ih (fun p hp => hs p (by simp [hp])) ⟨f, h⟩
theorem sunkFrom_le {s : Site} {m : Sl Stt} (hS : SiteF s) (hL : StatesOk s m) (x y : Int) : ∀ r i a b, m.len = i + r → a ≤ b → (sunkFrom s m x y r i a b).lo ≤ (sunkFrom s m x y r i a b).hi := by
  intro r
  induction r with
  | zero => intro i a b _ h; exact h
  | succ r ih =>
    intro i a b h hab
    refine ih (i + 1) _ _ (by omega) ?_
    have hq := shareOf_ok hS (s.cavs.el i) x y
    have hv := (hL.2 i (by omega)).2.2
    have h1 : (m.el i).lost.lo * (shareOf s (s.cavs.el i) x y).lo ≤ (m.el i).lost.hi * (shareOf s (s.cavs.el i) x y).hi := Int.mul_le_mul hv.2.1 hq.2.1 hq.1 (by omega)
    have h2 : (m.el i).lost.lo * (shareOf s (s.cavs.el i) x y).lo / 1000000 ≤ ((m.el i).lost.hi * (shareOf s (s.cavs.el i) x y).hi + 999999) / 1000000 := Int.ediv_le_ediv (by omega) (by omega)
    omega
theorem sunk_le {s : Site} {m : Sl Stt} (hS : SiteF s) (hL : StatesOk s m) (x y : Int) : (sunk s m x y).lo ≤ (sunk s m x y).hi := sunkFrom_le hS hL x y m.len 0 0 0 (by omega) (Int.le_refl _)
theorem pairs_sure {s : Site} {m : Sl Stt} (hL : StatesOk s m) : ∀ k i, s.cavs.len = i + k → ∀ x ∈ pairsM s m k i, x.certain = true → x.possible = true := by
  intro k
  induction k with
  | zero => intro i _ x hx; cases hx
  | succ k ih =>
    intro i h x hx
    rw [pairsM, List.mem_append] at hx
    rcases hx with hx | hx
    · obtain ⟨j, hj, rfl⟩ := List.mem_map.1 hx
      rw [List.mem_range'] at hj
      obtain ⟨q, hq, rfl⟩ := hj
      have hl := hL.1
      have a1 := (hL.2 i (by omega)).1
      have a2 := (hL.2 (i + 1 + 1 * q) (by omega)).1
      simp only [thinM, decide_eq_true_iff]
      omega
    · exact ih (i + 1) (by omega) x hx
theorem early_sure {s : Site} {y : Day} {b : Option (Sl Span)} (hD : DayOk s y) (hb : ∀ x, b = some x → x.len = s.cavs.len ∧ ∀ i, i < x.len → SpanIn (x.el i) 0 50000) : Sure (earlyMs s y b) := by
  have hp := hD.1.1
  intro p hp' m hm
  simp only [earlyMs, List.mem_cons, List.not_mem_nil, or_false] at hp'
  rcases hp' with rfl | rfl | rfl
  · obtain ⟨j, _, rfl⟩ := List.mem_map.1 hm
    intro h; cases h
  · obtain ⟨j, hj, rfl⟩ := List.mem_map.1 hm
    rw [List.mem_range'] at hj
    obtain ⟨q, hq, rfl⟩ := hj
    have := hD.1.2 (0 + 1 * q) (by omega)
    simp only [gateM, Bool.or_eq_true, decide_eq_true_iff]
    omega
  · cases b with
    | none => cases hm
    | some x =>
      obtain ⟨j, hj, rfl⟩ := List.mem_map.1 hm
      rw [List.mem_range'] at hj
      obtain ⟨q, hq, rfl⟩ := hj
      obtain ⟨g1, g2⟩ := hb x rfl
      have a1 := hD.1.2 (0 + 1 * q) (by omega)
      have a2 := g2 (0 + 1 * q) (by omega)
      simp only [fastM, maxI_gt, Bool.or_eq_true, decide_eq_true_iff]
      omega
theorem late_sure {s : Site} {m : Sl Stt} (hS : SiteF s) (hL : StatesOk s m) : Sure (lateMs s (some m)) := by
  have hl := hL.1
  intro p hp' x hx
  simp only [lateMs, List.mem_cons, List.not_mem_nil, or_false] at hp'
  rcases hp' with rfl | rfl | rfl
  · obtain ⟨j, hj, rfl⟩ := List.mem_map.1 hx
    rw [List.mem_range'] at hj
    obtain ⟨q, hq, rfl⟩ := hj
    have := (hL.2 (0 + 1 * q) (by omega)).2.1
    simp only [smallM, decide_eq_true_iff]
    omega
  · exact pairs_sure hL s.cavs.len 0 (by omega) x hx
  · obtain ⟨j, hj, rfl⟩ := List.mem_map.1 hx
    have := sunk_le hS hL (s.houses.el j).x (s.houses.el j).y
    simp only [sunkM, decide_eq_true_iff]
    omega
theorem isM_f : isM false = Mark.possible := rfl
theorem isM_t : isM true = Mark.certain := rfl
theorem prev_ok {s : Site} {l : Sl Day} (hD : DaysOk s l) {i : Nat} (hi : i ≤ l.len) : ∀ x, prevOf l i = some x → x.len = s.cavs.len ∧ ∀ j, j < x.len → SpanIn (x.el j) 0 50000 := by
  intro x hx
  cases i with
  | zero => cases hx
  | succ k =>
    injection hx with hx
    subst hx
    exact (hD k (by omega)).1
theorem faults_from {s : Site} {l : Sl Day} (hS : SiteF s) (hD : DaysOk s l) : ∀ r i now (found : Bool) (may : Fault), l.len = i + r → StatesOk s now → (found = false → may = fineF) →
    faultsFrom s l r i (prevOf l i) now found may fineF = (bif found then may else refFrom s l false r i now, refFrom s l true r i now) := by
  intro r
  induction r with
  | zero =>
    intro i now found may h hn hf
    cases found with
    | true => rfl
    | false => rw [hf rfl]; rfl
  | succ r ih =>
    intro i now found may h hn hf
    have hy := hD i (by omega)
    have he := early_sure (b := prevOf l i) hy (prev_ok hD (by omega))
    unfold faultsFrom refFrom
    dsimp only
    cases hfd : farDay s (l.el i) with
    | true =>
      simp only [cond_true, Bool.and_true, Bool.and_false, cond_false, marks_parts, faultR_append, ← isM_f, late_none]
      obtain ⟨f, e⟩ := far_early hfd (i : Int) (prevOf l i)
      rw [e]
      rfl
    | false =>
      have hmv := moved_ok hS hn hy hfd
      have hl := late_sure hS hmv
      have nx := fun fd my => ih (i + 1) (moved s now (l.el i)) fd my (by omega) hmv
      have pv : prevOf l (i + 1) = some (l.el i).press := rfl
      rw [pv] at nx
      simp only [cond_false, Bool.false_and, marks_parts, faultR_append, ← isM_f, ← isM_t]
      have se := sure_some (n := (i : Int)) he
      have sl' := sure_some (n := (i : Int)) hl
      cases e1 : faultR (i : Int) (isM true) (earlyMs s (l.el i) (prevOf l i)) with
      | some f =>
        obtain ⟨g, e2⟩ := se ⟨f, e1⟩
        rw [e2]
        cases found <;> rfl
      | none =>
        cases e3 : faultR (i : Int) (isM true) (lateMs s (some (moved s now (l.el i)))) with
        | some f =>
          obtain ⟨g, e4⟩ := sl' ⟨f, e3⟩
          rw [e4]
          cases faultR (i : Int) (isM false) (earlyMs s (l.el i) (prevOf l i)) <;> cases found <;> rfl
        | none =>
          cases faultR (i : Int) (isM false) (earlyMs s (l.el i) (prevOf l i)) with
          | some g =>
            refine (nx _ _ ?_).trans ?_
            · cases found <;> intro h <;> cases h
            · cases found <;> rfl
          | none =>
            cases faultR (i : Int) (isM false) (lateMs s (some (moved s now (l.el i)))) with
            | some g =>
              refine (nx _ _ ?_).trans ?_
              · cases found <;> intro h <;> cases h
              · cases found <;> rfl
            | none =>
              refine (nx _ _ ?_).trans ?_
              · cases found with
                | true => intro h; cases h
                | false => intro _; rfl
              · cases found <;> rfl
theorem faults_eq {s : Site} {l : Sl Day} (hS : SiteF s) (hD : DaysOk s l) : faults s l = (refFrom s l false l.len 0 (begin s), refFrom s l true l.len 0 (begin s)) :=
  faults_from hS hD l.len 0 (begin s) false fineF (by omega) (begin_ok hS) (fun _ => rfl)
end Go.Sim.Cr

/-
  CreepFaults: the law answers true.
-/
namespace Go.Sim.Cr
open Go.Proofs
variable (F d : Nat)
theorem eqF4 (a b c e : Int) : ((a == a) && ((b == b) && ((c == c) && ((e == e) && true)))) = true := by simp
theorem z33 : ((3 : Int) == 3) = true := rfl
theorem l5xend (s : Site) (l : Sl Day) (e : Int) (he : (e == 0) = false) (hF : 2147483648 < F) (i3 : Int) (fu : Nat) :
    L5x0 (E F (d + 11)) F s l (fu + 1) .i64 e e i3 .i64 0 .i64 0 .i64 0 .i64 0 .i64 0 .i64 0 .i64 0 .i64 0 = some (.ret (.bool true)) := by
  have k := s13 F d (by omega)
  rw [L5x0s]
  have e2 : (e == e) = true := by simp
  simp only [he, bne, Bool.not_false, pF, pT, decide_true, e2, eqF4, k, pOut, pBool]
  cases decide (i3 < (l.len : Int)) <;> rfl
theorem l5xno (s : Site) (l : Sl Day) (hl : ShortD l) (hs : Small s F) (hF : 2147483648 < F) : ∀ r i fu, l.len = i + r → r < fu → l.len ≤ 100 → ¬ (∀ k, i ≤ k → k < l.len → DayOk s (l.el k)) →
    L5x0 (E F (d + 11)) F s l fu .i64 2 0 (i : Int) .i64 0 .i64 0 .i64 0 .i64 0 .i64 0 .i64 0 .i64 0 .i64 0 = some (.ret (.bool true)) := by
  intro r
  induction r with
  | zero => intro i fu h hf hb hn; exact (hn fun k h1 h2 => by omega).elim
  | succ r ih =>
    intro i fu h hf hb hn
    obtain ⟨fu, rfl⟩ : ∃ k, fu = k + 1 := ⟨fu - 1, by omega⟩
    rw [L5x0s]
    simp only [Int.ofNat_lt, show i < l.len by omega, decide_true, pT, z00, Int.natCast_nonneg, Int.toNat_natCast, s20 F (d + 9) s (l.el i) hs.cavs hs.cavsF, pOut, pBool, wrS (show i < 4611686018427387904 by omega)]
    by_cases hd : DayOk s (l.el i)
    · simp only [decide_eq_true hd, Bool.not_true, pF]
      exact ih (i + 1) fu (by omega) (by omega) hb fun hx => hn fun k h1 h2 => by
        rcases Nat.eq_or_lt_of_le h1 with rfl | h3
        · exact hd
        · exact hx k h3 h2
    · simp only [decide_eq_false hd, Bool.not_false, pT]
      obtain ⟨fu, rfl⟩ : ∃ k, fu = k + 1 := ⟨fu - 1, by omega⟩
      exact l5xend F d s l 2 rfl hF _ fu
theorem l5xyes (s : Site) (l : Sl Day) (hs : Small s F) (hS : SiteF s) (hD : DaysOk s l) (hb : l.len ≤ 100) (hF : 2147483648 < F) (a b : Fault) (ha : a = refFrom s l false l.len 0 (begin s)) (hb' : b = refFrom s l true l.len 0 (begin s)) : ∀ r i fu, l.len = i + r → r < fu →
    L5x0 (E F (d + 11)) F s l fu .i64 0 0 (i : Int) .i64 a.day .i64 a.rule .i64 a.of .i64 a.wth .i64 b.day .i64 b.rule .i64 b.of .i64 b.wth = some (.ret (.bool true)) := by
  have k := s13 F d (by omega)
  intro r
  induction r with
  | zero =>
    intro i fu h hf
    obtain ⟨fu, rfl⟩ : ∃ k, fu = k + 1 := ⟨fu - 1, by omega⟩
    rw [L5x0s]
    have e1 := s31 F (d + 6) s l false hS hD hb hF
    have e2 := s31 F (d + 6) s l true hS hD hb hF
    rw [← ha] at e1
    rw [← hb'] at e2
    simp only [Int.ofNat_lt, show ¬ i < l.len by omega, decide_false, pF, z00, bne, Bool.not_true, decide_true, pT, e1, e2, pOut, pAgg, pCons, pInt, pNil, eqF4, k, pBool]
  | succ r ih =>
    intro i fu h hf
    obtain ⟨fu, rfl⟩ : ∃ k, fu = k + 1 := ⟨fu - 1, by omega⟩
    rw [L5x0s]
    simp only [Int.ofNat_lt, show i < l.len by omega, decide_true, pT, z00, Int.natCast_nonneg, Int.toNat_natCast, s20 F (d + 9) s (l.el i) hs.cavs hs.cavsF, pOut, pBool, wrS (show i < 4611686018427387904 by omega), decide_eq_true (hD i (by omega)), Bool.not_true, pF]
    exact ih (i + 1) fu (by omega) (by omega)
set_option maxRecDepth 100000 in
theorem s5 (s : Site) (l : Sl Day) (hlm : l.len ≤ 1000000000000000) (hF : 1000000000000001 < F) : E F (d + 12) 5 [.agg (eSite s), sl eDay 2 l] = some (.ret (.bool true)) := by
  have k := s13 F d (by omega)
  rw [E_succ, t5]
  simp only [s11 F (d + 10), pOut, pBool]
  by_cases h0 : ShortS s
  · have hs := small_of F h0 (by omega)
    have hB : l.len < Big := by show l.len < 4611686018427387904; omega
    simp only [decide_eq_true h0, Bool.not_true, pF, s12 F (d + 10) l 12 hB (by omega), pOut, pBool]
    by_cases h2 : Few l 12
    · have h65 : l.len ≤ 65 := by have := h2.2; omega
      have e30 := s30 F (d + 1) s l hs h2.1 hB (by omega) (by omega)
      have e16 := s16 F (d + 8) s hs
      simp only [decide_eq_true h2, Bool.not_true, pF, e30, e16, pOut, pBool]
      have ec : decide ((l.len : Int) > 60) = decide (60 < l.len) := by apply b2; simp only [decide_eq_true_iff]; omega
      obtain ⟨fu, hfu⟩ : ∃ k, F = k + 1 := ⟨F - 1, by omega⟩
      rw [ec]
      by_cases h3 : 60 < l.len
      · have g := l5xend F d s l 3 rfl (by omega) 0 fu
        rw [← hfu] at g
        simp only [decide_eq_true h3, pT, pTup, pCons, pAgg, pInt, pNil]
        exact g
      · cases h4 : siteB s with
        | false =>
          have g := l5xend F d s l 2 rfl (by omega) 0 fu
          rw [← hfu] at g
          simp only [decide_eq_false h3, Bool.false_and, pF, pTup, pCons, pAgg, pInt, pNil, Bool.not_false, pT]
          exact g
        | true =>
          have hS := (siteB_iff s).1 h4
          by_cases h5 : DaysOk s l
          · have g := l5xyes F d s l hs hS h5 (by omega) (by omega) (faults s l).1 (faults s l).2 (by rw [faults_eq hS h5]) (by rw [faults_eq hS h5]) l.len 0 F (by omega) (by omega)
            simp only [decide_eq_false h3, decide_eq_true h5, Bool.and_self, pF, pT, pTup, pCons, pAgg, pInt, pNil, Bool.not_true]
            exact g
          · have g := l5xno F d s l h2.1 hs (by omega) l.len 0 F (by omega) (by omega) (by omega) (fun hx => h5 fun i hi => hx i (Nat.zero_le _) hi)
            simp only [decide_eq_false h3, decide_eq_false h5, Bool.and_false, pF, pTup, pCons, pAgg, pInt, pNil, Bool.not_true]
            exact g
    · simp only [decide_eq_false h2, Bool.not_false, pT, k, pOut, pBool]
  · simp only [decide_eq_false h0, Bool.not_false, pT, k, pOut, pBool]
end Go.Sim.Cr

/-
  CreepHolds: whether something is wrong in truth.
-/
namespace Go.Sim.Cr
open Go.Proofs
variable (F d : Nat)
section
variable (s : Site) (t : Sl Truth) (p q : Sl Int)
def pairT (i j : Nat) : Bool := decide (distI (s.cavs.el i) (s.cavs.el j) - (t.el i).rad - (t.el j).rad < s.wall)
def cavT (i : Nat) : Bool :=
  !decide ((s.cavs.el i).gate.lo ≤ p.el i ∧ p.el i ≤ (s.cavs.el i).gate.hi) || ((decide (0 < q.len) && (decide (p.el i - q.el i > (s.cavs.el i).change) || decide (q.el i - p.el i > (s.cavs.el i).change))) ||
    (decide ((t.el i).vol < (s.cavs.el i).floor) || anyF (pairT s t i) (t.len - (i + 1)) (i + 1)))
def lowFrom (x y : Int) : Nat → Nat → Int → Int
  | 0, _, a => a
  | n + 1, i, a => lowFrom x y n (i + 1) (a + (t.el i).lost * (shareOf s (s.cavs.el i) x y).lo / 1000000)
def houseT (k : Nat) : Bool := decide (lowFrom s t (s.houses.el k).x (s.houses.el k).y t.len 0 0 > (s.houses.el k).most)
def wrongT : Bool := anyF (cavT s t p q) t.len 0 || anyF (houseT s t) s.houses.len 0
/-- What is true is small enough to be summed up. -/
structure FitT (s : Site) (t : Sl Truth) (p q : Sl Int) : Prop where
  len : t.len = s.cavs.len
  plen : p.len = s.cavs.len
  qlen : 0 < q.len → q.len = s.cavs.len
  rad : ∀ i, i < t.len → 0 ≤ (t.el i).rad ∧ (t.el i).rad ≤ 1000000
  lost : ∀ i, i < t.len → 0 ≤ (t.el i).lost ∧ (t.el i).lost ≤ 1000000000
  p : ∀ i, i < t.len → 0 ≤ p.el i ∧ p.el i ≤ 50000
  q : ∀ i, i < q.len → 0 ≤ q.el i ∧ q.el i ≤ 50000
variable {s t p q}
theorem l33x1 (hS : SiteF s) (hT : FitT s t p q) (hF : 2147483648 < F) (m0 i : Nat) (hi : i < t.len) (R : Bool) (hO : L33x0 (E F (d + 2)) F s t p q m0 ((i + 1 : Nat) : Int) = some (.ret (.bool R))) : ∀ n j fu, t.len = j + n → n < fu →
    L33x1 (E F (d + 2)) F s t p q m0 fu (i : Int) (j : Int) = some (.ret (.bool (anyF (pairT s t i) n j || R))) := by
  have h5 := hS.cavs5
  have hl := hT.len
  intro n
  induction n with
  | zero =>
    intro j fu h hf
    obtain ⟨fu, rfl⟩ : ∃ k, fu = k + 1 := ⟨fu - 1, by omega⟩
    rw [L33x1s]
    simp only [Int.ofNat_lt, show ¬ j < t.len by omega, decide_false, pF, wrS (show i < 4611686018427387904 by omega), hO, anyF, Bool.false_or]
  | succ n ih =>
    intro j fu h hf
    obtain ⟨fu, rfl⟩ : ∃ k, fu = k + 1 := ⟨fu - 1, by omega⟩
    have hj : j < t.len := by omega
    have pi := (hS.cav i (by omega)).1
    have pj := (hS.cav j (by omega)).1
    have hd := distI_le _ _ pi pj
    have r1 := hT.rad i hi
    have r2 := hT.rad j hj
    rw [L33x1s]
    simp only [Int.ofNat_lt, hj, hi, decide_true, pT, Int.natCast_nonneg, Int.toNat_natCast, s71 F d s i j (by omega) (by omega) pi pj hF, pOut, pInt, wr (show _ ∧ distI (s.cavs.el i) (s.cavs.el j) - (t.el i).rad ≤ _ by omega), wr (show _ ∧ distI (s.cavs.el i) (s.cavs.el j) - (t.el i).rad - (t.el j).rad ≤ _ by omega),
      wrS (show j < 4611686018427387904 by omega), ih (j + 1) fu (by omega) (by omega), anyF]
    show (bif pairT s t i j then _ else _) = _
    cases pairT s t i j <;> rfl
theorem l33x3 (hS : SiteF s) (hT : FitT s t p q) (hF : 8 < F) (m0 k : Nat) (hk : k < s.houses.len) (R : Bool) (hO : L33x2 (E F (d + 2)) F s t p q m0 ((k + 1 : Nat) : Int) = some (.ret (.bool R))) : ∀ n i fu (a : Int), t.len = i + n → n < fu → 0 ≤ a → a ≤ 1000000000 * (i : Int) →
    L33x3 (E F (d + 2)) F s t p q m0 fu (k : Int) a (i : Int) (s.houses.el k).x (s.houses.el k).y (s.houses.el k).most = some (.ret (.bool (decide (lowFrom s t (s.houses.el k).x (s.houses.el k).y n i a > (s.houses.el k).most) || R))) := by
  have h5 := hS.cavs5
  have hh := hS.houses5
  have hl := hT.len
  intro n
  induction n with
  | zero =>
    intro i fu a h hf h0 h1
    obtain ⟨fu, rfl⟩ : ∃ k, fu = k + 1 := ⟨fu - 1, by omega⟩
    rw [L33x3s]
    simp only [Int.ofNat_lt, show ¬ i < t.len by omega, decide_false, pF, wrS (show k < 4611686018427387904 by omega), hO, lowFrom]
    exact cOr _ _
  | succ n ih =>
    intro i fu a h hf h0 h1
    obtain ⟨fu, rfl⟩ : ∃ k, fu = k + 1 := ⟨fu - 1, by omega⟩
    have hi : i < t.len := by omega
    have pi := (hS.cav i (by omega)).1
    have e29 := s29 F (d + 1) s i (s.houses.el k).x (s.houses.el k).y hS.away (by omega) pi (hS.house k hk).1 (by have := hS.rings8; show s.rings.len < 4611686018427387904; omega) (by have := hS.rings8; omega)
    have hlo := hT.lost i hi
    have hq := shareOf_ok hS (s.cavs.el i) (s.houses.el k).x (s.houses.el k).y
    rw [L33x3s]
    simp only [Int.ofNat_lt, hi, decide_true, pT, e29, wrS (show i < 4611686018427387904 by omega)]
    cases hr : ringOf s (s.cavs.el i) (s.houses.el k).x (s.houses.el k).y with
    | none =>
      have hz : shareOf s (s.cavs.el i) (s.houses.el k).x (s.houses.el k).y = zSpan := by show (ringOf s (s.cavs.el i) _ _).getD zSpan = _; rw [hr]; rfl
      simp only [pOut, pTup, pCons, pAgg, pInt, pNil, pBool, pF, lowFrom, hz, Int.mul_zero, Int.zero_ediv, Int.add_zero]
      exact ih (i + 1) fu a (by omega) (by omega) h0 (by omega)
    | some sh =>
      have hz : shareOf s (s.cavs.el i) (s.houses.el k).x (s.houses.el k).y = sh := by show (ringOf s (s.cavs.el i) _ _).getD zSpan = _; rw [hr]; rfl
      rw [hz] at hq
      have hd0 := div_ok hlo (show 0 ≤ sh.lo ∧ sh.lo ≤ 1000000 by omega) (show (0 : Int) ≤ 0 ∧ (0 : Int) ≤ 999999 by omega)
      rw [Int.add_zero] at hd0
      simp only [pOut, pTup, pCons, pAgg, pInt, pNil, pBool, pT, Int.natCast_nonneg, decide_true, Int.toNat_natCast, lowW hlo (show 0 ≤ sh.lo ∧ sh.lo ≤ 1000000 by omega) (show 0 ≤ a ∧ a ≤ 1000000000000 by omega), lowFrom, hz]
      exact ih (i + 1) fu _ (by omega) (by omega) (by omega) (by omega)
theorem l33x2 (hS : SiteF s) (hT : FitT s t p q) (hF : 8 < F) : ∀ n k fu, s.houses.len = k + n → n < fu →
    L33x2 (E F (d + 2)) F s t p q fu (k : Int) = some (.ret (.bool (anyF (houseT s t) n k))) := by
  have hh := hS.houses5
  have h5 := hS.cavs5
  have hl := hT.len
  intro n
  induction n with
  | zero =>
    intro k fu h hf
    obtain ⟨fu, rfl⟩ : ∃ k, fu = k + 1 := ⟨fu - 1, by omega⟩
    rw [L33x2s]
    simp only [Int.ofNat_lt, show ¬ k < s.houses.len by omega, decide_false, pF, anyF]
  | succ n ih =>
    intro k fu h hf
    obtain ⟨fu, rfl⟩ : ∃ k, fu = k + 1 := ⟨fu - 1, by omega⟩
    rw [L33x2s]
    simp only [Int.ofNat_lt, show k < s.houses.len by omega, decide_true, pT, Int.natCast_nonneg, Int.toNat_natCast, anyF]
    exact l33x3 F d hS hT hF fu k (by omega) _ (ih (k + 1) fu (by omega) (by omega)) t.len 0 F 0 (by omega) (by omega) (by omega) (by omega)
theorem l33x0 (hS : SiteF s) (hT : FitT s t p q) (hF : 2147483648 < F) : ∀ n i fu, t.len = i + n → n < fu →
    L33x0 (E F (d + 2)) F s t p q fu (i : Int) = some (.ret (.bool (anyF (cavT s t p q) n i || anyF (houseT s t) s.houses.len 0))) := by
  have hh := hS.houses5
  have h5 := hS.cavs5
  have hl := hT.len
  have hpl := hT.plen
  intro n
  induction n with
  | zero =>
    intro i fu h hf
    obtain ⟨fu, rfl⟩ : ∃ k, fu = k + 1 := ⟨fu - 1, by omega⟩
    rw [L33x0s]
    simp only [Int.ofNat_lt, show ¬ i < t.len by omega, decide_false, pF, anyF, Bool.false_or]
    exact l33x2 F d hS hT (by omega) s.houses.len 0 F (by omega) (by omega)
  | succ n ih =>
    intro i fu h hf
    obtain ⟨fu, rfl⟩ : ∃ k, fu = k + 1 := ⟨fu - 1, by omega⟩
    have hi : i < t.len := by omega
    have hp := hT.p i hi
    have e1 := l33x1 F d hS hT hF fu i hi _ (ih (i + 1) fu (by omega) (by omega)) (t.len - (i + 1)) (i + 1) F (by omega) (by omega)
    rw [L33x0s]
    simp only [Int.ofNat_lt, hi, show i < s.cavs.len by omega, show i < p.len by omega, decide_true, pT, Int.natCast_nonneg, Int.toNat_natCast, s28 F (d + 1), pOut, pBool, wrS (show i < 4611686018427387904 by omega), e1, anyF, cavT]
    cases decide ((s.cavs.el i).gate.lo ≤ p.el i ∧ p.el i ≤ (s.cavs.el i).gate.hi) with
    | false => simp only [Bool.not_false, pT, Bool.true_or]
    | true =>
      simp only [Bool.not_true, pF, Bool.false_or]
      by_cases hq : 0 < q.len
      · have hql := hT.qlen hq
        have hqi := hT.q i (by omega)
        have w1 : IntKind.i64.wrap (p.el i - q.el i) = p.el i - q.el i := wr (by omega)
        have w2 : IntKind.i64.wrap (q.el i - p.el i) = q.el i - p.el i := wr (by omega)
        have z : decide ((q.len : Int) > 0) = true := decide_eq_true (by omega)
        simp only [z, pT, decide_eq_true hq, Bool.true_and, show i < q.len by omega, decide_true, w1, w2]
        cases decide (p.el i - q.el i > (s.cavs.el i).change) with
        | true => simp only [pT, Bool.true_or]
        | false =>
          simp only [pF, Bool.false_or]
          cases decide (q.el i - p.el i > (s.cavs.el i).change) with
          | true => simp only [pT, Bool.true_or]
          | false =>
            simp only [pF, Bool.false_or]
            cases decide ((t.el i).vol < (s.cavs.el i).floor) with
            | true => simp only [pT, Bool.true_or]
            | false => simp only [pF, Bool.false_or, Bool.or_assoc]
      · have z : decide ((q.len : Int) > 0) = false := decide_eq_false (by omega)
        simp only [z, pF, decide_eq_false hq, Bool.false_and, Bool.false_or]
        cases decide ((t.el i).vol < (s.cavs.el i).floor) with
        | true => simp only [pT, Bool.true_or]
        | false => simp only [pF, Bool.false_or, Bool.or_assoc]
theorem s33 (hS : SiteF s) (hT : FitT s t p q) (hF : 2147483648 < F) : E F (d + 3) 33 [.agg (eSite s), sl eTruth 3 t, sl eInt 1 p, sl eInt 1 q] = some (.ret (.bool (wrongT s t p q))) := by
  have h5 := hS.cavs5
  have hl := hT.len
  rw [E_succ, t33]
  exact l33x0 F d hS hT hF t.len 0 F (by omega) (by omega)
end
end Go.Sim.Cr

/-
  CreepHolds: what is wrong in truth, and the marks of a day.
-/
namespace Go.Sim.Cr
open Go.Proofs
theorem fR_of {n : Int} {is : Mark → Bool} : ∀ {mss : List (Int × List Mark)}, (∃ p ∈ mss, ∃ m ∈ p.2, is m = true) → ∃ f, faultR n is mss = some f := by
  intro mss
  induction mss with
  | nil => rintro ⟨p, hp, _⟩; cases hp
  | cons a mss ih =>
    obtain ⟨k, ms⟩ := a
    rintro ⟨p, hp, m, hm, h⟩
    unfold faultR
    cases e : ms.find? is with
    | some m => exact ⟨_, rfl⟩
    | none =>
      rcases List.mem_cons.1 hp with rfl | hp
      · exact absurd h (List.find?_eq_none.1 e m hm)
      · exact ih ⟨p, hp, m, hm, h⟩
theorem fR_inv {n : Int} {is : Mark → Bool} {f : Fault} : ∀ {mss : List (Int × List Mark)}, faultR n is mss = some f → f.day = n ∧ ∃ p ∈ mss, f.rule = p.1 ∧ ∃ m ∈ p.2, is m = true := by
  intro mss
  induction mss with
  | nil => intro h; cases h
  | cons a mss ih =>
    obtain ⟨k, ms⟩ := a
    intro h
    unfold faultR at h
    cases e : ms.find? is with
    | some m =>
      rw [e] at h
      injection h with h
      subst h
      exact ⟨rfl, _, List.mem_cons_self .., rfl, m, List.mem_of_find?_eq_some e, List.find?_some e⟩
    | none =>
      rw [e] at h
      obtain ⟨h1, p, hp, h2⟩ := ih h
      exact ⟨h1, p, List.mem_cons_of_mem _ hp, h2⟩
theorem rule_marks {s : Site} {y : Day} {b : Option (Sl Span)} {m : Option (Sl Stt)} : ∀ p ∈ marksOf s y b m, 2 ≤ p.1 ∧ p.1 ≤ 7 := by
  intro p hp
  simp only [marksOf, List.mem_cons, List.mem_nil_iff, or_false] at hp
  rcases hp with rfl | rfl | rfl | rfl | rfl | rfl <;> simp
theorem mem_rng {j n : Nat} {f : Nat → Mark} (h : j < n) : f j ∈ (List.range' 0 n).map f := List.mem_map_of_mem (by rw [List.mem_range']; exact ⟨j, by omega, by omega⟩)
theorem of_rng {n : Nat} {f : Nat → Mark} {x : Mark} (h : x ∈ (List.range' 0 n).map f) : ∃ j, j < n ∧ x = f j := by
  obtain ⟨j, hj, rfl⟩ := List.mem_map.1 h
  rw [List.mem_range'] at hj
  obtain ⟨i, h1, rfl⟩ := hj
  exact ⟨_, by omega, rfl⟩
theorem mem_pairs {s : Site} {m : Sl Stt} {x : Mark} : ∀ k i, x ∈ pairsM s m k i ↔ ∃ a b, i ≤ a ∧ a < b ∧ b < i + k ∧ x = thinM s m a b := by
  intro k
  induction k with
  | zero => intro i; simp only [pairsM, List.not_mem_nil, false_iff]; rintro ⟨a, b, h1, h2, h3, _⟩; omega
  | succ k ih =>
    intro i
    rw [pairsM, List.mem_append, ih]
    constructor
    · rintro (h | ⟨a, b, h1, h2, h3, h4⟩)
      · obtain ⟨j, hj, rfl⟩ := List.mem_map.1 h
        rw [List.mem_range'] at hj
        obtain ⟨e, h1, rfl⟩ := hj
        exact ⟨i, _, Nat.le_refl _, by omega, by omega, rfl⟩
      · exact ⟨a, b, by omega, h2, by omega, h4⟩
    · rintro ⟨a, b, h1, h2, h3, rfl⟩
      rcases Nat.eq_or_lt_of_le h1 with rfl | h4
      · exact .inl (List.mem_map_of_mem (by rw [List.mem_range']; exact ⟨b - (i + 1), by omega, by omega⟩))
      · exact .inr ⟨a, b, by omega, h2, by omega, rfl⟩
section
variable {s : Site} {y : Day} {b : Option (Sl Span)} {m : Sl Stt} {t : Sl Truth} {p q : Sl Int}
/-- The truth of a day, and what is told of it. -/
structure Tr (s : Site) (y : Day) (b : Option (Sl Span)) (m : Sl Stt) (t : Sl Truth) (p q : Sl Int) : Prop where
  tl : t.len = s.cavs.len
  ml : m.len = s.cavs.len
  inn : ∀ j, j < t.len → Within (t.el j) (m.el j)
  pin : ∀ j, j < t.len → (y.press.el j).lo ≤ p.el j ∧ p.el j ≤ (y.press.el j).hi
  bef0 : b = none → q.len = 0
  bef1 : ∀ x, b = some x → q.len = s.cavs.len ∧ ∀ j, j < t.len → (x.el j).lo ≤ q.el j ∧ q.el j ≤ (x.el j).hi
theorem low_in (hS : SiteF s) (hm : ∀ j, j < m.len → SttOk (m.el j)) (hT : Tr s y b m t p q) (x z : Int) : ∀ n i a c e, t.len = i + n → a ≤ c → c ≤ e → (sunkFrom s m x z n i a e).lo ≤ lowFrom s t x z n i c ∧ lowFrom s t x z n i c ≤ (sunkFrom s m x z n i a e).hi := by
  intro n
  induction n with
  | zero => intro i a c e _ h1 h2; exact ⟨h1, h2⟩
  | succ n ih =>
    intro i a c e h h1 h2
    have hq := shareOf_ok hS (s.cavs.el i) x z
    have hl := hT.tl
    have hml := hT.ml
    have hw := (hT.inn i (by omega)).lost
    have hv := (hm i (by omega)).2.2
    have u1 := mulT (lo := (t.el i).lost) (sh := (shareOf s (s.cavs.el i) x z).lo) (a := (m.el i).lost.lo) (b := (shareOf s (s.cavs.el i) x z).lo) (by omega) (by omega)
    have u2 := mulT' (lo := (m.el i).lost.hi) (sh := (shareOf s (s.cavs.el i) x z).hi) (a := (t.el i).lost) (b := (shareOf s (s.cavs.el i) x z).lo) (by omega) (by omega)
    exact ih (i + 1) _ _ _ (by omega) (by omega) (by omega)
theorem low_in' (hS : SiteF s) (hm : ∀ j, j < m.len → SttOk (m.el j)) (hT : Tr s y b m t p q) (x z : Int) : (sunk s m x z).lo ≤ lowFrom s t x z t.len 0 0 ∧ lowFrom s t x z t.len 0 0 ≤ (sunk s m x z).hi := by
  have := low_in hS hm hT x z t.len 0 0 0 0 (by omega) (Int.le_refl _) (Int.le_refl _)
  rw [show t.len = m.len from hT.tl.trans hT.ml.symm] at this ⊢
  exact this
/-- What is wrong is possible. -/
theorem wrong_may (hS : SiteF s) (hM : StatesOk s m) (hT : Tr s y b m t p q) (h : wrongT s t p q = true) : ∃ pr ∈ marksOf s y b (some m), ∃ k ∈ pr.2, k.possible = true := by
  have hl := hT.tl
  have hml := hT.ml
  unfold wrongT at h
  rw [Bool.or_eq_true, anyF_eq, anyF_eq] at h
  rcases h with ⟨i, _, hi, h⟩ | ⟨k, _, hk, h⟩
  · have hw := hT.inn i (by omega)
    have hp := hT.pin i (by omega)
    have h0 := hw.rad
    have h1 := hw.vol
    unfold cavT at h
    simp only [Bool.or_eq_true, Bool.and_eq_true, Bool.not_eq_true', decide_eq_true_iff, decide_eq_false_iff_not, anyF_eq] at h
    rcases h with h | ⟨hq, h⟩ | h | ⟨j, hj1, hj2, h⟩
    · refine ⟨(3, (List.range' 0 s.cavs.len).map (gateM s y)), by simp [marksOf], gateM s y i, mem_rng (by omega), ?_⟩
      simp only [gateM, Bool.or_eq_true, decide_eq_true_iff]
      omega
    · cases hb : b with
      | none => have := hT.bef0 hb; omega
      | some x =>
        obtain ⟨g1, g2⟩ := hT.bef1 x hb
        have := g2 i (by omega)
        refine ⟨(4, fastMs s y (some x)), by simp [marksOf], fastM s y x i, mem_rng (f := fastM s y x) (by omega), ?_⟩
        show decide (maxI _ _ > _) = true
        rw [maxI_gt]
        simp only [Bool.or_eq_true, decide_eq_true_iff]
        omega
    · refine ⟨(5, smallMs s (some m)), by simp [marksOf], smallM s m i, mem_rng (f := smallM s m) (by omega), ?_⟩
      simp only [smallM, decide_eq_true_iff]
      omega
    · refine ⟨(6, thinMs s (some m)), by simp [marksOf], thinM s m i j, (mem_pairs _ _).2 ⟨i, j, by omega, by omega, by omega, rfl⟩, ?_⟩
      have h2 := (hT.inn j (by omega)).rad
      simp only [pairT, decide_eq_true_iff] at h
      simp only [thinM, decide_eq_true_iff]
      omega
  · refine ⟨(7, sunkMs s (some m)), by simp [marksOf], sunkM s m k, mem_rng (f := sunkM s m) (by omega), ?_⟩
    simp only [houseT, decide_eq_true_iff] at h
    have := low_in' hS hM.2 hT (s.houses.el k).x (s.houses.el k).y
    simp only [sunkM, decide_eq_true_iff]
    omega
/-- What is certain is wrong. -/
theorem wrong_sure (hS : SiteF s) (hM : StatesOk s m) (hT : Tr s y b m t p q) (h : ∃ pr ∈ marksOf s y b (some m), ∃ k ∈ pr.2, k.certain = true) : wrongT s t p q = true := by
  have hl := hT.tl
  have hml := hT.ml
  obtain ⟨pr, hpr, k, hk, h⟩ := h
  unfold wrongT
  rw [Bool.or_eq_true, anyF_eq, anyF_eq]
  have cav : ∀ i, i < s.cavs.len → cavT s t p q i = true → (∃ k, 0 ≤ k ∧ k < 0 + t.len ∧ cavT s t p q k = true) ∨ ∃ k, 0 ≤ k ∧ k < 0 + s.houses.len ∧ houseT s t k = true := fun i hi h => .inl ⟨i, by omega, by omega, h⟩
  simp only [marksOf, List.mem_cons, List.mem_nil_iff, or_false] at hpr
  rcases hpr with rfl | rfl | rfl | rfl | rfl | rfl
  · obtain ⟨j, hj, rfl⟩ := of_rng hk
    simp [outM] at h
  · obtain ⟨j, hj, rfl⟩ := of_rng hk
    have hp := hT.pin j (by omega)
    simp only [gateM, Bool.or_eq_true, decide_eq_true_iff] at h
    refine cav j hj ?_
    unfold cavT
    rw [Bool.or_eq_true]
    left
    simp only [Bool.not_eq_true', decide_eq_false_iff_not]
    omega
  · cases hb : b with
    | none => rw [hb] at hk; cases hk
    | some x =>
      rw [hb] at hk
      obtain ⟨j, hj, rfl⟩ := of_rng hk
      obtain ⟨g1, g2⟩ := hT.bef1 x hb
      have := g2 j (by omega)
      have hp := hT.pin j (by omega)
      refine cav j hj ?_
      unfold cavT
      simp only [Bool.or_eq_true, Bool.and_eq_true, decide_eq_true_iff]
      right; left
      refine ⟨by omega, ?_⟩
      change decide (maxI _ _ > _) = true at h
      rw [maxI_gt] at h
      simp only [Bool.or_eq_true, decide_eq_true_iff] at h
      omega
  · obtain ⟨j, hj, rfl⟩ := of_rng hk
    have hw := (hT.inn j (by omega)).vol
    refine cav j hj ?_
    unfold cavT
    simp only [Bool.or_eq_true, decide_eq_true_iff]
    simp only [smallM, decide_eq_true_iff] at h
    right; right; left
    omega
  · obtain ⟨i, j, h1, h2, h3, rfl⟩ := (mem_pairs _ _).1 hk
    have w1 := (hT.inn i (by omega)).rad
    have w2 := (hT.inn j (by omega)).rad
    refine cav i (by omega) ?_
    unfold cavT
    simp only [Bool.or_eq_true, decide_eq_true_iff, anyF_eq]
    simp only [thinM, decide_eq_true_iff] at h
    right; right; right
    refine ⟨j, by omega, by omega, ?_⟩
    simp only [pairT, decide_eq_true_iff]
    omega
  · obtain ⟨j, hj, rfl⟩ := of_rng hk
    have := low_in' hS hM.2 hT (s.houses.el j).x (s.houses.el j).y
    right
    refine ⟨j, by omega, by omega, ?_⟩
    simp only [sunkM, decide_eq_true_iff] at h
    simp only [houseT, decide_eq_true_iff]
    omega
end
/-! ### The first faults, day by day -/
theorem ref_step (s : Site) (l : Sl Day) (c : Bool) (r i : Nat) (now : Sl Stt) : refFrom s l c (r + 1) i now = bif farDay s (l.el i) && c then fineF else
    match faultR (i : Int) (isM c) (marksOf s (l.el i) (prevOf l i) (some (moved s now (l.el i)))) with
    | some f => f
    | none => refFrom s l c r (i + 1) (moved s now (l.el i)) := by
  rw [refFrom, marks_parts, faultR_append]
  cases farDay s (l.el i) && c with
  | true => rfl
  | false =>
    simp only [cond_false]
    cases faultR (i : Int) (isM c) (earlyMs s (l.el i) (prevOf l i)) <;> rfl
theorem ref_day (s : Site) (l : Sl Day) (c : Bool) : ∀ r i now, refFrom s l c r i now = fineF ∨ ((i : Int) ≤ (refFrom s l c r i now).day ∧ 2 ≤ (refFrom s l c r i now).rule) := by
  intro r
  induction r with
  | zero => intro i now; exact .inl rfl
  | succ r ih =>
    intro i now
    rw [ref_step]
    cases farDay s (l.el i) && c with
    | true => exact .inl rfl
    | false =>
      simp only [cond_false]
      cases e : faultR (i : Int) (isM c) (marksOf s (l.el i) (prevOf l i) (some (moved s now (l.el i)))) with
      | some f =>
        obtain ⟨h1, p, hp, h2, _⟩ := fR_inv e
        have := rule_marks p hp
        exact .inr ⟨by simp only; omega, by simp only; omega⟩
      | none =>
        rcases ih (i + 1) (moved s now (l.el i)) with h | ⟨h1, h2⟩
        · exact .inl h
        · exact .inr ⟨by simp only; omega, h2⟩
theorem marks_sure {s : Site} {l : Sl Day} {i : Nat} {now : Sl Stt} (hS : SiteF s) (hD : DaysOk s l) (hi : i < l.len) (hN : StatesOk s now) (hf : farDay s (l.el i) = false) : Sure (marksOf s (l.el i) (prevOf l i) (some (moved s now (l.el i)))) := by
  intro p hp
  rw [marks_parts, List.mem_append] at hp
  rcases hp with hp | hp
  · exact early_sure (hD i hi) (prev_ok hD (by omega)) p hp
  · exact late_sure hS (moved_ok hS hN (hD i hi) hf) p hp
/-- A certain fault is not ahead of the first possible one. -/
theorem ref_ord {s : Site} {l : Sl Day} (hS : SiteF s) (hD : DaysOk s l) : ∀ r i now, l.len = i + r → StatesOk s now → refFrom s l true r i now = fineF ∨ (refFrom s l false r i now ≠ fineF ∧ (refFrom s l false r i now).day ≤ (refFrom s l true r i now).day) := by
  intro r
  induction r with
  | zero => intro i now _ _; exact .inl rfl
  | succ r ih =>
    intro i now h hN
    rcases ref_day s l true (r + 1) i now with hd | ⟨hd1, hd2⟩
    · exact .inl hd
    right
    rw [ref_step s l true, Bool.and_true] at hd1 hd2 ⊢
    rw [ref_step s l false, Bool.and_false, cond_false]
    cases hf : farDay s (l.el i) with
    | true => rw [hf, cond_true] at hd2; simp at hd2
    | false =>
      rw [hf, cond_false] at hd1 hd2
      rw [cond_false]
      have hsure := marks_sure hS hD (show i < l.len by omega) hN hf
      cases e0 : faultR (i : Int) (isM false) (marksOf s (l.el i) (prevOf l i) (some (moved s now (l.el i)))) with
      | some f =>
        obtain ⟨h1, p, hp, h2, _⟩ := fR_inv e0
        have := rule_marks p hp
        refine ⟨fun hx => ?_, by simp only; omega⟩
        simp only at hx
        rw [hx] at h2
        simp at h2
        omega
      | none =>
        cases e1 : faultR (i : Int) (isM true) (marksOf s (l.el i) (prevOf l i) (some (moved s now (l.el i)))) with
        | some f =>
          obtain ⟨f', hf'⟩ := sure_some hsure ⟨f, e1⟩
          rw [e0] at hf'; cases hf'
        | none =>
          rw [e1] at hd2
          simp only at hd2
          rcases ih (i + 1) _ (by omega) (moved_ok hS hN (hD i (by omega)) hf) with h3 | h3
          · rw [h3] at hd2; simp at hd2
          · exact h3
end Go.Sim.Cr
