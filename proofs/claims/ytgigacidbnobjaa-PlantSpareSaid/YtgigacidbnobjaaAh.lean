import Derived.Test.YtgigacidbnobjaaAg
import Derived.KernelRfl
import Derived.Test.YtgigacidbnobjaaRows
set_option linter.unusedVariables false
set_option linter.unusedSimpArgs false
set_option linter.unusedSectionVars false
set_option maxRecDepth 100000
namespace Go.Sim.Pl
open Go.Proofs
noncomputable def L6x0 (env : Env) (F : Nat) (l : Sl Mach) (r : Sl Bool) (f : Int) (s : Span) (a : Int) (x : Int) (fu : Nat) (i0 : Int) : Option Out := atLoop Try.prog (cfg F) env 6 [.r, .r, .r, .l, .r, .l, .r, .l, .r, .d] [] fu { tm := tmL 186 0 [(0, (sl eMach 10 l)), (1, (sl eBool 1 r)), (2, (i64 f)), (9, (.optr 0 0 0)), (15, (i64 i0))], hp := [(.box 48 (eSpan s) true)] }
noncomputable def L6x1 (env : Env) (F : Nat) (l : Sl Mach) (r : Sl Bool) (f : Int) (s : Span) (a : Int) (x : Int) (fu : Nat) (q0 : IntKind) (i1 : Int) (i2 : Int) : Option Out := atLoop Try.prog (cfg F) env 6 [.r, .r, .r, .r, .r, .r, .r, .l, .r, .d] [] fu { tm := tmL 186 0 [(0, (sl eMach 10 l)), (1, (sl eBool 1 r)), (2, (i64 f)), (9, (.optr 0 0 0)), (13, (.int q0 i1)), (24, (i64 i2))], hp := [(.box 48 (eSpan s) true)] }
theorem t6 (env : Env) (F : Nat) (l : Sl Mach) (r : Sl Bool) (f : Int) (s : Span) (a : Int) (x : Int) : (evFun Try.prog (cfg F) env 6 [(sl eMach 10 l), (sl eBool 1 r), (i64 f), (.agg (eSpan s)), (i64 a), (i64 x)]) = (tkOut (env.pf 15 [(sl eMach 10 l)]) none (fun v8 => (tkBool v8 none fun b9 => (bif (!b9) then (tkOut (env.pf 16 []) none (fun v10 => (tkBool v10 none fun b11 => some (.ret (.bool b11)))) (fun p10 => (tkIfc p10 none fun t11 x12 => (bif (flatP (.iface t11 x12)) then some (.pan (.iface t11 x12)) else none)))) else (bif (decide ((((Sl.len r) : Nat) : Int) > (20 : Int))) then (tkOut (env.pf 16 []) none (fun v10 => (tkBool v10 none fun b11 => some (.ret (.bool b11)))) (fun p10 => (tkIfc p10 none fun t11 x12 => (bif (flatP (.iface t11 x12)) then some (.pan (.iface t11 x12)) else none)))) else (tkOut (env.pf 18 [(sl eMach 10 l), (sl eBool 1 r), (i64 f)]) none (fun v10 => (tkBool v10 none fun b11 => (bif (!b11) then (tkOut (env.pf 16 []) none (fun v12 => (tkBool v12 none fun b13 => some (.ret (.bool b13)))) (fun p12 => (tkIfc p12 none fun t13 x14 => (bif (flatP (.iface t13 x14)) then some (.pan (.iface t13 x14)) else none)))) else (tkOut (env.pf 27 [(.agg (eSpan s))]) none (fun v12 => (tkBool v12 none fun b13 => (bif (!b13) then (tkOut (env.pf 16 []) none (fun v14 => (tkBool v14 none fun b15 => some (.ret (.bool b15)))) (fun p14 => (tkIfc p14 none fun t15 x16 => (bif (flatP (.iface t15 x16)) then some (.pan (.iface t15 x16)) else none)))) else (bif (decide ((IntKind.wrap .i64 ((Span.hi s) - (Span.lo s))) > (300 : Int))) then (tkOut (env.pf 16 []) none (fun v14 => (tkBool v14 none fun b15 => some (.ret (.bool b15)))) (fun p14 => (tkIfc p14 none fun t15 x16 => (bif (flatP (.iface t15 x16)) then some (.pan (.iface t15 x16)) else none)))) else (bif (decide (a < (0 : Int))) then (tkOut (env.pf 16 []) none (fun v14 => (tkBool v14 none fun b15 => some (.ret (.bool b15)))) (fun p14 => (tkIfc p14 none fun t15 x16 => (bif (flatP (.iface t15 x16)) then some (.pan (.iface t15 x16)) else none)))) else (bif (decide (a ≥ (((Sl.len l) : Nat) : Int))) then (tkOut (env.pf 16 []) none (fun v14 => (tkBool v14 none fun b15 => some (.ret (.bool b15)))) (fun p14 => (tkIfc p14 none fun t15 x16 => (bif (flatP (.iface t15 x16)) then some (.pan (.iface t15 x16)) else none)))) else (bif (decide ((0 : Int) ≤ a)) then (bif (decide (a < (((Sl.len r) : Nat) : Int))) then (bif (!(Sl.el r (Int.toNat a))) then (tkOut (env.pf 16 []) none (fun v14 => (tkBool v14 none fun b15 => some (.ret (.bool b15)))) (fun p14 => (tkIfc p14 none fun t15 x16 => (bif (flatP (.iface t15 x16)) then some (.pan (.iface t15 x16)) else none)))) else (bif (decide (x < (Span.lo s))) then (tkOut (env.pf 16 []) none (fun v14 => (tkBool v14 none fun b15 => some (.ret (.bool b15)))) (fun p14 => (tkIfc p14 none fun t15 x16 => (bif (flatP (.iface t15 x16)) then some (.pan (.iface t15 x16)) else none)))) else (bif (decide (x > (Span.hi s))) then (tkOut (env.pf 16 []) none (fun v14 => (tkBool v14 none fun b15 => some (.ret (.bool b15)))) (fun p14 => (tkIfc p14 none fun t15 x16 => (bif (flatP (.iface t15 x16)) then some (.pan (.iface t15 x16)) else none)))) else (tkOut (env.pf 26 [(sl eMach 10 l), (sl eBool 1 r), (i64 f), (.agg (eSpan s))]) none (fun v14 => (tkTup v14 none fun l15 => (tkCons l15 none fun v16 r17 => (tkInt v16 none fun q18 n19 => (tkCons r17 none fun v20 r21 => (tkInt v20 none fun q22 n23 => (tkNil r21 none ((bif (decide (q22 = .i64)) then (bif (n23 != (0 : Int)) then (bif (decide (q22 = .i64)) then (bif (n23 != (5 : Int)) then some (.ret (.bool false)) else (L6x0 env F l r f s a x F (Span.lo s))) else none) else (bif (decide (q18 = .i64)) then (bif (decide (n19 < (-(1 : Int)))) then some (.ret (.bool false)) else (bif (decide (q18 = .i64)) then (bif (decide (n19 ≥ (((Sl.len l) : Nat) : Int))) then some (.ret (.bool false)) else (bif (decide (q18 = .i64)) then (bif (decide (n19 ≥ (0 : Int))) then (bif (decide ((0 : Int) ≤ n19)) then (bif (decide (n19 < (((Sl.len r) : Nat) : Int))) then (bif (!(Sl.el r (Int.toNat n19))) then some (.ret (.bool false)) else (bif (decide (q18 = .i64)) then (bif (decide (n19 < (0 : Int))) then (tkOut (env.pf 30 [(sl eBool 1 r), (i64 a)]) none (fun v24 => (tkRow v24 none fun nl25 n26 wd27 g28 => (tkOut (env.pf 17 [(sl eMach 10 l), (.row nl25 n26 wd27 g28), (i64 f), (i64 x)]) none (fun v29 => (tkTup v29 none fun l30 => (tkCons l30 none fun v31 r32 => (tkRow v31 none fun nl33 n34 wd35 g36 => (tkCons r32 none fun v37 r38 => (tkRow v37 none fun nl39 n40 wd41 g42 => (tkCons r38 none fun v43 r44 => (tkInt v43 none fun q45 n46 => (tkCons r44 none fun v47 r48 => (tkInt v47 none fun q49 n50 => (tkNil r48 none ((bif (decide (q49 = .i64)) then (bif (n50 != (0 : Int)) then some (.ret (.bool false)) else (bif (decide (q18 = .i64)) then (bif (decide (n19 < (0 : Int))) then (tkOut (env.pf 16 []) none (fun v51 => (tkBool v51 none fun b52 => some (.ret (.bool b52)))) (fun p51 => (tkIfc p51 none fun t52 x53 => (bif (flatP (.iface t52 x53)) then some (.pan (.iface t52 x53)) else none)))) else (L6x1 env F l r f s a x F q18 n19 (Span.lo s))) else none)) else none))))))))))))) (fun p29 => (tkIfc p29 none fun t30 x31 => (bif (flatP (.iface t30 x31)) then some (.pan (.iface t30 x31)) else none)))))) (fun p24 => (tkIfc p24 none fun t25 x26 => (bif (flatP (.iface t25 x26)) then some (.pan (.iface t25 x26)) else none)))) else (bif (decide (.i64 = q18)) then (bif (decide (a < n19)) then (tkOut (env.pf 30 [(sl eBool 1 r), (i64 a)]) none (fun v24 => (tkRow v24 none fun nl25 n26 wd27 g28 => (tkOut (env.pf 17 [(sl eMach 10 l), (.row nl25 n26 wd27 g28), (i64 f), (i64 x)]) none (fun v29 => (tkTup v29 none fun l30 => (tkCons l30 none fun v31 r32 => (tkRow v31 none fun nl33 n34 wd35 g36 => (tkCons r32 none fun v37 r38 => (tkRow v37 none fun nl39 n40 wd41 g42 => (tkCons r38 none fun v43 r44 => (tkInt v43 none fun q45 n46 => (tkCons r44 none fun v47 r48 => (tkInt v47 none fun q49 n50 => (tkNil r48 none ((bif (decide (q49 = .i64)) then (bif (n50 != (0 : Int)) then some (.ret (.bool false)) else (bif (decide (q18 = .i64)) then (bif (decide (n19 < (0 : Int))) then (tkOut (env.pf 16 []) none (fun v51 => (tkBool v51 none fun b52 => some (.ret (.bool b52)))) (fun p51 => (tkIfc p51 none fun t52 x53 => (bif (flatP (.iface t52 x53)) then some (.pan (.iface t52 x53)) else none)))) else (L6x1 env F l r f s a x F q18 n19 (Span.lo s))) else none)) else none))))))))))))) (fun p29 => (tkIfc p29 none fun t30 x31 => (bif (flatP (.iface t30 x31)) then some (.pan (.iface t30 x31)) else none)))))) (fun p24 => (tkIfc p24 none fun t25 x26 => (bif (flatP (.iface t25 x26)) then some (.pan (.iface t25 x26)) else none)))) else (bif (decide (q18 = .i64)) then (bif (decide (n19 < (0 : Int))) then (tkOut (env.pf 16 []) none (fun v24 => (tkBool v24 none fun b25 => some (.ret (.bool b25)))) (fun p24 => (tkIfc p24 none fun t25 x26 => (bif (flatP (.iface t25 x26)) then some (.pan (.iface t25 x26)) else none)))) else (L6x1 env F l r f s a x F q18 n19 (Span.lo s))) else none)) else none)) else none)) else none) else none) else (bif (decide (q18 = .i64)) then (bif (decide (n19 < (0 : Int))) then (tkOut (env.pf 30 [(sl eBool 1 r), (i64 a)]) none (fun v24 => (tkRow v24 none fun nl25 n26 wd27 g28 => (tkOut (env.pf 17 [(sl eMach 10 l), (.row nl25 n26 wd27 g28), (i64 f), (i64 x)]) none (fun v29 => (tkTup v29 none fun l30 => (tkCons l30 none fun v31 r32 => (tkRow v31 none fun nl33 n34 wd35 g36 => (tkCons r32 none fun v37 r38 => (tkRow v37 none fun nl39 n40 wd41 g42 => (tkCons r38 none fun v43 r44 => (tkInt v43 none fun q45 n46 => (tkCons r44 none fun v47 r48 => (tkInt v47 none fun q49 n50 => (tkNil r48 none ((bif (decide (q49 = .i64)) then (bif (n50 != (0 : Int)) then some (.ret (.bool false)) else (bif (decide (q18 = .i64)) then (bif (decide (n19 < (0 : Int))) then (tkOut (env.pf 16 []) none (fun v51 => (tkBool v51 none fun b52 => some (.ret (.bool b52)))) (fun p51 => (tkIfc p51 none fun t52 x53 => (bif (flatP (.iface t52 x53)) then some (.pan (.iface t52 x53)) else none)))) else (L6x1 env F l r f s a x F q18 n19 (Span.lo s))) else none)) else none))))))))))))) (fun p29 => (tkIfc p29 none fun t30 x31 => (bif (flatP (.iface t30 x31)) then some (.pan (.iface t30 x31)) else none)))))) (fun p24 => (tkIfc p24 none fun t25 x26 => (bif (flatP (.iface t25 x26)) then some (.pan (.iface t25 x26)) else none)))) else (bif (decide (.i64 = q18)) then (bif (decide (a < n19)) then (tkOut (env.pf 30 [(sl eBool 1 r), (i64 a)]) none (fun v24 => (tkRow v24 none fun nl25 n26 wd27 g28 => (tkOut (env.pf 17 [(sl eMach 10 l), (.row nl25 n26 wd27 g28), (i64 f), (i64 x)]) none (fun v29 => (tkTup v29 none fun l30 => (tkCons l30 none fun v31 r32 => (tkRow v31 none fun nl33 n34 wd35 g36 => (tkCons r32 none fun v37 r38 => (tkRow v37 none fun nl39 n40 wd41 g42 => (tkCons r38 none fun v43 r44 => (tkInt v43 none fun q45 n46 => (tkCons r44 none fun v47 r48 => (tkInt v47 none fun q49 n50 => (tkNil r48 none ((bif (decide (q49 = .i64)) then (bif (n50 != (0 : Int)) then some (.ret (.bool false)) else (bif (decide (q18 = .i64)) then (bif (decide (n19 < (0 : Int))) then (tkOut (env.pf 16 []) none (fun v51 => (tkBool v51 none fun b52 => some (.ret (.bool b52)))) (fun p51 => (tkIfc p51 none fun t52 x53 => (bif (flatP (.iface t52 x53)) then some (.pan (.iface t52 x53)) else none)))) else (L6x1 env F l r f s a x F q18 n19 (Span.lo s))) else none)) else none))))))))))))) (fun p29 => (tkIfc p29 none fun t30 x31 => (bif (flatP (.iface t30 x31)) then some (.pan (.iface t30 x31)) else none)))))) (fun p24 => (tkIfc p24 none fun t25 x26 => (bif (flatP (.iface t25 x26)) then some (.pan (.iface t25 x26)) else none)))) else (bif (decide (q18 = .i64)) then (bif (decide (n19 < (0 : Int))) then (tkOut (env.pf 16 []) none (fun v24 => (tkBool v24 none fun b25 => some (.ret (.bool b25)))) (fun p24 => (tkIfc p24 none fun t25 x26 => (bif (flatP (.iface t25 x26)) then some (.pan (.iface t25 x26)) else none)))) else (L6x1 env F l r f s a x F q18 n19 (Span.lo s))) else none)) else none)) else none)) else none)) else none)) else none)) else none))))))))) (fun p14 => (tkIfc p14 none fun t15 x16 => (bif (flatP (.iface t15 x16)) then some (.pan (.iface t15 x16)) else none))))))) else none) else none))))))) (fun p12 => (tkIfc p12 none fun t13 x14 => (bif (flatP (.iface t13 x14)) then some (.pan (.iface t13 x14)) else none))))))) (fun p10 => (tkIfc p10 none fun t11 x12 => (bif (flatP (.iface t11 x12)) then some (.pan (.iface t11 x12)) else none)))))))) (fun p8 => (tkIfc p8 none fun t9 x10 => (bif (flatP (.iface t9 x10)) then some (.pan (.iface t9 x10)) else none)))) := by kernel_rfl
theorem L6x0s (env : Env) (F : Nat) (l : Sl Mach) (r : Sl Bool) (f : Int) (s : Span) (a : Int) (x : Int) (fu : Nat) (i0 : Int) : L6x0 env F l r f s a x (fu + 1) i0 = (bif (decide (i0 ≤ (Span.hi s))) then (tkOut (env.pf 17 [(sl eMach 10 l), (sl eBool 1 r), (i64 f), (i64 i0)]) none (fun v10 => (tkTup v10 none fun l11 => (tkCons l11 none fun v12 r13 => (tkRow v12 none fun nl14 n15 wd16 g17 => (tkCons r13 none fun v18 r19 => (tkRow v18 none fun nl20 n21 wd22 g23 => (tkCons r19 none fun v24 r25 => (tkInt v24 none fun q26 n27 => (tkCons r25 none fun v28 r29 => (tkInt v28 none fun q30 n31 => (tkNil r29 none ((bif (decide (q30 = .i64)) then (bif (n31 == (5 : Int)) then (tkOut (env.pf 16 []) none (fun v32 => (tkBool v32 none fun b33 => some (.ret (.bool b33)))) (fun p32 => (tkIfc p32 none fun t33 x34 => (bif (flatP (.iface t33 x34)) then some (.pan (.iface t33 x34)) else none)))) else (L6x0 env F l r f s a x fu (IntKind.wrap .i64 (i0 + (1 : Int))))) else none))))))))))))) (fun p10 => (tkIfc p10 none fun t11 x12 => (bif (flatP (.iface t11 x12)) then some (.pan (.iface t11 x12)) else none)))) else some (.ret (.bool false))) := by kernel_rfl
theorem L6x1s (env : Env) (F : Nat) (l : Sl Mach) (r : Sl Bool) (f : Int) (s : Span) (a : Int) (x : Int) (fu : Nat) (q0 : IntKind) (i1 : Int) (i2 : Int) : L6x1 env F l r f s a x (fu + 1) q0 i1 i2 = (bif (decide (i2 ≤ (Span.hi s))) then (tkOut (env.pf 30 [(sl eBool 1 r), (.int q0 i1)]) none (fun v12 => (tkRow v12 none fun nl13 n14 wd15 g16 => (tkOut (env.pf 17 [(sl eMach 10 l), (.row nl13 n14 wd15 g16), (i64 f), (i64 i2)]) none (fun v17 => (tkTup v17 none fun l18 => (tkCons l18 none fun v19 r20 => (tkRow v19 none fun nl21 n22 wd23 g24 => (tkCons r20 none fun v25 r26 => (tkRow v25 none fun nl27 n28 wd29 g30 => (tkCons r26 none fun v31 r32 => (tkInt v31 none fun q33 n34 => (tkCons r32 none fun v35 r36 => (tkInt v35 none fun q37 n38 => (tkNil r36 none ((bif (decide (q37 = .i64)) then (bif (n38 == (5 : Int)) then (tkOut (env.pf 16 []) none (fun v39 => (tkBool v39 none fun b40 => some (.ret (.bool b40)))) (fun p39 => (tkIfc p39 none fun t40 x41 => (bif (flatP (.iface t40 x41)) then some (.pan (.iface t40 x41)) else none)))) else (L6x1 env F l r f s a x fu q0 i1 (IntKind.wrap .i64 (i2 + (1 : Int))))) else none))))))))))))) (fun p17 => (tkIfc p17 none fun t18 x19 => (bif (flatP (.iface t18 x19)) then some (.pan (.iface t18 x19)) else none)))))) (fun p12 => (tkIfc p12 none fun t13 x14 => (bif (flatP (.iface t13 x14)) then some (.pan (.iface t13 x14)) else none)))) else some (.ret (.bool false))) := by kernel_rfl
end Go.Sim.Pl


namespace Go.Sim.Pl
open Go.Proofs
theorem fitInt {k : IntKind} {c : V} (h : Fit (.int k) c) : ∃ n, c = .int k n ∧ k.min ≤ n ∧ n ≤ k.max := by
  cases h with
  | int h => exact ⟨_, rfl, h⟩
theorem fitL_nil {cs : List V} (h : FitL [] cs) : cs = [] := by
  have := h.1
  exact List.eq_nil_of_length_eq_zero this
theorem fitL_cons {s : Sh} {l : List Sh} {cs : List V} (h : FitL (s :: l) cs) : ∃ c cs', cs = c :: cs' ∧ Fit s c ∧ FitL l cs' := by
  obtain ⟨h1, h2⟩ := h
  cases cs with
  | nil => simp at h1
  | cons c cs' => exact ⟨c, cs', rfl, h2 0 s c rfl rfl, by simpa using h1, fun j s' c' g1 g2 => h2 (j + 1) s' c' (by simpa using g1) (by simpa using g2)⟩
theorem fitL_int {k : IntKind} {l : List Sh} {cs : List V} (h : FitL (.int k :: l) cs) : ∃ n cs', cs = .int k n :: cs' ∧ FitL l cs' := by
  obtain ⟨c, cs', rfl, h1, h2⟩ := fitL_cons h
  obtain ⟨n, rfl, _⟩ := fitInt h1
  exact ⟨n, cs', rfl, h2⟩
abbrev SlOk {α : Type} (s : Sl α) : Prop := s.len ≤ 140737488355328 ∧ (s.nl = true → s.len = 0)
theorem fitRow {α : Type} {e : α → List V} {P : α → Prop} {l : List Sh} (dec : ∀ cs, FitL l cs → ∃ a : α, cs = e a ∧ P a) {c : V} (h : Fit (.row l) c) : ∃ s : Sl α, c = sl e l.length s ∧ SlOk s ∧ ∀ i, P (s.el i) := by
  cases h with
  | row h hn hl hf =>
    rename_i nl len get
    have hx : ∀ i, ∃ a : α, get i = e a ∧ P a := fun i => dec _ ⟨hl i, hf i⟩
    refine ⟨⟨nl, len, fun i => (hx i).choose⟩, ?_, ⟨h, hn⟩, fun i => (hx i).choose_spec.2⟩
    show V.row nl len l.length get = V.row nl len l.length fun i => e (hx i).choose
    congr 1
    funext i
    exact (hx i).choose_spec.1
theorem fitL_row {α : Type} {e : α → List V} {P : α → Prop} {l r : List Sh} (dec : ∀ cs, FitL l cs → ∃ a : α, cs = e a ∧ P a) {cs : List V} (h : FitL (.row l :: r) cs) : ∃ (s : Sl α) (cs' : List V), cs = sl e l.length s :: cs' ∧ SlOk s ∧ (∀ i, P (s.el i)) ∧ FitL r cs' := by
  obtain ⟨c, cs', rfl, h1, h2⟩ := fitL_cons h
  obtain ⟨s, rfl, h3, h4⟩ := fitRow dec h1
  exact ⟨s, cs', rfl, h3, h4, h2⟩
theorem fitL_bool {l : List Sh} {cs : List V} (h : FitL (.bool :: l) cs) : ∃ n cs', cs = .bool n :: cs' ∧ FitL l cs' := by
  obtain ⟨c, cs', rfl, h1, h2⟩ := fitL_cons h
  cases h1 with
  | bool => exact ⟨_, cs', rfl, h2⟩
abbrev i8 : Sh := .int .i64
abbrev shRow : List Sh := [i8, i8, i8, i8]
abbrev shMach : List Sh := [i8, .row shRow, i8, i8, i8, i8, i8, i8, .bool, i8]
abbrev shHour : List Sh := [i8, i8, i8]
abbrev shSpan : List Sh := [i8, i8]
abbrev I64 (n : Int) : Prop := IntKind.i64.min ≤ n ∧ n ≤ IntKind.i64.max
theorem decBool (cs : List V) (h : FitL [.bool] cs) : ∃ n : Bool, cs = eBool n ∧ True := by
  obtain ⟨n, cs', rfl, h2⟩ := fitL_bool h
  obtain rfl := fitL_nil h2
  exact ⟨n, rfl, trivial⟩
theorem decRow (cs : List V) (h : FitL shRow cs) : ∃ c : Row, cs = eRow c ∧ True := by
  obtain ⟨a0, _, rfl, h1⟩ := fitL_int h
  obtain ⟨a1, _, rfl, h2⟩ := fitL_int h1
  obtain ⟨a2, _, rfl, h3⟩ := fitL_int h2
  obtain ⟨a3, _, rfl, h4⟩ := fitL_int h3
  obtain rfl := fitL_nil h4
  exact ⟨⟨a0, a1, a2, a3⟩, rfl, trivial⟩
theorem decSpan (cs : List V) (h : FitL shSpan cs) : ∃ c : Span, cs = eSpan c ∧ True := by
  obtain ⟨a0, _, rfl, h1⟩ := fitL_int h
  obtain ⟨a1, _, rfl, h2⟩ := fitL_int h1
  obtain rfl := fitL_nil h2
  exact ⟨⟨a0, a1⟩, rfl, trivial⟩
theorem dcMach (cs : List V) (h : FitL shMach cs) : ∃ c : Mach, cs = eMach c ∧ SlOk c.rows := by
  obtain ⟨a0, _, rfl, h1⟩ := fitL_int h
  obtain ⟨rw, _, rfl, h0, _, h2⟩ := fitL_row decRow h1
  obtain ⟨a2, _, rfl, h3⟩ := fitL_int h2
  obtain ⟨a3, _, rfl, h4⟩ := fitL_int h3
  obtain ⟨a4, _, rfl, h5⟩ := fitL_int h4
  obtain ⟨a5, _, rfl, h6⟩ := fitL_int h5
  obtain ⟨a6, _, rfl, h7⟩ := fitL_int h6
  obtain ⟨a7, _, rfl, h8⟩ := fitL_int h7
  obtain ⟨a8, _, rfl, h9⟩ := fitL_bool h8
  obtain ⟨a9, _, rfl, h10⟩ := fitL_int h9
  obtain rfl := fitL_nil h10
  exact ⟨⟨a0, rw, a2, a3, a4, a5, a6, a7, a8, a9⟩, rfl, h0⟩
theorem own : ownKnob Try.prog.godebug = none := by kernel_rfl
end Go.Sim.Pl


namespace Go.Sim.Pl
open Go.Proofs
variable (F d : Nat)
end Go.Sim.Pl


namespace Go.Sim.Pl
open Go.Proofs
theorem dd {α : Type} [DecidableEq α] (a : α) : decide (a = a) = true := decide_eq_true rfl
variable (F d : Nat)
end Go.Sim.Pl


namespace Go.Sim.Pl
open Go.Proofs
def sumN (l : Sl Mach) (sc : Nat → Sl Int) : Nat → Int
  | 0 => 0
  | t + 1 => sumN l sc t + startN (sc t) (stAt l sc t) l.len
def sumE (l : Sl Mach) (sc : Nat → Sl Int) : Nat → Int
  | 0 => 0
  | t + 1 => sumE l sc t + startE l (sc t) (stAt l sc t) l.len
def sumLo (l : Sl Mach) (hs : Nat → Hour) (sc : Nat → Sl Int) : Nat → Int
  | 0 => 0
  | t + 1 => sumLo l hs sc t + (hourE l (sc t) (hs t)).1
def sumHi (l : Sl Mach) (hs : Nat → Hour) (sc : Nat → Sl Int) : Nat → Int
  | 0 => 0
  | t + 1 => sumHi l hs sc t + (hourE l (sc t) (hs t)).2
variable (F d : Nat)
section
variable {l : Sl Mach} (hl : PlantOk l) {hs : Sl Hour} (hh : HoursOk hs) (h24 : hs.len ≤ 24) {sc : Sl (Sl Int)} (hsc : SchedOk l hs.len sc) (hF : 1000 < F)
include hl hh h24 hsc hF
end
section
variable {l : Sl Mach} (hl : PlantOk l) {hs : Sl Hour} (hh : HoursOk hs) (h24 : hs.len ≤ 24) {sc : Sl (Sl Int)} (hsc : SchedOk l hs.len sc) (hF : 2000 < F)
include hl hF
include hh h24 hsc
end
end Go.Sim.Pl


namespace Go.Sim.Pl
open Go.Proofs
variable (F d : Nat)
end Go.Sim.Pl


namespace Go.Sim.Pl
open Go.Proofs
abbrev mst (l : Sl Mach) (x : Int) (z : Nat) : Int := (rowAt (l.el z) x).most
abbrev inK (l : Sl Mach) (r : Nat → Bool) (k : Int) (i : Nat) : Prop := (l.el i).kind = k ∧ r i = true
structure KindOk (l : Sl Mach) (r : Nat → Bool) (f x k : Int) (w : Nat → Int) : Prop where
  lim : ∀ i, i < l.len → inK l r k i → 0 ≤ w i ∧ w i ≤ mst l x i
  all : sumP (inK l r k) w l.len = f ∨ (sumP (inK l r k) w l.len < f ∧ ∀ i, i < l.len → inK l r k i → w i = mst l x i)
  low : (∃ m, m < l.len ∧ inK l r k m ∧ (rowAt (l.el m) x).least < w m) → ∀ i, i < l.len → inK l r k i → (rowAt (l.el i) x).least ≤ w i
  full : ∀ i m, i < l.len → m < l.len → inK l r k i → inK l r k m → (rowAt (l.el i) x).energy < (rowAt (l.el m) x).energy → (rowAt (l.el m) x).least < w m → w i = mst l x i
abbrev CarOk (l : Sl Mach) (r : Nat → Bool) (f x : Int) (w : Nat → Int) : Prop := (∀ i, i < l.len → (0 ≤ w i ∧ w i ≤ mst l x i) ∧ (r i = false → w i ≤ 0)) ∧ ∀ k : Int, 1 ≤ k ∧ k ≤ 3 → thereS l.el k l.len = true → sumP (fun i => (l.el i).kind = k) w l.len = f
abbrev prcS (l : Sl Mach) (r : Nat → Bool) (x k : Int) (w : Nat → Int) : Int := maxP (fun i => (l.el i).kind = k ∧ r i = true ∧ w i > (rowAt (l.el i) x).least) (fun i => (rowAt (l.el i) x).energy) l.len
end Go.Sim.Pl


namespace Go.Sim.Pl
open Go.Proofs
theorem rowR_congr {m : Mach} {x y : Int} : ∀ j i, (∀ k, i ≤ k → k < i + j → ((m.rows.el k).ratio ≥ x ↔ (m.rows.el k).ratio ≥ y)) → rowR m x j i = rowR m y j i
  | 0, _, _ => rfl
  | j + 1, i, h => by
    have ih := rowR_congr (m := m) (x := x) (y := y) j (i + 1) (fun k h1 h2 => h k (by omega) (by omega))
    have h0 := h i (by omega) (by omega)
    simp only [rowR, ih]
    by_cases h1 : (m.rows.el i).ratio ≥ x
    · rw [if_pos h1, if_pos (h0.1 h1)]
    · rw [if_neg h1, if_neg (fun h => h1 (h0.2 h))]
theorem ratR_mem {m : Mach} {s : Span} {k : Nat} (h : s.lo < (m.rows.el k).ratio + 1 ∧ (m.rows.el k).ratio + 1 ≤ s.hi) : ∀ j i, i ≤ k → k < i + j → (m.rows.el k).ratio + 1 ∈ ratR m s j i
  | 0, i, h1, h2 => by omega
  | j + 1, i, h1, h2 => by
    simp only [ratR, List.mem_append]
    rcases Nat.eq_or_lt_of_le h1 with h3 | h3
    · subst h3
      exact .inl (by rw [if_pos h]; simp)
    · exact .inr (ratR_mem h j (i + 1) (by omega) (by omega))
theorem ratM_mem {l : Sl Mach} {s : Span} {a : Nat} {x : Int} (h : x ∈ ratR (l.el a) s (l.el a).rows.len 0) : ∀ j i, i ≤ a → a < i + j → x ∈ ratM l s j i
  | 0, i, h1, h2 => by omega
  | j + 1, i, h1, h2 => by
    simp only [ratM, List.mem_append]
    rcases Nat.eq_or_lt_of_le h1 with h3 | h3
    · subst h3
      exact .inl h
    · exact .inr (ratM_mem h j (i + 1) (by omega) (by omega))
theorem last_le {x : Int} : ∀ (L : List Int), (∃ z ∈ L, z ≤ x) → ∃ y ∈ L, y ≤ x ∧ ∀ z ∈ L, z ≤ x → z ≤ y
  | [], h => by obtain ⟨z, hz, _⟩ := h; simp at hz
  | a :: L, h => by
    by_cases h1 : ∃ z ∈ L, z ≤ x
    · obtain ⟨y, hy, hyx, hm⟩ := last_le L h1
      by_cases h2 : a ≤ x ∧ y ≤ a
      · refine ⟨a, by simp, h2.1, fun z hz hzx => ?_⟩
        rcases List.mem_cons.1 hz with h3 | h3
        · omega
        · have := hm z h3 hzx; omega
      · refine ⟨y, by simp [hy], hyx, fun z hz hzx => ?_⟩
        rcases List.mem_cons.1 hz with h3 | h3
        · subst h3; omega
        · exact hm z h3 hzx
    · obtain ⟨z, hz, hzx⟩ := h
      rcases List.mem_cons.1 hz with h3 | h3
      · refine ⟨a, by simp, by omega, fun w hw hwx => ?_⟩
        rcases List.mem_cons.1 hw with h4 | h4
        · omega
        · exact absurd ⟨w, h4, hwx⟩ h1
      · exact absurd ⟨z, h3, hzx⟩ h1
theorem rat_cover {l : Sl Mach} {s : Span} {x : Int} (hx : s.lo ≤ x ∧ x ≤ s.hi) : ∃ y ∈ ratL l s, ∀ i, i < l.len → rowAt (l.el i) x = rowAt (l.el i) y := by
  obtain ⟨y, hy, hyx, hm⟩ := last_le (x := x) (ratL l s) ⟨s.lo, by simp [ratL], hx.1⟩
  have hlo := hm s.lo (by simp [ratL]) hx.1
  refine ⟨y, hy, fun i hi => rowR_congr _ _ fun k _ hk => ⟨fun h => by omega, fun h => ?_⟩⟩
  by_cases h1 : ((l.el i).rows.el k).ratio ≥ x
  · exact h1
  · exfalso
    have hin : ((l.el i).rows.el k).ratio + 1 ∈ ratL l s := by
      unfold ratL
      refine List.mem_cons_of_mem _ (ratM_mem (a := i) (ratR_mem (k := k) ⟨by omega, by omega⟩ _ 0 (by omega) (by omega)) _ 0 (by omega) (by omega))
    have := hm _ hin (by omega)
    omega
theorem mostS_congr {l : Sl Mach} {r : Nat → Bool} {x y k : Int} : ∀ n, (∀ i, i < n → rowAt (l.el i) x = rowAt (l.el i) y) → mostS l.el r x k n = mostS l.el r y k n
  | 0, _ => rfl
  | n + 1, h => by
    have ih := mostS_congr (l := l) (r := r) (x := x) (y := y) (k := k) n (fun i hi => h i (by omega))
    simp only [mostS, ih, h n (by omega)]
theorem lacks_congr {l : Sl Mach} {r : Nat → Bool} {f x y : Int} (h : ∀ i, i < l.len → rowAt (l.el i) x = rowAt (l.el i) y) : lacks l r f x = lacks l r f y := by
  have hk : ∀ k, shortK l.el r f x k l.len = shortK l.el r f y k l.len := fun k => by
    unfold shortK
    rw [mostS_congr l.len h]
  unfold lacks
  simp only [lackK, hk]
theorem fails_iff {l : Sl Mach} {r : Nat → Bool} {f : Int} {s : Span} (hs : RatioOk s) : failsB l r f (ratL l s) = true ↔ ∃ x, (s.lo ≤ x ∧ x ≤ s.hi) ∧ lacks l r f x ≠ 0 := by
  unfold failsB
  rw [List.any_eq_true]
  constructor
  · rintro ⟨x, hx, h⟩
    rw [decide_eq_true_iff] at h
    exact ⟨x, ratL_in hs x hx, by omega⟩
  · rintro ⟨x, hx, h⟩
    obtain ⟨y, hy, he⟩ := rat_cover (l := l) hx
    refine ⟨y, hy, ?_⟩
    rw [decide_eq_true_iff, ← lacks_congr he]
    have := lacks_in l r f x
    omega
theorem weakR_spec {l : Sl Mach} {r : Nat → Bool} {f : Int} {s : Span} : ∀ j i, i + j = l.len → (weakR l r f s j i = -1 ∧ ∀ a, i ≤ a → a < l.len → r a = true → failsB l (wo r a) f (ratL l s) = false) ∨ ∃ n : Nat, weakR l r f s j i = n ∧ (i ≤ n ∧ n < l.len) ∧ r n = true ∧ failsB l (wo r n) f (ratL l s) = true ∧ ∀ a, i ≤ a → a < n → r a = true → failsB l (wo r a) f (ratL l s) = false
  | 0, i, h => .inl ⟨rfl, fun a h1 h2 => by omega⟩
  | j + 1, i, h => by
    simp only [weakR]
    by_cases h1 : r i = true ∧ failsB l (wo r i) f (ratL l s) = true
    · rw [if_pos h1]
      exact .inr ⟨i, rfl, ⟨by omega, by omega⟩, h1.1, h1.2, fun a h2 h3 => by omega⟩
    · rw [if_neg h1]
      have h0 : r i = true → failsB l (wo r i) f (ratL l s) = false := fun h2 => by
        cases h3 : failsB l (wo r i) f (ratL l s) with
        | false => rfl
        | true => exact absurd ⟨h2, h3⟩ h1
      rcases weakR_spec (l := l) (r := r) (f := f) (s := s) j (i + 1) (by omega) with ⟨e, ha⟩ | ⟨n, e, hn, hr, hf, ha⟩
      · refine .inl ⟨e, fun a h2 h3 h4 => ?_⟩
        rcases Nat.eq_or_lt_of_le h2 with h5 | h5
        · subst h5; exact h0 h4
        · exact ha a (by omega) h3 h4
      · refine .inr ⟨n, e, ⟨by omega, hn.2⟩, hr, hf, fun a h2 h3 h4 => ?_⟩
        rcases Nat.eq_or_lt_of_le h2 with h5 | h5
        · subst h5; exact h0 h4
        · exact ha a (by omega) h3 h4
theorem not_fails {l : Sl Mach} {r : Nat → Bool} {f : Int} {s : Span} (hs : RatioOk s) (h : failsB l r f (ratL l s) = false) {x : Int} (hx : s.lo ≤ x ∧ x ≤ s.hi) : lacks l r f x = 0 := by
  by_cases hk : lacks l r f x = 0
  · exact hk
  · have := (fails_iff hs).2 ⟨x, hx, hk⟩
    rw [h] at this
    exact absurd this (by decide)
variable (F d : Nat)
theorem e17xnone {l : Sl Mach} {n : Nat} {w : Nat → Bool} {f x : Int} (h : RunOk l ⟨false, n, w⟩ f) (hF : 2000 < F) (hx : 1000 ≤ x ∧ x ≤ 5000) (hk : lacks l w f x ≠ 0) : (E F (d + 42)).pf 17 [sl eMach 10 l, .row false n 1 (fun j => eBool (w j)), .int .i64 f, .int .i64 x] = some (.ret (.tup [.row true 0 0 (fun _ => []), .row true 0 0 (fun _ => []), .int .i64 0, .int .i64 5])) :=
  s17xnone F (d + 32) (r := ⟨false, n, w⟩) h hF hx hk
theorem e17xok {l : Sl Mach} {n : Nat} {w : Nat → Bool} {f x : Int} (h : RunOk l ⟨false, n, w⟩ f) (hF : 2000 < F) (hx : 1000 ≤ x ∧ x ≤ 5000) (hk : lacks l w f x = 0) : (E F (d + 42)).pf 17 [sl eMach 10 l, .row false n 1 (fun j => eBool (w j)), .int .i64 f, .int .i64 x] = some (.ret (.tup [.row false l.len 1 (fun i => eInt ((shareS l w f x).sh i)), .row false 3 1 (fun i => eInt ((shareS l w f x).pr i)), .int .i64 (sumL (shareS l w f x).es), .int .i64 0])) :=
  s17xok F (d + 32) (r := ⟨false, n, w⟩) h hF hx hk
section
variable {l : Sl Mach} {r : Sl Bool} {f : Int} (h4 : RunOk l r f) (hF : 2000 < F) {s : Span} (hs : RatioOk s) (a x : Int) (q16 : (E F (d + 42)).pf 16 [] = some (.ret (.bool true)))
include h4 hF hs q16
theorem l6x0 (x0 : Int) (hx0 : x0 ≤ s.hi) (hk : lacks l r.el f x0 ≠ 0) : ∀ (j : Nat) (i : Int) fu, i + j = x0 → s.lo ≤ i → j < fu → L6x0 (E F (d + 42)) F l r f s a x fu i = some (.ret (.bool true)) := by
  intro j
  induction j with
  | zero =>
    intro i fu h hlo hf
    obtain ⟨fu, rfl⟩ : ∃ k, fu = k + 1 := ⟨fu - 1, by omega⟩
    obtain rfl : i = x0 := by omega
    have q17 := s17xnone F (d + 32) h4 hF (x := i) (by omega) hk
    rw [L6x0s]
    simp only [decide_eq_true hx0, pT, q17, q16, tkOut_ret, tkTup_t, tkCons_c, tkRow_r, tkInt_i, tkBool_b, tkNil_n, dd, decide_true, beq_self_eq_true]
  | succ j ih =>
    intro i fu h hlo hf
    obtain ⟨fu, rfl⟩ : ∃ k, fu = k + 1 := ⟨fu - 1, by omega⟩
    rw [L6x0s]
    by_cases hi : lacks l r.el f i = 0
    · have q17 := s17xok F (d + 32) h4 hF (x := i) (by omega) hi
      have e := ih (i + 1) fu (by omega) (by omega) (by omega)
      simp only [decide_eq_true (show i ≤ s.hi by omega), pT, q17, tkOut_ret, tkTup_t, tkCons_c, tkRow_r, tkInt_i, tkNil_n, dd, decide_true, show ((0 : Int) == 5) = false from rfl, pF]
      rw [wr (by omega)]
      exact e
    · have q17 := s17xnone F (d + 32) h4 hF (x := i) (by omega) hi
      simp only [decide_eq_true (show i ≤ s.hi by omega), pT, q17, q16, tkOut_ret, tkTup_t, tkCons_c, tkRow_r, tkInt_i, tkBool_b, tkNil_n, dd, decide_true, beq_self_eq_true]
theorem l6x1 (hn : r.nl = false) (n : Nat) (hnl : n < l.len) (x0 : Int) (hx0 : x0 ≤ s.hi) (hk : lacks l (wo r.el n) f x0 ≠ 0) : ∀ (j : Nat) (i : Int) fu, i + j = x0 → s.lo ≤ i → j < fu → L6x1 (E F (d + 42)) F l r f s a x fu .i64 n i = some (.ret (.bool true)) := by
  have hl2 := h4.1.2
  have hr := h4.2.1
  have q30 := s30 F (d + 41) r hn n (by omega) (by omega)
  have h4' : RunOk l ⟨false, r.len, wo r.el n⟩ f := ⟨h4.1, hr, h4.2.2⟩
  intro j
  induction j with
  | zero =>
    intro i fu h hlo hf
    obtain ⟨fu, rfl⟩ : ∃ k, fu = k + 1 := ⟨fu - 1, by omega⟩
    obtain rfl : i = x0 := by omega
    have q17 := e17xnone F d h4' hF (x := i) (by omega) hk
    rw [L6x1s]
    simp only [decide_eq_true hx0, pT, q30, q17, q16, tkOut_ret, tkTup_t, tkCons_c, tkRow_r, tkInt_i, tkBool_b, tkNil_n, dd, decide_true, beq_self_eq_true]
  | succ j ih =>
    intro i fu h hlo hf
    obtain ⟨fu, rfl⟩ : ∃ k, fu = k + 1 := ⟨fu - 1, by omega⟩
    rw [L6x1s]
    by_cases hi : lacks l (wo r.el n) f i = 0
    · have q17 := e17xok F d h4' hF (x := i) (by omega) hi
      have e := ih (i + 1) fu (by omega) (by omega) (by omega)
      simp only [decide_eq_true (show i ≤ s.hi by omega), pT, q30, q17, tkOut_ret, tkTup_t, tkCons_c, tkRow_r, tkInt_i, tkNil_n, dd, decide_true, show ((0 : Int) == 5) = false from rfl, pF]
      rw [wr (by omega)]
      exact e
    · have q17 := e17xnone F d h4' hF (x := i) (by omega) hi
      simp only [decide_eq_true (show i ≤ s.hi by omega), pT, q30, q17, q16, tkOut_ret, tkTup_t, tkCons_c, tkRow_r, tkInt_i, tkBool_b, tkNil_n, dd, decide_true, beq_self_eq_true]
end
theorem law6 (hF : 140737488355330 < F) (l : Sl Mach) (r : Sl Bool) (f : Int) (s : Span) (a x : Int) (hl : l.len ≤ 140737488355328) (hR : ∀ i, (l.el i).rows.len ≤ 140737488355328) (hn : r.nl = true → r.len = 0) :
    (E F (d + 43)).pf 6 [sl eMach 10 l, sl eBool 1 r, .int .i64 f, .agg (eSpan s), .int .i64 a, .int .i64 x] = some (.ret (.bool true)) := by
  have q16 := s16 F d (by omega)
  have q15 := s15 F (d + 41) l (lenB hl) (by omega)
  have hRB : RowsB l F := fun i _ => ⟨lenB (hR i), by have := hR i; omega⟩
  have q18 := s18 F (d + 38) l r f (lenB hl) (by omega) hRB
  have q27 := s27 F (d + 41) s
  rw [E_pf, t6]
  simp only [q15, q16, q18, q27, tkOut_ret, tkBool_b]
  by_cases h1 : ShortP l
  case neg => rw [decide_eq_false h1, Bool.not_false, pT]
  rw [decide_eq_true h1, Bool.not_true, pF]
  by_cases h2 : (r.len : Int) > 20
  · rw [decide_eq_true h2, pT]
  rw [decide_eq_false h2, pF]
  by_cases h4 : RunOk l r f
  case neg => rw [decide_eq_false h4, Bool.not_false, pT]
  rw [decide_eq_true h4, Bool.not_true, pF]
  by_cases hs : RatioOk s
  case neg => rw [decide_eq_false hs, Bool.not_false, pT]
  rw [decide_eq_true hs, Bool.not_true, pF, wr (by omega)]
  by_cases h5 : s.hi - s.lo > 300
  · rw [decide_eq_true h5, pT]
  rw [decide_eq_false h5, pF]
  by_cases h6 : a < 0
  · rw [decide_eq_true h6, pT]
  rw [decide_eq_false h6, pF]
  by_cases h7 : a ≥ (l.len : Int)
  · rw [decide_eq_true h7, pT]
  rw [decide_eq_false h7, pF]
  obtain ⟨b, rfl⟩ : ∃ b : Nat, a = b := ⟨a.toNat, by omega⟩
  have hr := h4.2.1
  have hl2 := h4.1.2
  have hF2 : 2000 < F := by omega
  have hn' : r.nl = false := by
    cases h : r.nl with
    | false => rfl
    | true => have := hn h; omega
  rw [decide_eq_true (show (0 : Int) ≤ b by omega), pT, decide_eq_true (show (b : Int) < r.len by omega), pT, Int.toNat_natCast]
  cases hb : r.el b with
  | false => rw [Bool.not_false, pT]
  | true =>
    rw [Bool.not_true, pF]
    by_cases h8 : x < s.lo
    · rw [decide_eq_true h8, pT]
    rw [decide_eq_false h8, pF]
    by_cases h9 : x > s.hi
    · rw [decide_eq_true h9, pT]
    rw [decide_eq_false h9, pF]
    have q26 := s26xok F (d + 33) h4 hF2 hs hn'
    cases hf : failsB l r.el f (ratL l s) with
    | true =>
      rw [if_pos hf] at q26
      obtain ⟨x0, hx0, hk⟩ := (fails_iff hs).1 hf
      have e := l6x0 F d h4 hF2 hs b x q16 x0 hx0.2 hk (x0 - s.lo).toNat s.lo F (by omega) (by omega) (by omega)
      simp only [q26, tkOut_ret, tkTup_t, tkCons_c, tkInt_i, tkNil_n, pT, pF, dd, decide_true, show ((5 : Int) != 0) = true from rfl, show ((5 : Int) != 5) = false from rfl]
      exact e
    | false =>
      rw [if_neg (by rw [hf]; simp)] at q26
      have hxr : 1000 ≤ x ∧ x ≤ 5000 := by omega
      have hx : s.lo ≤ x ∧ x ≤ s.hi := by omega
      have q30 := s30 F (d + 41) r hn' b (by omega) (by omega)
      have h4' : RunOk l ⟨false, r.len, wo r.el b⟩ f := ⟨h4.1, hr, h4.2.2⟩
      rcases weakR_spec (l := l) (r := r.el) (f := f) (s := s) l.len 0 (by omega) with ⟨e, ha⟩ | ⟨n, e, hnn, hrn, hfn, ha⟩
      · have hk := not_fails hs (ha b (by omega) (by omega) hb) hx
        have q17 := e17xok F d h4' hF2 (x := x) hxr hk
        rw [show weakS l r.el f s = -1 from e] at q26
        simp only [q26, q30, q17, tkOut_ret, tkTup_t, tkCons_c, tkRow_r, tkInt_i, tkNil_n, pT, pF, dd, decide_true, show ((0 : Int) != 0) = false from rfl, show decide ((-1 : Int) < -1) = false from rfl, show decide ((-1 : Int) ≥ 0) = false from rfl, show decide ((-1 : Int) < 0) = true from rfl, decide_eq_false (show ¬ (-1 : Int) ≥ (l.len : Int) by omega)]
      · obtain ⟨x0, hx0, hk0⟩ := (fails_iff hs).1 hfn
        have e1 := l6x1 F d h4 hF2 hs b x q16 hn' n hnn.2 x0 hx0.2 hk0 (x0 - s.lo).toNat s.lo F (by omega) (by omega) (by omega)
        rw [show weakS l r.el f s = n from e] at q26
        by_cases hlt : (b : Int) < n
        · have hk := not_fails hs (ha b (by omega) (by omega) hb) hx
          have q17 := e17xok F d h4' hF2 (x := x) hxr hk
          simp only [q26, q30, q17, tkOut_ret, tkTup_t, tkCons_c, tkRow_r, tkInt_i, tkNil_n, pT, pF, dd, decide_true, show ((0 : Int) != 0) = false from rfl, decide_eq_false (show ¬ (n : Int) < -1 by omega), decide_eq_true (show (n : Int) ≥ 0 by omega), decide_eq_false (show ¬ (n : Int) < 0 by omega), decide_eq_true (show (0 : Int) ≤ n by omega), decide_eq_false (show ¬ (n : Int) ≥ (l.len : Int) by omega), decide_eq_true (show (n : Int) < r.len by omega), Int.toNat_natCast, hrn, Bool.not_true, decide_eq_true hlt]
          exact e1
        · simp only [q26, tkOut_ret, tkTup_t, tkCons_c, tkRow_r, tkInt_i, tkNil_n, pT, pF, dd, decide_true, show ((0 : Int) != 0) = false from rfl, decide_eq_false (show ¬ (n : Int) < -1 by omega), decide_eq_true (show (n : Int) ≥ 0 by omega), decide_eq_false (show ¬ (n : Int) < 0 by omega), decide_eq_true (show (0 : Int) ≤ n by omega), decide_eq_false (show ¬ (n : Int) ≥ (l.len : Int) by omega), decide_eq_true (show (n : Int) < r.len by omega), Int.toNat_natCast, hrn, Bool.not_true, decide_eq_false hlt]
          exact e1
end Go.Sim.Pl
