import Derived.Test.YtgigacidbnobjaaAg
import Derived.KernelRfl
import Derived.Test.YtgigacidbnobjaaRows
set_option linter.unusedVariables false
set_option linter.unusedSimpArgs false
set_option linter.unusedSectionVars false
set_option maxRecDepth 100000
namespace Go.Sim.Pl
open Go.Proofs
theorem t5 (env : Env) (F : Nat) (l : Sl Mach) (r : Sl Bool) (f : Int) (s : Span) : (evFun Try.prog (cfg F) env 5 [(sl eMach 10 l), (sl eBool 1 r), (i64 f), (.agg (eSpan s))]) = (tkOut (env.pf 15 [(sl eMach 10 l)]) none (fun v6 => (tkBool v6 none fun b7 => (bif (!b7) then (tkOut (env.pf 16 []) none (fun v8 => (tkBool v8 none fun b9 => some (.ret (.bool b9)))) (fun p8 => (tkIfc p8 none fun t9 x10 => (bif (flatP (.iface t9 x10)) then some (.pan (.iface t9 x10)) else none)))) else (bif (decide ((((Sl.len r) : Nat) : Int) > (20 : Int))) then (tkOut (env.pf 16 []) none (fun v8 => (tkBool v8 none fun b9 => some (.ret (.bool b9)))) (fun p8 => (tkIfc p8 none fun t9 x10 => (bif (flatP (.iface t9 x10)) then some (.pan (.iface t9 x10)) else none)))) else (tkOut (env.pf 26 [(sl eMach 10 l), (sl eBool 1 r), (i64 f), (.agg (eSpan s))]) none (fun v8 => (tkTup v8 none fun l9 => (tkCons l9 none fun v10 r11 => (tkInt v10 none fun q12 n13 => (tkCons r11 none fun v14 r15 => (tkInt v14 none fun q16 n17 => (tkNil r15 none ((tkOut (env.pf 18 [(sl eMach 10 l), (sl eBool 1 r), (i64 f)]) none (fun v18 => (tkBool v18 none fun b19 => (bif (!b19) then (bif (decide (q16 = .i64)) then (bif (n17 == (2 : Int)) then (bif (decide (q12 = .i64)) then (bif (n13 == (0 : Int)) then (tkOut (env.pf 16 []) none (fun v20 => (tkBool v20 none fun b21 => some (.ret (.bool b21)))) (fun p20 => (tkIfc p20 none fun t21 x22 => (bif (flatP (.iface t21 x22)) then some (.pan (.iface t21 x22)) else none)))) else some (.ret (.bool false))) else none) else some (.ret (.bool false))) else none) else (tkOut (env.pf 27 [(.agg (eSpan s))]) none (fun v20 => (tkBool v20 none fun b21 => (bif (!b21) then (bif (decide (q16 = .i64)) then (bif (n17 == (2 : Int)) then (bif (decide (q12 = .i64)) then (bif (n13 == (0 : Int)) then (tkOut (env.pf 16 []) none (fun v22 => (tkBool v22 none fun b23 => some (.ret (.bool b23)))) (fun p22 => (tkIfc p22 none fun t23 x24 => (bif (flatP (.iface t23 x24)) then some (.pan (.iface t23 x24)) else none)))) else some (.ret (.bool false))) else none) else some (.ret (.bool false))) else none) else (tkOut (env.pf 28 [(sl eMach 10 l), (sl eBool 1 r), (i64 f), (.agg (eSpan s))]) none (fun v22 => (tkBool v22 none fun b23 => (bif b23 then (bif (decide (q16 = .i64)) then (bif (n17 == (5 : Int)) then (bif (decide (q12 = .i64)) then (bif (n13 == (0 : Int)) then (tkOut (env.pf 16 []) none (fun v24 => (tkBool v24 none fun b25 => some (.ret (.bool b25)))) (fun p24 => (tkIfc p24 none fun t25 x26 => (bif (flatP (.iface t25 x26)) then some (.pan (.iface t25 x26)) else none)))) else some (.ret (.bool false))) else none) else some (.ret (.bool false))) else none) else (bif (decide (q16 = .i64)) then (bif (n17 == (0 : Int)) then (tkOut (env.pf 29 [(sl eMach 10 l), (sl eBool 1 r), (i64 f), (.agg (eSpan s))]) none (fun v24 => (tkInt v24 none fun q25 n26 => (bif (decide (q12 = q25)) then (bif (n13 == n26) then (tkOut (env.pf 16 []) none (fun v27 => (tkBool v27 none fun b28 => some (.ret (.bool b28)))) (fun p27 => (tkIfc p27 none fun t28 x29 => (bif (flatP (.iface t28 x29)) then some (.pan (.iface t28 x29)) else none)))) else some (.ret (.bool false))) else none))) (fun p24 => (tkIfc p24 none fun t25 x26 => (bif (flatP (.iface t25 x26)) then some (.pan (.iface t25 x26)) else none)))) else some (.ret (.bool false))) else none)))) (fun p22 => (tkIfc p22 none fun t23 x24 => (bif (flatP (.iface t23 x24)) then some (.pan (.iface t23 x24)) else none))))))) (fun p20 => (tkIfc p20 none fun t21 x22 => (bif (flatP (.iface t21 x22)) then some (.pan (.iface t21 x22)) else none))))))) (fun p18 => (tkIfc p18 none fun t19 x20 => (bif (flatP (.iface t19 x20)) then some (.pan (.iface t19 x20)) else none)))))))))))) (fun p8 => (tkIfc p8 none fun t9 x10 => (bif (flatP (.iface t9 x10)) then some (.pan (.iface t9 x10)) else none)))))))) (fun p6 => (tkIfc p6 none fun t7 x8 => (bif (flatP (.iface t7 x8)) then some (.pan (.iface t7 x8)) else none)))) := by kernel_rfl
end Go.Sim.Pl


namespace Go.Sim.Pl
open Go.Proofs
theorem fitInt {k : IntKind} {c : V} (h : Fit (.int k) c) : ∃ n, c = .int k n ∧ k.min ≤ n ∧ n ≤ k.max := by
  cases h with
  | int h => exact ⟨_, rfl, h⟩
theorem fitL_nil {cs : List V} (h : FitL [] cs) : cs = [] := by
  have := h.1
  exact List.eq_nil_of_length_eq_zero this
theorem fitL_cons {s : Sh} {l : List Sh} {cs : List V} (h : FitL (s :: l) cs) : ∃ c cs', cs = c :: cs' ∧ Fit s c ∧ FitL l cs' := by
  obtain ⟨h1, h2⟩ := h
  cases cs with
  | nil => simp at h1
  | cons c cs' => exact ⟨c, cs', rfl, h2 0 s c rfl rfl, by simpa using h1, fun j s' c' g1 g2 => h2 (j + 1) s' c' (by simpa using g1) (by simpa using g2)⟩
theorem fitL_int {k : IntKind} {l : List Sh} {cs : List V} (h : FitL (.int k :: l) cs) : ∃ n cs', cs = .int k n :: cs' ∧ FitL l cs' := by
  obtain ⟨c, cs', rfl, h1, h2⟩ := fitL_cons h
  obtain ⟨n, rfl, _⟩ := fitInt h1
  exact ⟨n, cs', rfl, h2⟩
abbrev SlOk {α : Type} (s : Sl α) : Prop := s.len ≤ 140737488355328 ∧ (s.nl = true → s.len = 0)
theorem fitRow {α : Type} {e : α → List V} {P : α → Prop} {l : List Sh} (dec : ∀ cs, FitL l cs → ∃ a : α, cs = e a ∧ P a) {c : V} (h : Fit (.row l) c) : ∃ s : Sl α, c = sl e l.length s ∧ SlOk s ∧ ∀ i, P (s.el i) := by
  cases h with
  | row h hn hl hf =>
    rename_i nl len get
    have hx : ∀ i, ∃ a : α, get i = e a ∧ P a := fun i => dec _ ⟨hl i, hf i⟩
    refine ⟨⟨nl, len, fun i => (hx i).choose⟩, ?_, ⟨h, hn⟩, fun i => (hx i).choose_spec.2⟩
    show V.row nl len l.length get = V.row nl len l.length fun i => e (hx i).choose
    congr 1
    funext i
    exact (hx i).choose_spec.1
theorem fitL_row {α : Type} {e : α → List V} {P : α → Prop} {l r : List Sh} (dec : ∀ cs, FitL l cs → ∃ a : α, cs = e a ∧ P a) {cs : List V} (h : FitL (.row l :: r) cs) : ∃ (s : Sl α) (cs' : List V), cs = sl e l.length s :: cs' ∧ SlOk s ∧ (∀ i, P (s.el i)) ∧ FitL r cs' := by
  obtain ⟨c, cs', rfl, h1, h2⟩ := fitL_cons h
  obtain ⟨s, rfl, h3, h4⟩ := fitRow dec h1
  exact ⟨s, cs', rfl, h3, h4, h2⟩
theorem fitL_bool {l : List Sh} {cs : List V} (h : FitL (.bool :: l) cs) : ∃ n cs', cs = .bool n :: cs' ∧ FitL l cs' := by
  obtain ⟨c, cs', rfl, h1, h2⟩ := fitL_cons h
  cases h1 with
  | bool => exact ⟨_, cs', rfl, h2⟩
abbrev i8 : Sh := .int .i64
abbrev shRow : List Sh := [i8, i8, i8, i8]
abbrev shMach : List Sh := [i8, .row shRow, i8, i8, i8, i8, i8, i8, .bool, i8]
abbrev shHour : List Sh := [i8, i8, i8]
abbrev shSpan : List Sh := [i8, i8]
abbrev I64 (n : Int) : Prop := IntKind.i64.min ≤ n ∧ n ≤ IntKind.i64.max
theorem decBool (cs : List V) (h : FitL [.bool] cs) : ∃ n : Bool, cs = eBool n ∧ True := by
  obtain ⟨n, cs', rfl, h2⟩ := fitL_bool h
  obtain rfl := fitL_nil h2
  exact ⟨n, rfl, trivial⟩
theorem decRow (cs : List V) (h : FitL shRow cs) : ∃ c : Row, cs = eRow c ∧ True := by
  obtain ⟨a0, _, rfl, h1⟩ := fitL_int h
  obtain ⟨a1, _, rfl, h2⟩ := fitL_int h1
  obtain ⟨a2, _, rfl, h3⟩ := fitL_int h2
  obtain ⟨a3, _, rfl, h4⟩ := fitL_int h3
  obtain rfl := fitL_nil h4
  exact ⟨⟨a0, a1, a2, a3⟩, rfl, trivial⟩
theorem decSpan (cs : List V) (h : FitL shSpan cs) : ∃ c : Span, cs = eSpan c ∧ True := by
  obtain ⟨a0, _, rfl, h1⟩ := fitL_int h
  obtain ⟨a1, _, rfl, h2⟩ := fitL_int h1
  obtain rfl := fitL_nil h2
  exact ⟨⟨a0, a1⟩, rfl, trivial⟩
theorem dcMach (cs : List V) (h : FitL shMach cs) : ∃ c : Mach, cs = eMach c ∧ SlOk c.rows := by
  obtain ⟨a0, _, rfl, h1⟩ := fitL_int h
  obtain ⟨rw, _, rfl, h0, _, h2⟩ := fitL_row decRow h1
  obtain ⟨a2, _, rfl, h3⟩ := fitL_int h2
  obtain ⟨a3, _, rfl, h4⟩ := fitL_int h3
  obtain ⟨a4, _, rfl, h5⟩ := fitL_int h4
  obtain ⟨a5, _, rfl, h6⟩ := fitL_int h5
  obtain ⟨a6, _, rfl, h7⟩ := fitL_int h6
  obtain ⟨a7, _, rfl, h8⟩ := fitL_int h7
  obtain ⟨a8, _, rfl, h9⟩ := fitL_bool h8
  obtain ⟨a9, _, rfl, h10⟩ := fitL_int h9
  obtain rfl := fitL_nil h10
  exact ⟨⟨a0, rw, a2, a3, a4, a5, a6, a7, a8, a9⟩, rfl, h0⟩
theorem own : ownKnob Try.prog.godebug = none := by kernel_rfl
end Go.Sim.Pl


namespace Go.Sim.Pl
open Go.Proofs
variable (F d : Nat)
end Go.Sim.Pl


namespace Go.Sim.Pl
open Go.Proofs
theorem dd {α : Type} [DecidableEq α] (a : α) : decide (a = a) = true := decide_eq_true rfl
variable (F d : Nat)
theorem law5 (hF : 140737488355330 < F) (l : Sl Mach) (r : Sl Bool) (f : Int) (s : Span) (hl : l.len ≤ 140737488355328) (hR : ∀ i, (l.el i).rows.len ≤ 140737488355328) (hn : r.nl = true → r.len = 0) :
    (E F (d + 43)).pf 5 [sl eMach 10 l, sl eBool 1 r, .int .i64 f, .agg (eSpan s)] = some (.ret (.bool true)) := by
  have q16 := s16 F d (by omega)
  have q15 := s15 F (d + 41) l (lenB hl) (by omega)
  have hRB : RowsB l F := fun i _ => ⟨lenB (hR i), by have := hR i; omega⟩
  have q18 := s18 F (d + 38) l r f (lenB hl) (by omega) hRB
  have q27 := s27 F (d + 41) s
  rw [E_pf, t5]
  simp only [q15, q16, q18, q27, tkOut_ret, tkBool_b]
  by_cases h1 : ShortP l
  case neg => rw [decide_eq_false h1, Bool.not_false, pT]
  rw [decide_eq_true h1, Bool.not_true, pF]
  by_cases h2 : (r.len : Int) > 20
  · rw [decide_eq_true h2, pT]
  rw [decide_eq_false h2, pF]
  by_cases h3 : RunOk l r f ∧ RatioOk s
  case neg =>
    have q26 := s26xbad F (d + 33) l r f s (lenB hl) (by omega) hRB h3
    by_cases h4 : RunOk l r f
    · rw [decide_eq_true h4, decide_eq_false (fun h => h3 ⟨h4, h⟩)]
      simp only [q26, tkOut_ret, tkTup_t, tkCons_c, tkInt_i, tkNil_n, Bool.not_true, Bool.not_false, pT, pF, dd, decide_true, beq_self_eq_true]
    · rw [decide_eq_false h4]
      simp only [q26, tkOut_ret, tkTup_t, tkCons_c, tkInt_i, tkNil_n, Bool.not_true, Bool.not_false, pT, pF, dd, decide_true, beq_self_eq_true]
  obtain ⟨h4, hs⟩ := h3
  have hF2 : 2000 < F := by omega
  have hF1 : 1000 < F := by omega
  have hn' : r.nl = false := by
    cases h : r.nl with
    | false => rfl
    | true => have := hn h; have := h4.2.1; have := h4.1.2.1; omega
  have q26 := s26xok F (d + 33) h4 hF2 hs hn'
  have q28 := s28 F (d + 39) h4.1 hF1 hs r h4.2.1 f
  have q29 := s29 F (d + 38) h4.1 hF1 hs r h4.2.1 hn' f
  rw [decide_eq_true h4, decide_eq_true hs]
  cases hf : failsB l r.el f (ratL l s) with
  | true =>
    rw [hf, if_pos rfl] at q26
    rw [hf] at q28
    simp only [q26, q28, q29, tkOut_ret, tkTup_t, tkCons_c, tkInt_i, tkBool_b, tkNil_n, Bool.not_true, Bool.not_false, pT, pF, dd, decide_true, beq_self_eq_true]
  | false =>
    rw [hf, if_neg (by simp)] at q26
    rw [hf] at q28
    simp only [q26, q28, q29, tkOut_ret, tkTup_t, tkCons_c, tkInt_i, tkBool_b, tkNil_n, Bool.not_true, Bool.not_false, pT, pF, dd, decide_true, beq_self_eq_true]
end Go.Sim.Pl
