import Derived.Test.YtgigacidbnobjaaAg
import Derived.KernelRfl
import Derived.Test.YtgigacidbnobjaaRows
set_option linter.unusedVariables false
set_option linter.unusedSimpArgs false
set_option linter.unusedSectionVars false
set_option maxRecDepth 100000
namespace Go.Sim.Pl
open Go.Proofs
theorem t7 (env : Env) (F : Nat) (l : Sl Mach) (hs : Sl Hour) (sc : Sl (Sl Int)) : (evFun Try.prog (cfg F) env 7 [(sl eMach 10 l), (sl eHour 3 hs), (sl eIL 1 sc)]) = (tkOut (env.pf 15 [(sl eMach 10 l)]) none (fun v5 => (tkBool v5 none fun b6 => (bif (!b6) then (tkOut (env.pf 16 []) none (fun v7 => (tkBool v7 none fun b8 => some (.ret (.bool b8)))) (fun p7 => (tkIfc p7 none fun t8 x9 => (bif (flatP (.iface t8 x9)) then some (.pan (.iface t8 x9)) else none)))) else (tkOut (env.pf 31 [(sl eHour 3 hs), (sl eIL 1 sc)]) none (fun v7 => (tkBool v7 none fun b8 => (bif (!b8) then (tkOut (env.pf 16 []) none (fun v9 => (tkBool v9 none fun b10 => some (.ret (.bool b10)))) (fun p9 => (tkIfc p9 none fun t10 x11 => (bif (flatP (.iface t10 x11)) then some (.pan (.iface t10 x11)) else none)))) else (tkOut (env.pf 32 [(sl eMach 10 l), (sl eHour 3 hs), (sl eIL 1 sc)]) none (fun v9 => (tkTup v9 none fun l10 => (tkCons l10 none fun v11 r12 => (tkAgg v11 none fun l13 => (tkCons l13 none fun v14 r15 => (tkInt v14 none fun q16 n17 => (tkCons r15 none fun v18 r19 => (tkInt v18 none fun q20 n21 => (tkCons r19 none fun v22 r23 => (tkInt v22 none fun q24 n25 => (tkNil r23 none ((tkCons r12 none fun v26 r27 => (tkInt v26 none fun q28 n29 => (tkNil r27 none ((tkOut (env.pf 33 [(sl eMach 10 l), (sl eHour 3 hs), (sl eIL 1 sc)]) none (fun v30 => (tkInt v30 none fun q31 n32 => (bif (decide (q31 = .i64)) then (bif (n32 != (0 : Int)) then (bif (decide (q28 = q31)) then (bif (n29 == n32) then (bif (decide (q16 = .i64)) then (bif (decide (q20 = .i64)) then (bif (decide (q24 = .i64)) then (bif ((n17 == (0 : Int)) && ((n21 == (0 : Int)) && ((n25 == (0 : Int)) && true))) then (tkOut (env.pf 16 []) none (fun v33 => (tkBool v33 none fun b34 => some (.ret (.bool b34)))) (fun p33 => (tkIfc p33 none fun t34 x35 => (bif (flatP (.iface t34 x35)) then some (.pan (.iface t34 x35)) else none)))) else some (.ret (.bool false))) else none) else none) else none) else some (.ret (.bool false))) else none) else (bif (decide (q28 = .i64)) then (bif (n29 == (0 : Int)) then (tkOut (env.pf 34 [(sl eMach 10 l), (sl eHour 3 hs), (sl eIL 1 sc)]) none (fun v33 => (tkAgg v33 none fun l34 => (tkCons l34 none fun v35 r36 => (tkInt v35 none fun q37 n38 => (tkCons r36 none fun v39 r40 => (tkInt v39 none fun q41 n42 => (tkCons r40 none fun v43 r44 => (tkInt v43 none fun q45 n46 => (tkNil r44 none ((bif (decide (q16 = q37)) then (bif (decide (q20 = q41)) then (bif (decide (q24 = q45)) then (bif ((n17 == n38) && ((n21 == n42) && ((n25 == n46) && true))) then (tkOut (env.pf 16 []) none (fun v47 => (tkBool v47 none fun b48 => some (.ret (.bool b48)))) (fun p47 => (tkIfc p47 none fun t48 x49 => (bif (flatP (.iface t48 x49)) then some (.pan (.iface t48 x49)) else none)))) else some (.ret (.bool false))) else none) else none) else none))))))))))) (fun p33 => (tkIfc p33 none fun t34 x35 => (bif (flatP (.iface t34 x35)) then some (.pan (.iface t34 x35)) else none)))) else some (.ret (.bool false))) else none)) else none))) (fun p30 => (tkIfc p30 none fun t31 x32 => (bif (flatP (.iface t31 x32)) then some (.pan (.iface t31 x32)) else none)))))))))))))))))))) (fun p9 => (tkIfc p9 none fun t10 x11 => (bif (flatP (.iface t10 x11)) then some (.pan (.iface t10 x11)) else none))))))) (fun p7 => (tkIfc p7 none fun t8 x9 => (bif (flatP (.iface t8 x9)) then some (.pan (.iface t8 x9)) else none))))))) (fun p5 => (tkIfc p5 none fun t6 x7 => (bif (flatP (.iface t6 x7)) then some (.pan (.iface t6 x7)) else none)))) := by kernel_rfl
end Go.Sim.Pl


namespace Go.Sim.Pl
open Go.Proofs
theorem fitInt {k : IntKind} {c : V} (h : Fit (.int k) c) : ∃ n, c = .int k n ∧ k.min ≤ n ∧ n ≤ k.max := by
  cases h with
  | int h => exact ⟨_, rfl, h⟩
theorem fitL_nil {cs : List V} (h : FitL [] cs) : cs = [] := by
  have := h.1
  exact List.eq_nil_of_length_eq_zero this
theorem fitL_cons {s : Sh} {l : List Sh} {cs : List V} (h : FitL (s :: l) cs) : ∃ c cs', cs = c :: cs' ∧ Fit s c ∧ FitL l cs' := by
  obtain ⟨h1, h2⟩ := h
  cases cs with
  | nil => simp at h1
  | cons c cs' => exact ⟨c, cs', rfl, h2 0 s c rfl rfl, by simpa using h1, fun j s' c' g1 g2 => h2 (j + 1) s' c' (by simpa using g1) (by simpa using g2)⟩
theorem fitL_int {k : IntKind} {l : List Sh} {cs : List V} (h : FitL (.int k :: l) cs) : ∃ n cs', cs = .int k n :: cs' ∧ FitL l cs' := by
  obtain ⟨c, cs', rfl, h1, h2⟩ := fitL_cons h
  obtain ⟨n, rfl, _⟩ := fitInt h1
  exact ⟨n, cs', rfl, h2⟩
abbrev SlOk {α : Type} (s : Sl α) : Prop := s.len ≤ 140737488355328 ∧ (s.nl = true → s.len = 0)
theorem fitRow {α : Type} {e : α → List V} {P : α → Prop} {l : List Sh} (dec : ∀ cs, FitL l cs → ∃ a : α, cs = e a ∧ P a) {c : V} (h : Fit (.row l) c) : ∃ s : Sl α, c = sl e l.length s ∧ SlOk s ∧ ∀ i, P (s.el i) := by
  cases h with
  | row h hn hl hf =>
    rename_i nl len get
    have hx : ∀ i, ∃ a : α, get i = e a ∧ P a := fun i => dec _ ⟨hl i, hf i⟩
    refine ⟨⟨nl, len, fun i => (hx i).choose⟩, ?_, ⟨h, hn⟩, fun i => (hx i).choose_spec.2⟩
    show V.row nl len l.length get = V.row nl len l.length fun i => e (hx i).choose
    congr 1
    funext i
    exact (hx i).choose_spec.1
theorem fitL_row {α : Type} {e : α → List V} {P : α → Prop} {l r : List Sh} (dec : ∀ cs, FitL l cs → ∃ a : α, cs = e a ∧ P a) {cs : List V} (h : FitL (.row l :: r) cs) : ∃ (s : Sl α) (cs' : List V), cs = sl e l.length s :: cs' ∧ SlOk s ∧ (∀ i, P (s.el i)) ∧ FitL r cs' := by
  obtain ⟨c, cs', rfl, h1, h2⟩ := fitL_cons h
  obtain ⟨s, rfl, h3, h4⟩ := fitRow dec h1
  exact ⟨s, cs', rfl, h3, h4, h2⟩
theorem fitL_bool {l : List Sh} {cs : List V} (h : FitL (.bool :: l) cs) : ∃ n cs', cs = .bool n :: cs' ∧ FitL l cs' := by
  obtain ⟨c, cs', rfl, h1, h2⟩ := fitL_cons h
  cases h1 with
  | bool => exact ⟨_, cs', rfl, h2⟩
abbrev i8 : Sh := .int .i64
abbrev shRow : List Sh := [i8, i8, i8, i8]
abbrev shMach : List Sh := [i8, .row shRow, i8, i8, i8, i8, i8, i8, .bool, i8]
abbrev shHour : List Sh := [i8, i8, i8]
abbrev shSpan : List Sh := [i8, i8]
abbrev I64 (n : Int) : Prop := IntKind.i64.min ≤ n ∧ n ≤ IntKind.i64.max
theorem decInt (cs : List V) (h : FitL [i8] cs) : ∃ n : Int, cs = eInt n ∧ I64 n := by
  obtain ⟨c, cs', rfl, h1, h2⟩ := fitL_cons h
  obtain ⟨n, rfl, m1, m2⟩ := fitInt h1
  obtain rfl := fitL_nil h2
  refine ⟨n, rfl, ?_⟩
  exact ⟨m1, m2⟩
theorem decIL (cs : List V) (h : FitL [.row [i8]] cs) : ∃ s : Sl Int, cs = eIL s ∧ SlOk s := by
  obtain ⟨s, _, rfl, h1, _, h2⟩ := fitL_row decInt h
  obtain rfl := fitL_nil h2
  exact ⟨s, rfl, h1⟩
theorem decRow (cs : List V) (h : FitL shRow cs) : ∃ c : Row, cs = eRow c ∧ True := by
  obtain ⟨a0, _, rfl, h1⟩ := fitL_int h
  obtain ⟨a1, _, rfl, h2⟩ := fitL_int h1
  obtain ⟨a2, _, rfl, h3⟩ := fitL_int h2
  obtain ⟨a3, _, rfl, h4⟩ := fitL_int h3
  obtain rfl := fitL_nil h4
  exact ⟨⟨a0, a1, a2, a3⟩, rfl, trivial⟩
theorem decHour (cs : List V) (h : FitL shHour cs) : ∃ c : Hour, cs = eHour c ∧ True := by
  obtain ⟨a0, _, rfl, h1⟩ := fitL_int h
  obtain ⟨a1, _, rfl, h2⟩ := fitL_int h1
  obtain ⟨a2, _, rfl, h3⟩ := fitL_int h2
  obtain rfl := fitL_nil h3
  exact ⟨⟨a0, ⟨a1, a2⟩⟩, rfl, trivial⟩
theorem dcMach (cs : List V) (h : FitL shMach cs) : ∃ c : Mach, cs = eMach c ∧ SlOk c.rows := by
  obtain ⟨a0, _, rfl, h1⟩ := fitL_int h
  obtain ⟨rw, _, rfl, h0, _, h2⟩ := fitL_row decRow h1
  obtain ⟨a2, _, rfl, h3⟩ := fitL_int h2
  obtain ⟨a3, _, rfl, h4⟩ := fitL_int h3
  obtain ⟨a4, _, rfl, h5⟩ := fitL_int h4
  obtain ⟨a5, _, rfl, h6⟩ := fitL_int h5
  obtain ⟨a6, _, rfl, h7⟩ := fitL_int h6
  obtain ⟨a7, _, rfl, h8⟩ := fitL_int h7
  obtain ⟨a8, _, rfl, h9⟩ := fitL_bool h8
  obtain ⟨a9, _, rfl, h10⟩ := fitL_int h9
  obtain rfl := fitL_nil h10
  exact ⟨⟨a0, rw, a2, a3, a4, a5, a6, a7, a8, a9⟩, rfl, h0⟩
theorem own : ownKnob Try.prog.godebug = none := by kernel_rfl
end Go.Sim.Pl


namespace Go.Sim.Pl
open Go.Proofs
variable (F d : Nat)
end Go.Sim.Pl


namespace Go.Sim.Pl
open Go.Proofs
theorem dd {α : Type} [DecidableEq α] (a : α) : decide (a = a) = true := decide_eq_true rfl
variable (F d : Nat)
theorem inB_of {l : Sl Mach} {hs : Sl Hour} (hF : 140737488355330 < F) (hl : l.len ≤ 140737488355328) (hR : ∀ i, (l.el i).rows.len ≤ 140737488355328) (hh : hs.len ≤ 140737488355328) : InB l hs F :=
  ⟨⟨lenB hl, by omega⟩, fun i _ => ⟨lenB (hR i), by have := hR i; omega⟩, lenB hh, by omega⟩
theorem schB_of {sc : Sl (Sl Int)} (hF : 140737488355330 < F) (hs : sc.len ≤ 140737488355328) (hw : ∀ i, (sc.el i).len ≤ 140737488355328) : SchB sc F :=
  ⟨⟨lenB hs, by omega⟩, fun i _ => ⟨lenB (hw i), by have := hw i; omega⟩⟩
theorem law7 (hF : 140737488355330 < F) (l : Sl Mach) (hs : Sl Hour) (sc : Sl (Sl Int)) (hl : l.len ≤ 140737488355328) (hR : ∀ i, (l.el i).rows.len ≤ 140737488355328) (hh : hs.len ≤ 140737488355328) (hsc : sc.len ≤ 140737488355328) (hw : ∀ i, (sc.el i).len ≤ 140737488355328) :
    (E F (d + 43)).pf 7 [sl eMach 10 l, sl eHour 3 hs, sl eIL 1 sc] = some (.ret (.bool true)) := by
  have q16 := s16 F d (by omega)
  have q15 := s15 F (d + 41) l (lenB hl) (by omega)
  have hB := inB_of F hF hl hR hh
  have hS := schB_of F hF hsc hw
  have q31 := s31 F (d + 41) hs sc hS.1.1 hS.1.2
  have q32 := s32 F (d + 30) l hs sc (by omega) hB hS
  have q33 := s33 F (d + 38) l hs sc hB hS
  rw [E_pf, t7]
  simp only [q15, q16, q31, q33, tkOut_ret, tkBool_b]
  by_cases h1 : ShortP l
  case neg => rw [decide_eq_false h1, Bool.not_false, pT]
  rw [decide_eq_true h1, Bool.not_true, pF]
  by_cases h2 : BriefP hs sc
  case neg => rw [decide_eq_false h2, Bool.not_false, pT]
  rw [decide_eq_true h2, Bool.not_true, pF]
  by_cases h3 : errS l hs sc = 0
  · rw [if_pos h3] at q32
    obtain ⟨a1, a2, a3, a4⟩ := errS_0 h3
    have q34 := s34 F (d + 39) a1 a2 a3 a4 (by omega)
    rw [ref_playS a1 hs sc] at q34
    simp only [q32, q34, tkOut_ret, tkTup_t, tkCons_c, tkAgg_a, tkInt_i, tkBool_b, tkNil_n, Bool.not_true, Bool.not_false, pT, pF, dd, decide_true, beq_self_eq_true, h3, show ((0 : Int) != 0) = false from rfl, Bool.and_self]
  · rw [if_neg h3] at q32
    simp only [q32, tkOut_ret, tkTup_t, tkCons_c, tkAgg_a, tkInt_i, tkBool_b, tkNil_n, Bool.not_true, Bool.not_false, pT, pF, dd, decide_true, beq_self_eq_true, show (errS l hs sc != 0) = true by simp [h3], Bool.and_self]
end Go.Sim.Pl
