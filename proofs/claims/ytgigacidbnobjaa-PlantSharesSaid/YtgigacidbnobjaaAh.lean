import Derived.Test.YtgigacidbnobjaaAg
import Derived.KernelRfl
import Derived.Test.YtgigacidbnobjaaRows
set_option linter.unusedVariables false
set_option linter.unusedSimpArgs false
set_option linter.unusedSectionVars false
set_option maxRecDepth 100000
namespace Go.Sim.Pl
open Go.Proofs
theorem t3 (env : Env) (F : Nat) (l : Sl Mach) (r : Sl Bool) (f : Int) (x : Int) : (evFun Try.prog (cfg F) env 3 [(sl eMach 10 l), (sl eBool 1 r), (i64 f), (i64 x)]) = (tkOut (env.pf 15 [(sl eMach 10 l)]) none (fun v6 => (tkBool v6 none fun b7 => (bif (!b7) then (tkOut (env.pf 16 []) none (fun v8 => (tkBool v8 none fun b9 => some (.ret (.bool b9)))) (fun p8 => (tkIfc p8 none fun t9 x10 => (bif (flatP (.iface t9 x10)) then some (.pan (.iface t9 x10)) else none)))) else (bif (decide ((((Sl.len r) : Nat) : Int) > (20 : Int))) then (tkOut (env.pf 16 []) none (fun v8 => (tkBool v8 none fun b9 => some (.ret (.bool b9)))) (fun p8 => (tkIfc p8 none fun t9 x10 => (bif (flatP (.iface t9 x10)) then some (.pan (.iface t9 x10)) else none)))) else (tkOut (env.pf 17 [(sl eMach 10 l), (sl eBool 1 r), (i64 f), (i64 x)]) none (fun v8 => (tkTup v8 none fun l9 => (tkCons l9 none fun v10 r11 => (tkRow v10 none fun nl12 n13 wd14 g15 => (tkCons r11 none fun v16 r17 => (tkRow v16 none fun nl18 n19 wd20 g21 => (tkCons r17 none fun v22 r23 => (tkInt v22 none fun q24 n25 => (tkCons r23 none fun v26 r27 => (tkInt v26 none fun q28 n29 => (tkNil r27 none ((tkOut (env.pf 18 [(sl eMach 10 l), (sl eBool 1 r), (i64 f)]) none (fun v30 => (tkBool v30 none fun b31 => (bif (!b31) then (bif (decide (q28 = .i64)) then (bif (n29 == (2 : Int)) then (bif ((IntKind.wrap .i64 (((n13 : Nat) : Int) + ((n19 : Nat) : Int))) == (0 : Int)) then (bif (decide (q24 = .i64)) then (bif (n25 == (0 : Int)) then (tkOut (env.pf 16 []) none (fun v32 => (tkBool v32 none fun b33 => some (.ret (.bool b33)))) (fun p32 => (tkIfc p32 none fun t33 x34 => (bif (flatP (.iface t33 x34)) then some (.pan (.iface t33 x34)) else none)))) else some (.ret (.bool false))) else none) else some (.ret (.bool false))) else some (.ret (.bool false))) else none) else (bif (decide (x < (1000 : Int))) then (bif (decide (q28 = .i64)) then (bif (n29 == (2 : Int)) then (bif ((IntKind.wrap .i64 (((n13 : Nat) : Int) + ((n19 : Nat) : Int))) == (0 : Int)) then (bif (decide (q24 = .i64)) then (bif (n25 == (0 : Int)) then (tkOut (env.pf 16 []) none (fun v32 => (tkBool v32 none fun b33 => some (.ret (.bool b33)))) (fun p32 => (tkIfc p32 none fun t33 x34 => (bif (flatP (.iface t33 x34)) then some (.pan (.iface t33 x34)) else none)))) else some (.ret (.bool false))) else none) else some (.ret (.bool false))) else some (.ret (.bool false))) else none) else (bif (decide (x > (5000 : Int))) then (bif (decide (q28 = .i64)) then (bif (n29 == (2 : Int)) then (bif ((IntKind.wrap .i64 (((n13 : Nat) : Int) + ((n19 : Nat) : Int))) == (0 : Int)) then (bif (decide (q24 = .i64)) then (bif (n25 == (0 : Int)) then (tkOut (env.pf 16 []) none (fun v32 => (tkBool v32 none fun b33 => some (.ret (.bool b33)))) (fun p32 => (tkIfc p32 none fun t33 x34 => (bif (flatP (.iface t33 x34)) then some (.pan (.iface t33 x34)) else none)))) else some (.ret (.bool false))) else none) else some (.ret (.bool false))) else some (.ret (.bool false))) else none) else (tkOut (env.pf 19 [(sl eMach 10 l), (sl eBool 1 r), (i64 f), (i64 x)]) none (fun v32 => (tkInt v32 none fun q33 n34 => (bif (decide (q33 = .i64)) then (bif (decide (n34 > (0 : Int))) then (bif (decide (q28 = .i64)) then (bif (n29 == (5 : Int)) then (bif ((IntKind.wrap .i64 (((n13 : Nat) : Int) + ((n19 : Nat) : Int))) == (0 : Int)) then (bif (decide (q24 = .i64)) then (bif (n25 == (0 : Int)) then (tkOut (env.pf 16 []) none (fun v35 => (tkBool v35 none fun b36 => some (.ret (.bool b36)))) (fun p35 => (tkIfc p35 none fun t36 x37 => (bif (flatP (.iface t36 x37)) then some (.pan (.iface t36 x37)) else none)))) else some (.ret (.bool false))) else none) else some (.ret (.bool false))) else some (.ret (.bool false))) else none) else (tkOut (env.pf 20 [(sl eMach 10 l), (sl eBool 1 r), (i64 f), (i64 x)]) none (fun v35 => (tkRow v35 none fun nl36 n37 wd38 g39 => (bif (decide (q28 = .i64)) then (bif (n29 == (0 : Int)) then (tkOut (env.pf 21 [(.row nl12 n13 wd14 g15), (.row nl36 n37 wd38 g39)]) none (fun v40 => (tkBool v40 none fun b41 => (bif b41 then (tkOut (env.pf 22 [(sl eMach 10 l), (sl eBool 1 r), (.row nl36 n37 wd38 g39), (i64 x)]) none (fun v42 => (tkRow v42 none fun nl43 n44 wd45 g46 => (tkOut (env.pf 21 [(.row nl18 n19 wd20 g21), (.row nl43 n44 wd45 g46)]) none (fun v47 => (tkBool v47 none fun b48 => (bif b48 then (tkOut (env.pf 23 [(sl eMach 10 l), (sl eBool 1 r), (.row nl36 n37 wd38 g39), (i64 x)]) none (fun v49 => (tkInt v49 none fun q50 n51 => (bif (decide (q24 = q50)) then (bif (n25 == n51) then (tkOut (env.pf 16 []) none (fun v52 => (tkBool v52 none fun b53 => some (.ret (.bool b53)))) (fun p52 => (tkIfc p52 none fun t53 x54 => (bif (flatP (.iface t53 x54)) then some (.pan (.iface t53 x54)) else none)))) else some (.ret (.bool false))) else none))) (fun p49 => (tkIfc p49 none fun t50 x51 => (bif (flatP (.iface t50 x51)) then some (.pan (.iface t50 x51)) else none)))) else some (.ret (.bool false))))) (fun p47 => (tkIfc p47 none fun t48 x49 => (bif (flatP (.iface t48 x49)) then some (.pan (.iface t48 x49)) else none)))))) (fun p42 => (tkIfc p42 none fun t43 x44 => (bif (flatP (.iface t43 x44)) then some (.pan (.iface t43 x44)) else none)))) else some (.ret (.bool false))))) (fun p40 => (tkIfc p40 none fun t41 x42 => (bif (flatP (.iface t41 x42)) then some (.pan (.iface t41 x42)) else none)))) else some (.ret (.bool false))) else none))) (fun p35 => (tkIfc p35 none fun t36 x37 => (bif (flatP (.iface t36 x37)) then some (.pan (.iface t36 x37)) else none))))) else none))) (fun p32 => (tkIfc p32 none fun t33 x34 => (bif (flatP (.iface t33 x34)) then some (.pan (.iface t33 x34)) else none))))))))) (fun p30 => (tkIfc p30 none fun t31 x32 => (bif (flatP (.iface t31 x32)) then some (.pan (.iface t31 x32)) else none)))))))))))))))) (fun p8 => (tkIfc p8 none fun t9 x10 => (bif (flatP (.iface t9 x10)) then some (.pan (.iface t9 x10)) else none)))))))) (fun p6 => (tkIfc p6 none fun t7 x8 => (bif (flatP (.iface t7 x8)) then some (.pan (.iface t7 x8)) else none)))) := by kernel_rfl
end Go.Sim.Pl


namespace Go.Sim.Pl
open Go.Proofs
theorem fitInt {k : IntKind} {c : V} (h : Fit (.int k) c) : ∃ n, c = .int k n ∧ k.min ≤ n ∧ n ≤ k.max := by
  cases h with
  | int h => exact ⟨_, rfl, h⟩
theorem fitL_nil {cs : List V} (h : FitL [] cs) : cs = [] := by
  have := h.1
  exact List.eq_nil_of_length_eq_zero this
theorem fitL_cons {s : Sh} {l : List Sh} {cs : List V} (h : FitL (s :: l) cs) : ∃ c cs', cs = c :: cs' ∧ Fit s c ∧ FitL l cs' := by
  obtain ⟨h1, h2⟩ := h
  cases cs with
  | nil => simp at h1
  | cons c cs' => exact ⟨c, cs', rfl, h2 0 s c rfl rfl, by simpa using h1, fun j s' c' g1 g2 => h2 (j + 1) s' c' (by simpa using g1) (by simpa using g2)⟩
theorem fitL_int {k : IntKind} {l : List Sh} {cs : List V} (h : FitL (.int k :: l) cs) : ∃ n cs', cs = .int k n :: cs' ∧ FitL l cs' := by
  obtain ⟨c, cs', rfl, h1, h2⟩ := fitL_cons h
  obtain ⟨n, rfl, _⟩ := fitInt h1
  exact ⟨n, cs', rfl, h2⟩
abbrev SlOk {α : Type} (s : Sl α) : Prop := s.len ≤ 140737488355328 ∧ (s.nl = true → s.len = 0)
theorem fitRow {α : Type} {e : α → List V} {P : α → Prop} {l : List Sh} (dec : ∀ cs, FitL l cs → ∃ a : α, cs = e a ∧ P a) {c : V} (h : Fit (.row l) c) : ∃ s : Sl α, c = sl e l.length s ∧ SlOk s ∧ ∀ i, P (s.el i) := by
  cases h with
  | row h hn hl hf =>
    rename_i nl len get
    have hx : ∀ i, ∃ a : α, get i = e a ∧ P a := fun i => dec _ ⟨hl i, hf i⟩
    refine ⟨⟨nl, len, fun i => (hx i).choose⟩, ?_, ⟨h, hn⟩, fun i => (hx i).choose_spec.2⟩
    show V.row nl len l.length get = V.row nl len l.length fun i => e (hx i).choose
    congr 1
    funext i
    exact (hx i).choose_spec.1
theorem fitL_row {α : Type} {e : α → List V} {P : α → Prop} {l r : List Sh} (dec : ∀ cs, FitL l cs → ∃ a : α, cs = e a ∧ P a) {cs : List V} (h : FitL (.row l :: r) cs) : ∃ (s : Sl α) (cs' : List V), cs = sl e l.length s :: cs' ∧ SlOk s ∧ (∀ i, P (s.el i)) ∧ FitL r cs' := by
  obtain ⟨c, cs', rfl, h1, h2⟩ := fitL_cons h
  obtain ⟨s, rfl, h3, h4⟩ := fitRow dec h1
  exact ⟨s, cs', rfl, h3, h4, h2⟩
theorem fitL_bool {l : List Sh} {cs : List V} (h : FitL (.bool :: l) cs) : ∃ n cs', cs = .bool n :: cs' ∧ FitL l cs' := by
  obtain ⟨c, cs', rfl, h1, h2⟩ := fitL_cons h
  cases h1 with
  | bool => exact ⟨_, cs', rfl, h2⟩
abbrev i8 : Sh := .int .i64
abbrev shRow : List Sh := [i8, i8, i8, i8]
abbrev shMach : List Sh := [i8, .row shRow, i8, i8, i8, i8, i8, i8, .bool, i8]
abbrev shHour : List Sh := [i8, i8, i8]
abbrev shSpan : List Sh := [i8, i8]
abbrev I64 (n : Int) : Prop := IntKind.i64.min ≤ n ∧ n ≤ IntKind.i64.max
theorem decBool (cs : List V) (h : FitL [.bool] cs) : ∃ n : Bool, cs = eBool n ∧ True := by
  obtain ⟨n, cs', rfl, h2⟩ := fitL_bool h
  obtain rfl := fitL_nil h2
  exact ⟨n, rfl, trivial⟩
theorem decRow (cs : List V) (h : FitL shRow cs) : ∃ c : Row, cs = eRow c ∧ True := by
  obtain ⟨a0, _, rfl, h1⟩ := fitL_int h
  obtain ⟨a1, _, rfl, h2⟩ := fitL_int h1
  obtain ⟨a2, _, rfl, h3⟩ := fitL_int h2
  obtain ⟨a3, _, rfl, h4⟩ := fitL_int h3
  obtain rfl := fitL_nil h4
  exact ⟨⟨a0, a1, a2, a3⟩, rfl, trivial⟩
theorem dcMach (cs : List V) (h : FitL shMach cs) : ∃ c : Mach, cs = eMach c ∧ SlOk c.rows := by
  obtain ⟨a0, _, rfl, h1⟩ := fitL_int h
  obtain ⟨rw, _, rfl, h0, _, h2⟩ := fitL_row decRow h1
  obtain ⟨a2, _, rfl, h3⟩ := fitL_int h2
  obtain ⟨a3, _, rfl, h4⟩ := fitL_int h3
  obtain ⟨a4, _, rfl, h5⟩ := fitL_int h4
  obtain ⟨a5, _, rfl, h6⟩ := fitL_int h5
  obtain ⟨a6, _, rfl, h7⟩ := fitL_int h6
  obtain ⟨a7, _, rfl, h8⟩ := fitL_int h7
  obtain ⟨a8, _, rfl, h9⟩ := fitL_bool h8
  obtain ⟨a9, _, rfl, h10⟩ := fitL_int h9
  obtain rfl := fitL_nil h10
  exact ⟨⟨a0, rw, a2, a3, a4, a5, a6, a7, a8, a9⟩, rfl, h0⟩
theorem own : ownKnob Try.prog.godebug = none := by kernel_rfl
end Go.Sim.Pl


namespace Go.Sim.Pl
open Go.Proofs
variable (F d : Nat)
end Go.Sim.Pl


namespace Go.Sim.Pl
open Go.Proofs
theorem w00 : (IntKind.i64.wrap (((0 : Nat) : Int) + ((0 : Nat) : Int)) == (0 : Int)) = true := by decide
theorem dd {α : Type} [DecidableEq α] (a : α) : decide (a = a) = true := decide_eq_true rfl
variable (F d : Nat)
theorem law3 (hF : 140737488355330 < F) (l : Sl Mach) (r : Sl Bool) (f x : Int) (hl : l.len ≤ 140737488355328) (hR : ∀ i, (l.el i).rows.len ≤ 140737488355328) :
    (E F (d + 43)).pf 3 [sl eMach 10 l, sl eBool 1 r, .int .i64 f, .int .i64 x] = some (.ret (.bool true)) := by
  have q16 := s16 F d (by omega)
  have q15 := s15 F (d + 41) l (lenB hl) (by omega)
  have hRB : RowsB l F := fun i _ => ⟨lenB (hR i), by have := hR i; omega⟩
  have q18 := s18 F (d + 38) l r f (lenB hl) (by omega) hRB
  rw [E_pf, t3]
  simp only [q15, q16, q18, tkOut_ret, tkBool_b]
  by_cases h1 : ShortP l
  case neg => rw [decide_eq_false h1, Bool.not_false, pT]
  rw [decide_eq_true h1, Bool.not_true, pF]
  by_cases h2 : (r.len : Int) > 20
  · rw [decide_eq_true h2, pT]
  rw [decide_eq_false h2, pF]
  by_cases h3 : RunOk l r f ∧ 1000 ≤ x ∧ x ≤ 5000
  case neg =>
    have q17 := s17xbad F (d + 32) l r f x (lenB hl) (by omega) hRB h3
    by_cases h4 : RunOk l r f
    · rw [decide_eq_true h4]
      by_cases h5 : x < 1000
      · simp only [q17, tkOut_ret, tkTup_t, tkCons_c, tkRow_r, tkInt_i, tkNil_n, Bool.not_true, pT, pF, decide_eq_true h5, dd, decide_true, beq_self_eq_true, w00]
      · have h6 : x > 5000 := by
          by_cases h7 : x > 5000
          · exact h7
          · exact absurd ⟨h4, by omega, by omega⟩ h3
        simp only [q17, tkOut_ret, tkTup_t, tkCons_c, tkRow_r, tkInt_i, tkNil_n, Bool.not_true, pT, pF, decide_eq_false h5, decide_eq_true h6, dd, decide_true, beq_self_eq_true, w00]
    · rw [decide_eq_false h4]
      simp only [q17, tkOut_ret, tkTup_t, tkCons_c, tkRow_r, tkInt_i, tkNil_n, Bool.not_false, pT, pF, dd, decide_true, beq_self_eq_true, w00]
  have h5 : ¬ x < 1000 := by omega
  have h6 : ¬ x > 5000 := by omega
  obtain ⟨h4, hx⟩ := h3
  have hF2 : 2000 < F := by omega
  have hF1 : 1000 < F := by omega
  have q19 := s19 F (d + 40) h4.1 hF1 r h4.2.1 f x
  have q20 := s20 F (d + 40) h4.1 hF2 r h4.2.1 f x h4.2.2
  rw [decide_eq_true h4]
  by_cases hk : lacks l r.el f x = 0
  · have q17 := s17xok F (d + 32) h4 hF2 hx hk
    have hi : ShInv l x (shareS l r.el f x) := shK_inv F h4.1 hF1 h4.2.2 3 1 shr0 (shr0xinv F h4.1 hF1 r h4.2.1 f x h4.2.2)
    have q21 : (E F (d + 42)).pf 21 [.row false l.len 1 (fun i => eInt ((shareS l r.el f x).sh i)), .row false l.len 1 (fun i => eInt ((shareS l r.el f x).sh i))] = some (.ret (.bool true)) := by
      have := s21 F (d + 41) ⟨false, l.len, (shareS l r.el f x).sh⟩ ⟨false, l.len, (shareS l r.el f x).sh⟩ (lenB hl) (show l.len < F by omega)
      rw [decide_eq_true ⟨rfl, fun _ _ => rfl⟩] at this
      exact this
    have q22 : (E F (d + 42)).pf 22 [sl eMach 10 l, sl eBool 1 r, .row false l.len 1 (fun i => eInt ((shareS l r.el f x).sh i)), .int .i64 x] = _ := s22 F (d + 40) h4.1 hF1 r h4.2.1 ⟨false, l.len, (shareS l r.el f x).sh⟩ rfl x
    have q23 : (E F (d + 42)).pf 23 [sl eMach 10 l, sl eBool 1 r, .row false l.len 1 (fun i => eInt ((shareS l r.el f x).sh i)), .int .i64 x] = _ := s23 F (d + 40) h4.1 hF1 r h4.2.1 ⟨false, l.len, (shareS l r.el f x).sh⟩ rfl x (fun i hi' => by
      have a := (hi.sh i hi').2
      have b := (row_in (h4.1.1 i hi') x).2.1
      show (shareS l r.el f x).sh i ≤ 1000000
      omega)
    have q21' : (E F (d + 42)).pf 21 [.row false 3 1 (fun i => eInt ((shareS l r.el f x).pr i)), .row false 3 1 (fun j => eInt (prR l r.el (shareS l r.el f x).sh x l.len j))] = some (.ret (.bool true)) := by
      have := s21 F (d + 41) ⟨false, 3, (shareS l r.el f x).pr⟩ ⟨false, 3, prR l r.el (shareS l r.el f x).sh x l.len⟩ (show 3 < Big by decide) (show 3 < F by omega)
      rw [decide_eq_true ⟨rfl, fun j hj => price_ref h4.1 r.el f x hj⟩] at this
      exact this
    have qe := energy_eq h4.1 r.el f x
    simp only [q17, q19, q20, q21, q22, q23, q21', tkOut_ret, tkTup_t, tkCons_c, tkRow_r, tkInt_i, tkBool_b, tkNil_n, Bool.not_true, pT, pF, decide_eq_false h5, decide_eq_false h6, dd, decide_true, beq_self_eq_true, hk, show decide ((0 : Int) > 0) = false from rfl, qe]
  · have q17 := s17xnone F (d + 32) h4 hF2 hx hk
    have hk2 : lacks l r.el f x > 0 := by have := lacks_in l r.el f x; omega
    simp only [q17, q19, q20, tkOut_ret, tkTup_t, tkCons_c, tkRow_r, tkInt_i, tkBool_b, tkNil_n, Bool.not_true, pT, pF, decide_eq_false h5, decide_eq_false h6, dd, decide_true, beq_self_eq_true, decide_eq_true hk2, w00]
end Go.Sim.Pl
