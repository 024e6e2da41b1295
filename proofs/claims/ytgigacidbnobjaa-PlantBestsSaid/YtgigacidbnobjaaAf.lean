import Derived.Test.YtgigacidbnobjaaAe
import Derived.IntWalk
set_option linter.unusedVariables false
set_option linter.unusedSimpArgs false
set_option linter.unusedSectionVars false

namespace Go.Sim.Pl
open Go.Proofs
section
variable {R : Type}
theorem tkOut_ret (v : V) (f : R) (k kp : V → R) : tkOut (some (.ret v)) f k kp = k v := Eq.trans (Eq.refl _) (Eq.refl _)
theorem tkBool_b (b : Bool) (f : R) (k : Bool → R) : tkBool (.bool b) f k = k b := Eq.trans (Eq.refl _) (Eq.refl _)
theorem tkInt_i (q : IntKind) (n : Int) (f : R) (k : IntKind → Int → R) : tkInt (.int q n) f k = k q n := Eq.trans (Eq.refl _) (Eq.refl _)
theorem tkAgg_a (l : List V) (f : R) (k : List V → R) : tkAgg (.agg l) f k = k l := Eq.trans (Eq.refl _) (Eq.refl _)
theorem tkTup_t (l : List V) (f : R) (k : List V → R) : tkTup (.tup l) f k = k l := Eq.trans (Eq.refl _) (Eq.refl _)
theorem tkRow_r (a : Bool) (n wd : Nat) (g : Nat → List V) (f : R) (k : Bool → Nat → Nat → (Nat → List V) → R) : tkRow (.row a n wd g) f k = k a n wd g := Eq.trans (Eq.refl _) (Eq.refl _)
theorem tkCons_c (v : V) (l : List V) (f : R) (k : V → List V → R) : tkCons (v :: l) f k = k v l := Eq.trans (Eq.refl _) (Eq.refl _)
theorem tkNil_n (f k : R) : tkNil [] f k = k := Eq.trans (Eq.refl _) (Eq.refl _)
theorem tkFn_f (g : Nat) (a b : List V) (f : R) (k : Nat → List V → List V → R) : tkFn (.fn (.func g) a b) f k = k g a b := Eq.trans (Eq.refl _) (Eq.refl _)
theorem tkPtr_p (n wd : Nat) (g : Nat → List V) (i o : Nat) (f : R) (k : Nat → Nat → (Nat → List V) → Nat → Nat → R) : tkPtr (.rptr n wd g i o) f k = k n wd g i o := Eq.trans (Eq.refl _) (Eq.refl _)
theorem tkHv_h (v : V) (h : List Slot) (f : R) (k : V → List Slot → R) : tkHv (some (.ret v, h)) f k = k v h := Eq.trans (Eq.refl _) (Eq.refl _)
theorem tkSCons_c (s : Slot) (l : List Slot) (f : R) (k : Slot → List Slot → R) : tkSCons (s :: l) f k = k s l := Eq.trans (Eq.refl _) (Eq.refl _)
theorem tkSNil_n (f k : R) : tkSNil [] f k = k := Eq.trans (Eq.refl _) (Eq.refl _)
theorem tkBox_b (e : Nat) (c : List V) (w : Bool) (f : R) (k : Nat → List V → Bool → R) : tkBox (.box e c w) f k = k e c w := Eq.trans (Eq.refl _) (Eq.refl _)
theorem tkArr_a (e wd n : Nat) (g : Nat → List V) (w : Bool) (f : R) (k : Nat → Nat → Nat → (Nat → List V) → Bool → R) : tkArr (.arr e wd n g w) f k = k e wd n g w := Eq.trans (Eq.refl _) (Eq.refl _)
theorem tkMp_m (a : Bool) (ks : List KS) (es : List (V × V)) (w : Bool) (f : R) (k : Bool → List KS → List (V × V) → Bool → R) : tkMp (.mp a ks es w) f k = k a ks es w := Eq.trans (Eq.refl _) (Eq.refl _)
theorem pT (a b : R) : (bif true then a else b) = a := Eq.trans (Eq.refl _) (Eq.refl _)
theorem pF (a b : R) : (bif false then a else b) = b := Eq.trans (Eq.refl _) (Eq.refl _)
theorem tkSl_o (b lo n : Nat) (f : R) (k : Bool → Nat → Nat → (Nat → List V) → R) (k' : Nat → Nat → Nat → R) : tkSl (.osl b lo n) f k k' = k' b lo n := Eq.trans (Eq.refl _) (Eq.refl _)
end
theorem cAnd (a b : Bool) : (bif a then some (Out.ret (.bool b)) else some (.ret (.bool false))) = some (.ret (.bool (a && b))) := by cases a <;> rfl
theorem wr {n : Int} (h : -9223372036854775808 ≤ n ∧ n ≤ 9223372036854775807) : IntKind.i64.wrap n = n := by rw [IntKind.wrap_i64]; omega
theorem wrS {i : Nat} (h : i < 4611686018427387904) : IntKind.i64.wrap ((i : Int) + 1) = ((i + 1 : Nat) : Int) := by rw [wr (by omega)]; omega
theorem b2 {a b : Bool} (h : a = true ↔ b = true) : a = b := by cases a <;> cases b <;> simp_all
theorem b3 {a b : Bool} (h : a = b) : some (Out.ret (.bool a)) = some (.ret (.bool b)) := by rw [h]
abbrev Big : Nat := 4611686018427387904
def allF (p : Nat → Bool) : Nat → Nat → Bool
  | 0, _ => true
  | n + 1, i => p i && allF p n (i + 1)
theorem allF_iff (p : Nat → Bool) : ∀ n i, allF p n i = true ↔ ∀ k, i ≤ k → k < i + n → p k = true := by
  intro n
  induction n with
  | zero => intro i; simp only [allF, true_iff]; intro k h1 h2; omega
  | succ n ih =>
    intro i
    simp only [allF, Bool.and_eq_true, ih]
    constructor
    · rintro ⟨h1, h2⟩ k h3 h4
      rcases Nat.eq_or_lt_of_le h3 with rfl | h5
      · exact h1
      · exact h2 k h5 (by omega)
    · intro h
      exact ⟨h i (Nat.le_refl _) (by omega), fun k h1 h2 => h k (by omega) (by omega)⟩
theorem allF_dec (p : Nat → Bool) (n : Nat) : allF p n 0 = decide (∀ i, i < n → p i = true) := by
  apply b2
  rw [allF_iff, decide_eq_true_iff]
  exact ⟨fun h i hi => h i (Nat.zero_le _) (by omega), fun h i _ hi => h i (by omega)⟩
theorem cStep (p a : Bool) : (bif !p then some (Out.ret (.bool false)) else some (.ret (.bool a))) = some (.ret (.bool (p && a))) := by cases p <;> rfl
section
variable {α : Type} (e : α → List V) (z : α)
def gl (ms : List α) : Nat → List V := fun j => e (ms.getD j (ms.getLastD z))
variable {e z}
theorem gl_one {l : List V} {m : α} (hl : l = e m) : (fun _ : Nat => l) = gl e z [m] := by
  subst hl
  funext j
  unfold gl
  cases j <;> rfl
theorem gl_snoc {l : List V} {m : α} {ms : List α} {k : Nat} (hk : ms.length = k) (hl : l = e m) : appGet k (gl e z ms) (fun _ => l) = gl e z (ms ++ [m]) := by
  subst hl hk
  funext j
  unfold appGet gl
  rw [List.getLastD_concat, List.getD_eq_getElem?_getD, List.getD_eq_getElem?_getD]
  by_cases h : j < ms.length
  · rw [if_pos h, List.getElem?_append_left h, List.getElem?_eq_getElem h]; rfl
  · rw [if_neg h, List.getElem?_append_right (by omega)]
    rcases Nat.eq_zero_or_pos (j - ms.length) with h0 | h0
    · rw [h0]; rfl
    · rw [List.getElem?_eq_none (by simp; omega)]; rfl
end
def tabL {α : Type} (f : Nat → α) (n : Nat) : List α := (List.range n).map f
theorem tabL_S {α : Type} (f : Nat → α) (n : Nat) : tabL f (n + 1) = tabL f n ++ [f n] := by
  unfold tabL; rw [List.range_succ, List.map_append]; rfl
theorem tabL_len {α : Type} (f : Nat → α) (n : Nat) : (tabL f n).length = n := by simp [tabL]
theorem tabL_get {α : Type} (f : Nat → α) {n j : Nat} (h : j < n) (z : α) : (tabL f n).getD j z = f j := by
  unfold tabL
  rw [List.getD_eq_getElem?_getD, List.getElem?_map, List.getElem?_range h]; rfl
theorem upd_int (r : Nat → Int) (n : Nat) (p : Int) : updGet (fun j => eInt (r j)) n 0 (eInt p) = fun j => eInt (if j = n then p else r j) := by
  funext j
  unfold updGet
  by_cases h : j = n
  · rw [if_pos h, if_pos h]; rfl
  · rw [if_neg h, if_neg h]
theorem upd_bool (r : Nat → Bool) (n : Nat) (p : Bool) : updGet (fun j => eBool (r j)) n 0 (eBool p) = fun j => eBool (if j = n then p else r j) := by
  funext j
  unfold updGet
  by_cases h : j = n
  · rw [if_pos h, if_pos h]; rfl
  · rw [if_neg h, if_neg h]
theorem mnE (a b : Int) : (if b < a then b else a) = min a b := by omega
theorem mxE (a b : Int) : (if a < b then b else a) = max a b := by omega
theorem lenB {n : Nat} (h : n ≤ 140737488355328) : n < Big := by show n < 4611686018427387904; omega
end Go.Sim.Pl


namespace Go.Sim.Pl
open Go.Proofs
abbrev RwOk (r : Nat → Row) (i : Nat) : Prop := (1000 ≤ (r i).ratio ∧ (r i).ratio ≤ 5000) ∧ (0 < i → (r (i - 1)).ratio < (r i).ratio) ∧ (0 ≤ (r i).least ∧ (r i).least ≤ (r i).most) ∧ (r i).most ≤ 1000000 ∧ 0 ≤ (r i).energy ∧ (r i).energy ≤ 1000
abbrev MachOk (m : Mach) : Prop := (∀ i, i < m.rows.len → RwOk m.rows.el i) ∧ (1 ≤ m.kind ∧ m.kind ≤ 3) ∧ (1 ≤ m.rows.len ∧ m.rows.len ≤ 6) ∧ (0 ≤ m.start ∧ m.start ≤ 1000000000) ∧ (1 ≤ m.up ∧ m.up ≤ 1000) ∧ (1 ≤ m.down ∧ m.down ≤ 1000) ∧ (1 ≤ m.service ∧ m.service ≤ 1000) ∧ (0 ≤ m.left ∧ m.left ≤ 1000) ∧ (0 ≤ m.life ∧ m.life ≤ 1000) ∧ 0 ≤ m.since ∧ m.since ≤ 1000
abbrev PlantOk (l : Sl Mach) : Prop := (∀ i, i < l.len → MachOk (l.el i)) ∧ 1 ≤ l.len ∧ l.len ≤ 6
abbrev RatioOk (s : Span) : Prop := 1000 ≤ s.lo ∧ s.lo ≤ s.hi ∧ s.hi ≤ 5000
abbrev FlowOk (n : Int) : Prop := 0 ≤ n ∧ n ≤ 1000000
abbrev HourOk (h : Hour) : Prop := FlowOk h.flow ∧ RatioOk h.ratio
abbrev HoursOk (hs : Sl Hour) : Prop := ∀ i, i < hs.len → HourOk (hs.el i)
abbrev DoesOk (n : Nat) (w : Sl Int) : Prop := w.len = n ∧ ∀ i, i < n → 0 ≤ w.el i ∧ w.el i ≤ 2
abbrev SchedOk (l : Sl Mach) (n : Nat) (sc : Sl (Sl Int)) : Prop := (∀ i, i < sc.len → DoesOk l.len (sc.el i)) ∧ sc.len = n
instance decMach (m : Mach) : Decidable (MachOk m) := inferInstance
instance decAll {p : Nat → Prop} [h : ∀ i, Decidable (p i)] (n : Nat) : Decidable (∀ i, i < n → p i) := Nat.decidableBallLT n fun i _ => p i
instance decPlant (l : Sl Mach) : Decidable (PlantOk l) := @instDecidableAnd _ _ (decAll (p := fun i => MachOk (l.el i)) (h := fun i => decMach (l.el i)) l.len) inferInstance
instance decHours (hs : Sl Hour) : Decidable (HoursOk hs) := decAll (p := fun i => HourOk (hs.el i)) hs.len
instance decDoes (n : Nat) (w : Sl Int) : Decidable (DoesOk n w) := @instDecidableAnd _ _ inferInstance (decAll (p := fun i => 0 ≤ w.el i ∧ w.el i ≤ 2) n)
instance decSched (l : Sl Mach) (n : Nat) (sc : Sl (Sl Int)) : Decidable (SchedOk l n sc) := @instDecidableAnd _ _ (decAll (p := fun i => DoesOk l.len (sc.el i)) (h := fun i => decDoes l.len (sc.el i)) sc.len) inferInstance
variable (F d : Nat)
theorem s52 (x y z : Int) : (E F (d + 1)).pf 52 [.int .i64 x, .int .i64 y, .int .i64 z] = some (.ret (.bool (decide (y ≤ x ∧ x ≤ z)))) := by
  rw [E_pf, t52]; simp only [cAnd, Bool.decide_and, ge_iff_le]
theorem s68 (x y z : Int) : (E F (d + 1)).pf 68 [.int .i64 x, .int .i64 y, .int .i64 z] = some (.ret (.bool (decide (y ≤ x ∧ x ≤ z)))) := by
  rw [E_pf, t68]; simp only [cAnd, Bool.decide_and, ge_iff_le]
theorem s110 (x y : Int) : (E F (d + 2)).pf 110 [.int .i64 x, .int .i64 y] = some (.ret (.bool (decide (y ≤ x ∧ x ≤ 1000)))) := by
  rw [E_pf, t110]; simp only [s52, tkOut_ret, tkBool_b]
theorem s56 (x : Int) : (E F (d + 2)).pf 56 [.int .i64 x] = some (.ret (.bool (decide (FlowOk x)))) := by
  rw [E_pf, t56]; simp only [s68, tkOut_ret, tkBool_b]
theorem s27 (s : Span) : (E F (d + 1)).pf 27 [.agg (eSpan s)] = some (.ret (.bool (decide (RatioOk s)))) := by
  rw [E_pf, t27]; simp only [cAnd, Bool.decide_and, ge_iff_le]
theorem s53 (s : Span) : (E F (d + 1)).pf 53 [.agg (eSpan s)] = some (.ret (.bool (decide (RatioOk s)))) := by
  rw [E_pf, t53]; simp only [cAnd, Bool.decide_and, ge_iff_le]
def row0 : Row := ⟨0, 0, 0, 0⟩
def rowR (m : Mach) (x : Int) : Nat → Nat → Row
  | 0, _ => row0
  | j + 1, i => if (m.rows.el i).ratio ≥ x then m.rows.el i else rowR m x j (i + 1)
def rowAt (m : Mach) (x : Int) : Row := rowR m x m.rows.len 0
theorem l25 (m : Mach) (x : Int) (hB : m.rows.len < Big) : ∀ j i fu, i + j = m.rows.len → j < fu →
    L25x0 (E F d) F m x fu i = some (.ret (.agg (eRow (rowR m x j i)))) := by
  intro j
  induction j with
  | zero =>
    intro i fu h hf
    obtain ⟨fu, rfl⟩ : ∃ k, fu = k + 1 := ⟨fu - 1, by omega⟩
    rw [L25x0s, decide_eq_false (by omega), pF]
    rfl
  | succ j ih =>
    intro i fu h hf
    obtain ⟨fu, rfl⟩ : ∃ k, fu = k + 1 := ⟨fu - 1, by omega⟩
    have hB' : m.rows.len < 4611686018427387904 := hB
    have hS : IntKind.i64.wrap ((i : Int) + 1) = ((i + 1 : Nat) : Int) := wrS (by omega)
    rw [L25x0s]
    simp (disch := omega) only [decide_eq_true, pT, Int.toNat_natCast, hS]
    simp only [rowR]
    by_cases h1 : (m.rows.el i).ratio ≥ x
    · rw [decide_eq_true h1, pT, if_pos h1]
    · rw [decide_eq_false h1, pF, if_neg h1]
      exact ih (i + 1) fu (by omega) (by omega)
theorem s25 (m : Mach) (x : Int) (hB : m.rows.len < Big) (hF : m.rows.len < F) : (E F (d + 1)).pf 25 [.agg (eMach m), .int .i64 x] = some (.ret (.agg (eRow (rowAt m x)))) := by
  rw [E_pf, t25]
  exact l25 F d m x hB m.rows.len 0 F (by omega) hF
theorem l82 (m : Mach) (x : Int) (hB : m.rows.len < Big) : ∀ j i fu, i + j = m.rows.len → j < fu →
    L82x0 (E F d) F m x fu i = some (.ret (.agg (eRow (rowR m x j i)))) := by
  intro j
  induction j with
  | zero =>
    intro i fu h hf
    obtain ⟨fu, rfl⟩ : ∃ k, fu = k + 1 := ⟨fu - 1, by omega⟩
    rw [L82x0s, decide_eq_false (by omega), pF]
    rfl
  | succ j ih =>
    intro i fu h hf
    obtain ⟨fu, rfl⟩ : ∃ k, fu = k + 1 := ⟨fu - 1, by omega⟩
    have hB' : m.rows.len < 4611686018427387904 := hB
    have hS : IntKind.i64.wrap ((i : Int) + 1) = ((i + 1 : Nat) : Int) := wrS (by omega)
    rw [L82x0s]
    simp (disch := omega) only [decide_eq_true, pT, Int.toNat_natCast, hS]
    simp only [rowR]
    by_cases h1 : (m.rows.el i).ratio ≥ x
    · rw [decide_eq_true h1, pT, if_pos h1]
    · rw [decide_eq_false h1, pF, if_neg h1]
      exact ih (i + 1) fu (by omega) (by omega)
theorem s82 (m : Mach) (x : Int) (hB : m.rows.len < Big) (hF : m.rows.len < F) : (E F (d + 1)).pf 82 [.agg (eMach m), .int .i64 x] = some (.ret (.agg (eRow (rowAt m x)))) := by
  rw [E_pf, t82]
  exact l82 F d m x hB m.rows.len 0 F (by omega) hF
theorem l15 (l : Sl Mach) (hB : l.len < Big) : ∀ j i fu, i + j = l.len → j < fu →
    L15x0 (E F d) F l fu i = some (.ret (.bool (allF (fun i => decide ((l.el i).rows.len ≤ 10)) j i && decide (l.len ≤ 10)))) := by
  intro j
  induction j with
  | zero =>
    intro i fu h hf
    obtain ⟨fu, rfl⟩ : ∃ k, fu = k + 1 := ⟨fu - 1, by omega⟩
    rw [L15x0s, decide_eq_false (by omega), pF]
    refine b3 (b2 ?_)
    simp only [allF, Bool.true_and, decide_eq_true_iff]
    omega
  | succ j ih =>
    intro i fu h hf
    obtain ⟨fu, rfl⟩ : ∃ k, fu = k + 1 := ⟨fu - 1, by omega⟩
    have hB' : l.len < 4611686018427387904 := hB
    have hS : IntKind.i64.wrap ((i : Int) + 1) = ((i + 1 : Nat) : Int) := wrS (by omega)
    rw [L15x0s]
    simp (disch := omega) only [decide_eq_true, pT, Int.toNat_natCast, hS]
    simp only [allF]
    by_cases h1 : (((l.el i).rows.len : Nat) : Int) > 10
    · rw [decide_eq_true h1, pT, decide_eq_false (show ¬ (l.el i).rows.len ≤ 10 by omega)]; rfl
    · rw [decide_eq_false h1, pF, decide_eq_true (show (l.el i).rows.len ≤ 10 by omega), Bool.true_and]
      exact ih (i + 1) fu (by omega) (by omega)
abbrev ShortP (l : Sl Mach) : Prop := (∀ i, i < l.len → (l.el i).rows.len ≤ 10) ∧ l.len ≤ 10
theorem s15 (l : Sl Mach) (hB : l.len < Big) (hF : l.len < F) : (E F (d + 1)).pf 15 [sl eMach 10 l] = some (.ret (.bool (decide (ShortP l)))) := by
  rw [E_pf, t15]
  refine Eq.trans (l15 F d l hB l.len 0 F (by omega) hF) (b3 (b2 ?_))
  rw [allF_dec]
  simp only [Bool.and_eq_true, decide_eq_true_iff]
theorem rw_dec (r : Nat → Row) (i : Nat) : decide (RwOk r i) = (decide (1000 ≤ (r i).ratio ∧ (r i).ratio ≤ 5000) && (decide (0 < i → (r (i - 1)).ratio < (r i).ratio) && (decide (0 ≤ (r i).least ∧ (r i).least ≤ (r i).most) && (decide ((r i).most ≤ 1000000) && decide (0 ≤ (r i).energy ∧ (r i).energy ≤ 1000))))) := by
  simp only [Bool.decide_and]
def mRest (m : Mach) : Bool := decide ((1 ≤ m.kind ∧ m.kind ≤ 3) ∧ (1 ≤ m.rows.len ∧ m.rows.len ≤ 6) ∧ (0 ≤ m.start ∧ m.start ≤ 1000000000) ∧ (1 ≤ m.up ∧ m.up ≤ 1000) ∧ (1 ≤ m.down ∧ m.down ≤ 1000) ∧ (1 ≤ m.service ∧ m.service ≤ 1000) ∧ (0 ≤ m.left ∧ m.left ≤ 1000) ∧ (0 ≤ m.life ∧ m.life ≤ 1000) ∧ 0 ≤ m.since ∧ m.since ≤ 1000)
theorem l48 (m : Mach) (hB : m.rows.len < Big) : ∀ j i fu, i + j = m.rows.len → j < fu →
    L48x0 (E F (d + 1)) F m fu i = some (.ret (.bool (allF (fun i => decide (RwOk m.rows.el i)) j i && mRest m))) := by
  intro j
  induction j with
  | zero =>
    intro i fu h hf
    obtain ⟨fu, rfl⟩ : ∃ k, fu = k + 1 := ⟨fu - 1, by omega⟩
    rw [L48x0s, decide_eq_false (by omega), pF]
    simp only [s68, tkOut_ret, tkBool_b, cAnd]
    refine b3 (b2 ?_)
    unfold mRest
    simp only [allF, Bool.true_and, Bool.and_eq_true, decide_eq_true_iff]
    omega
  | succ j ih =>
    intro i fu h hf
    obtain ⟨fu, rfl⟩ : ∃ k, fu = k + 1 := ⟨fu - 1, by omega⟩
    have hB' : m.rows.len < 4611686018427387904 := hB
    have hS : IntKind.i64.wrap ((i : Int) + 1) = ((i + 1 : Nat) : Int) := wrS (by omega)
    have e := ih (i + 1) fu (by omega) (by omega)
    rw [L48x0s]
    simp (disch := omega) only [decide_eq_true, pT, Int.toNat_natCast, hS, s68, tkOut_ret, tkBool_b, e]
    simp only [allF, rw_dec]
    have hm : decide ((m.rows.el i).most > 1000000) = !decide ((m.rows.el i).most ≤ 1000000) := by
      refine b2 ?_
      simp only [decide_eq_true_iff, Bool.not_eq_true', decide_eq_false_iff_not]
      omega
    rw [hm]
    by_cases hi : (i : Int) > 0
    · have hS2 : IntKind.i64.wrap ((i : Int) - 1) = ((i - 1 : Nat) : Int) := by rw [wr (by omega)]; omega
      have hr : decide ((m.rows.el i).ratio ≤ (m.rows.el (i - 1)).ratio) = !decide (0 < i → (m.rows.el (i - 1)).ratio < (m.rows.el i).ratio) := by
        refine b2 ?_
        simp only [decide_eq_true_iff, Bool.not_eq_true', decide_eq_false_iff_not]
        omega
      rw [decide_eq_true hi, pT, hS2]
      simp (disch := omega) only [decide_eq_true, pT, Int.toNat_natCast]
      rw [hr]
      generalize decide (1000 ≤ (m.rows.el i).ratio ∧ (m.rows.el i).ratio ≤ 5000) = b1
      generalize decide (0 < i → (m.rows.el (i - 1)).ratio < (m.rows.el i).ratio) = b2'
      generalize decide (0 ≤ (m.rows.el i).least ∧ (m.rows.el i).least ≤ (m.rows.el i).most) = b3'
      generalize decide ((m.rows.el i).most ≤ 1000000) = b4
      generalize decide (0 ≤ (m.rows.el i).energy ∧ (m.rows.el i).energy ≤ 1000) = b5
      cases b1 <;> cases b2' <;> cases b3' <;> cases b4 <;> cases b5 <;> rfl
    · have hr : decide (0 < i → (m.rows.el (i - 1)).ratio < (m.rows.el i).ratio) = true := decide_eq_true (by omega)
      rw [decide_eq_false hi, pF, hr]
      generalize decide (1000 ≤ (m.rows.el i).ratio ∧ (m.rows.el i).ratio ≤ 5000) = b1
      generalize decide (0 ≤ (m.rows.el i).least ∧ (m.rows.el i).least ≤ (m.rows.el i).most) = b3'
      generalize decide ((m.rows.el i).most ≤ 1000000) = b4
      generalize decide (0 ≤ (m.rows.el i).energy ∧ (m.rows.el i).energy ≤ 1000) = b5
      cases b1 <;> cases b3' <;> cases b4 <;> cases b5 <;> rfl
theorem mach_dec (m : Mach) : (allF (fun i => decide (RwOk m.rows.el i)) m.rows.len 0 && mRest m) = decide (MachOk m) := by
  refine b2 ?_
  rw [allF_dec]
  unfold mRest
  simp only [Bool.and_eq_true, decide_eq_true_iff]
theorem s48 (m : Mach) (hB : m.rows.len < Big) (hF : m.rows.len < F) : (E F (d + 2)).pf 48 [.agg (eMach m)] = some (.ret (.bool (decide (MachOk m)))) := by
  rw [E_pf, t48]
  refine Eq.trans (l48 F d m hB m.rows.len 0 F (by omega) hF) (b3 (mach_dec m))
theorem l39 (l : Sl Mach) (hB : l.len < Big) (hR : ∀ i, i < l.len → (l.el i).rows.len < Big ∧ (l.el i).rows.len < F) : ∀ j i fu, i + j = l.len → j < fu →
    L39x0 (E F (d + 2)) F l fu i = some (.ret (.bool (allF (fun i => decide (MachOk (l.el i))) j i && decide (1 ≤ l.len ∧ l.len ≤ 6)))) := by
  intro j
  induction j with
  | zero =>
    intro i fu h hf
    obtain ⟨fu, rfl⟩ : ∃ k, fu = k + 1 := ⟨fu - 1, by omega⟩
    rw [L39x0s, decide_eq_false (by omega), pF]
    simp only [s68, tkOut_ret, tkBool_b]
    refine b3 (b2 ?_)
    simp only [allF, Bool.true_and, decide_eq_true_iff]
    omega
  | succ j ih =>
    intro i fu h hf
    obtain ⟨fu, rfl⟩ : ∃ k, fu = k + 1 := ⟨fu - 1, by omega⟩
    have hB' : l.len < 4611686018427387904 := hB
    have hS : IntKind.i64.wrap ((i : Int) + 1) = ((i + 1 : Nat) : Int) := wrS (by omega)
    have hr := hR i (by omega)
    rw [L39x0s]
    simp (disch := omega) only [decide_eq_true, pT, Int.toNat_natCast, hS, s48 F d (l.el i) hr.1 hr.2, tkOut_ret, tkBool_b, ih (i + 1) fu (by omega) (by omega), allF, cStep, Bool.and_assoc]
abbrev RowsB (l : Sl Mach) (F : Nat) : Prop := ∀ i, i < l.len → (l.el i).rows.len < Big ∧ (l.el i).rows.len < F
theorem s39 (l : Sl Mach) (hB : l.len < Big) (hF : l.len < F) (hR : RowsB l F) : (E F (d + 3)).pf 39 [sl eMach 10 l] = some (.ret (.bool (decide (PlantOk l)))) := by
  rw [E_pf, t39]
  refine Eq.trans (l39 F d l hB hR l.len 0 F (by omega) hF) (b3 (b2 ?_))
  rw [allF_dec]
  simp only [Bool.and_eq_true, decide_eq_true_iff]
theorem s109 (m : Mach) (i : Nat) (hB : m.rows.len < Big) (hi : i < m.rows.len) : (E F (d + 2)).pf 109 [.int .i64 i, .agg (eRow (m.rows.el i)), .rptr 1 10 (fun _ => eMach m) 0 0] = some (.ret (.bool (decide (RwOk m.rows.el i)))) := by
  have hB' : m.rows.len < 4611686018427387904 := hB
  rw [E_pf, t109]
  simp only [s52, tkOut_ret, tkBool_b]
  rw [rw_dec]
  rcases Nat.eq_zero_or_pos i with h0 | h0
  · subst h0
    rw [show (((0 : Nat) : Int) == 0) = true from rfl, show decide (0 < 0 → (m.rows.el (0 - 1)).ratio < (m.rows.el 0).ratio) = true from decide_eq_true (by omega)]
    simp only [pT]
    generalize decide (1000 ≤ (m.rows.el 0).ratio ∧ (m.rows.el 0).ratio ≤ 5000) = b1
    generalize decide (0 ≤ (m.rows.el 0).least ∧ (m.rows.el 0).least ≤ (m.rows.el 0).most) = b3'
    generalize decide ((m.rows.el 0).most ≤ 1000000) = b4
    generalize decide (0 ≤ (m.rows.el 0).energy ∧ (m.rows.el 0).energy ≤ 1000) = b5
    cases b1 <;> cases b3' <;> cases b4 <;> cases b5 <;> rfl
  · have hS2 : IntKind.i64.wrap ((i : Int) - 1) = ((i - 1 : Nat) : Int) := by rw [wr (by omega)]; omega
    have hr : decide ((m.rows.el i).ratio > (m.rows.el (i - 1)).ratio) = decide (0 < i → (m.rows.el (i - 1)).ratio < (m.rows.el i).ratio) := by
      refine b2 ?_
      simp only [decide_eq_true_iff]
      omega
    rw [show ((i : Int) == 0) = false by rw [beq_eq_false_iff_ne]; omega, hS2]
    simp (disch := omega) only [decide_eq_true, pT, pF, Int.toNat_natCast]
    rw [hr]
    generalize decide (1000 ≤ (m.rows.el i).ratio ∧ (m.rows.el i).ratio ≤ 5000) = b1
    generalize decide (0 < i → (m.rows.el (i - 1)).ratio < (m.rows.el i).ratio) = b2'
    generalize decide (0 ≤ (m.rows.el i).least ∧ (m.rows.el i).least ≤ (m.rows.el i).most) = b3'
    generalize decide ((m.rows.el i).most ≤ 1000000) = b4
    generalize decide (0 ≤ (m.rows.el i).energy ∧ (m.rows.el i).energy ≤ 1000) = b5
    cases b1 <;> cases b2' <;> cases b3' <;> cases b4 <;> cases b5 <;> rfl
theorem l108 (m : Mach) (hB : m.rows.len < Big) : ∀ j i fu, i + j = m.rows.len → j < fu →
    L108x0 (E F (d + 2)) F m.rows m fu i = some (.ret (.bool (allF (fun i => decide (RwOk m.rows.el i)) j i))) := by
  intro j
  induction j with
  | zero =>
    intro i fu h hf
    obtain ⟨fu, rfl⟩ : ∃ k, fu = k + 1 := ⟨fu - 1, by omega⟩
    rw [L108x0s, decide_eq_false (by omega), pF]
    rfl
  | succ j ih =>
    intro i fu h hf
    obtain ⟨fu, rfl⟩ : ∃ k, fu = k + 1 := ⟨fu - 1, by omega⟩
    have hB' : m.rows.len < 4611686018427387904 := hB
    have hS : IntKind.i64.wrap ((i : Int) + 1) = ((i + 1 : Nat) : Int) := wrS (by omega)
    have e := s109 F d m i hB (by omega)
    rw [L108x0s]
    simp (disch := omega) only [decide_eq_true, pT, Int.toNat_natCast, hS, e, tkOut_ret, tkBool_b, ih (i + 1) fu (by omega) (by omega), allF, cStep]
theorem s108 (m : Mach) (hB : m.rows.len < Big) (hF : m.rows.len < F) : (E F (d + 3)).pf 108 [sl eRow 4 m.rows, .fn (.func 109) [] [.rptr 1 10 (fun _ => eMach m) 0 0]] = some (.ret (.bool (allF (fun i => decide (RwOk m.rows.el i)) m.rows.len 0))) := by
  rw [E_pf, t108]
  exact l108 F d m hB m.rows.len 0 F (by omega) hF
theorem s81 (m : Mach) (hB : m.rows.len < Big) (hF : m.rows.len < F) : (E F (d + 4)).pf 81 [.agg (eMach m)] = some (.ret (.bool (decide (MachOk m)))) := by
  rw [E_pf, t81]
  simp only [s108 F d m hB hF, s52, s110, tkOut_ret, tkBool_b, cAnd]
  refine b3 ((b2 ?_).trans (mach_dec m))
  unfold mRest
  simp only [Bool.and_eq_true, decide_eq_true_iff]
  generalize allF _ _ _ = q
  cases q
  · simp
  · simp only [true_and, and_true]
    omega
theorem l106 (l : Sl Mach) (hB : l.len < Big) (hR : RowsB l F) : ∀ j i fu, i + j = l.len → j < fu →
    L106x0 (E F (d + 5)) F l fu i = some (.ret (.bool (allF (fun i => decide (MachOk (l.el i))) j i))) := by
  intro j
  induction j with
  | zero =>
    intro i fu h hf
    obtain ⟨fu, rfl⟩ : ∃ k, fu = k + 1 := ⟨fu - 1, by omega⟩
    rw [L106x0s, decide_eq_false (by omega), pF]; rfl
  | succ j ih =>
    intro i fu h hf
    obtain ⟨fu, rfl⟩ : ∃ k, fu = k + 1 := ⟨fu - 1, by omega⟩
    have hB' : l.len < 4611686018427387904 := hB
    have hS : IntKind.i64.wrap ((i : Int) + 1) = ((i + 1 : Nat) : Int) := wrS (by omega)
    have hr := hR i (by omega)
    have e : (E F (d + 5)).pf 107 [.int .i64 i, .agg (eMach (l.el i))] = some (.ret (.bool (decide (MachOk (l.el i))))) := by
      rw [E_pf, t107]; simp only [s81 F d (l.el i) hr.1 hr.2, tkOut_ret, tkBool_b]
    rw [L106x0s]
    simp (disch := omega) only [decide_eq_true, pT, Int.toNat_natCast, hS, e, tkOut_ret, tkBool_b, ih (i + 1) fu (by omega) (by omega), allF, cStep]
theorem s80 (l : Sl Mach) (hB : l.len < Big) (hF : l.len < F) (hR : RowsB l F) : (E F (d + 7)).pf 80 [sl eMach 10 l] = some (.ret (.bool (decide (PlantOk l)))) := by
  have e : (E F (d + 6)).pf 106 [sl eMach 10 l, .fn (.func 107) [] []] = some (.ret (.bool (allF (fun i => decide (MachOk (l.el i))) l.len 0))) := by
    rw [E_pf, t106]
    exact l106 F d l hB hR l.len 0 F (by omega) hF
  rw [E_pf, t80]
  simp only [e, s52, tkOut_ret, tkBool_b, cAnd]
  refine b3 (b2 ?_)
  rw [allF_dec]
  simp only [Bool.and_eq_true, decide_eq_true_iff]
  constructor
  · rintro ⟨h1, h2⟩; exact ⟨h2, by omega, by omega⟩
  · rintro ⟨h1, h2, h3⟩; exact ⟨by omega, h1⟩
theorem s46 (l : Sl Mach) (hB : l.len < Big) (hF : l.len < F) (hR : RowsB l F) : (E F (d + 8)).pf 46 [sl eMach 10 l] = some (.ret (.int .i64 (if PlantOk l then 0 else 2))) := by
  rw [E_pf, t46]
  simp only [s80 F d l hB hF hR, tkOut_ret, tkBool_b]
  by_cases h : PlantOk l
  · rw [decide_eq_true h, Bool.not_true, pF, if_pos h]
  · rw [decide_eq_false h, Bool.not_false, pT, if_neg h]
theorem s47 (m : Mach) (x : Int) (hB : m.rows.len < Big) (hF : m.rows.len < F) : (E F (d + 5)).pf 47 [.agg (eMach m), .int .i64 x] = some (.ret (.tup (if MachOk m ∧ 1000 ≤ x ∧ x ≤ 5000 then [.agg (eRow (rowAt m x)), .int .i64 0] else [.agg (eRow row0), .int .i64 2]))) := by
  have e53 := s53 F (d + 3) ⟨x, x⟩
  simp only [eSpan] at e53
  rw [E_pf, t47]
  simp only [s81 F d m hB hF, tkOut_ret, tkBool_b]
  by_cases h : MachOk m
  · rw [decide_eq_true h, Bool.not_true, pF, e53]
    simp only [tkOut_ret, tkBool_b]
    by_cases hx : 1000 ≤ x ∧ x ≤ 5000
    · rw [decide_eq_true (show RatioOk ⟨x, x⟩ from ⟨hx.1, Int.le_refl _, hx.2⟩), Bool.not_true, pF, if_pos ⟨h, hx⟩]
      simp only [s82 F (d + 3) m x hB hF, tkOut_ret, tkAgg_a, tkCons_c, tkInt_i, tkNil_n]
    · rw [decide_eq_false (show ¬ RatioOk ⟨x, x⟩ from fun hh => hx ⟨hh.1, hh.2.2⟩), Bool.not_false, pT, if_neg (fun hh => hx hh.2)]; rfl
  · rw [decide_eq_false h, Bool.not_false, pT, if_neg (fun hh => h hh.1)]; rfl
theorem s51 (l : Sl Mach) (r : Sl Bool) (hB : l.len < Big) (hF : l.len < F) (hR : RowsB l F) : (E F (d + 8)).pf 51 [sl eMach 10 l, sl eBool 1 r] = some (.ret (.bool (decide (PlantOk l ∧ r.len = l.len)))) := by
  rw [E_pf, t51]
  simp only [s80 F d l hB hF hR, tkOut_ret, tkBool_b, cAnd]
  refine b3 (b2 ?_)
  simp only [Bool.and_eq_true, decide_eq_true_iff, beq_iff_eq, Int.natCast_inj]
theorem s18 (l : Sl Mach) (r : Sl Bool) (f : Int) (hB : l.len < Big) (hF : l.len < F) (hR : RowsB l F) : (E F (d + 4)).pf 18 [sl eMach 10 l, sl eBool 1 r, .int .i64 f] = some (.ret (.bool (decide (PlantOk l ∧ r.len = l.len ∧ FlowOk f)))) := by
  rw [E_pf, t18]
  simp only [s39 F d l hB hF hR, s56, tkOut_ret, tkBool_b, cAnd]
  refine b3 (b2 ?_)
  simp only [Bool.and_eq_true, decide_eq_true_iff, beq_iff_eq, Int.natCast_inj]
end Go.Sim.Pl


namespace Go.Sim.Pl
open Go.Proofs
abbrev RowIn (r : Row) : Prop := (0 ≤ r.least ∧ r.least ≤ r.most) ∧ r.most ≤ 1000000 ∧ 0 ≤ r.energy ∧ r.energy ≤ 1000
theorem rowR_in {m : Mach} (hm : MachOk m) (x : Int) : ∀ j i, i + j = m.rows.len → RowIn (rowR m x j i)
  | 0, _, _ => by show RowIn row0; decide
  | j + 1, i, h => by
    simp only [rowR]
    split
    · have := hm.1 i (by omega)
      exact this.2.2
    · exact rowR_in hm x j (i + 1) (by omega)
theorem row_in {m : Mach} (hm : MachOk m) (x : Int) : RowIn (rowAt m x) := rowR_in hm x _ _ (by omega)
def thereS (l : Nat → Mach) (k : Int) : Nat → Bool
  | 0 => false
  | j + 1 => thereS l k j || decide ((l j).kind = k)
def mostS (l : Nat → Mach) (r : Nat → Bool) (x k : Int) : Nat → Int
  | 0 => 0
  | j + 1 => mostS l r x k j + (if (l j).kind = k ∧ r j = true then (rowAt (l j) x).most else 0)
def shortK (l : Nat → Mach) (r : Nat → Bool) (f x k : Int) (n : Nat) : Bool := thereS l k n && decide (mostS l r x k n < f)
def lackK (l : Nat → Mach) (r : Nat → Bool) (f x : Int) (n : Nat) : Nat → Int → Int
  | 0, _ => 0
  | j + 1, k => if shortK l r f x k n = true then k else lackK l r f x n j (k + 1)
def lacks (l : Sl Mach) (r : Nat → Bool) (f x : Int) : Int := lackK l.el r f x l.len 3 1
theorem lackK_in (l : Nat → Mach) (r : Nat → Bool) (f x : Int) (n : Nat) : ∀ (j : Nat) (k : Int), 1 ≤ k → 0 ≤ lackK l r f x n j k ∧ lackK l r f x n j k < k + j
  | 0, k, h => by simp only [lackK]; omega
  | j + 1, k, h => by
    have := lackK_in l r f x n j (k + 1) (by omega)
    simp only [lackK]
    split <;> omega
theorem lacks_in (l : Sl Mach) (r : Nat → Bool) (f x : Int) : 0 ≤ lacks l r f x ∧ lacks l r f x ≤ 3 := by
  have := lackK_in l.el r f x l.len 3 1 (by omega)
  unfold lacks
  omega
abbrev PlantF (l : Sl Mach) (F : Nat) : Prop := PlantOk l ∧ 1000 < F
variable (F d : Nat)
theorem rowsB {l : Sl Mach} (hl : PlantOk l) (hF : 1000 < F) : RowsB l F := fun i hi => by
  have := (hl.1 i hi).2.2.1
  exact ⟨lenB (by omega), by omega⟩
section
variable {l : Sl Mach} (hl : PlantOk l) (hF : 1000 < F)
include hl
theorem mostS_in (r : Nat → Bool) (x k : Int) : ∀ j, j ≤ l.len → 0 ≤ mostS l.el r x k j ∧ mostS l.el r x k j ≤ 1000000 * j
  | 0, _ => by simp [mostS]
  | j + 1, h => by
    have i := mostS_in r x k j (by omega)
    have hr := row_in (hl.1 j (by omega)) x
    simp only [mostS]
    split <;> omega
include hF
theorem e25 (x : Int) {i : Nat} (hi : i < l.len) : (E F (d + 1)).pf 25 [.agg (eMach (l.el i)), .int .i64 x] = some (.ret (.agg (eRow (rowAt (l.el i) x)))) := s25 F d (l.el i) x (rowsB F hl hF i hi).1 (rowsB F hl hF i hi).2
theorem e82 (x : Int) {i : Nat} (hi : i < l.len) : (E F (d + 1)).pf 82 [.agg (eMach (l.el i)), .int .i64 x] = some (.ret (.agg (eRow (rowAt (l.el i) x)))) := s82 F d (l.el i) x (rowsB F hl hF i hi).1 (rowsB F hl hF i hi).2
theorem l19x1 (r : Sl Bool) (hr : r.len = l.len) (f x : Int) (m0 : Nat) (k : Int) (R : Option Out)
    (K : (bif shortK l.el r.el f x k l.len then some (.ret (.int .i64 k)) else L19x0 (E F (d + 1)) F l r f x m0 (IntKind.i64.wrap (k + 1))) = R) : ∀ j i fu, i + j = l.len → j < fu →
    L19x1 (E F (d + 1)) F l r f x m0 fu k (thereS l.el k i) (mostS l.el r.el x k i) i = R := by
  have hll := hl.2
  intro j
  induction j with
  | zero =>
    intro i fu h hf
    obtain ⟨fu, rfl⟩ : ∃ k, fu = k + 1 := ⟨fu - 1, by omega⟩
    have hi : i = l.len := by omega
    subst hi
    rw [L19x1s, decide_eq_false (by omega), pF]
    unfold shortK at K
    cases hb : thereS l.el k l.len with
    | true =>
      rw [hb, Bool.true_and] at K
      rw [pT]
      cases hd : decide (mostS l.el r.el x k l.len < f) with
      | true => rw [hd, cond_true] at K; rw [pT]; exact K
      | false => rw [hd, cond_false] at K; rw [pF]; exact K
    | false =>
      rw [hb, Bool.false_and, cond_false] at K
      rw [pF]
      exact K
  | succ j ih =>
    intro i fu h hf
    obtain ⟨fu, rfl⟩ : ∃ k, fu = k + 1 := ⟨fu - 1, by omega⟩
    have hS : IntKind.i64.wrap ((i : Int) + 1) = ((i + 1 : Nat) : Int) := wrS (by omega)
    have hm := mostS_in hl r.el x k i (by omega)
    have hrw := row_in (hl.1 i (by omega)) x
    have e := ih (i + 1) fu (by omega) (by omega)
    have q := e25 F d hl hF x (i := i) (by omega)
    simp only [thereS, mostS] at e
    rw [L19x1s]
    simp (disch := omega) only [decide_eq_true, decide_true, pT, Int.toNat_natCast, hS]
    by_cases hk : (l.el i).kind = k
    · rw [show ((l.el i).kind != k) = false by simp [hk], pF]
      rw [decide_eq_true hk, Bool.or_true] at e
      cases hb : r.el i with
      | true =>
        rw [if_pos ⟨hk, hb⟩] at e
        rw [pT]
        simp only [q, tkOut_ret, tkAgg_a, tkCons_c, tkInt_i, tkNil_n, decide_true, pT]
        rw [wr (n := mostS l.el r.el x k i + (rowAt (l.el i) x).most) (by omega)]
        exact e
      | false =>
        rw [if_neg (fun hh => by rw [hb] at hh; cases hh.2), Int.add_zero] at e
        rw [pF]
        exact e
    · rw [show ((l.el i).kind != k) = true by simp [hk], pT]
      rw [decide_eq_false hk, Bool.or_false, if_neg (fun hh => hk hh.1), Int.add_zero] at e
      exact e
theorem l19x0 (r : Sl Bool) (hr : r.len = l.len) (f x : Int) : ∀ (j : Nat) (k : Int) fu, k + j = 4 → 1 ≤ k → j < fu → L19x0 (E F (d + 1)) F l r f x fu k = some (.ret (.int .i64 (lackK l.el r.el f x l.len j k))) := by
  have hll := hl.2
  intro j
  induction j with
  | zero =>
    intro k fu h h1 hf
    obtain ⟨fu, rfl⟩ : ∃ k, fu = k + 1 := ⟨fu - 1, by omega⟩
    rw [L19x0s, decide_eq_false (by omega), pF]; rfl
  | succ j ih =>
    intro k fu h h1 hf
    obtain ⟨fu, rfl⟩ : ∃ k, fu = k + 1 := ⟨fu - 1, by omega⟩
    rw [L19x0s, decide_eq_true (by omega), pT]
    refine l19x1 F d hl hF r hr f x fu k _ ?_ l.len 0 F (by omega) (by omega)
    simp only [lackK]
    cases shortK l.el r.el f x k l.len with
    | true => rw [cond_true, if_pos rfl]
    | false =>
      rw [cond_false, if_neg (by simp), wr (by omega)]
      exact ih (k + 1) fu (by omega) (by omega) (by omega)
theorem s19 (r : Sl Bool) (hr : r.len = l.len) (f x : Int) : (E F (d + 2)).pf 19 [sl eMach 10 l, sl eBool 1 r, .int .i64 f, .int .i64 x] = some (.ret (.int .i64 (lacks l r.el f x))) := by
  rw [E_pf, t19]
  exact l19x0 F d hl hF r hr f x 3 1 F (by omega) (by omega) (by omega)
theorem l54x1 (r : Sl Bool) (hr : r.len = l.len) (f x : Int) (m0 a : Nat) (k : Int) (R : Option Out)
    (K : (bif shortK l.el r.el f x k l.len then some (.ret (.int .i64 k)) else L54x0 (E F (d + 1)) F l r f x m0 .i64 1 .i64 2 .i64 3 (IntKind.i64.wrap ((a : Int) + 1))) = R) : ∀ j i fu, i + j = l.len → j < fu →
    L54x1 (E F (d + 1)) F l r f x m0 fu .i64 k (thereS l.el k i) (mostS l.el r.el x k i) .i64 1 .i64 2 .i64 3 a i = R := by
  have hll := hl.2
  intro j
  induction j with
  | zero =>
    intro i fu h hf
    obtain ⟨fu, rfl⟩ : ∃ k, fu = k + 1 := ⟨fu - 1, by omega⟩
    have hi : i = l.len := by omega
    subst hi
    rw [L54x1s, decide_eq_false (by omega), pF]
    unfold shortK at K
    cases hb : thereS l.el k l.len with
    | true =>
      rw [hb, Bool.true_and] at K
      rw [pT]
      cases hd : decide (mostS l.el r.el x k l.len < f) with
      | true => rw [hd, cond_true] at K; rw [pT]; exact K
      | false => rw [hd, cond_false] at K; rw [pF]; exact K
    | false =>
      rw [hb, Bool.false_and, cond_false] at K
      rw [pF]
      exact K
  | succ j ih =>
    intro i fu h hf
    obtain ⟨fu, rfl⟩ : ∃ k, fu = k + 1 := ⟨fu - 1, by omega⟩
    have hS : IntKind.i64.wrap ((i : Int) + 1) = ((i + 1 : Nat) : Int) := wrS (by omega)
    have hm := mostS_in hl r.el x k i (by omega)
    have hrw := row_in (hl.1 i (by omega)) x
    have e := ih (i + 1) fu (by omega) (by omega)
    have q := e82 F d hl hF x (i := i) (by omega)
    simp only [thereS, mostS] at e
    rw [L54x1s]
    simp (disch := omega) only [decide_eq_true, decide_true, pT, Int.toNat_natCast, hS]
    by_cases hk : (l.el i).kind = k
    · rw [show ((l.el i).kind != k) = false by simp [hk], pF]
      rw [decide_eq_true hk, Bool.or_true] at e
      cases hb : r.el i with
      | true =>
        rw [if_pos ⟨hk, hb⟩] at e
        rw [pT]
        simp only [q, tkOut_ret, tkAgg_a, tkCons_c, tkInt_i, tkNil_n, decide_true, pT]
        rw [wr (n := mostS l.el r.el x k i + (rowAt (l.el i) x).most) (by omega)]
        exact e
      | false =>
        rw [if_neg (fun hh => by rw [hb] at hh; cases hh.2), Int.add_zero] at e
        rw [pF]
        exact e
    · rw [show ((l.el i).kind != k) = true by simp [hk], pT]
      rw [decide_eq_false hk, Bool.or_false, if_neg (fun hh => hk hh.1), Int.add_zero] at e
      exact e
omit hl hF in
theorem kind_at {a : Nat} (ha : a < 3) : List.drop (a * 1) [V.int .i64 1, .int .i64 2, .int .i64 3] = .int .i64 ((a : Int) + 1) :: List.drop (a + 1) [V.int .i64 1, .int .i64 2, .int .i64 3] := by
  match a, ha with
  | 0, _ => rfl
  | 1, _ => rfl
  | 2, _ => rfl
theorem l54x0 (r : Sl Bool) (hr : r.len = l.len) (f x : Int) : ∀ (j a : Nat) fu, a + j = 3 → j < fu → L54x0 (E F (d + 1)) F l r f x fu .i64 1 .i64 2 .i64 3 a = some (.ret (.int .i64 (lackK l.el r.el f x l.len j ((a : Int) + 1)))) := by
  have hll := hl.2
  intro j
  induction j with
  | zero =>
    intro a fu h hf
    obtain ⟨fu, rfl⟩ : ∃ k, fu = k + 1 := ⟨fu - 1, by omega⟩
    rw [L54x0s, decide_eq_false (by omega), pF]; rfl
  | succ j ih =>
    intro a fu h hf
    obtain ⟨fu, rfl⟩ : ∃ k, fu = k + 1 := ⟨fu - 1, by omega⟩
    rw [L54x0s]
    simp (disch := omega) only [decide_eq_true, decide_true, pT, Int.toNat_natCast, kind_at, tkCons_c, tkInt_i]
    refine l54x1 F d hl hF r hr f x fu a ((a : Int) + 1) _ ?_ l.len 0 F (by omega) (by omega)
    simp only [lackK]
    cases shortK l.el r.el f x ((a : Int) + 1) l.len with
    | true => rw [cond_true, if_pos rfl]
    | false =>
      rw [cond_false, if_neg (by simp), wrS (by omega)]
      have e := ih (a + 1) fu (by omega) (by omega)
      rw [show (((a + 1 : Nat) : Int) + 1) = (a : Int) + 1 + 1 by omega] at e
      exact e
theorem s54 (r : Sl Bool) (hr : r.len = l.len) (f x : Int) : (E F (d + 2)).pf 54 [sl eMach 10 l, sl eBool 1 r, .int .i64 f, .int .i64 x] = some (.ret (.int .i64 (lacks l r.el f x))) := by
  have q : (E F (d + 1)).pf 83 [] = some (.ret (.agg [.int .i64 1, .int .i64 2, .int .i64 3])) := by rw [E_pf, t83]
  rw [E_pf, t54]
  simp only [q, tkOut_ret, tkAgg_a, tkCons_c, tkInt_i, tkNil_n]
  exact l54x0 F d hl hF r hr f x 3 0 F (by omega) (by omega)
end
def ratR (m : Mach) (s : Span) : Nat → Nat → List Int
  | 0, _ => []
  | j + 1, i => (if s.lo < (m.rows.el i).ratio + 1 ∧ (m.rows.el i).ratio + 1 ≤ s.hi then [(m.rows.el i).ratio + 1] else []) ++ ratR m s j (i + 1)
def ratM (l : Sl Mach) (s : Span) : Nat → Nat → List Int
  | 0, _ => []
  | j + 1, i => ratR (l.el i) s (l.el i).rows.len 0 ++ ratM l s j (i + 1)
def ratL (l : Sl Mach) (s : Span) : List Int := s.lo :: ratM l s l.len 0
theorem ratR_len (m : Mach) (s : Span) : ∀ j i, (ratR m s j i).length ≤ j
  | 0, _ => by simp [ratR]
  | j + 1, i => by
    have := ratR_len m s j (i + 1)
    simp only [ratR, List.length_append]
    split <;> simp <;> omega
theorem ratM_len {l : Sl Mach} (hl : PlantOk l) (s : Span) : ∀ j i, i + j = l.len → (ratM l s j i).length ≤ 6 * j
  | 0, _, _ => by simp [ratM]
  | j + 1, i, h => by
    have h1 := ratM_len hl s j (i + 1) (by omega)
    have h2 := ratR_len (l.el i) s (l.el i).rows.len 0
    have h3 := (hl.1 i (by omega)).2.2.1
    simp only [ratM, List.length_append]
    omega
theorem ratR_in {m : Mach} {s : Span} : ∀ j i, ∀ x ∈ ratR m s j i, s.lo < x ∧ x ≤ s.hi
  | 0, _, x, h => by simp [ratR] at h
  | j + 1, i, x, h => by
    simp only [ratR, List.mem_append] at h
    rcases h with h | h
    · split at h
      · rename_i hc
        rw [List.mem_singleton] at h
        subst h
        exact hc
      · simp at h
    · exact ratR_in j (i + 1) x h
theorem ratM_in {l : Sl Mach} {s : Span} : ∀ j i, ∀ x ∈ ratM l s j i, s.lo < x ∧ x ≤ s.hi
  | 0, _, x, h => by simp [ratM] at h
  | j + 1, i, x, h => by
    simp only [ratM, List.mem_append] at h
    rcases h with h | h
    · exact ratR_in _ _ x h
    · exact ratM_in j (i + 1) x h
theorem ratL_in {l : Sl Mach} {s : Span} (hs : RatioOk s) : ∀ x ∈ ratL l s, s.lo ≤ x ∧ x ≤ s.hi := fun x h => by
  rcases List.mem_cons.1 h with rfl | h
  · exact ⟨Int.le_refl _, hs.2.1⟩
  · have := ratM_in _ _ x h
    omega
section
variable {l : Sl Mach} (hl : PlantOk l) (hF : 1000 < F) {s : Span} (hs : RatioOk s)
include hl hF hs
theorem l59x1 (m0 i : Nat) (hi : i < l.len) (R : Option Out) : ∀ j k fu (A : List Int), k + j = (l.el i).rows.len → j < fu → A.length + j ≤ 1000 →
    (L59x0 (E F d) F l s m0 (A ++ ratR (l.el i) s j k).length ((i + 1 : Nat) : Int) (A ++ ratR (l.el i) s j k).length (gl eInt 0 (A ++ ratR (l.el i) s j k)) = R) →
    L59x1 (E F d) F l s m0 fu A.length i k A.length (gl eInt 0 A) = R := by
  have hll := hl.2
  intro j
  induction j with
  | zero =>
    intro k fu A h hf hA K
    obtain ⟨fu, rfl⟩ : ∃ k, fu = k + 1 := ⟨fu - 1, by omega⟩
    have hS : IntKind.i64.wrap ((i : Int) + 1) = ((i + 1 : Nat) : Int) := wrS (by omega)
    simp only [ratR, List.append_nil] at K
    rw [L59x1s]
    simp (disch := omega) only [decide_eq_true, pT, Int.toNat_natCast]
    rw [decide_eq_false (by omega), pF, hS]
    exact K
  | succ j ih =>
    intro k fu A h hf hA K
    obtain ⟨fu, rfl⟩ : ∃ k, fu = k + 1 := ⟨fu - 1, by omega⟩
    have hm := (hl.1 i hi).1 k (by omega)
    have hml := (hl.1 i hi).2.2.1
    have hS : IntKind.i64.wrap ((k : Int) + 1) = ((k + 1 : Nat) : Int) := wrS (by omega)
    simp only [ratR] at K
    rw [L59x1s]
    simp (disch := omega) only [decide_eq_true, pT, Int.toNat_natCast, wr (n := ((l.el i).rows.el k).ratio + 1), hS]
    by_cases h1 : ((l.el i).rows.el k).ratio + 1 > s.lo
    · rw [decide_eq_true h1, pT]
      by_cases h2 : ((l.el i).rows.el k).ratio + 1 ≤ s.hi
      · rw [decide_eq_true h2, pT]
        rw [if_pos ⟨h1, h2⟩, ← List.append_assoc] at K
        have e := ih (k + 1) fu (A ++ [((l.el i).rows.el k).ratio + 1]) (by omega) (by omega) (by simp; omega) K
        rw [← gl_snoc (e := eInt) (z := 0) (m := ((l.el i).rows.el k).ratio + 1) (ms := A) (k := A.length) rfl rfl, List.length_append, List.length_singleton] at e
        exact e
      · rw [decide_eq_false h2, pF]
        rw [if_neg (fun hh => h2 hh.2), List.nil_append] at K
        exact ih (k + 1) fu A (by omega) (by omega) (by omega) K
    · rw [decide_eq_false h1, pF]
      rw [if_neg (fun hh => h1 hh.1), List.nil_append] at K
      exact ih (k + 1) fu A (by omega) (by omega) (by omega) K
theorem l59x0 : ∀ j i fu (A : List Int), i + j = l.len → j < fu → A.length + 6 * j ≤ 900 →
    L59x0 (E F d) F l s fu A.length i A.length (gl eInt 0 A) = some (.ret (.row false (A ++ ratM l s j i).length 1 (gl eInt 0 (A ++ ratM l s j i)))) := by
  have hll := hl.2
  intro j
  induction j with
  | zero =>
    intro i fu A h hf hA
    obtain ⟨fu, rfl⟩ : ∃ k, fu = k + 1 := ⟨fu - 1, by omega⟩
    rw [L59x0s, decide_eq_false (by omega), pF]
    simp only [ratM, List.append_nil]
  | succ j ih =>
    intro i fu A h hf hA
    obtain ⟨fu, rfl⟩ : ∃ k, fu = k + 1 := ⟨fu - 1, by omega⟩
    have hml := (hl.1 i (by omega)).2.2.1
    have hrl := ratR_len (l.el i) s (l.el i).rows.len 0
    rw [L59x0s, decide_eq_true (by omega), pT]
    refine l59x1 F d hl hF hs fu i (by omega) _ (l.el i).rows.len 0 F A (by omega) (by omega) (by omega) ?_
    have e := ih (i + 1) fu (A ++ ratR (l.el i) s (l.el i).rows.len 0) (by omega) (by omega) (by rw [List.length_append]; omega)
    simp only [ratM]
    rw [← List.append_assoc]
    exact e
theorem s59 : (E F (d + 1)).pf 59 [sl eMach 10 l, .agg (eSpan s)] = some (.ret (.row false (ratL l s).length 1 (gl eInt 0 (ratL l s)))) := by
  have hll := hl.2
  have e := l59x0 F d hl hF hs l.len 0 F [s.lo] (by omega) (by omega) (by simp; omega)
  rw [← gl_one rfl] at e
  rw [E_pf, t59]
  exact e
end
def updK (o k : Int) : Int := if k ≠ 0 ∧ (o = 0 ∨ k < o) then k else o
def shortF (l : Sl Mach) (r : Nat → Bool) (f : Int) (o : Int) (xs : List Int) : Int := xs.foldl (fun o x => updK o (lacks l r f x)) o
def shortest (l : Sl Mach) (r : Nat → Bool) (f : Int) (s : Span) : Int := shortF l r f 0 (ratL l s)
def failsB (l : Sl Mach) (r : Nat → Bool) (f : Int) (xs : List Int) : Bool := xs.any fun x => decide (lacks l r f x > 0)
theorem shortF_in (l : Sl Mach) (r : Nat → Bool) (f : Int) : ∀ xs o, 0 ≤ o → o ≤ 3 → 0 ≤ shortF l r f o xs ∧ shortF l r f o xs ≤ 3
  | [], o, h1, h2 => ⟨h1, h2⟩
  | x :: xs, o, h1, h2 => by
    have hx := lacks_in l r f x
    have : shortF l r f o (x :: xs) = shortF l r f (updK o (lacks l r f x)) xs := rfl
    rw [this]
    refine shortF_in l r f xs _ ?_ ?_ <;> unfold updK <;> split <;> omega
theorem shortF_0 (l : Sl Mach) (r : Nat → Bool) (f : Int) : ∀ xs o, 0 ≤ o → (shortF l r f o xs ≠ 0 ↔ o ≠ 0 ∨ failsB l r f xs = true)
  | [], o, _ => by simp [shortF, failsB]
  | x :: xs, o, h1 => by
    have hx := lacks_in l r f x
    have e : shortF l r f o (x :: xs) = shortF l r f (updK o (lacks l r f x)) xs := rfl
    rw [e, shortF_0 l r f xs _ (by unfold updK; split <;> omega)]
    have e2 : failsB l r f (x :: xs) = (decide (lacks l r f x > 0) || failsB l r f xs) := rfl
    rw [e2, Bool.or_eq_true, decide_eq_true_iff]
    have e3 : updK o (lacks l r f x) ≠ 0 ↔ o ≠ 0 ∨ lacks l r f x > 0 := by
      unfold updK
      split
      · rename_i h
        constructor
        · intro _; omega
        · intro _; omega
      · rename_i h
        constructor
        · intro hh; exact .inl hh
        · rintro (hh | hh)
          · exact hh
          · intro ho; exact h ⟨by omega, .inl ho⟩
    rw [e3, or_assoc]
theorem shortest_0 (l : Sl Mach) (r : Nat → Bool) (f : Int) (s : Span) : shortest l r f s ≠ 0 ↔ failsB l r f (ratL l s) = true := by
  unfold shortest
  rw [shortF_0 l r f _ 0 (by omega)]
  simp
section
variable {l : Sl Mach} (hl : PlantOk l) (hF : 1000 < F) {s : Span} (hs : RatioOk s) (r : Sl Bool) (hr : r.len = l.len) (f : Int)
include hl hF hs hr
theorem l28 (L : List Int) (hL : L.length ≤ 1000) : ∀ j i fu, i + j = L.length → j < fu →
    L28x0 (E F (d + 2)) F l r f s fu false L.length 1 (gl eInt 0 L) i = some (.ret (.bool (failsB l r.el f (L.drop i)))) := by
  intro j
  induction j with
  | zero =>
    intro i fu h hf
    obtain ⟨fu, rfl⟩ : ∃ k, fu = k + 1 := ⟨fu - 1, by omega⟩
    rw [L28x0s, decide_eq_false (by omega), pF, List.drop_eq_nil_of_le (by omega)]; rfl
  | succ j ih =>
    intro i fu h hf
    obtain ⟨fu, rfl⟩ : ∃ k, fu = k + 1 := ⟨fu - 1, by omega⟩
    have hi : i < L.length := by omega
    have hg : gl eInt 0 L i = [.int .i64 L[i]] := by
      unfold gl
      rw [List.getD_eq_getElem?_getD, List.getElem?_eq_getElem hi]; rfl
    have hS : IntKind.i64.wrap ((i : Int) + 1) = ((i + 1 : Nat) : Int) := wrS (by omega)
    have q := s19 F d hl hF r hr f L[i]
    have hdr : L.drop i = L[i] :: L.drop (i + 1) := List.drop_eq_getElem_cons hi
    rw [L28x0s]
    simp (disch := omega) only [decide_eq_true, decide_true, pT, Int.toNat_natCast, show ((1 : Nat) == 1) = true from rfl, hg, tkCons_c, tkInt_i, q, tkOut_ret, hS]
    rw [hdr]
    have e2 : failsB l r.el f (L[i] :: L.drop (i + 1)) = (decide (lacks l r.el f L[i] > 0) || failsB l r.el f (L.drop (i + 1))) := rfl
    rw [e2]
    by_cases h1 : lacks l r.el f L[i] > 0
    · rw [decide_eq_true h1, pT, Bool.true_or]
    · rw [decide_eq_false h1, pF, Bool.false_or]
      exact ih (i + 1) fu (by omega) (by omega)
theorem ratL_len : (ratL l s).length ≤ 37 := by
  have := ratM_len hl s l.len 0 (by omega)
  have := hl.2
  simp only [ratL, List.length_cons]
  omega
theorem s28 : (E F (d + 3)).pf 28 [sl eMach 10 l, sl eBool 1 r, .int .i64 f, .agg (eSpan s)] = some (.ret (.bool (failsB l r.el f (ratL l s)))) := by
  have hlen := ratL_len F hl hF hs r hr
  rw [E_pf, t28]
  simp only [s59 F (d + 1) hl hF hs, tkOut_ret, tkRow_r]
  exact l28 F d hl hF hs r hr f (ratL l s) (by omega) (ratL l s).length 0 F (by omega) (by omega)
theorem l57x1 (m0 i : Nat) (hi : i < l.len) (R : Option Out) (hFd : (E F (d + 2)).pf 52 = (E F (d + 2)).pf 52) : ∀ j k fu (o : Int), k + j = (l.el i).rows.len → j < fu → 0 ≤ o → o ≤ 3 →
    (L57x0 (E F (d + 2)) F l r f s m0 (fun _ => eSpan s) l.nl l.len 10 (fun i => eMach (l.el i)) l.len ((i + 1 : Nat) : Int) .i64 (shortF l r.el f o (ratR (l.el i) s j k)) (fun _ => eSpan s) (fun _ => [sl eMach 10 l]) = R) →
    L57x1 (E F (d + 2)) F l r f s m0 fu (fun _ => eSpan s) l.nl l.len 10 (fun i => eMach (l.el i)) l.len i (l.el i).rows.nl (l.el i).rows.len 4 (fun k => eRow ((l.el i).rows.el k)) (l.el i).rows.len k .i64 o (fun _ => eSpan s) (fun _ => [sl eMach 10 l]) = R := by
  have hll := hl.2
  intro j
  induction j with
  | zero =>
    intro k fu o h hf ho1 ho2 K
    obtain ⟨fu, rfl⟩ : ∃ k, fu = k + 1 := ⟨fu - 1, by omega⟩
    have hS : IntKind.i64.wrap ((i : Int) + 1) = ((i + 1 : Nat) : Int) := wrS (by omega)
    simp only [ratR, shortF, List.foldl_nil] at K
    rw [L57x1s, decide_eq_false (by omega), pF, hS]
    exact K
  | succ j ih =>
    intro k fu o h hf ho1 ho2 K
    obtain ⟨fu, rfl⟩ : ∃ k, fu = k + 1 := ⟨fu - 1, by omega⟩
    have hm := (hl.1 i hi).1 k (by omega)
    have hml := (hl.1 i hi).2.2.1
    have hS : IntKind.i64.wrap ((k : Int) + 1) = ((k + 1 : Nat) : Int) := wrS (by omega)
    have q52 := s52 F (d + 1) (((l.el i).rows.el k).ratio + 1) (s.lo + 1) s.hi
    have q54 := s54 F d hl hF r hr f (((l.el i).rows.el k).ratio + 1)
    have hlk := lacks_in l r.el f (((l.el i).rows.el k).ratio + 1)
    simp only [ratR] at K
    rw [L57x1s]
    simp (disch := omega) only [decide_eq_true, decide_true, pT, Int.toNat_natCast, show ((4 : Nat) == 4) = true from rfl, List.take, List.length, List.drop, show ((0 + 1 + 1 + 1 + 1 : Nat) == 4) = true from rfl, tkCons_c, tkInt_i, tkNil_n, wr (n := ((l.el i).rows.el k).ratio + 1), wr (n := s.lo + 1), q52, tkOut_ret, tkBool_b, hS]
    by_cases h1 : s.lo < ((l.el i).rows.el k).ratio + 1 ∧ ((l.el i).rows.el k).ratio + 1 ≤ s.hi
    · rw [decide_eq_true (show s.lo + 1 ≤ ((l.el i).rows.el k).ratio + 1 ∧ ((l.el i).rows.el k).ratio + 1 ≤ s.hi by omega), pT]
      rw [if_pos h1] at K
      have K' : L57x0 (E F (d + 2)) F l r f s m0 (fun _ => eSpan s) l.nl l.len 10 (fun i => eMach (l.el i)) l.len ((i + 1 : Nat) : Int) .i64 (shortF l r.el f (updK o (lacks l r.el f (((l.el i).rows.el k).ratio + 1))) (ratR (l.el i) s j (k + 1))) (fun _ => eSpan s) (fun _ => [sl eMach 10 l]) = R := K
      have e := fun h1 h2 => ih (k + 1) fu (updK o (lacks l r.el f (((l.el i).rows.el k).ratio + 1))) (by omega) (by omega) h1 h2 K'
      simp only [q54, tkOut_ret, tkInt_i, decide_true, pT]
      by_cases g1 : lacks l r.el f (((l.el i).rows.el k).ratio + 1) = 0
      · rw [show (lacks l r.el f (((l.el i).rows.el k).ratio + 1) != 0) = false by simp [g1], pF]
        have eu : updK o (lacks l r.el f (((l.el i).rows.el k).ratio + 1)) = o := by unfold updK; rw [if_neg (by omega)]
        rw [eu] at e
        exact e ho1 ho2
      · rw [show (lacks l r.el f (((l.el i).rows.el k).ratio + 1) != 0) = true by simp [g1], pT]
        by_cases g2 : o = 0
        · rw [show (o == 0) = true by simp [g2], pT]
          have eu : updK o (lacks l r.el f (((l.el i).rows.el k).ratio + 1)) = lacks l r.el f (((l.el i).rows.el k).ratio + 1) := by unfold updK; rw [if_pos ⟨g1, .inl g2⟩]
          rw [eu] at e
          exact e (by omega) (by omega)
        · rw [show (o == 0) = false by simp [g2], pF]
          by_cases g3 : lacks l r.el f (((l.el i).rows.el k).ratio + 1) < o
          · rw [decide_eq_true g3, pT]
            have eu : updK o (lacks l r.el f (((l.el i).rows.el k).ratio + 1)) = lacks l r.el f (((l.el i).rows.el k).ratio + 1) := by unfold updK; rw [if_pos ⟨g1, .inr g3⟩]
            rw [eu] at e
            exact e (by omega) (by omega)
          · rw [decide_eq_false g3, pF]
            have eu : updK o (lacks l r.el f (((l.el i).rows.el k).ratio + 1)) = o := by unfold updK; rw [if_neg (by omega)]
            rw [eu] at e
            exact e ho1 ho2
    · rw [decide_eq_false (show ¬ (s.lo + 1 ≤ ((l.el i).rows.el k).ratio + 1 ∧ ((l.el i).rows.el k).ratio + 1 ≤ s.hi) by omega), pF]
      rw [if_neg h1, List.nil_append] at K
      exact ih (k + 1) fu o (by omega) (by omega) ho1 ho2 K
theorem l57x0 : ∀ j i fu (o : Int), i + j = l.len → j < fu → 0 ≤ o → o ≤ 3 →
    L57x0 (E F (d + 2)) F l r f s fu (fun _ => eSpan s) l.nl l.len 10 (fun i => eMach (l.el i)) l.len i .i64 o (fun _ => eSpan s) (fun _ => [sl eMach 10 l]) = some (.ret (.int .i64 (shortF l r.el f o (ratM l s j i)))) := by
  have hll := hl.2
  intro j
  induction j with
  | zero =>
    intro i fu o h hf ho1 ho2
    obtain ⟨fu, rfl⟩ : ∃ k, fu = k + 1 := ⟨fu - 1, by omega⟩
    rw [L57x0s, decide_eq_false (by omega), pF]; rfl
  | succ j ih =>
    intro i fu o h hf ho1 ho2
    obtain ⟨fu, rfl⟩ : ∃ k, fu = k + 1 := ⟨fu - 1, by omega⟩
    have hml := (hl.1 i (by omega)).2.2.1
    have hsf := shortF_in l r.el f (ratR (l.el i) s (l.el i).rows.len 0) o ho1 ho2
    have e := ih (i + 1) fu (shortF l r.el f o (ratR (l.el i) s (l.el i).rows.len 0)) (by omega) (by omega) hsf.1 hsf.2
    have e' : shortF l r.el f (shortF l r.el f o (ratR (l.el i) s (l.el i).rows.len 0)) (ratM l s j (i + 1)) = shortF l r.el f o (ratM l s (j + 1) i) := by
      unfold shortF
      rw [ratM, List.foldl_append]
    rw [e'] at e
    rw [L57x0s]
    simp (disch := omega) only [decide_eq_true, decide_true, pT, Int.toNat_natCast, show ((10 : Nat) == 10) = true from rfl, List.take, List.length, show ((0 + 1 + 1 + 1 + 1 + 1 + 1 + 1 + 1 + 1 + 1 : Nat) == 10) = true from rfl, tkCons_c, tkInt_i, tkBool_b, tkRow_r, tkNil_n]
    exact l57x1 F d hl hF hs r hr f fu i (by omega) _ rfl (l.el i).rows.len 0 F o (by omega) (by omega) ho1 ho2 e
theorem s57 : (E F (d + 3)).pf 57 [sl eMach 10 l, sl eBool 1 r, .int .i64 f, .agg (eSpan s)] = some (.ret (.int .i64 (shortest l r.el f s))) := by
  have q90 : (E F (d + 2)).pf 90 [sl eMach 10 l, .agg (eSpan s)] = some (.ret (.fn (.func 113) [] [.rptr 1 2 (fun _ => eSpan s) 0 0, .rptr 1 1 (fun _ => [sl eMach 10 l]) 0 0])) := by
    rw [E_pf]
    exact t90 _ _ l s
  have q54 := s54 F d hl hF r hr f s.lo
  have hlk := lacks_in l r.el f s.lo
  have e := l57x0 F d hl hF hs r hr f l.len 0 F (lacks l r.el f s.lo) (by omega) (by have := hl.2; omega) hlk.1 hlk.2
  have e' : shortF l r.el f (lacks l r.el f s.lo) (ratM l s l.len 0) = shortest l r.el f s := by
    have : shortest l r.el f s = shortF l r.el f (updK 0 (lacks l r.el f s.lo)) (ratM l s l.len 0) := rfl
    have eu : updK 0 (lacks l r.el f s.lo) = lacks l r.el f s.lo := by
      unfold updK
      split
      · rfl
      · omega
    rw [this, eu]
  rw [e'] at e
  rw [E_pf, t57]
  simp only [q90, tkOut_ret, tkFn_f, Nat.beq_refl, pT, tkNil_n, tkCons_c, tkPtr_p, Bool.and_self, tkInt_i, tkRow_r]
  simp only [q54, tkOut_ret, tkInt_i, decide_true, pT]
  by_cases h0 : lacks l r.el f s.lo = 0
  · rw [show (lacks l r.el f s.lo != 0) = false by simp [h0], pF]
    rw [h0, Int.natCast_zero] at e
    exact e
  · rw [show (lacks l r.el f s.lo != 0) = true by simp [h0], pT]
    exact e
end
end Go.Sim.Pl


namespace Go.Sim.Pl
open Go.Proofs
def pd (key : Nat → Int) : List Nat → Nat → List Nat → List Nat
  | [], x, B => x :: B
  | y :: A, x, B => if key x < key y then pd key A x (y :: B) else (y :: A).reverse ++ x :: B
def srt (key : Nat → Int) : List Nat → List Nat → List Nat
  | S, [] => S
  | S, y :: r => srt key (pd key S.reverse y []) r
theorem pd_len (key : Nat → Int) : ∀ (A : List Nat) (x : Nat) (B : List Nat), (pd key A x B).length = A.length + 1 + B.length
  | [], x, B => by simp only [pd, List.length_cons, List.length_nil]; omega
  | y :: A, x, B => by
    simp only [pd]
    split
    · rw [pd_len key A x (y :: B)]; simp only [List.length_cons]; omega
    · simp only [List.length_append, List.length_reverse, List.length_cons]; omega
theorem pd_mem (key : Nat → Int) : ∀ (A : List Nat) (x : Nat) (B : List Nat) (z : Nat), z ∈ pd key A x B ↔ z ∈ A ∨ z = x ∨ z ∈ B
  | [], x, B, z => by simp [pd]
  | y :: A, x, B, z => by
    simp only [pd]
    split
    · rw [pd_mem key A x (y :: B)]
      simp only [List.mem_cons]
      constructor
      · rintro (h | h | h | h)
        · exact .inl (.inr h)
        · exact .inr (.inl h)
        · exact .inl (.inl h)
        · exact .inr (.inr h)
      · rintro ((h | h) | h | h)
        · exact .inr (.inr (.inl h))
        · exact .inl h
        · exact .inr (.inl h)
        · exact .inr (.inr (.inr h))
    · simp only [List.mem_append, List.mem_reverse, List.mem_cons]
theorem srt_len (key : Nat → Int) : ∀ (r S : List Nat), (srt key S r).length = S.length + r.length
  | [], S => by simp [srt]
  | y :: r, S => by
    simp only [srt]
    rw [srt_len key r, pd_len]
    simp only [List.length_reverse, List.length_nil, List.length_cons]
    omega
theorem srt_mem (key : Nat → Int) : ∀ (r S : List Nat) (z : Nat), z ∈ srt key S r ↔ z ∈ S ∨ z ∈ r
  | [], S, z => by simp [srt]
  | y :: r, S, z => by
    simp only [srt]
    rw [srt_mem key r, pd_mem]
    simp only [List.mem_reverse, List.mem_cons, List.not_mem_nil, or_false, or_assoc]
def Bef (key : Nat → Int) (a b : Nat) : Prop := key a < key b ∨ key a = key b ∧ a < b
theorem pd_ord (key : Nat → Int) : ∀ (A : List Nat) (x : Nat) (B : List Nat), (A.reverse ++ B).Pairwise (Bef key) → (∀ b ∈ B, Bef key x b) → (∀ a ∈ A, a < x) → (pd key A x B).Pairwise (Bef key)
  | [], x, B, h, hB, hA => by
    simp only [pd]
    exact List.pairwise_cons.2 ⟨hB, by simpa using h⟩
  | y :: A, x, B, h, hB, hA => by
    simp only [pd]
    split
    · rename_i hk
      refine pd_ord key A x (y :: B) (by simpa using h) ?_ (fun a ha => hA a (by simp [ha]))
      intro b hb
      rcases List.mem_cons.1 hb with rfl | hb
      · exact .inl hk
      · exact hB b hb
    · rename_i hk
      rw [List.pairwise_append] at h ⊢
      refine ⟨h.1, List.pairwise_cons.2 ⟨hB, h.2.1⟩, ?_⟩
      intro a ha b hb
      rcases List.mem_cons.1 hb with rfl | hb
      · have hax := hA a (by simpa [or_comm] using ha)
        have h1 := h.1
        rw [List.reverse_cons, List.pairwise_append] at h1
        rw [List.reverse_cons, List.mem_append, List.mem_singleton] at ha
        rcases ha with ha | rfl
        · have := h1.2.2 a ha y (by simp)
          rcases this with h2 | ⟨h2, _⟩
          · exact .inl (by omega)
          · rcases Int.lt_or_eq_of_le (Int.not_lt.1 hk) with h3 | h3
            · exact .inl (by omega)
            · exact .inr ⟨by omega, hax⟩
        · rcases Int.lt_or_eq_of_le (Int.not_lt.1 hk) with h3 | h3
          · exact .inl h3
          · exact .inr ⟨h3, hax⟩
      · exact h.2.2 a ha b hb
theorem srt_ord (key : Nat → Int) : ∀ (r S : List Nat), S.Pairwise (Bef key) → (∀ a ∈ S, ∀ b ∈ r, a < b) → r.Pairwise (· < ·) → (srt key S r).Pairwise (Bef key)
  | [], S, h, _, _ => h
  | y :: r, S, h, hS, hr => by
    simp only [srt]
    rw [List.pairwise_cons] at hr
    refine srt_ord key r _ (pd_ord key S.reverse y [] (by simpa using h) (by simp) (fun a ha => hS a (by simpa using ha) y (by simp))) ?_ hr.2
    intro a ha b hb
    rw [pd_mem] at ha
    rcases ha with ha | rfl | ha
    · exact hS a (by simpa using ha) b (by simp [hb])
    · exact hr.1 b hb
    · simp at ha
theorem bef_irr {key : Nat → Int} {a b : Nat} (h1 : Bef key a b) (h2 : Bef key b a) : False := by
  unfold Bef at h1 h2; omega
theorem bef_self {key : Nat → Int} {a : Nat} (h1 : Bef key a a) : False := bef_irr h1 h1
theorem ord_uniq (key : Nat → Int) : ∀ (a b : List Nat), a.Pairwise (Bef key) → b.Pairwise (Bef key) → (∀ z, z ∈ a ↔ z ∈ b) → a = b
  | [], [], _, _, _ => rfl
  | [], y :: b, _, _, h => by have := (h y).2 (by simp); simp at this
  | x :: a, [], _, _, h => by have := (h x).1 (by simp); simp at this
  | x :: a, y :: b, ha, hb, h => by
    rw [List.pairwise_cons] at ha hb
    have e : x = y := by
      rcases List.mem_cons.1 ((h x).1 (by simp)) with h1 | h1
      · exact h1
      · rcases List.mem_cons.1 ((h y).2 (by simp)) with h2 | h2
        · exact h2.symm
        · exact (bef_irr (ha.1 y h2) (hb.1 x h1)).elim
    subst e
    rw [ord_uniq key a b ha.2 hb.2 fun z => ?_]
    constructor
    · intro hz
      rcases List.mem_cons.1 ((h z).1 (by simp [hz])) with h1 | h1
      · subst h1; exact (bef_self (ha.1 z hz)).elim
      · exact h1
    · intro hz
      rcases List.mem_cons.1 ((h z).2 (by simp [hz])) with h1 | h1
      · subst h1; exact (bef_self (hb.1 z hz)).elim
      · exact h1
def key0 : Nat → Int := fun _ => 0
def keyE (l : Sl Mach) (x : Int) : Nat → Int := fun i => (rowAt (l.el i) x).energy
def IsL (g : Nat → List V) (L : List Nat) : Prop := ∀ j, j < L.length → g j = eInt ((L.getD j 0 : Nat) : Int)
theorem getD_append_l {a b : List Nat} {j : Nat} (h : j < a.length) : (a ++ b).getD j 0 = a.getD j 0 := by
  rw [List.getD_eq_getElem?_getD, List.getElem?_append_left h, ← List.getD_eq_getElem?_getD]
theorem getD_append_r {a b : List Nat} {j : Nat} (h : a.length ≤ j) : (a ++ b).getD j 0 = b.getD (j - a.length) 0 := by
  rw [List.getD_eq_getElem?_getD, List.getElem?_append_right h, ← List.getD_eq_getElem?_getD]
theorem upd_at {g : Nat → List V} {n : Nat} {p a : Int} (h : g n = eInt a) : updGet g n 0 (eInt p) = fun j => if j = n then eInt p else g j := by
  funext j
  unfold updGet
  by_cases hj : j = n
  · rw [if_pos hj, if_pos hj, hj, h]; rfl
  · rw [if_neg hj, if_neg hj]
theorem sameK0 : sameV 8 (.fn (.func 87) [] []) (.fn (.func 87) [] []) = true := by simp [sameV]
theorem sameK1 (x : Int) : sameV 8 (.fn (.func 88) [] [(.rptr 1 1 (fun _ => [(.fn (.func 85) [] [(.rptr 1 1 (fun _ => [(.int .i64 x)]) 0 0)])]) 0 0)]) (.fn (.func 88) [] [(.rptr 1 1 (fun _ => [(.fn (.func 85) [] [(.rptr 1 1 (fun _ => [(.int .i64 x)]) 0 0)])]) 0 0)]) = true := by simp [sameV]
variable (F d : Nat)
section
variable {l : Sl Mach} (hl : PlantOk l) (hF : 1000 < F)
include hl hF
theorem s84 (i : Nat) (hi : i < l.len) (k : Int) (r : Sl Bool) (hr : r.len = l.len) : (E F (d + 1)).pf 84 [.int .i64 i, .agg (eMach (l.el i)), .rptr 1 1 (fun _ => [.int .i64 k]) 0 0, .rptr 1 1 (fun _ => [sl eBool 1 r]) 0 0] = some (.ret (.bool (decide ((l.el i).kind = k ∧ r.el i = true)))) := by
  rw [E_pf, t84]
  by_cases h : (l.el i).kind = k
  · rw [show ((l.el i).kind == k) = true by simp [h], pT]
    simp (disch := omega) only [decide_eq_true, pT, Int.toNat_natCast]
    refine b3 (b2 ?_)
    simp [h]
  · rw [show ((l.el i).kind == k) = false by simp [h], pF]
    refine b3 (b2 ?_)
    simp [h]
theorem s85 (i : Nat) (hi : i < l.len) (x : Int) : (E F (d + 2)).pf 85 [.agg (eMach (l.el i)), .rptr 1 1 (fun _ => [.int .i64 x]) 0 0] = some (.ret (.agg (eRow (rowAt (l.el i) x)))) := by
  have e := e82 F d hl hF x hi
  rw [E_pf, t85]
  simp only [e, tkOut_ret, tkAgg_a, tkCons_c, tkInt_i, tkNil_n]
theorem s87 (i : Nat) : (E F (d + 3)).pf 87 [.agg (eMach (l.el i))] = some (.ret (.int .i64 0)) := by
  rw [E_pf, t87]
theorem s88 (i : Nat) (hi : i < l.len) (x : Int) : (E F (d + 3)).pf 88 [.agg (eMach (l.el i)), .rptr 1 1 (fun _ => [.fn (.func 85) [] [.rptr 1 1 (fun _ => [.int .i64 x]) 0 0]]) 0 0] = some (.ret (.int .i64 (rowAt (l.el i) x).energy)) := by
  have e := s85 F d hl hF i hi x
  rw [E_pf, t88]
  simp only [e, tkOut_ret, tkAgg_a, tkCons_c, tkInt_i, tkNil_n]
theorem s1120 {a b : Nat} (ha : a < l.len) (hb : b < l.len) : (E F (d + 4)).pf 112 [.int .i64 a, .int .i64 b, .rptr 1 1 (fun _ => [(.fn (.func 87) [] [])]) 0 0, .rptr 1 1 (fun _ => [sl eMach 10 l]) 0 0] = some (.ret (.int .i64 (key0 a - key0 b))) := by
  have hl2 := hl.2
  skip
  rw [E_pf, t1120]
  simp (disch := omega) only [decide_eq_true, decide_true, pT, Int.toNat_natCast, s87 F d hl hF a, s87 F d hl hF b, tkOut_ret, tkInt_i, wr]
  rfl
theorem l1210x1 {n : Nat} (g0 : Nat → Int) (b : Int) (m0 i0 : Nat) (hi0 : i0 < 1000) (P : Option (Out × List Slot) → Prop) (rest : List Nat) (hn : n < 1000) :
    ∀ (A : List Nat) (y : Nat) (B : List Nat) fu g, A.length < fu → n = A.length + 1 + B.length + rest.length → (∀ z ∈ A, z < l.len) → y < l.len → IsL g (A.reverse ++ y :: (B ++ rest)) →
    (∀ g', IsL g' (pd (key0) A y B ++ rest) → P (L1210x0 (E F (d + 4)) F n g0 0 b l m0 ((i0 + 1 : Nat) : Int) g')) → P (L1210x1 (E F (d + 4)) F n g0 0 b l m0 fu i0 A.length g) := by
  intro A
  induction A with
  | nil =>
    intro y B fu g hf hn1 hA hy hg K
    obtain ⟨fu, rfl⟩ : ∃ k, fu = k + 1 := ⟨fu - 1, by omega⟩
    have hS : IntKind.i64.wrap ((i0 : Int) + 1) = ((i0 + 1 : Nat) : Int) := wrS (by omega)
    rw [L1210x1s, show ((([] : List Nat).length : Nat) : Int) = 0 from rfl, decide_eq_false (by omega), pF, hS]
    exact K g hg
  | cons z A ih =>
    intro y B fu g hf hn1 hA hy hg K
    obtain ⟨fu, rfl⟩ : ∃ k, fu = k + 1 := ⟨fu - 1, by omega⟩
    have hS : IntKind.i64.wrap ((i0 : Int) + 1) = ((i0 + 1 : Nat) : Int) := wrS (by omega)
    rw [List.length_cons] at hn1 hf ⊢
    have hP : IntKind.i64.wrap (((A.length + 1 : Nat) : Int) - 1) = ((A.length : Nat) : Int) := by rw [wr (by omega)]; omega
    have g1 : g (A.length + 1) = eInt (y : Int) := by
      rw [hg (A.length + 1) (by simp)]
      simp
    have g2 : g A.length = eInt (z : Int) := by
      rw [hg A.length (by simp)]
      simp
    have q := s1120 F d hl hF (a := y) (b := z) hy (hA z (by simp))
    have hIs : IsL (updGet (updGet g (A.length + 1) 0 (eInt (z : Int))) A.length 0 (eInt (y : Int))) (A.reverse ++ y :: ((z :: B) ++ rest)) := by
      rw [upd_at g1, upd_at (n := A.length) (a := (z : Int)) (by rw [if_neg (by omega)]; exact g2)]
      intro j hj
      show (if j = A.length then eInt (y : Int) else if j = A.length + 1 then eInt (z : Int) else g j) = _
      by_cases h1 : j = A.length
      · rw [if_pos h1, h1, getD_append_r (by simp)]; simp
      · rw [if_neg h1]
        by_cases h2 : j = A.length + 1
        · rw [if_pos h2, h2, getD_append_r (by simp)]; simp
        · rw [if_neg h2, hg j (by simp at hj ⊢; omega), List.reverse_cons, List.append_assoc]
          by_cases h3 : j < A.length
          · rw [getD_append_l (by simp; omega), getD_append_l (by simp; omega)]
          · obtain ⟨t, rfl⟩ : ∃ t, j = A.length + 2 + t := ⟨j - A.length - 2, by omega⟩
            rw [getD_append_r (a := A.reverse) (b := [z] ++ y :: (B ++ rest)) (by simp; omega), getD_append_r (a := A.reverse) (b := y :: (z :: B ++ rest)) (by simp; omega)]
            rw [show A.length + 2 + t - A.reverse.length = t + 1 + 1 by simp; omega]
            rfl
    rw [L1210x1s]
    simp (disch := omega) only [decide_eq_true, decide_true, pT, Int.toNat_natCast, hP, g1, g2, tkCons_c, tkInt_i, q, tkOut_ret]
    by_cases hk : (key0) y < (key0) z
    · rw [decide_eq_true (show (key0) y - (key0) z < 0 by omega), pT]
      refine ih y (z :: B) fu _ (by omega) (by simp only [List.length_cons]; omega) (fun w hw => hA w (by simp [hw])) hy hIs ?_
      intro g' h'
      refine K g' ?_
      simp only [pd]
      rw [if_pos hk]
      exact h'
    · rw [decide_eq_false (show ¬ (key0) y - (key0) z < 0 by omega), pF, hS]
      refine K g ?_
      simp only [pd]
      rw [if_neg hk, List.append_assoc, List.cons_append]
      exact hg
theorem l1210x0 {n : Nat} (g0 : Nat → Int) (hn : n < 1000) (hFn : n < F) : ∀ (rest S : List Nat) fu g, S.length + rest.length = n → rest.length < fu → (∀ z ∈ S, z < l.len) → (∀ z ∈ rest, z < l.len) → 0 < S.length → IsL g (S ++ rest) →
    ∃ g', IsL g' (srt (key0) S rest) ∧ L1210x0 (E F (d + 4)) F n g0 0 n l fu S.length g = some (.ret (.tup []), [.arr 3 1 n g' true, .box 145 [(.fn (.func 87) [] [])] true, .box 22 [sl eMach 10 l] true]) := by
  intro rest
  induction rest with
  | nil =>
    intro S fu g hn1 hf hS1 hr hS0 hg
    obtain ⟨fu, rfl⟩ : ∃ k, fu = k + 1 := ⟨fu - 1, by simp at hf; omega⟩
    refine ⟨g, ?_, ?_⟩
    · simp only [srt]; rw [List.append_nil] at hg; exact hg
    · rw [L1210x0s, decide_eq_false (by simp at hn1; omega), pF]
  | cons y rest ih =>
    intro S fu g hn1 hf hS1 hr hS0 hg
    obtain ⟨fu, rfl⟩ : ∃ k, fu = k + 1 := ⟨fu - 1, by omega⟩
    rw [List.length_cons] at hn1 hf
    rw [L1210x0s, decide_eq_true (by omega), pT]
    have e := l1210x1 F d hl hF (n := n) g0 n fu S.length (by omega) (fun o => ∃ g', IsL g' (srt (key0) S (y :: rest)) ∧ o = some (.ret (.tup []), [.arr 3 1 n g' true, .box 145 [(.fn (.func 87) [] [])] true, .box 22 [sl eMach 10 l] true])) rest hn S.reverse y [] F g (by simp; omega) (by simp; omega) (fun z hz => hS1 z (by simpa using hz)) (hr y (by simp)) (by simpa using hg)
    rw [List.length_reverse] at e
    refine e fun g' h' => ?_
    have hlen : (pd (key0) S.reverse y []).length = S.length + 1 := by rw [pd_len]; simp
    have e2 := ih (pd (key0) S.reverse y []) fu g' (by rw [hlen]; omega) (by omega) (fun z hz => ?_) (fun z hz => hr z (by simp [hz])) (by omega) h'
    · rw [hlen] at e2
      exact e2
    · rw [pd_mem] at hz
      rcases hz with hz | hz | hz
      · exact hS1 z (by simpa using hz)
      · rw [hz]; exact hr y (by simp)
      · simp at hz
theorem s1110 {n : Nat} (g0 : Nat → Int) (L : List Nat) (hn : n < 20) (h0 : 0 < n) (hL : L.length = n) (hLl : ∀ z ∈ L, z < l.len) (hg : IsL (fun j => eInt (g0 j)) L) :
    ∃ g', IsL g' (srt (key0) [] L) ∧ (E F (d + 7)).hv 111 [.osl 0 0 n, .fn (.func 112) [] [.optr 1 0 0, .optr 2 0 0]] [.arr 3 1 n (fun j => eInt (g0 j)) true, .box 145 [(.fn (.func 87) [] [])] true, .box 22 [sl eMach 10 l] true] = some (.ret (.tup []), [.arr 3 1 n g' true, .box 145 [(.fn (.func 87) [] [])] true, .box 22 [sl eMach 10 l] true]) := by
  obtain ⟨F, rfl⟩ : ∃ k, F = k + 1 := ⟨F - 1, by omega⟩
  match L, hL with
  | [], hL => simp at hL; omega
  | y :: L, hL =>
    have e1 : ∃ g', IsL g' (srt (key0) [y] L) ∧ (E (F + 1) (d + 5)).hv 121 [.osl 0 0 n, .int .i64 0, .int .i64 n, .fn (.func 112) [] [.optr 1 0 0, .optr 2 0 0]] [.arr 3 1 n (fun j => eInt (g0 j)) true, .box 145 [(.fn (.func 87) [] [])] true, .box 22 [sl eMach 10 l] true] = some (.ret (.tup []), [.arr 3 1 n g' true, .box 145 [(.fn (.func 87) [] [])] true, .box 22 [sl eMach 10 l] true]) := by
      rw [E_hv, t1210]
      have e := l1210x0 (F + 1) d hl hF (n := n) g0 (by omega) (by omega) L [y] (F + 1) (fun j => eInt (g0 j)) (by simp at hL ⊢; omega) (by simp at hL; omega) (fun z hz => hLl z (by simp at hz; simp [hz])) (fun z hz => hLl z (by simp [hz])) (by simp) (by simpa using hg)
      rw [wr (by omega)]
      exact e
    obtain ⟨g', h1, h2⟩ := e1
    refine ⟨g', h1, ?_⟩
    have e2 : (E (F + 1) (d + 6)).hv 120 [.osl 0 0 n, .int .i64 n, .fn (.func 112) [] [.optr 1 0 0, .optr 2 0 0]] [.arr 3 1 n (fun j => eInt (g0 j)) true, .box 145 [(.fn (.func 87) [] [])] true, .box 22 [sl eMach 10 l] true] = some (.ret (.tup []), [.arr 3 1 n g' true, .box 145 [(.fn (.func 87) [] [])] true, .box 22 [sl eMach 10 l] true]) := by
      rw [E_hv, t1200]
      rw [L1200x0s, decide_eq_false (by omega), pF]
      simp only [h2, tkHv_h, tkTup_t, tkNil_n, tkSCons_c, tkArr_a, tkBox_b, Nat.beq_refl, Bool.and_self, beq_self_eq_true, pT, tkCons_c, sameK0, tkRow_r, tkSNil_n]
      rw [L1200x1s, decide_eq_false (by omega), pF]
    rw [E_hv, t1110]
    simp only [e2, tkHv_h, tkTup_t, tkNil_n, tkSCons_c, tkArr_a, tkBox_b, Nat.beq_refl, Bool.and_self, beq_self_eq_true, pT, tkCons_c, sameK0, tkRow_r, tkSNil_n]
theorem s1112 : (E F (d + 7)).hv 111 [.row true 0 0 (fun _ => []), .fn (.func 112) [] [.optr 0 0 0, .optr 1 0 0]] [.box 145 [(.fn (.func 87) [] [])] true, .box 22 [sl eMach 10 l] true] = some (.ret (.tup []), [.box 145 [(.fn (.func 87) [] [])] true, .box 22 [sl eMach 10 l] true]) := by
  obtain ⟨F, rfl⟩ : ∃ k, F = k + 1 := ⟨F - 1, by omega⟩
  have h2 : (E (F + 1) (d + 5)).hv 121 [.row true 0 0 (fun _ => []), .int .i64 0, .int .i64 ((0 : Nat) : Int), .fn (.func 112) [] [.optr 0 0 0, .optr 1 0 0]] [.box 145 [(.fn (.func 87) [] [])] true, .box 22 [sl eMach 10 l] true] = some (.ret (.tup []), [.box 145 [(.fn (.func 87) [] [])] true, .box 22 [sl eMach 10 l] true]) := by
    rw [E_hv, t1212, wr (by omega)]
    rw [L1212x0s, decide_eq_false (by omega), pF]
  have e2 : (E (F + 1) (d + 6)).hv 120 [.row true 0 0 (fun _ => []), .int .i64 ((0 : Nat) : Int), .fn (.func 112) [] [.optr 0 0 0, .optr 1 0 0]] [.box 145 [(.fn (.func 87) [] [])] true, .box 22 [sl eMach 10 l] true] = some (.ret (.tup []), [.box 145 [(.fn (.func 87) [] [])] true, .box 22 [sl eMach 10 l] true]) := by
    rw [E_hv, t1202]
    rw [L1202x0s, decide_eq_false (by omega), pF]
    simp only [h2, tkHv_h, tkTup_t, tkNil_n, tkSCons_c, tkArr_a, tkBox_b, Nat.beq_refl, Bool.and_self, beq_self_eq_true, pT, tkCons_c, sameK0, tkRow_r, tkSNil_n]
    rw [L1202x1s, decide_eq_false (by omega), pF]
  rw [E_hv, t1112]
  simp only [e2, tkHv_h, tkTup_t, tkNil_n, tkSCons_c, tkArr_a, tkBox_b, Nat.beq_refl, Bool.and_self, beq_self_eq_true, pT, tkCons_c, sameK0, tkRow_r, tkSNil_n]
theorem s1121 {a b : Nat} (ha : a < l.len) (hb : b < l.len) (x : Int) : (E F (d + 4)).pf 112 [.int .i64 a, .int .i64 b, .rptr 1 1 (fun _ => [(.fn (.func 88) [] [(.rptr 1 1 (fun _ => [(.fn (.func 85) [] [(.rptr 1 1 (fun _ => [(.int .i64 x)]) 0 0)])]) 0 0)])]) 0 0, .rptr 1 1 (fun _ => [sl eMach 10 l]) 0 0] = some (.ret (.int .i64 (keyE l x a - keyE l x b))) := by
  have hl2 := hl.2
  have ra := row_in (hl.1 a ha) x
  have rb := row_in (hl.1 b hb) x
  rw [E_pf, t1121]
  simp (disch := omega) only [decide_eq_true, decide_true, pT, Int.toNat_natCast, s88 F d hl hF a ha x, s88 F d hl hF b hb x, tkOut_ret, tkInt_i, wr]
  rfl
theorem l1211x1 {n : Nat} (g0 : Nat → Int) (x : Int) (b : Int) (m0 i0 : Nat) (hi0 : i0 < 1000) (P : Option (Out × List Slot) → Prop) (rest : List Nat) (hn : n < 1000) :
    ∀ (A : List Nat) (y : Nat) (B : List Nat) fu g, A.length < fu → n = A.length + 1 + B.length + rest.length → (∀ z ∈ A, z < l.len) → y < l.len → IsL g (A.reverse ++ y :: (B ++ rest)) →
    (∀ g', IsL g' (pd (keyE l x) A y B ++ rest) → P (L1211x0 (E F (d + 4)) F n g0 0 b l x m0 ((i0 + 1 : Nat) : Int) g')) → P (L1211x1 (E F (d + 4)) F n g0 0 b l x m0 fu i0 A.length g) := by
  intro A
  induction A with
  | nil =>
    intro y B fu g hf hn1 hA hy hg K
    obtain ⟨fu, rfl⟩ : ∃ k, fu = k + 1 := ⟨fu - 1, by omega⟩
    have hS : IntKind.i64.wrap ((i0 : Int) + 1) = ((i0 + 1 : Nat) : Int) := wrS (by omega)
    rw [L1211x1s, show ((([] : List Nat).length : Nat) : Int) = 0 from rfl, decide_eq_false (by omega), pF, hS]
    exact K g hg
  | cons z A ih =>
    intro y B fu g hf hn1 hA hy hg K
    obtain ⟨fu, rfl⟩ : ∃ k, fu = k + 1 := ⟨fu - 1, by omega⟩
    have hS : IntKind.i64.wrap ((i0 : Int) + 1) = ((i0 + 1 : Nat) : Int) := wrS (by omega)
    rw [List.length_cons] at hn1 hf ⊢
    have hP : IntKind.i64.wrap (((A.length + 1 : Nat) : Int) - 1) = ((A.length : Nat) : Int) := by rw [wr (by omega)]; omega
    have g1 : g (A.length + 1) = eInt (y : Int) := by
      rw [hg (A.length + 1) (by simp)]
      simp
    have g2 : g A.length = eInt (z : Int) := by
      rw [hg A.length (by simp)]
      simp
    have q := s1121 F d hl hF (a := y) (b := z) hy (hA z (by simp)) x
    have hIs : IsL (updGet (updGet g (A.length + 1) 0 (eInt (z : Int))) A.length 0 (eInt (y : Int))) (A.reverse ++ y :: ((z :: B) ++ rest)) := by
      rw [upd_at g1, upd_at (n := A.length) (a := (z : Int)) (by rw [if_neg (by omega)]; exact g2)]
      intro j hj
      show (if j = A.length then eInt (y : Int) else if j = A.length + 1 then eInt (z : Int) else g j) = _
      by_cases h1 : j = A.length
      · rw [if_pos h1, h1, getD_append_r (by simp)]; simp
      · rw [if_neg h1]
        by_cases h2 : j = A.length + 1
        · rw [if_pos h2, h2, getD_append_r (by simp)]; simp
        · rw [if_neg h2, hg j (by simp at hj ⊢; omega), List.reverse_cons, List.append_assoc]
          by_cases h3 : j < A.length
          · rw [getD_append_l (by simp; omega), getD_append_l (by simp; omega)]
          · obtain ⟨t, rfl⟩ : ∃ t, j = A.length + 2 + t := ⟨j - A.length - 2, by omega⟩
            rw [getD_append_r (a := A.reverse) (b := [z] ++ y :: (B ++ rest)) (by simp; omega), getD_append_r (a := A.reverse) (b := y :: (z :: B ++ rest)) (by simp; omega)]
            rw [show A.length + 2 + t - A.reverse.length = t + 1 + 1 by simp; omega]
            rfl
    rw [L1211x1s]
    simp (disch := omega) only [decide_eq_true, decide_true, pT, Int.toNat_natCast, hP, g1, g2, tkCons_c, tkInt_i, q, tkOut_ret]
    by_cases hk : (keyE l x) y < (keyE l x) z
    · rw [decide_eq_true (show (keyE l x) y - (keyE l x) z < 0 by omega), pT]
      refine ih y (z :: B) fu _ (by omega) (by simp only [List.length_cons]; omega) (fun w hw => hA w (by simp [hw])) hy hIs ?_
      intro g' h'
      refine K g' ?_
      simp only [pd]
      rw [if_pos hk]
      exact h'
    · rw [decide_eq_false (show ¬ (keyE l x) y - (keyE l x) z < 0 by omega), pF, hS]
      refine K g ?_
      simp only [pd]
      rw [if_neg hk, List.append_assoc, List.cons_append]
      exact hg
theorem l1211x0 {n : Nat} (g0 : Nat → Int) (x : Int) (hn : n < 1000) (hFn : n < F) : ∀ (rest S : List Nat) fu g, S.length + rest.length = n → rest.length < fu → (∀ z ∈ S, z < l.len) → (∀ z ∈ rest, z < l.len) → 0 < S.length → IsL g (S ++ rest) →
    ∃ g', IsL g' (srt (keyE l x) S rest) ∧ L1211x0 (E F (d + 4)) F n g0 0 n l x fu S.length g = some (.ret (.tup []), [.arr 3 1 n g' true, .box 145 [(.fn (.func 88) [] [(.rptr 1 1 (fun _ => [(.fn (.func 85) [] [(.rptr 1 1 (fun _ => [(.int .i64 x)]) 0 0)])]) 0 0)])] true, .box 22 [sl eMach 10 l] true]) := by
  intro rest
  induction rest with
  | nil =>
    intro S fu g hn1 hf hS1 hr hS0 hg
    obtain ⟨fu, rfl⟩ : ∃ k, fu = k + 1 := ⟨fu - 1, by simp at hf; omega⟩
    refine ⟨g, ?_, ?_⟩
    · simp only [srt]; rw [List.append_nil] at hg; exact hg
    · rw [L1211x0s, decide_eq_false (by simp at hn1; omega), pF]
  | cons y rest ih =>
    intro S fu g hn1 hf hS1 hr hS0 hg
    obtain ⟨fu, rfl⟩ : ∃ k, fu = k + 1 := ⟨fu - 1, by omega⟩
    rw [List.length_cons] at hn1 hf
    rw [L1211x0s, decide_eq_true (by omega), pT]
    have e := l1211x1 F d hl hF (n := n) g0 x n fu S.length (by omega) (fun o => ∃ g', IsL g' (srt (keyE l x) S (y :: rest)) ∧ o = some (.ret (.tup []), [.arr 3 1 n g' true, .box 145 [(.fn (.func 88) [] [(.rptr 1 1 (fun _ => [(.fn (.func 85) [] [(.rptr 1 1 (fun _ => [(.int .i64 x)]) 0 0)])]) 0 0)])] true, .box 22 [sl eMach 10 l] true])) rest hn S.reverse y [] F g (by simp; omega) (by simp; omega) (fun z hz => hS1 z (by simpa using hz)) (hr y (by simp)) (by simpa using hg)
    rw [List.length_reverse] at e
    refine e fun g' h' => ?_
    have hlen : (pd (keyE l x) S.reverse y []).length = S.length + 1 := by rw [pd_len]; simp
    have e2 := ih (pd (keyE l x) S.reverse y []) fu g' (by rw [hlen]; omega) (by omega) (fun z hz => ?_) (fun z hz => hr z (by simp [hz])) (by omega) h'
    · rw [hlen] at e2
      exact e2
    · rw [pd_mem] at hz
      rcases hz with hz | hz | hz
      · exact hS1 z (by simpa using hz)
      · rw [hz]; exact hr y (by simp)
      · simp at hz
theorem s1111 {n : Nat} (g0 : Nat → Int) (L : List Nat) (x : Int) (hn : n < 20) (h0 : 0 < n) (hL : L.length = n) (hLl : ∀ z ∈ L, z < l.len) (hg : IsL (fun j => eInt (g0 j)) L) :
    ∃ g', IsL g' (srt (keyE l x) [] L) ∧ (E F (d + 7)).hv 111 [.osl 0 0 n, .fn (.func 112) [] [.optr 1 0 0, .optr 2 0 0]] [.arr 3 1 n (fun j => eInt (g0 j)) true, .box 145 [(.fn (.func 88) [] [(.rptr 1 1 (fun _ => [(.fn (.func 85) [] [(.rptr 1 1 (fun _ => [(.int .i64 x)]) 0 0)])]) 0 0)])] true, .box 22 [sl eMach 10 l] true] = some (.ret (.tup []), [.arr 3 1 n g' true, .box 145 [(.fn (.func 88) [] [(.rptr 1 1 (fun _ => [(.fn (.func 85) [] [(.rptr 1 1 (fun _ => [(.int .i64 x)]) 0 0)])]) 0 0)])] true, .box 22 [sl eMach 10 l] true]) := by
  obtain ⟨F, rfl⟩ : ∃ k, F = k + 1 := ⟨F - 1, by omega⟩
  match L, hL with
  | [], hL => simp at hL; omega
  | y :: L, hL =>
    have e1 : ∃ g', IsL g' (srt (keyE l x) [y] L) ∧ (E (F + 1) (d + 5)).hv 121 [.osl 0 0 n, .int .i64 0, .int .i64 n, .fn (.func 112) [] [.optr 1 0 0, .optr 2 0 0]] [.arr 3 1 n (fun j => eInt (g0 j)) true, .box 145 [(.fn (.func 88) [] [(.rptr 1 1 (fun _ => [(.fn (.func 85) [] [(.rptr 1 1 (fun _ => [(.int .i64 x)]) 0 0)])]) 0 0)])] true, .box 22 [sl eMach 10 l] true] = some (.ret (.tup []), [.arr 3 1 n g' true, .box 145 [(.fn (.func 88) [] [(.rptr 1 1 (fun _ => [(.fn (.func 85) [] [(.rptr 1 1 (fun _ => [(.int .i64 x)]) 0 0)])]) 0 0)])] true, .box 22 [sl eMach 10 l] true]) := by
      rw [E_hv, t1211]
      have e := l1211x0 (F + 1) d hl hF (n := n) g0 x (by omega) (by omega) L [y] (F + 1) (fun j => eInt (g0 j)) (by simp at hL ⊢; omega) (by simp at hL; omega) (fun z hz => hLl z (by simp at hz; simp [hz])) (fun z hz => hLl z (by simp [hz])) (by simp) (by simpa using hg)
      rw [wr (by omega)]
      exact e
    obtain ⟨g', h1, h2⟩ := e1
    refine ⟨g', h1, ?_⟩
    have e2 : (E (F + 1) (d + 6)).hv 120 [.osl 0 0 n, .int .i64 n, .fn (.func 112) [] [.optr 1 0 0, .optr 2 0 0]] [.arr 3 1 n (fun j => eInt (g0 j)) true, .box 145 [(.fn (.func 88) [] [(.rptr 1 1 (fun _ => [(.fn (.func 85) [] [(.rptr 1 1 (fun _ => [(.int .i64 x)]) 0 0)])]) 0 0)])] true, .box 22 [sl eMach 10 l] true] = some (.ret (.tup []), [.arr 3 1 n g' true, .box 145 [(.fn (.func 88) [] [(.rptr 1 1 (fun _ => [(.fn (.func 85) [] [(.rptr 1 1 (fun _ => [(.int .i64 x)]) 0 0)])]) 0 0)])] true, .box 22 [sl eMach 10 l] true]) := by
      rw [E_hv, t1201]
      rw [L1201x0s, decide_eq_false (by omega), pF]
      simp only [h2, tkHv_h, tkTup_t, tkNil_n, tkSCons_c, tkArr_a, tkBox_b, Nat.beq_refl, Bool.and_self, beq_self_eq_true, pT, tkCons_c, sameK1, tkRow_r, tkSNil_n]
      rw [L1201x1s, decide_eq_false (by omega), pF]
    rw [E_hv, t1111]
    simp only [e2, tkHv_h, tkTup_t, tkNil_n, tkSCons_c, tkArr_a, tkBox_b, Nat.beq_refl, Bool.and_self, beq_self_eq_true, pT, tkCons_c, sameK1, tkRow_r, tkSNil_n]
theorem s1113 (x : Int) : (E F (d + 7)).hv 111 [.row true 0 0 (fun _ => []), .fn (.func 112) [] [.optr 0 0 0, .optr 1 0 0]] [.box 145 [(.fn (.func 88) [] [(.rptr 1 1 (fun _ => [(.fn (.func 85) [] [(.rptr 1 1 (fun _ => [(.int .i64 x)]) 0 0)])]) 0 0)])] true, .box 22 [sl eMach 10 l] true] = some (.ret (.tup []), [.box 145 [(.fn (.func 88) [] [(.rptr 1 1 (fun _ => [(.fn (.func 85) [] [(.rptr 1 1 (fun _ => [(.int .i64 x)]) 0 0)])]) 0 0)])] true, .box 22 [sl eMach 10 l] true]) := by
  obtain ⟨F, rfl⟩ : ∃ k, F = k + 1 := ⟨F - 1, by omega⟩
  have h2 : (E (F + 1) (d + 5)).hv 121 [.row true 0 0 (fun _ => []), .int .i64 0, .int .i64 ((0 : Nat) : Int), .fn (.func 112) [] [.optr 0 0 0, .optr 1 0 0]] [.box 145 [(.fn (.func 88) [] [(.rptr 1 1 (fun _ => [(.fn (.func 85) [] [(.rptr 1 1 (fun _ => [(.int .i64 x)]) 0 0)])]) 0 0)])] true, .box 22 [sl eMach 10 l] true] = some (.ret (.tup []), [.box 145 [(.fn (.func 88) [] [(.rptr 1 1 (fun _ => [(.fn (.func 85) [] [(.rptr 1 1 (fun _ => [(.int .i64 x)]) 0 0)])]) 0 0)])] true, .box 22 [sl eMach 10 l] true]) := by
    rw [E_hv, t1213, wr (by omega)]
    rw [L1213x0s, decide_eq_false (by omega), pF]
  have e2 : (E (F + 1) (d + 6)).hv 120 [.row true 0 0 (fun _ => []), .int .i64 ((0 : Nat) : Int), .fn (.func 112) [] [.optr 0 0 0, .optr 1 0 0]] [.box 145 [(.fn (.func 88) [] [(.rptr 1 1 (fun _ => [(.fn (.func 85) [] [(.rptr 1 1 (fun _ => [(.int .i64 x)]) 0 0)])]) 0 0)])] true, .box 22 [sl eMach 10 l] true] = some (.ret (.tup []), [.box 145 [(.fn (.func 88) [] [(.rptr 1 1 (fun _ => [(.fn (.func 85) [] [(.rptr 1 1 (fun _ => [(.int .i64 x)]) 0 0)])]) 0 0)])] true, .box 22 [sl eMach 10 l] true]) := by
    rw [E_hv, t1203]
    rw [L1203x0s, decide_eq_false (by omega), pF]
    simp only [h2, tkHv_h, tkTup_t, tkNil_n, tkSCons_c, tkArr_a, tkBox_b, Nat.beq_refl, Bool.and_self, beq_self_eq_true, pT, tkCons_c, sameK1, tkRow_r, tkSNil_n]
    rw [L1203x1s, decide_eq_false (by omega), pF]
  rw [E_hv, t1113]
  simp only [e2, tkHv_h, tkTup_t, tkNil_n, tkSCons_c, tkArr_a, tkBox_b, Nat.beq_refl, Bool.and_self, beq_self_eq_true, pT, tkCons_c, sameK1, tkRow_r, tkSNil_n]
end
end Go.Sim.Pl


namespace Go.Sim.Pl
open Go.Proofs
def mineR (l : Sl Mach) (r : Nat → Bool) (k : Int) : Nat → Nat → List Nat
  | 0, _ => []
  | j + 1, i => if (l.el i).kind = k ∧ r i = true then i :: mineR l r k j (i + 1) else mineR l r k j (i + 1)
def mine (l : Sl Mach) (r : Nat → Bool) (k : Int) : List Nat := mineR l r k l.len 0
theorem mineR_mem (l : Sl Mach) (r : Nat → Bool) (k : Int) : ∀ j i z, z ∈ mineR l r k j i ↔ (i ≤ z ∧ z < i + j) ∧ (l.el z).kind = k ∧ r z = true
  | 0, i, z => by simp [mineR]; omega
  | j + 1, i, z => by
    have ih := mineR_mem l r k j (i + 1) z
    simp only [mineR]
    split
    · rename_i h
      rw [List.mem_cons, ih]
      constructor
      · rintro (rfl | ⟨h1, h2⟩)
        · exact ⟨by omega, h⟩
        · exact ⟨by omega, h2⟩
      · rintro ⟨h1, h2⟩
        rcases Nat.eq_or_lt_of_le h1.1 with h3 | h3
        · exact .inl h3.symm
        · exact .inr ⟨by omega, h2⟩
    · rename_i h
      rw [ih]
      constructor
      · rintro ⟨h1, h2⟩; exact ⟨by omega, h2⟩
      · rintro ⟨h1, h2⟩
        rcases Nat.eq_or_lt_of_le h1.1 with h3 | h3
        · subst h3; exact (h h2).elim
        · exact ⟨by omega, h2⟩
theorem mine_mem {l : Sl Mach} {r : Nat → Bool} {k : Int} {z : Nat} : z ∈ mine l r k ↔ z < l.len ∧ (l.el z).kind = k ∧ r z = true := by
  unfold mine
  rw [mineR_mem]
  constructor
  · rintro ⟨h1, h2⟩; exact ⟨by omega, h2⟩
  · rintro ⟨h1, h2⟩; exact ⟨by omega, h2⟩
theorem mineR_ord (l : Sl Mach) (r : Nat → Bool) (k : Int) : ∀ j i, (mineR l r k j i).Pairwise (· < ·)
  | 0, i => by simp [mineR]
  | j + 1, i => by
    have ih := mineR_ord l r k j (i + 1)
    simp only [mineR]
    split
    · refine List.pairwise_cons.2 ⟨fun z hz => ?_, ih⟩
      rw [mineR_mem] at hz
      omega
    · exact ih
theorem mineR_len (l : Sl Mach) (r : Nat → Bool) (k : Int) : ∀ j i, (mineR l r k j i).length ≤ j
  | 0, i => by simp [mineR]
  | j + 1, i => by
    have ih := mineR_len l r k j (i + 1)
    simp only [mineR]
    split <;> simp <;> omega
abbrev eNat (n : Nat) : List V := eInt (n : Int)
theorem isL_gl (A : List Nat) : IsL (fun j => eInt ((A.getD j (A.getLastD 0) : Nat) : Int)) A := by
  intro j hj
  have e : ∀ y, A.getD j y = A.getD j 0 := fun y => by
    rw [List.getD_eq_getElem?_getD, List.getD_eq_getElem?_getD, List.getElem?_eq_getElem hj]; rfl
  show eInt ((A.getD j (A.getLastD 0) : Nat) : Int) = _
  rw [e]
theorem pd_0 : ∀ (A : List Nat) (x : Nat), pd key0 A x [] = A.reverse ++ [x]
  | [], x => rfl
  | y :: A, x => by simp only [pd]; rw [if_neg (by simp [key0])]
theorem srt_0 : ∀ (r S : List Nat), srt key0 S r = S ++ r
  | [], S => by simp [srt]
  | y :: r, S => by
    simp only [srt]
    rw [pd_0, srt_0 r, List.reverse_reverse, List.append_assoc]; rfl
def mineE (l : Sl Mach) (r : Nat → Bool) (x k : Int) : List Nat := srt (keyE l x) [] (mine l r k)
theorem mineE_mem {l : Sl Mach} {r : Nat → Bool} {x k : Int} {z : Nat} : z ∈ mineE l r x k ↔ z < l.len ∧ (l.el z).kind = k ∧ r z = true := by
  unfold mineE
  rw [srt_mem, ← mine_mem]
  simp
theorem mineE_len (l : Sl Mach) (r : Nat → Bool) (x k : Int) : (mineE l r x k).length = (mine l r k).length := by
  unfold mineE
  rw [srt_len]; simp
theorem mineE_ord (l : Sl Mach) (r : Nat → Bool) (x k : Int) : (mineE l r x k).Pairwise (Bef (keyE l x)) :=
  srt_ord (keyE l x) _ [] List.Pairwise.nil (fun a h => by simp at h) (mineR_ord l r k l.len 0)
variable (F d : Nat)
section
variable {l : Sl Mach} (hl : PlantOk l) (hF : 1000 < F)
include hl hF
theorem l860x1 (r : Sl Bool) (hr : r.len = l.len) (k : Int) : ∀ j i fu (A : List Nat), i + j = l.len → j < fu → 0 < A.length → A.length + j ≤ l.len → (∀ z ∈ A, z < l.len) →
    ∃ g', IsL g' (srt (key0) [] (A ++ mineR l r.el k j i)) ∧ L860x1 (E F (d + 7)) F l r k fu A.length i A.length (gl eNat 0 A) = some (.ret (.row false (A ++ mineR l r.el k j i).length 1 g')) := by
  have hl2 := hl.2
  intro j
  induction j with
  | zero =>
    intro i fu A h hf hA0 hA hAl
    obtain ⟨fu, rfl⟩ : ∃ k, fu = k + 1 := ⟨fu - 1, by omega⟩
    obtain ⟨g', h1, h2⟩ := s1110 F d hl hF (n := A.length) (fun j => ((A.getD j (A.getLastD 0) : Nat) : Int)) A (by omega) hA0 rfl hAl (isL_gl A)
    have h2' : (E F (d + 7)).hv 111 [.osl 0 0 A.length, .fn (.func 112) [] [.optr 1 0 0, .optr 2 0 0]] [.arr 3 1 A.length (gl eNat 0 A) true, .box 145 [(.fn (.func 87) [] [])] true, .box 22 [sl eMach 10 l] true] = _ := h2
    simp only [mineR, List.append_nil]
    refine ⟨g', h1, ?_⟩
    rw [L860x1s, decide_eq_false (by omega), pF]
    simp only [h2', tkHv_h, tkTup_t, tkNil_n, tkSCons_c, tkArr_a, tkBox_b, Nat.beq_refl, Bool.and_self, beq_self_eq_true, pT, tkCons_c, sameK0, tkRow_r, tkSNil_n]
  | succ j ih =>
    intro i fu A h hf hA0 hA hAl
    obtain ⟨fu, rfl⟩ : ∃ k, fu = k + 1 := ⟨fu - 1, by omega⟩
    have hS : IntKind.i64.wrap ((i : Int) + 1) = ((i + 1 : Nat) : Int) := wrS (by omega)
    have q := s84 F (d + 6) hl hF i (by omega) k r hr
    rw [L860x1s]
    simp (disch := omega) only [decide_eq_true, decide_true, pT, Int.toNat_natCast, q, tkOut_ret, tkBool_b, hS]
    simp only [mineR]
    by_cases hm : (l.el i).kind = k ∧ r.el i = true
    · rw [decide_eq_true hm, pT, if_pos hm]
      obtain ⟨g', h1, h2⟩ := ih (i + 1) fu (A ++ [i]) (by omega) (by omega) (by simp) (by simp; omega) (fun z hz => by
        rw [List.mem_append, List.mem_singleton] at hz
        rcases hz with hz | rfl
        · exact hAl z hz
        · omega)
      rw [List.append_assoc, List.singleton_append] at h1 h2
      refine ⟨g', h1, ?_⟩
      rw [← gl_snoc (e := eNat) (z := 0) (m := i) (ms := A) (k := A.length) rfl rfl, List.length_append, List.length_singleton] at h2
      exact h2
    · rw [decide_eq_false hm, pF, if_neg hm]
      exact ih (i + 1) fu A (by omega) (by omega) hA0 (by omega) hAl
theorem l860x0 (r : Sl Bool) (hr : r.len = l.len) (k : Int) : ∀ j i fu, i + j = l.len → j < fu →
    ∃ nl wd g', (0 < (mineR l r.el k j i).length → wd = 1) ∧ IsL g' (srt (key0) [] (mineR l r.el k j i)) ∧ L860x0 (E F (d + 7)) F l r k fu i = some (.ret (.row nl (mineR l r.el k j i).length wd g')) := by
  have hl2 := hl.2
  intro j
  induction j with
  | zero =>
    intro i fu h hf
    obtain ⟨fu, rfl⟩ : ∃ k, fu = k + 1 := ⟨fu - 1, by omega⟩
    have h2 := s1112 F d hl hF
    simp only [mineR]
    refine ⟨true, 0, fun _ => [], fun h => by simp at h, fun j hj => by simp [srt] at hj, ?_⟩
    rw [L860x0s, decide_eq_false (by omega), pF]
    simp only [h2, tkHv_h, tkTup_t, tkNil_n, tkSCons_c, tkBox_b, Nat.beq_refl, Bool.and_self, beq_self_eq_true, pT, tkCons_c, sameK0, tkRow_r, tkSNil_n]
    rfl
  | succ j ih =>
    intro i fu h hf
    obtain ⟨fu, rfl⟩ : ∃ k, fu = k + 1 := ⟨fu - 1, by omega⟩
    have hS : IntKind.i64.wrap ((i : Int) + 1) = ((i + 1 : Nat) : Int) := wrS (by omega)
    have q := s84 F (d + 6) hl hF i (by omega) k r hr
    rw [L860x0s]
    simp (disch := omega) only [decide_eq_true, decide_true, pT, Int.toNat_natCast, q, tkOut_ret, tkBool_b, hS]
    simp only [mineR]
    by_cases hm : (l.el i).kind = k ∧ r.el i = true
    · rw [decide_eq_true hm, pT, if_pos hm]
      obtain ⟨g', h1, h2⟩ := l860x1 F d hl hF r hr k j (i + 1) fu [i] (by omega) (by omega) (by simp) (by simp; omega) (fun z hz => by
        rw [List.mem_singleton] at hz
        omega)
      rw [← gl_one (e := eNat) (z := 0) (m := i) rfl, List.length_singleton, List.singleton_append] at h2
      exact ⟨false, 1, g', fun _ => rfl, h1, h2⟩
    · rw [decide_eq_false hm, pF, if_neg hm]
      exact ih (i + 1) fu (by omega) (by omega)
theorem s860 (r : Sl Bool) (hr : r.len = l.len) (k : Int) : ∃ nl wd g', (0 < (mine l r.el k).length → wd = 1) ∧ IsL g' (srt (key0) [] (mine l r.el k)) ∧ (E F (d + 8)).pf 86 [sl eMach 10 l, .fn (.func 84) [] [.rptr 1 1 (fun _ => [.int .i64 k]) 0 0, .rptr 1 1 (fun _ => [sl eBool 1 r]) 0 0], (.fn (.func 87) [] [])] = some (.ret (.row nl (mine l r.el k).length wd g')) := by
  have hl2 := hl.2
  rw [E_pf, t860]
  exact l860x0 F d hl hF r hr k l.len 0 F (by omega) (by omega)
theorem l861x1 (r : Sl Bool) (hr : r.len = l.len) (k : Int) (x : Int) : ∀ j i fu (A : List Nat), i + j = l.len → j < fu → 0 < A.length → A.length + j ≤ l.len → (∀ z ∈ A, z < l.len) →
    ∃ g', IsL g' (srt (keyE l x) [] (A ++ mineR l r.el k j i)) ∧ L861x1 (E F (d + 7)) F l r k x fu A.length i A.length (gl eNat 0 A) = some (.ret (.row false (A ++ mineR l r.el k j i).length 1 g')) := by
  have hl2 := hl.2
  intro j
  induction j with
  | zero =>
    intro i fu A h hf hA0 hA hAl
    obtain ⟨fu, rfl⟩ : ∃ k, fu = k + 1 := ⟨fu - 1, by omega⟩
    obtain ⟨g', h1, h2⟩ := s1111 F d hl hF (n := A.length) (fun j => ((A.getD j (A.getLastD 0) : Nat) : Int)) A x (by omega) hA0 rfl hAl (isL_gl A)
    have h2' : (E F (d + 7)).hv 111 [.osl 0 0 A.length, .fn (.func 112) [] [.optr 1 0 0, .optr 2 0 0]] [.arr 3 1 A.length (gl eNat 0 A) true, .box 145 [(.fn (.func 88) [] [(.rptr 1 1 (fun _ => [(.fn (.func 85) [] [(.rptr 1 1 (fun _ => [(.int .i64 x)]) 0 0)])]) 0 0)])] true, .box 22 [sl eMach 10 l] true] = _ := h2
    simp only [mineR, List.append_nil]
    refine ⟨g', h1, ?_⟩
    rw [L861x1s, decide_eq_false (by omega), pF]
    simp only [h2', tkHv_h, tkTup_t, tkNil_n, tkSCons_c, tkArr_a, tkBox_b, Nat.beq_refl, Bool.and_self, beq_self_eq_true, pT, tkCons_c, sameK1, tkRow_r, tkSNil_n]
  | succ j ih =>
    intro i fu A h hf hA0 hA hAl
    obtain ⟨fu, rfl⟩ : ∃ k, fu = k + 1 := ⟨fu - 1, by omega⟩
    have hS : IntKind.i64.wrap ((i : Int) + 1) = ((i + 1 : Nat) : Int) := wrS (by omega)
    have q := s84 F (d + 6) hl hF i (by omega) k r hr
    rw [L861x1s]
    simp (disch := omega) only [decide_eq_true, decide_true, pT, Int.toNat_natCast, q, tkOut_ret, tkBool_b, hS]
    simp only [mineR]
    by_cases hm : (l.el i).kind = k ∧ r.el i = true
    · rw [decide_eq_true hm, pT, if_pos hm]
      obtain ⟨g', h1, h2⟩ := ih (i + 1) fu (A ++ [i]) (by omega) (by omega) (by simp) (by simp; omega) (fun z hz => by
        rw [List.mem_append, List.mem_singleton] at hz
        rcases hz with hz | rfl
        · exact hAl z hz
        · omega)
      rw [List.append_assoc, List.singleton_append] at h1 h2
      refine ⟨g', h1, ?_⟩
      rw [← gl_snoc (e := eNat) (z := 0) (m := i) (ms := A) (k := A.length) rfl rfl, List.length_append, List.length_singleton] at h2
      exact h2
    · rw [decide_eq_false hm, pF, if_neg hm]
      exact ih (i + 1) fu A (by omega) (by omega) hA0 (by omega) hAl
theorem l861x0 (r : Sl Bool) (hr : r.len = l.len) (k : Int) (x : Int) : ∀ j i fu, i + j = l.len → j < fu →
    ∃ nl wd g', (0 < (mineR l r.el k j i).length → wd = 1) ∧ IsL g' (srt (keyE l x) [] (mineR l r.el k j i)) ∧ L861x0 (E F (d + 7)) F l r k x fu i = some (.ret (.row nl (mineR l r.el k j i).length wd g')) := by
  have hl2 := hl.2
  intro j
  induction j with
  | zero =>
    intro i fu h hf
    obtain ⟨fu, rfl⟩ : ∃ k, fu = k + 1 := ⟨fu - 1, by omega⟩
    have h2 := s1113 F d hl hF x
    simp only [mineR]
    refine ⟨true, 0, fun _ => [], fun h => by simp at h, fun j hj => by simp [srt] at hj, ?_⟩
    rw [L861x0s, decide_eq_false (by omega), pF]
    simp only [h2, tkHv_h, tkTup_t, tkNil_n, tkSCons_c, tkBox_b, Nat.beq_refl, Bool.and_self, beq_self_eq_true, pT, tkCons_c, sameK1, tkRow_r, tkSNil_n]
    rfl
  | succ j ih =>
    intro i fu h hf
    obtain ⟨fu, rfl⟩ : ∃ k, fu = k + 1 := ⟨fu - 1, by omega⟩
    have hS : IntKind.i64.wrap ((i : Int) + 1) = ((i + 1 : Nat) : Int) := wrS (by omega)
    have q := s84 F (d + 6) hl hF i (by omega) k r hr
    rw [L861x0s]
    simp (disch := omega) only [decide_eq_true, decide_true, pT, Int.toNat_natCast, q, tkOut_ret, tkBool_b, hS]
    simp only [mineR]
    by_cases hm : (l.el i).kind = k ∧ r.el i = true
    · rw [decide_eq_true hm, pT, if_pos hm]
      obtain ⟨g', h1, h2⟩ := l861x1 F d hl hF r hr k x j (i + 1) fu [i] (by omega) (by omega) (by simp) (by simp; omega) (fun z hz => by
        rw [List.mem_singleton] at hz
        omega)
      rw [← gl_one (e := eNat) (z := 0) (m := i) rfl, List.length_singleton, List.singleton_append] at h2
      exact ⟨false, 1, g', fun _ => rfl, h1, h2⟩
    · rw [decide_eq_false hm, pF, if_neg hm]
      exact ih (i + 1) fu (by omega) (by omega)
theorem s861 (r : Sl Bool) (hr : r.len = l.len) (k : Int) (x : Int) : ∃ nl wd g', (0 < (mine l r.el k).length → wd = 1) ∧ IsL g' (srt (keyE l x) [] (mine l r.el k)) ∧ (E F (d + 8)).pf 86 [sl eMach 10 l, .fn (.func 84) [] [.rptr 1 1 (fun _ => [.int .i64 k]) 0 0, .rptr 1 1 (fun _ => [sl eBool 1 r]) 0 0], (.fn (.func 88) [] [(.rptr 1 1 (fun _ => [(.fn (.func 85) [] [(.rptr 1 1 (fun _ => [(.int .i64 x)]) 0 0)])]) 0 0)])] = some (.ret (.row nl (mine l r.el k).length wd g')) := by
  have hl2 := hl.2
  rw [E_pf, t861]
  exact l861x0 F d hl hF r hr k x l.len 0 F (by omega) (by omega)
end
end Go.Sim.Pl


namespace Go.Sim.Pl
open Go.Proofs
structure Shr where
  left : Int
  sh : Nat → Int
  pr : Nat → Int
  es : List Int
def leastF (l : Sl Mach) (x : Int) (s : Shr) (z : Nat) : Shr :=
  { s with left := s.left - min s.left (rowAt (l.el z) x).least, sh := fun j => if j = z then min s.left (rowAt (l.el z) x).least else s.sh j }
def moreF (l : Sl Mach) (x k : Int) (s : Shr) (z : Nat) : Shr :=
  { left := s.left - min s.left ((rowAt (l.el z) x).most - s.sh z)
    sh := fun j => if j = z then s.sh z + min s.left ((rowAt (l.el z) x).most - s.sh z) else s.sh j
    pr := if s.sh z + min s.left ((rowAt (l.el z) x).most - s.sh z) > (rowAt (l.el z) x).least then (fun j => if j = (k - 1).toNat then max (s.pr (k - 1).toNat) (rowAt (l.el z) x).energy else s.pr j) else s.pr
    es := s.es ++ [(rowAt (l.el z) x).energy * max (s.sh z + min s.left ((rowAt (l.el z) x).most - s.sh z)) (rowAt (l.el z) x).least] }
def kindF (l : Sl Mach) (r : Nat → Bool) (f x : Int) (s : Shr) (k : Int) : Shr :=
  (mineE l r x k).foldl (moreF l x k) ((mine l r k).foldl (leastF l x) { s with left := f })
def shK (l : Sl Mach) (r : Nat → Bool) (f x : Int) : Nat → Int → Shr → Shr
  | 0, _, s => s
  | j + 1, k, s => shK l r f x j (k + 1) (kindF l r f x s k)
def shr0 : Shr := ⟨0, fun _ => 0, fun _ => 0, []⟩
def shareS (l : Sl Mach) (r : Nat → Bool) (f x : Int) : Shr := shK l r f x 3 1 shr0
structure ShInv (l : Sl Mach) (x : Int) (s : Shr) : Prop where
  left : 0 ≤ s.left ∧ s.left ≤ 1000000
  sh : ∀ j, j < l.len → 0 ≤ s.sh j ∧ s.sh j ≤ (rowAt (l.el j) x).most
  pr : ∀ j, 0 ≤ s.pr j ∧ s.pr j ≤ 1000
  es : ∀ e ∈ s.es, 0 ≤ e ∧ e ≤ 1000000000
theorem least_inv {l : Sl Mach} (hl : PlantOk l) {x : Int} {s : Shr} (h : ShInv l x s) {z : Nat} (hz : z < l.len) : ShInv l x (leastF l x s z) := by
  have hr := row_in (hl.1 z hz) x
  have hs := h.sh z hz
  have hleft := h.left
  refine ⟨?_, fun j hj => ?_, h.pr, h.es⟩
  · show 0 ≤ s.left - _ ∧ s.left - _ ≤ 1000000
    omega
  · show 0 ≤ (if j = z then _ else _) ∧ (if j = z then _ else _) ≤ _
    by_cases hjz : j = z
    · rw [if_pos hjz, hjz]; omega
    · rw [if_neg hjz]; exact h.sh j hj
theorem mul_in {a b : Int} (h1 : 0 ≤ a ∧ a ≤ 1000) (h2 : 0 ≤ b ∧ b ≤ 1000000) : 0 ≤ a * b ∧ a * b ≤ 1000000000 := by
  refine ⟨Int.mul_nonneg h1.1 h2.1, ?_⟩
  have h3 : a * b ≤ 1000 * b := Int.mul_le_mul_of_nonneg_right h1.2 h2.1
  omega
theorem more_inv {l : Sl Mach} (hl : PlantOk l) {x k : Int} {s : Shr} (h : ShInv l x s) {z : Nat} (hz : z < l.len) : ShInv l x (moreF l x k s z) := by
  have hr := row_in (hl.1 z hz) x
  have hs := h.sh z hz
  have hleft := h.left
  refine ⟨?_, fun j hj => ?_, fun j => ?_, fun e he => ?_⟩
  · show 0 ≤ s.left - _ ∧ s.left - _ ≤ 1000000
    omega
  · show 0 ≤ (if j = z then _ else _) ∧ (if j = z then _ else _) ≤ _
    by_cases hjz : j = z
    · rw [if_pos hjz, hjz]; omega
    · rw [if_neg hjz]; exact h.sh j hj
  · have h1 := h.pr j
    have h2 := h.pr (k - 1).toNat
    simp only [moreF]
    split
    · show 0 ≤ (if j = _ then _ else _) ∧ (if j = _ then _ else _) ≤ (1000 : Int)
      split <;> omega
    · exact h1
  · simp only [moreF, List.mem_append, List.mem_singleton] at he
    rcases he with he | rfl
    · exact h.es e he
    · exact mul_in hr.2.2 (by omega)
theorem leasts_inv {l : Sl Mach} (hl : PlantOk l) {x : Int} : ∀ (S : List Nat) {s : Shr}, ShInv l x s → (∀ z ∈ S, z < l.len) → ShInv l x (S.foldl (leastF l x) s)
  | [], s, h, _ => h
  | z :: S, s, h, hS => leasts_inv hl S (least_inv hl h (hS z (by simp))) fun y hy => hS y (by simp [hy])
theorem mores_inv {l : Sl Mach} (hl : PlantOk l) {x k : Int} : ∀ (S : List Nat) {s : Shr}, ShInv l x s → (∀ z ∈ S, z < l.len) → ShInv l x (S.foldl (moreF l x k) s)
  | [], s, h, _ => h
  | z :: S, s, h, hS => mores_inv hl S (more_inv hl h (hS z (by simp))) fun y hy => hS y (by simp [hy])
theorem kind_inv {l : Sl Mach} (hl : PlantOk l) {r : Nat → Bool} {f x k : Int} (hf : FlowOk f) {s : Shr} (h : ShInv l x s) : ShInv l x (kindF l r f x s k) :=
  mores_inv hl _ (leasts_inv hl _ ⟨hf, h.sh, h.pr, h.es⟩ fun z hz => (mine_mem.1 hz).1) fun z hz => (mineE_mem.1 hz).1
theorem leasts_keep {l : Sl Mach} {x : Int} : ∀ (S : List Nat) (s : Shr), (S.foldl (leastF l x) s).pr = s.pr ∧ (S.foldl (leastF l x) s).es = s.es
  | [], s => ⟨rfl, rfl⟩
  | z :: S, s => leasts_keep S (leastF l x s z)
theorem mores_es {l : Sl Mach} {x k : Int} : ∀ (S : List Nat) (s : Shr), (S.foldl (moreF l x k) s).es.length = s.es.length + S.length
  | [], s => rfl
  | z :: S, s => by
    have := mores_es (l := l) (x := x) (k := k) S (moreF l x k s z)
    simp only [List.foldl_cons, List.length_cons]
    rw [this]
    simp only [moreF, List.length_append, List.length_singleton]
    omega
theorem kind_es {l : Sl Mach} {r : Nat → Bool} {f x k : Int} {s : Shr} : (kindF l r f x s k).es.length = s.es.length + (mine l r k).length := by
  unfold kindF
  rw [mores_es, (leasts_keep _ _).2, mineE_len]
def sumL (l : List Int) : Int := l.foldr (· + ·) 0
variable (F d : Nat)
section
variable {l : Sl Mach} (hl : PlantOk l) (hF : 1000 < F)
include hl hF
theorem l55x1 (r : Sl Bool) (f x : Int) (m0 a : Nat) (nl : Bool) (wd : Nat) (g : Nat → List V) (b : Bool) (k : Int) (S : List Nat) (hS : ∀ z ∈ S, z < l.len) (hSl : S.length < 1000) (hg : IsL g S) (hwd : 0 < S.length → wd = 1) (R : Option Out)
    (s' : Shr) (K : ∀ nl' wd' g', (0 < (mineE l r.el x k).length → wd' = 1) → IsL g' (mineE l r.el x k) → L55x2 (E F (d + 8)) F l r f x m0 F s'.left .i64 1 .i64 2 .i64 3 a nl' (mineE l r.el x k).length wd' g' ((mineE l r.el x k).length : Nat) (fun j => eInt (s'.sh j)) .i64 k = R) (hr : r.len = l.len) :
    ∀ j p fu (s : Shr), p + j = S.length → j < fu → ShInv l x s → (S.drop p).foldl (leastF l x) s = s' →
    L55x1 (E F (d + 8)) F l r f x m0 fu s.left .i64 1 .i64 2 .i64 3 a nl S.length wd g (S.length : Nat) p b (fun j => eInt (s.sh j)) .i64 k = R := by
  have hl2 := hl.2
  intro j
  induction j with
  | zero =>
    intro p fu s h hf hI hs
    obtain ⟨fu, rfl⟩ : ∃ k, fu = k + 1 := ⟨fu - 1, by omega⟩
    rw [List.drop_eq_nil_of_le (by omega)] at hs
    subst hs
    obtain ⟨nl', wd', g', h1, h2, h3⟩ := s861 F d hl hF r hr k x
    have K' := K nl' wd' g' (fun h => h1 (by rw [← mineE_len l r.el x k]; exact h)) h2
    rw [mineE_len] at K'
    rw [L55x1s, decide_eq_false (by omega), pF]
    simp only [h3, tkOut_ret, tkRow_r]
    exact K'
  | succ j ih =>
    intro p fu s h hf hI hs
    obtain ⟨fu, rfl⟩ : ∃ k, fu = k + 1 := ⟨fu - 1, by omega⟩
    have hp : p < S.length := by omega
    have hz := hS S[p] (List.getElem_mem hp)
    rw [List.drop_eq_getElem_cons hp, List.foldl_cons] at hs
    have hI' := least_inv hl hI hz
    have e := ih (p + 1) fu (leastF l x s S[p]) (by omega) (by omega) hI' hs
    have hgp : g p = eInt ((S[p] : Nat) : Int) := by rw [hg p hp, List.getD_eq_getElem?_getD, List.getElem?_eq_getElem hp]; rfl
    have hS' : IntKind.i64.wrap ((p : Int) + 1) = ((p + 1 : Nat) : Int) := wrS (by omega)
    have q := s85 F (d + 6) hl hF S[p] hz x
    have hr2 := row_in (hl.1 S[p] hz) x
    have hleft := hI.left
    have hw := hwd (by omega)
    subst hw
    rw [L55x1s]
    generalize hzz : S[p] = z at *
    simp (disch := omega) only [decide_eq_true, decide_true, pT, Int.toNat_natCast, hgp, tkCons_c, tkInt_i, q, tkOut_ret, tkAgg_a, tkNil_n, beq_self_eq_true, upd_int, mnE, hS', wr, if_true]
    exact e
theorem l55x3 (r : Sl Bool) (f x : Int) (m0 a : Nat) (ha : a < 3) (nl : Bool) (g : Nat → List V) (k : Int) (hk : 1 ≤ k ∧ k ≤ 3) (S : List Nat) (hS : ∀ z ∈ S, z < l.len) (hSl : S.length < 1000) (hg : IsL g S) (R : Option Out)
    (s' : Shr) (K : ∀ cap, L55x4 (E F (d + 8)) F l r f x m0 s'.es.length .i64 1 .i64 2 .i64 3 ((a + 1 : Nat) : Int) (fun j => eInt (s'.sh j)) (fun j => eInt (s'.pr j)) cap (gl eInt 0 s'.es) = R) :
    ∀ j p fu wd cap (s : Shr), p + j = S.length → j < fu → (0 < j → wd = 1) → ShInv l x s → s.es.length + j < 1000 → (S.drop p).foldl (moreF l x k) s = s' →
    L55x3 (E F (d + 8)) F l r f x m0 fu s.es.length s.left .i64 1 .i64 2 .i64 3 a nl S.length wd g (S.length : Nat) p (fun j => eInt (s.sh j)) (fun j => eInt (s.pr j)) cap (gl eInt 0 s.es) .i64 k = R := by
  have hl2 := hl.2
  intro j
  induction j with
  | zero =>
    intro p fu wd cap s h hf hwd hI hes hs
    obtain ⟨fu, rfl⟩ : ∃ k, fu = k + 1 := ⟨fu - 1, by omega⟩
    rw [List.drop_eq_nil_of_le (by omega)] at hs
    subst hs
    have hS' : IntKind.i64.wrap ((a : Int) + 1) = ((a + 1 : Nat) : Int) := wrS (by omega)
    rw [L55x3s, decide_eq_false (by omega), pF, hS']
    exact K cap
  | succ j ih =>
    intro p fu wd cap s h hf hwd hI hes hs
    obtain ⟨fu, rfl⟩ : ∃ k, fu = k + 1 := ⟨fu - 1, by omega⟩
    have hp : p < S.length := by omega
    have hz := hS S[p] (List.getElem_mem hp)
    rw [List.drop_eq_getElem_cons hp, List.foldl_cons] at hs
    have hI' := more_inv hl (k := k) hI hz
    have e := fun cap => ih (p + 1) fu 1 cap (moreF l x k s S[p]) (by omega) (by omega) (fun _ => rfl) hI' (by simp only [moreF, List.length_append, List.length_singleton]; omega) hs
    have hgp : g p = eInt ((S[p] : Nat) : Int) := by rw [hg p hp, List.getD_eq_getElem?_getD, List.getElem?_eq_getElem hp]; rfl
    have hS' : IntKind.i64.wrap ((p : Int) + 1) = ((p + 1 : Nat) : Int) := wrS (by omega)
    have q := s85 F (d + 6) hl hF S[p] hz x
    have hr2 := row_in (hl.1 S[p] hz) x
    have hsz := hI.sh S[p] hz
    have hleft := hI.left
    have hw := hwd (by omega)
    subst hw
    rw [L55x3s]
    generalize hzz : S[p] = z at *
    have hm := mul_in hr2.2.2 (b := max (s.sh z + min s.left ((rowAt (l.el z) x).most - s.sh z)) (rowAt (l.el z) x).least) (by omega)
    simp (disch := omega) only [decide_eq_true, decide_true, pT, Int.toNat_natCast, hgp, tkCons_c, tkInt_i, q, tkOut_ret, tkAgg_a, tkNil_n, beq_self_eq_true, mnE, mxE, upd_int, hS', wr, if_true]
    have e1 : moreF l x k s z = { moreF l x k s z with es := s.es ++ [(rowAt (l.el z) x).energy * max (s.sh z + min s.left ((rowAt (l.el z) x).most - s.sh z)) (rowAt (l.el z) x).least] } := rfl
    by_cases hgt : s.sh z + min s.left ((rowAt (l.el z) x).most - s.sh z) > (rowAt (l.el z) x).least
    · rw [decide_eq_true hgt, pT]
      have e2 := e (s.es.length + 1)
      rw [show moreF l x k s z = ⟨s.left - min s.left ((rowAt (l.el z) x).most - s.sh z), fun j => if j = z then s.sh z + min s.left ((rowAt (l.el z) x).most - s.sh z) else s.sh j, fun j => if j = (k - 1).toNat then max (s.pr (k - 1).toNat) (rowAt (l.el z) x).energy else s.pr j, s.es ++ [(rowAt (l.el z) x).energy * max (s.sh z + min s.left ((rowAt (l.el z) x).most - s.sh z)) (rowAt (l.el z) x).least]⟩ from by unfold moreF; rw [if_pos hgt]] at e2
      simp only [] at e2
      rw [← gl_snoc (e := eInt) (z := 0) (k := s.es.length) rfl rfl, List.length_append, List.length_singleton] at e2
      exact e2
    · rw [decide_eq_false hgt, pF]
      have e2 := e (s.es.length + 1)
      rw [show moreF l x k s z = ⟨s.left - min s.left ((rowAt (l.el z) x).most - s.sh z), fun j => if j = z then s.sh z + min s.left ((rowAt (l.el z) x).most - s.sh z) else s.sh j, s.pr, s.es ++ [(rowAt (l.el z) x).energy * max (s.sh z + min s.left ((rowAt (l.el z) x).most - s.sh z)) (rowAt (l.el z) x).least]⟩ from by unfold moreF; rw [if_neg hgt]] at e2
      simp only [] at e2
      rw [← gl_snoc (e := eInt) (z := 0) (k := s.es.length) rfl rfl, List.length_append, List.length_singleton] at e2
      exact e2
theorem l55x2 (r : Sl Bool) (f x : Int) (m0 a : Nat) (ha : a < 3) (nl : Bool) (g : Nat → List V) (k : Int) (hk : 1 ≤ k ∧ k ≤ 3) (S : List Nat) (hS : ∀ z ∈ S, z < l.len) (hSl : S.length < 1000) (hg : IsL g S) (R : Option Out)
    (s s' : Shr) (hes : s.es = []) (hpr : s.pr = fun _ => 0) (K0 : S = [] → L55x0 (E F (d + 8)) F l r f x m0 .i64 1 .i64 2 .i64 3 ((a + 1 : Nat) : Int) false false (fun j => eInt (s.sh j)) = R)
    (K : S ≠ [] → ∀ cap, L55x4 (E F (d + 8)) F l r f x m0 s'.es.length .i64 1 .i64 2 .i64 3 ((a + 1 : Nat) : Int) (fun j => eInt (s'.sh j)) (fun j => eInt (s'.pr j)) cap (gl eInt 0 s'.es) = R) (wd : Nat) (hwd : 0 < S.length → wd = 1) (hI : ShInv l x s) (hs : S.foldl (moreF l x k) s = s') :
    ∀ fu, S.length < fu → 
    L55x2 (E F (d + 8)) F l r f x m0 fu s.left .i64 1 .i64 2 .i64 3 a nl S.length wd g (S.length : Nat) (fun j => eInt (s.sh j)) .i64 k = R := by
  have hl2 := hl.2
  intro fu hf
  obtain ⟨fu, rfl⟩ : ∃ k, fu = k + 1 := ⟨fu - 1, by omega⟩
  match S, hS, hSl, hg, K0, K, hwd, hs, hf with
  | [], _, _, _, K0, _, _, _, _ =>
    have hS' : IntKind.i64.wrap ((a : Int) + 1) = ((a + 1 : Nat) : Int) := wrS (by omega)
    rw [L55x2s, show ((([] : List Nat).length : Nat) : Int) = 0 from rfl, decide_eq_false (by omega), pF, hS']
    exact K0 rfl
  | z :: S, hS, hSl, hg, _, K, hwd, hs, hf =>
    have hz := hS z (by simp)
    rw [List.foldl_cons] at hs
    have hI' := more_inv hl (k := k) hI hz
    have hesl : (moreF l x k s z).es.length = 1 := by simp only [moreF, hes]; rfl
    have hsl1 : (z :: S).length = S.length + 1 := rfl
    have e := fun cap => l55x3 F d hl hF r f x m0 a ha nl g k hk (z :: S) hS hSl hg R s' (K (by simp)) S.length 1 fu 1 cap (moreF l x k s z) (by simp; omega) (by simp at hf; omega) (fun _ => rfl) hI' (by rw [hesl]; omega) (by simpa using hs)
    rw [hesl] at e
    have hgp : g 0 = eInt ((z : Nat) : Int) := by rw [hg 0 (by simp)]; rfl
    have hS' : IntKind.i64.wrap ((0 : Int) + 1) = ((1 : Nat) : Int) := by rw [wr (by omega)]; rfl
    have q := s85 F (d + 6) hl hF z hz x
    have hr2 := row_in (hl.1 z hz) x
    have hsz := hI.sh z hz
    have hleft := hI.left
    have hw := hwd (by simp)
    subst hw
    rw [L55x2s, hsl1] at *
    have hm := mul_in hr2.2.2 (b := max (s.sh z + min s.left ((rowAt (l.el z) x).most - s.sh z)) (rowAt (l.el z) x).least) (by omega)
    simp (disch := omega) only [decide_eq_true, decide_true, pT, Int.toNat_natCast, hgp, tkCons_c, tkInt_i, q, tkOut_ret, tkAgg_a, tkNil_n, beq_self_eq_true, mnE, mxE, upd_int, hS', wr, if_true]
    by_cases hgt : s.sh z + min s.left ((rowAt (l.el z) x).most - s.sh z) > (rowAt (l.el z) x).least
    · rw [decide_eq_true hgt, pT]
      have e2 := e 1
      rw [show moreF l x k s z = ⟨s.left - min s.left ((rowAt (l.el z) x).most - s.sh z), fun j => if j = z then s.sh z + min s.left ((rowAt (l.el z) x).most - s.sh z) else s.sh j, fun j => if j = (k - 1).toNat then max 0 (rowAt (l.el z) x).energy else 0, [(rowAt (l.el z) x).energy * max (s.sh z + min s.left ((rowAt (l.el z) x).most - s.sh z)) (rowAt (l.el z) x).least]⟩ from by unfold moreF; rw [if_pos hgt, hes, hpr]; rfl] at e2
      simp only [] at e2
      rw [← gl_one (e := eInt) (z := 0) rfl] at e2
      exact e2
    · rw [decide_eq_false hgt, pF]
      have e2 := e 1
      rw [show moreF l x k s z = ⟨s.left - min s.left ((rowAt (l.el z) x).most - s.sh z), fun j => if j = z then s.sh z + min s.left ((rowAt (l.el z) x).most - s.sh z) else s.sh j, fun _ => 0, [(rowAt (l.el z) x).energy * max (s.sh z + min s.left ((rowAt (l.el z) x).most - s.sh z)) (rowAt (l.el z) x).least]⟩ from by unfold moreF; rw [if_neg hgt, hes, hpr]; rfl] at e2
      simp only [] at e2
      rw [← gl_one (e := eInt) (z := 0) rfl] at e2
      exact e2
theorem l55x5 (r : Sl Bool) (f x : Int) (m0 a cap : Nat) (E0 : List Int) (nl : Bool) (wd : Nat) (g : Nat → List V) (k : Int) (S : List Nat) (hS : ∀ z ∈ S, z < l.len) (hSl : S.length < 1000) (hg : IsL g S) (hwd : 0 < S.length → wd = 1) (R : Option Out)
    (s' : Shr) (K : ∀ nl' wd' g', (0 < (mineE l r.el x k).length → wd' = 1) → IsL g' (mineE l r.el x k) → L55x3 (E F (d + 8)) F l r f x m0 F E0.length s'.left .i64 1 .i64 2 .i64 3 a nl' (mineE l r.el x k).length wd' g' ((mineE l r.el x k).length : Nat) 0 (fun j => eInt (s'.sh j)) (fun j => eInt (s'.pr j)) cap (gl eInt 0 E0) .i64 k = R) (hr : r.len = l.len) :
    ∀ j p fu (s : Shr), p + j = S.length → j < fu → ShInv l x s → (S.drop p).foldl (leastF l x) s = s' →
    L55x5 (E F (d + 8)) F l r f x m0 fu E0.length s.left .i64 1 .i64 2 .i64 3 a nl S.length wd g (S.length : Nat) p (fun j => eInt (s.sh j)) (fun j => eInt (s.pr j)) cap (gl eInt 0 E0) .i64 k = R := by
  have hl2 := hl.2
  intro j
  induction j with
  | zero =>
    intro p fu s h hf hI hs
    obtain ⟨fu, rfl⟩ : ∃ k, fu = k + 1 := ⟨fu - 1, by omega⟩
    rw [List.drop_eq_nil_of_le (by omega)] at hs
    subst hs
    obtain ⟨nl', wd', g', h1, h2, h3⟩ := s861 F d hl hF r hr k x
    have K' := K nl' wd' g' (fun h => h1 (by rw [← mineE_len l r.el x k]; exact h)) h2
    rw [mineE_len] at K'
    rw [L55x5s, decide_eq_false (by omega), pF]
    simp only [h3, tkOut_ret, tkRow_r]
    exact K'
  | succ j ih =>
    intro p fu s h hf hI hs
    obtain ⟨fu, rfl⟩ : ∃ k, fu = k + 1 := ⟨fu - 1, by omega⟩
    have hp : p < S.length := by omega
    have hz := hS S[p] (List.getElem_mem hp)
    rw [List.drop_eq_getElem_cons hp, List.foldl_cons] at hs
    have hI' := least_inv hl hI hz
    have e := ih (p + 1) fu (leastF l x s S[p]) (by omega) (by omega) hI' hs
    have hgp : g p = eInt ((S[p] : Nat) : Int) := by rw [hg p hp, List.getD_eq_getElem?_getD, List.getElem?_eq_getElem hp]; rfl
    have hS' : IntKind.i64.wrap ((p : Int) + 1) = ((p + 1 : Nat) : Int) := wrS (by omega)
    have q := s85 F (d + 6) hl hF S[p] hz x
    have hr2 := row_in (hl.1 S[p] hz) x
    have hleft := hI.left
    have hw := hwd (by omega)
    subst hw
    rw [L55x5s]
    generalize hzz : S[p] = z at *
    simp (disch := omega) only [decide_eq_true, decide_true, pT, Int.toNat_natCast, hgp, tkCons_c, tkInt_i, q, tkOut_ret, tkAgg_a, tkNil_n, beq_self_eq_true, upd_int, mnE, hS', wr, if_true]
    exact e
theorem sumL_in : ∀ (L : List Int), (∀ e ∈ L, 0 ≤ e ∧ e ≤ 1000000000) → 0 ≤ sumL L ∧ sumL L ≤ 1000000000 * L.length
  | [], _ => by simp [sumL]
  | e :: L, h => by
    have h1 := h e (by simp)
    have h2 := sumL_in L fun e he => h e (by simp [he])
    have : sumL (e :: L) = e + sumL L := rfl
    rw [List.length_cons]
    omega
omit hl in
theorem l89 (L : List Int) (hL : L.length < 1000) (hb : ∀ e ∈ L, 0 ≤ e ∧ e ≤ 1000000000) : ∀ j p fu (n : Int), p + j = L.length → j < fu → 0 ≤ n → n ≤ 1000000000 * p →
    L89x0 (E F d) F ⟨false, L.length, fun j => L.getD j (L.getLastD 0)⟩ fu n p = some (.ret (.int .i64 (n + sumL (L.drop p)))) := by
  intro j
  induction j with
  | zero =>
    intro p fu n h hf h0 h1
    obtain ⟨fu, rfl⟩ : ∃ k, fu = k + 1 := ⟨fu - 1, by omega⟩
    rw [L89x0s, decide_eq_false (by show ¬ (p : Int) < ((L.length : Nat) : Int); omega), pF, List.drop_eq_nil_of_le (by omega)]
    simp [sumL]
  | succ j ih =>
    intro p fu n h hf h0 h1
    obtain ⟨fu, rfl⟩ : ∃ k, fu = k + 1 := ⟨fu - 1, by omega⟩
    have hp : p < L.length := by omega
    have hbp := hb L[p] (List.getElem_mem hp)
    have hS' : IntKind.i64.wrap ((p : Int) + 1) = ((p + 1 : Nat) : Int) := wrS (by omega)
    have hg : L.getD p (L.getLastD 0) = L[p] := by rw [List.getD_eq_getElem?_getD, List.getElem?_eq_getElem hp]; rfl
    have e := ih (p + 1) fu (n + L[p]) (by omega) (by omega) (by omega) (by omega)
    rw [List.drop_eq_getElem_cons hp]
    have e3 : n + sumL (L[p] :: L.drop (p + 1)) = n + L[p] + sumL (L.drop (p + 1)) := by
      show n + (L[p] + sumL (L.drop (p + 1))) = _
      omega
    rw [L89x0s, decide_eq_true (by show (p : Int) < ((L.length : Nat) : Int); omega), pT, decide_eq_true (by omega), pT, pT]
    simp (disch := omega) only [Int.toNat_natCast, hg, hS', wr]
    rw [e3]
    exact e
omit hl in
theorem s89 (L : List Int) (hL : L.length < 1000) (hb : ∀ e ∈ L, 0 ≤ e ∧ e ≤ 1000000000) : (E F (d + 1)).pf 89 [.row false L.length 1 (gl eInt 0 L)] = some (.ret (.int .i64 (sumL L))) := by
  have e := l89 F d hF L hL hb L.length 0 F 0 (by omega) (by omega) (by omega) (by omega)
  have e2 : (E F (d + 1)).pf 89 [sl eInt 1 ⟨false, L.length, fun j => L.getD j (L.getLastD 0)⟩] = some (.ret (.int .i64 (sumL L))) := by
    rw [E_pf, t89]
    rw [Int.natCast_zero, Int.zero_add, List.drop_zero] at e
    exact e
  exact e2
theorem shK_inv {r : Nat → Bool} {f x : Int} (hf : FlowOk f) : ∀ (j : Nat) (k : Int) (s : Shr), ShInv l x s → ShInv l x (shK l r f x j k s)
  | 0, _, _, h => h
  | j + 1, k, s, h => shK_inv hf j (k + 1) _ (kind_inv hl hf h)
end
section
variable {l : Sl Mach} (hl : PlantOk l) (hF : 1000 < F) (r : Sl Bool) (hr : r.len = l.len) (f x : Int) (hf : FlowOk f)
include hl hF hr hf
theorem mine_len6 (k : Int) : (mine l r.el k).length ≤ 6 := by
  have := mineR_len l r.el k l.len 0
  have := hl.2
  unfold mine
  omega
theorem l55x4 : ∀ (j a fu : Nat) (s : Shr) cap, a + j = 3 → j < fu → ShInv l x s → s.es.length + 6 * j < 100 →
    L55x4 (E F (d + 8)) F l r f x fu s.es.length .i64 1 .i64 2 .i64 3 a (fun j => eInt (s.sh j)) (fun j => eInt (s.pr j)) cap (gl eInt 0 s.es) = some (.ret (.tup [.row false l.len 1 (fun i => eInt ((shK l r.el f x j ((a : Int) + 1) s).sh i)), .row false 3 1 (fun i => eInt ((shK l r.el f x j ((a : Int) + 1) s).pr i)), .int .i64 (sumL (shK l r.el f x j ((a : Int) + 1) s).es)])) := by
  have hl2 := hl.2
  intro j
  induction j with
  | zero =>
    intro a fu s cap h hfu hI hes
    obtain ⟨fu, rfl⟩ : ∃ k, fu = k + 1 := ⟨fu - 1, by omega⟩
    have q := s89 F (d + 7) hF s.es (by omega) hI.es
    rw [L55x4s, decide_eq_false (by omega), pF]
    simp only [q, tkOut_ret, tkInt_i, Int.toNat_natCast]
    rfl
  | succ j ih =>
    intro a fu s cap h hfu hI hes
    obtain ⟨fu, rfl⟩ : ∃ k, fu = k + 1 := ⟨fu - 1, by omega⟩
    have ha : a < 3 := by omega
    have hm6 := mine_len6 F hl hF r hr f hf ((a : Int) + 1)
    have hkes := kind_es (l := l) (r := r.el) (f := f) (x := x) (k := (a : Int) + 1) (s := s)
    obtain ⟨nl, wd, g, h1, h2, h3⟩ := s860 F d hl hF r hr ((a : Int) + 1)
    rw [srt_0, List.nil_append] at h2
    have hI0 : ShInv l x { s with left := f } := ⟨hf, hI.sh, hI.pr, hI.es⟩
    have e := fun cap => ih (a + 1) fu (kindF l r.el f x s ((a : Int) + 1)) cap (by omega) (by omega) (kind_inv hl hf hI) (by omega)
    rw [show (((a + 1 : Nat) : Int) + 1) = (a : Int) + 1 + 1 by omega] at e
    rw [L55x4s]
    simp (disch := omega) only [decide_eq_true, decide_true, pT, Int.toNat_natCast, kind_at, tkCons_c, tkInt_i, h3, tkOut_ret, tkRow_r]
    refine l55x5 F d hl hF r f x fu a cap s.es nl wd g ((a : Int) + 1) (mine l r.el ((a : Int) + 1)) (fun z hz => (mine_mem.1 hz).1) (by omega) h2 h1 _ ((mine l r.el ((a : Int) + 1)).foldl (leastF l x) { s with left := f }) ?_ hr (mine l r.el ((a : Int) + 1)).length 0 F { s with left := f } (by omega) (by omega) hI0 rfl
    intro nl' wd' g' h1' h2'
    have hk2 := leasts_keep (l := l) (x := x) (mine l r.el ((a : Int) + 1)) { s with left := f }
    have hIm := leasts_inv hl (x := x) (mine l r.el ((a : Int) + 1)) hI0 (fun z hz => (mine_mem.1 hz).1)
    have hml := mineE_len l r.el x ((a : Int) + 1)
    have e5 := l55x3 F d hl hF r f x fu a ha nl' g' ((a : Int) + 1) (by omega) (mineE l r.el x ((a : Int) + 1)) (fun z hz => (mineE_mem.1 hz).1) (by omega) h2' _ (kindF l r.el f x s ((a : Int) + 1)) e (mineE l r.el x ((a : Int) + 1)).length 0 F wd' cap ((mine l r.el ((a : Int) + 1)).foldl (leastF l x) { s with left := f }) (by omega) (by omega) h1' hIm (by rw [hk2.2]; show s.es.length + _ < _; omega) rfl
    rw [hk2.2] at e5
    exact e5
theorem l55x0 : ∀ (j a fu : Nat) (s : Shr) b b', a + j = 3 → j < fu → ShInv l x s → s.es = [] → s.pr = (fun _ => 0) →
    L55x0 (E F (d + 8)) F l r f x fu .i64 1 .i64 2 .i64 3 a b b' (fun j => eInt (s.sh j)) = some (.ret (.tup [.row false l.len 1 (fun i => eInt ((shK l r.el f x j ((a : Int) + 1) s).sh i)), .row false 3 1 (fun i => eInt ((shK l r.el f x j ((a : Int) + 1) s).pr i)), .int .i64 (sumL (shK l r.el f x j ((a : Int) + 1) s).es)])) := by
  have hl2 := hl.2
  intro j
  induction j with
  | zero =>
    intro a fu s b b' h hfu hI hes hpr
    obtain ⟨fu, rfl⟩ : ∃ k, fu = k + 1 := ⟨fu - 1, by omega⟩
    have q : (E F (d + 8)).pf 89 [.row true 0 0 (fun _ => [])] = some (.ret (.int .i64 0)) := by
      rw [E_pf, t890]
      obtain ⟨F', hF'⟩ : ∃ k, F = k + 1 := ⟨F - 1, by omega⟩
      subst hF'
      rw [L890x0s]
    rw [L55x0s, decide_eq_false (by omega), pF]
    simp only [q, tkOut_ret, tkInt_i, Int.toNat_natCast, shK, hes, hpr]
    rfl
  | succ j ih =>
    intro a fu s b b' h hfu hI hes hpr
    obtain ⟨fu, rfl⟩ : ∃ k, fu = k + 1 := ⟨fu - 1, by omega⟩
    have ha : a < 3 := by omega
    have hm6 := mine_len6 F hl hF r hr f hf ((a : Int) + 1)
    have hkes := kind_es (l := l) (r := r.el) (f := f) (x := x) (k := (a : Int) + 1) (s := s)
    obtain ⟨nl, wd, g, h1, h2, h3⟩ := s860 F d hl hF r hr ((a : Int) + 1)
    rw [srt_0, List.nil_append] at h2
    have hI0 : ShInv l x { s with left := f } := ⟨hf, hI.sh, hI.pr, hI.es⟩
    have hel0 : s.es.length = 0 := by rw [hes]; rfl
    rw [L55x0s]
    simp (disch := omega) only [decide_eq_true, decide_true, pT, Int.toNat_natCast, kind_at, tkCons_c, tkInt_i, h3, tkOut_ret, tkRow_r]
    refine l55x1 F d hl hF r f x fu a nl wd g b' ((a : Int) + 1) (mine l r.el ((a : Int) + 1)) (fun z hz => (mine_mem.1 hz).1) (by omega) h2 h1 _ ((mine l r.el ((a : Int) + 1)).foldl (leastF l x) { s with left := f }) ?_ hr (mine l r.el ((a : Int) + 1)).length 0 F { s with left := f } (by omega) (by omega) hI0 rfl
    intro nl' wd' g' h1' h2'
    have hk2 := leasts_keep (l := l) (x := x) (mine l r.el ((a : Int) + 1)) { s with left := f }
    have hIm := leasts_inv hl (x := x) (mine l r.el ((a : Int) + 1)) hI0 (fun z hz => (mine_mem.1 hz).1)
    have hml := mineE_len l r.el x ((a : Int) + 1)
    refine l55x2 F d hl hF r f x fu a ha nl' g' ((a : Int) + 1) (by omega) (mineE l r.el x ((a : Int) + 1)) (fun z hz => (mineE_mem.1 hz).1) (by omega) h2' _ ((mine l r.el ((a : Int) + 1)).foldl (leastF l x) { s with left := f }) (kindF l r.el f x s ((a : Int) + 1)) (by rw [hk2.2]; exact hes) (by rw [hk2.1]; exact hpr) ?_ ?_ wd' h1' hIm rfl F (by omega)
    · intro hS
      have hk0 : kindF l r.el f x s ((a : Int) + 1) = (mine l r.el ((a : Int) + 1)).foldl (leastF l x) { s with left := f } := by
        unfold kindF
        rw [hS]; rfl
      have e := ih (a + 1) fu (kindF l r.el f x s ((a : Int) + 1)) false false (by omega) (by omega) (kind_inv hl hf hI) (by rw [hk0, hk2.2]; exact hes) (by rw [hk0, hk2.1]; exact hpr)
      rw [show (((a + 1 : Nat) : Int) + 1) = (a : Int) + 1 + 1 by omega] at e
      rw [← hk0]
      exact e
    · intro hS cap
      have e := l55x4 F d hl hF r hr f x hf j (a + 1) fu (kindF l r.el f x s ((a : Int) + 1)) cap (by omega) (by omega) (kind_inv hl hf hI) (by omega)
      rw [show (((a + 1 : Nat) : Int) + 1) = (a : Int) + 1 + 1 by omega] at e
      exact e
theorem shr0xinv : ShInv l x shr0 := by
  refine ⟨by decide, fun j hj => ?_, fun j => by show (0 : Int) ≤ 0 ∧ (0 : Int) ≤ 1000; omega, fun e he => by cases he⟩
  have := row_in (hl.1 j hj) x
  show (0 : Int) ≤ 0 ∧ (0 : Int) ≤ _
  omega
theorem s55 : (E F (d + 9)).pf 55 [sl eMach 10 l, sl eBool 1 r, .int .i64 f, .int .i64 x] = some (.ret (.tup [.row false l.len 1 (fun i => eInt ((shareS l r.el f x).sh i)), .row false 3 1 (fun i => eInt ((shareS l r.el f x).pr i)), .int .i64 (sumL (shareS l r.el f x).es)])) := by
  have hl2 := hl.2
  have q : (E F (d + 8)).pf 83 [] = some (.ret (.agg [.int .i64 1, .int .i64 2, .int .i64 3])) := by rw [E_pf, t83]
  have e := l55x0 F d hl hF r hr f x hf 3 0 F shr0 true true (by omega) (by omega) (shr0xinv F hl hF r hr f x hf) rfl rfl
  rw [E_pf, t55]
  simp (disch := omega) only [decide_eq_true, decide_true, pT, q, tkOut_ret, tkAgg_a, tkCons_c, tkInt_i, tkNil_n]
  exact e
end
end Go.Sim.Pl


namespace Go.Sim.Pl
open Go.Proofs
def eqR (l : Sl Mach) (r : Nat → Bool) (x k e : Int) : Nat → Nat → List Nat
  | 0, _ => []
  | j + 1, i => if ((l.el i).kind = k ∧ r i = true) ∧ (rowAt (l.el i) x).energy = e then i :: eqR l r x k e j (i + 1) else eqR l r x k e j (i + 1)
def byE (l : Sl Mach) (r : Nat → Bool) (x k : Int) : Nat → Int → List Nat
  | 0, _ => []
  | j + 1, e => eqR l r x k e l.len 0 ++ byE l r x k j (e + 1)
theorem eqR_mem (l : Sl Mach) (r : Nat → Bool) (x k e : Int) : ∀ j i z, z ∈ eqR l r x k e j i ↔ (i ≤ z ∧ z < i + j) ∧ ((l.el z).kind = k ∧ r z = true) ∧ (rowAt (l.el z) x).energy = e
  | 0, i, z => by simp [eqR]; omega
  | j + 1, i, z => by
    have ih := eqR_mem l r x k e j (i + 1) z
    simp only [eqR]
    split
    · rename_i h
      rw [List.mem_cons, ih]
      constructor
      · rintro (rfl | ⟨h1, h2⟩)
        · exact ⟨by omega, h⟩
        · exact ⟨by omega, h2⟩
      · rintro ⟨h1, h2⟩
        rcases Nat.eq_or_lt_of_le h1.1 with h3 | h3
        · exact .inl h3.symm
        · exact .inr ⟨by omega, h2⟩
    · rename_i h
      rw [ih]
      constructor
      · rintro ⟨h1, h2⟩; exact ⟨by omega, h2⟩
      · rintro ⟨h1, h2⟩
        rcases Nat.eq_or_lt_of_le h1.1 with h3 | h3
        · subst h3; exact (h h2).elim
        · exact ⟨by omega, h2⟩
theorem eqR_ord (l : Sl Mach) (r : Nat → Bool) (x k e : Int) : ∀ j i, (eqR l r x k e j i).Pairwise (Bef (keyE l x))
  | 0, i => by simp [eqR]
  | j + 1, i => by
    have ih := eqR_ord l r x k e j (i + 1)
    simp only [eqR]
    split
    · rename_i h
      refine List.pairwise_cons.2 ⟨fun z hz => ?_, ih⟩
      rw [eqR_mem] at hz
      refine .inr ⟨?_, by omega⟩
      show (rowAt (l.el i) x).energy = (rowAt (l.el z) x).energy
      rw [h.2, hz.2.2]
    · exact ih
theorem byE_mem (l : Sl Mach) (r : Nat → Bool) (x k : Int) : ∀ (j : Nat) (e : Int) z, z ∈ byE l r x k j e ↔ z < l.len ∧ ((l.el z).kind = k ∧ r z = true) ∧ e ≤ (rowAt (l.el z) x).energy ∧ (rowAt (l.el z) x).energy < e + j
  | 0, e, z => by simp [byE]
  | j + 1, e, z => by
    have ih := byE_mem l r x k j (e + 1) z
    simp only [byE, List.mem_append, ih, eqR_mem]
    constructor
    · rintro (⟨h1, h2, h3⟩ | ⟨h1, h2, h3⟩)
      · exact ⟨by omega, h2, by omega⟩
      · exact ⟨h1, h2, by omega⟩
    · rintro ⟨h1, h2, h3⟩
      by_cases h4 : (rowAt (l.el z) x).energy = e
      · exact .inl ⟨by omega, h2, h4⟩
      · exact .inr ⟨h1, h2, by omega⟩
theorem byE_ord (l : Sl Mach) (r : Nat → Bool) (x k : Int) : ∀ (j : Nat) (e : Int), (byE l r x k j e).Pairwise (Bef (keyE l x))
  | 0, e => by simp [byE]
  | j + 1, e => by
    have ih := byE_ord l r x k j (e + 1)
    simp only [byE]
    refine List.pairwise_append.2 ⟨eqR_ord l r x k e l.len 0, ih, fun a ha b hb => ?_⟩
    rw [eqR_mem] at ha
    rw [byE_mem] at hb
    refine .inl ?_
    show (rowAt (l.el a) x).energy < (rowAt (l.el b) x).energy
    omega
theorem byE_eq {l : Sl Mach} (hl : PlantOk l) (r : Nat → Bool) (x k : Int) : byE l r x k 1001 0 = mineE l r x k := by
  refine ord_uniq (keyE l x) _ _ (byE_ord l r x k 1001 0) (mineE_ord l r x k) fun z => ?_
  rw [byE_mem, mineE_mem]
  constructor
  · rintro ⟨h1, h2, h3⟩; exact ⟨h1, h2⟩
  · rintro ⟨h1, h2⟩
    have := row_in (hl.1 z h1) x
    exact ⟨h1, h2, by omega⟩
variable (F d : Nat)
section
variable {l : Sl Mach} (hl : PlantOk l) (hF : 2000 < F) (r : Sl Bool) (hr : r.len = l.len) (f x : Int) (hf : FlowOk f)
include hl hF hr
theorem l20x3 (m0 m1 : Nat) (k e : Int) (R : Option Out) (s' : Shr) (K : L20x2 (E F (d + 1)) F l r f x m0 m1 k s'.left (IntKind.i64.wrap (e + 1)) (fun j => eInt (s'.sh j)) = R) : ∀ (j i fu : Nat) (s : Shr), i + j = l.len → j < fu → ShInv l x s → (eqR l r.el x k e j i).foldl (moreF l x k) s = s' →
    L20x3 (E F (d + 1)) F l r f x m0 m1 fu k s.left e i (fun j => eInt (s.sh j)) = R := by
  have hl2 := hl.2
  intro j
  induction j with
  | zero =>
    intro i fu s h hfu hI hs
    obtain ⟨fu, rfl⟩ : ∃ k, fu = k + 1 := ⟨fu - 1, by omega⟩
    subst hs
    rw [L20x3s, decide_eq_false (by omega), pF]
    exact K
  | succ j ih =>
    intro i fu s h hfu hI hs
    obtain ⟨fu, rfl⟩ : ∃ k, fu = k + 1 := ⟨fu - 1, by omega⟩
    have hi : i < l.len := by omega
    have q := e25 F d hl (by omega) x hi
    have hS' : IntKind.i64.wrap ((i : Int) + 1) = ((i + 1 : Nat) : Int) := wrS (by omega)
    have hr2 := row_in (hl.1 i hi) x
    have hsz := hI.sh i hi
    have hleft := hI.left
    simp only [eqR] at hs
    rw [L20x3s]
    simp (disch := omega) only [decide_eq_true, decide_true, pT, Int.toNat_natCast, tkCons_c, tkInt_i, q, tkOut_ret, tkAgg_a, tkNil_n, hS']
    by_cases h1 : (l.el i).kind = k
    · rw [show ((l.el i).kind == k) = true by simp [h1], pT]
      by_cases h2 : r.el i = true
      · rw [h2, pT]
        by_cases h3 : (rowAt (l.el i) x).energy = e
        · rw [show ((rowAt (l.el i) x).energy == e) = true by simp [h3], pT]
          rw [if_pos ⟨⟨h1, h2⟩, h3⟩, List.foldl_cons] at hs
          have e2 := ih (i + 1) fu (moreF l x k s i) (by omega) (by omega) (more_inv hl hI hi) hs
          simp (disch := omega) only [mnE, upd_int, wr]
          exact e2
        · rw [show ((rowAt (l.el i) x).energy == e) = false by simp [h3], pF]
          rw [if_neg (fun hh => h3 hh.2)] at hs
          exact ih (i + 1) fu s (by omega) (by omega) hI hs
      · rw [show r.el i = false by simpa using h2, pF]
        rw [if_neg (fun hh => h2 hh.1.2)] at hs
        exact ih (i + 1) fu s (by omega) (by omega) hI hs
    · rw [show ((l.el i).kind == k) = false by simp [h1], pF]
      rw [if_neg (fun hh => h1 hh.1.1)] at hs
      exact ih (i + 1) fu s (by omega) (by omega) hI hs
theorem l20x2 (m0 : Nat) (k : Int) (R : Option Out) (s' : Shr) (K : L20x0 (E F (d + 1)) F l r f x m0 (IntKind.i64.wrap (k + 1)) (fun j => eInt (s'.sh j)) = R) : ∀ (j : Nat) (e : Int) (fu : Nat) (s : Shr), e + j = 1001 → 0 ≤ e → j < fu → ShInv l x s → (byE l r.el x k j e).foldl (moreF l x k) s = s' →
    L20x2 (E F (d + 1)) F l r f x m0 fu k s.left e (fun j => eInt (s.sh j)) = R := by
  have hl2 := hl.2
  intro j
  induction j with
  | zero =>
    intro e fu s h h0 hfu hI hs
    obtain ⟨fu, rfl⟩ : ∃ k, fu = k + 1 := ⟨fu - 1, by omega⟩
    subst hs
    rw [L20x2s, decide_eq_false (by omega), pF]
    exact K
  | succ j ih =>
    intro e fu s h h0 hfu hI hs
    obtain ⟨fu, rfl⟩ : ∃ k, fu = k + 1 := ⟨fu - 1, by omega⟩
    simp only [byE, List.foldl_append] at hs
    rw [L20x2s, decide_eq_true (by omega), pT]
    refine l20x3 F d hl hF r hr f x m0 fu k e R _ ?_ l.len 0 F s (by omega) (by omega) hI rfl
    rw [wr (by omega)]
    exact ih (e + 1) fu _ (by omega) (by omega) (by omega) (mores_inv hl _ hI fun z hz => by rw [eqR_mem] at hz; omega) hs
include hf
theorem l20x1 (m0 : Nat) (k : Int) (R : Option Out) (s' : Shr) (K : L20x0 (E F (d + 1)) F l r f x m0 (IntKind.i64.wrap (k + 1)) (fun j => eInt (s'.sh j)) = R) : ∀ (j i fu : Nat) (s : Shr), i + j = l.len → j < fu → ShInv l x s → (mineE l r.el x k).foldl (moreF l x k) ((mineR l r.el k j i).foldl (leastF l x) s) = s' →
    L20x1 (E F (d + 1)) F l r f x m0 fu k s.left i (fun j => eInt (s.sh j)) = R := by
  have hl2 := hl.2
  intro j
  induction j with
  | zero =>
    intro i fu s h hfu hI hs
    obtain ⟨fu, rfl⟩ : ∃ k, fu = k + 1 := ⟨fu - 1, by omega⟩
    rw [L20x1s, decide_eq_false (by omega), pF]
    rw [← byE_eq hl] at hs
    exact l20x2 F d hl hF r hr f x m0 k R s' K 1001 0 F s (by omega) (by omega) (by omega) hI hs
  | succ j ih =>
    intro i fu s h hfu hI hs
    obtain ⟨fu, rfl⟩ : ∃ k, fu = k + 1 := ⟨fu - 1, by omega⟩
    have hi : i < l.len := by omega
    have q := e25 F d hl (by omega) x hi
    have hS' : IntKind.i64.wrap ((i : Int) + 1) = ((i + 1 : Nat) : Int) := wrS (by omega)
    have hr2 := row_in (hl.1 i hi) x
    have hsz := hI.sh i hi
    have hleft := hI.left
    simp only [mineR] at hs
    rw [L20x1s]
    simp (disch := omega) only [decide_eq_true, decide_true, pT, Int.toNat_natCast, hS']
    by_cases h1 : (l.el i).kind = k
    · rw [show ((l.el i).kind == k) = true by simp [h1], pT]
      by_cases h2 : r.el i = true
      · rw [h2, pT]
        rw [if_pos ⟨h1, h2⟩, List.foldl_cons] at hs
        have e2 := ih (i + 1) fu (leastF l x s i) (by omega) (by omega) (least_inv hl hI hi) hs
        simp (disch := omega) only [tkCons_c, tkInt_i, q, tkOut_ret, tkAgg_a, tkNil_n, mnE, upd_int, wr, if_true, decide_true, pT]
        exact e2
      · rw [show r.el i = false by simpa using h2, pF]
        rw [if_neg (fun hh => h2 hh.2)] at hs
        exact ih (i + 1) fu s (by omega) (by omega) hI hs
    · rw [show ((l.el i).kind == k) = false by simp [h1], pF]
      rw [if_neg (fun hh => h1 hh.1)] at hs
      exact ih (i + 1) fu s (by omega) (by omega) hI hs
theorem l20x0 : ∀ (j : Nat) (k : Int) (fu : Nat) (s : Shr), k + j = 4 → 1 ≤ k → j < fu → ShInv l x s →
    L20x0 (E F (d + 1)) F l r f x fu k (fun j => eInt (s.sh j)) = some (.ret (.row false l.len 1 (fun i => eInt ((shK l r.el f x j k s).sh i)))) := by
  have hl2 := hl.2
  intro j
  induction j with
  | zero =>
    intro k fu s h h1 hfu hI
    obtain ⟨fu, rfl⟩ : ∃ k, fu = k + 1 := ⟨fu - 1, by omega⟩
    rw [L20x0s, decide_eq_false (by omega), pF, Int.toNat_natCast]
    rfl
  | succ j ih =>
    intro k fu s h h1 hfu hI
    obtain ⟨fu, rfl⟩ : ∃ k, fu = k + 1 := ⟨fu - 1, by omega⟩
    rw [L20x0s, decide_eq_true (by omega), pT]
    refine l20x1 F d hl hF r hr f x hf fu k _ (kindF l r.el f x s k) ?_ l.len 0 F { s with left := f } (by omega) (by omega) ⟨hf, hI.sh, hI.pr, hI.es⟩ rfl
    rw [wr (by omega)]
    exact ih (k + 1) fu _ (by omega) (by omega) (by omega) (kind_inv hl hf hI)
theorem s20 : (E F (d + 2)).pf 20 [sl eMach 10 l, sl eBool 1 r, .int .i64 f, .int .i64 x] = some (.ret (.row false l.len 1 (fun i => eInt ((shareS l r.el f x).sh i)))) := by
  have hl2 := hl.2
  have e := l20x0 F d hl hF r hr f x hf 3 1 F shr0 (by omega) (by omega) (by omega) (shr0xinv F hl (by omega) r hr f x hf)
  rw [E_pf, t20]
  simp (disch := omega) only [decide_eq_true, decide_true, pT]
  exact e
end
theorem l21 (a b : Sl Int) (hB : a.len < Big) (hab : a.len = b.len) : ∀ j i fu, i + j = a.len → j < fu →
    L21x0 (E F d) F a b fu i = some (.ret (.bool (allF (fun i => decide (a.el i = b.el i)) j i))) := by
  intro j
  induction j with
  | zero =>
    intro i fu h hf
    obtain ⟨fu, rfl⟩ : ∃ k, fu = k + 1 := ⟨fu - 1, by omega⟩
    rw [L21x0s, decide_eq_false (by omega), pF]; rfl
  | succ j ih =>
    intro i fu h hf
    obtain ⟨fu, rfl⟩ : ∃ k, fu = k + 1 := ⟨fu - 1, by omega⟩
    have hB' : a.len < 4611686018427387904 := hB
    have hS' : IntKind.i64.wrap ((i : Int) + 1) = ((i + 1 : Nat) : Int) := wrS (by omega)
    rw [L21x0s]
    simp (disch := omega) only [decide_eq_true, decide_true, pT, Int.toNat_natCast, hS', allF]
    by_cases h1 : a.el i = b.el i
    · rw [show (a.el i != b.el i) = false by simp [h1], pF, decide_eq_true h1, Bool.true_and]
      exact ih (i + 1) fu (by omega) (by omega)
    · rw [show (a.el i != b.el i) = true by simp [h1], pT, decide_eq_false h1, Bool.false_and]
theorem s21 (a b : Sl Int) (hB : a.len < Big) (hF : a.len < F) : (E F (d + 1)).pf 21 [sl eInt 1 a, sl eInt 1 b] = some (.ret (.bool (decide (a.len = b.len ∧ ∀ i, i < a.len → a.el i = b.el i)))) := by
  rw [E_pf, t21]
  by_cases h : a.len = b.len
  · rw [show (((a.len : Nat) : Int) != ((b.len : Nat) : Int)) = false by simp [h], pF]
    refine Eq.trans (l21 F d a b hB h a.len 0 F (by omega) hF) (b3 (b2 ?_))
    rw [allF_dec]
    simp only [decide_eq_true_iff]
    exact ⟨fun hh => ⟨h, hh⟩, fun hh => hh.2⟩
  · rw [show (((a.len : Nat) : Int) != ((b.len : Nat) : Int)) = true by simp; omega, pT, decide_eq_false (fun hh => h hh.1)]
def sumP (p : Nat → Prop) [DecidablePred p] (g : Nat → Int) : Nat → Int
  | 0 => 0
  | n + 1 => sumP p g n + (if p n then g n else 0)
def maxP (p : Nat → Prop) [DecidablePred p] (g : Nat → Int) : Nat → Int
  | 0 => 0
  | n + 1 => if p n then max (maxP p g n) (g n) else maxP p g n
def prR (l : Sl Mach) (r : Nat → Bool) (w : Nat → Int) (x : Int) : Nat → Nat → Int
  | 0 => fun _ => 0
  | i + 1 => if r i = true ∧ w i > (rowAt (l.el i) x).least then (fun j => if j = ((l.el i).kind - 1).toNat then max (prR l r w x i ((l.el i).kind - 1).toNat) (rowAt (l.el i) x).energy else prR l r w x i j) else prR l r w x i
section
variable {l : Sl Mach} (hl : PlantOk l) (hF : 1000 < F) (r : Sl Bool) (hr : r.len = l.len) (w : Sl Int) (hw : w.len = l.len) (x : Int)
include hl hF hr hw
theorem l22 : ∀ (j i fu : Nat), i + j = l.len → j < fu → L22x0 (E F (d + 1)) F l r w x fu i (fun j => eInt (prR l r.el w.el x i j)) = some (.ret (.row false 3 1 (fun j => eInt (prR l r.el w.el x l.len j)))) := by
  have hl2 := hl.2
  intro j
  induction j with
  | zero =>
    intro i fu h hfu
    obtain ⟨fu, rfl⟩ : ∃ k, fu = k + 1 := ⟨fu - 1, by omega⟩
    have hi : i = l.len := by omega
    subst hi
    rw [L22x0s, decide_eq_false (by omega), pF]
  | succ j ih =>
    intro i fu h hfu
    obtain ⟨fu, rfl⟩ : ∃ k, fu = k + 1 := ⟨fu - 1, by omega⟩
    have hi : i < l.len := by omega
    have q := e25 F d hl hF x hi
    have hS' : IntKind.i64.wrap ((i : Int) + 1) = ((i + 1 : Nat) : Int) := wrS (by omega)
    have hk := (hl.1 i hi).2.1
    have e := ih (i + 1) fu (by omega) (by omega)
    simp only [prR] at e
    rw [L22x0s]
    simp (disch := omega) only [decide_eq_true, decide_true, pT, Int.toNat_natCast, tkCons_c, tkInt_i, q, tkOut_ret, tkAgg_a, tkNil_n, hS', wr]
    by_cases h2 : r.el i = true
    · rw [h2, pT]
      by_cases h3 : w.el i > (rowAt (l.el i) x).least
      · rw [if_pos ⟨h2, h3⟩] at e
        rw [decide_eq_true h3, pT, upd_int, mxE]
        exact e
      · rw [if_neg (fun hh => h3 hh.2)] at e
        rw [decide_eq_false h3, pF]
        exact e
    · rw [if_neg (fun hh => h2 hh.1)] at e
      rw [show r.el i = false by simpa using h2, pF]
      exact e
theorem s22 : (E F (d + 2)).pf 22 [sl eMach 10 l, sl eBool 1 r, sl eInt 1 w, .int .i64 x] = some (.ret (.row false 3 1 (fun j => eInt (prR l r.el w.el x l.len j)))) := by
  have hl2 := hl.2
  rw [E_pf, t22]
  exact l22 F d hl hF r hr w hw x l.len 0 F (by omega) (by omega)
abbrev enT (l : Sl Mach) (w : Nat → Int) (x : Int) : Nat → Int := fun i => (rowAt (l.el i) x).energy * max (w i) (rowAt (l.el i) x).least
theorem l23 (hb : ∀ i, i < l.len → w.el i ≤ 1000000) : ∀ (j i fu : Nat), i + j = l.len → j < fu → 0 ≤ sumP (fun i => r.el i = true) (enT l w.el x) i → sumP (fun i => r.el i = true) (enT l w.el x) i ≤ 1000000000 * i →
    L23x0 (E F (d + 1)) F l r w x fu (sumP (fun i => r.el i = true) (enT l w.el x) i) i = some (.ret (.int .i64 (sumP (fun i => r.el i = true) (enT l w.el x) l.len))) := by
  have hl2 := hl.2
  intro j
  induction j with
  | zero =>
    intro i fu h hfu _ _
    obtain ⟨fu, rfl⟩ : ∃ k, fu = k + 1 := ⟨fu - 1, by omega⟩
    have hi : i = l.len := by omega
    subst hi
    rw [L23x0s, decide_eq_false (by omega), pF]
  | succ j ih =>
    intro i fu h hfu h0 h1
    obtain ⟨fu, rfl⟩ : ∃ k, fu = k + 1 := ⟨fu - 1, by omega⟩
    have hi : i < l.len := by omega
    have q := e25 F d hl hF x hi
    have hS' : IntKind.i64.wrap ((i : Int) + 1) = ((i + 1 : Nat) : Int) := wrS (by omega)
    have hr2 := row_in (hl.1 i hi) x
    have hbi := hb i hi
    have hm := mul_in hr2.2.2 (b := max (w.el i) (rowAt (l.el i) x).least) (by omega)
    have hm2 : 0 ≤ enT l w.el x i ∧ enT l w.el x i ≤ 1000000000 := hm
    have e := ih (i + 1) fu (by omega) (by omega)
    simp only [sumP] at e
    rw [L23x0s]
    simp (disch := omega) only [decide_eq_true, decide_true, pT, Int.toNat_natCast, tkCons_c, tkInt_i, q, tkOut_ret, tkAgg_a, tkNil_n, hS', mxE, wr]
    by_cases h2 : r.el i = true
    · rw [if_pos h2] at e
      rw [h2, pT]
      exact e (by omega) (by omega)
    · rw [if_neg h2, Int.add_zero] at e
      rw [show r.el i = false by simpa using h2, pF]
      exact e (by omega) (by omega)
theorem s23 (hb : ∀ i, i < l.len → w.el i ≤ 1000000) : (E F (d + 2)).pf 23 [sl eMach 10 l, sl eBool 1 r, sl eInt 1 w, .int .i64 x] = some (.ret (.int .i64 (sumP (fun i => r.el i = true) (enT l w.el x) l.len))) := by
  have hl2 := hl.2
  rw [E_pf, t23]
  exact l23 F d hl hF r hr w hw x hb l.len 0 F (by omega) (by omega) (by simp [sumP]) (by simp [sumP])
end
end Go.Sim.Pl


namespace Go.Sim.Pl
open Go.Proofs
theorem sumP_congr {p q : Nat → Prop} [DecidablePred p] [DecidablePred q] {g g' : Nat → Int} : ∀ {n : Nat}, (∀ i, i < n → (p i ↔ q i)) → (∀ i, i < n → p i → g i = g' i) → sumP p g n = sumP q g' n
  | 0, _, _ => rfl
  | n + 1, h, hg => by
    have ih := sumP_congr (n := n) (fun i hi => h i (by omega)) (fun i hi => hg i (by omega))
    have hn := h n (by omega)
    simp only [sumP, ih]
    by_cases hp : p n
    · rw [if_pos hp, if_pos (hn.1 hp), hg n (by omega) hp]
    · rw [if_neg hp, if_neg (fun h => hp (hn.2 h))]
theorem sumP_no {p : Nat → Prop} [DecidablePred p] {g : Nat → Int} : ∀ {n : Nat}, (∀ i, i < n → ¬ p i) → sumP p g n = 0
  | 0, _ => rfl
  | n + 1, h => by
    simp only [sumP]
    rw [sumP_no (fun i hi => h i (by omega)), if_neg (h n (by omega))]; rfl
theorem sumP_or {p q : Nat → Prop} [DecidablePred p] [DecidablePred q] {g : Nat → Int} : ∀ {n : Nat}, (∀ i, i < n → ¬ (p i ∧ q i)) → sumP (fun i => p i ∨ q i) g n = sumP p g n + sumP q g n
  | 0, _ => rfl
  | n + 1, h => by
    have ih := sumP_or (p := p) (q := q) (g := g) (n := n) (fun i hi => h i (by omega))
    have hn := h n (by omega)
    simp only [sumP, ih]
    by_cases hp : p n
    · rw [if_pos (.inl hp), if_pos hp, if_neg (fun hq => hn ⟨hp, hq⟩)]; omega
    · by_cases hq : q n
      · rw [if_pos (.inr hq), if_neg hp, if_pos hq]; omega
      · rw [if_neg (fun h => h.elim hp hq), if_neg hp, if_neg hq]; omega
theorem sumP_one {g : Nat → Int} {z : Nat} : ∀ {n : Nat}, z < n → sumP (fun i => i = z) g n = g z
  | 0, h => by omega
  | n + 1, h => by
    simp only [sumP]
    by_cases hz : n = z
    · subst hz
      rw [if_pos rfl, sumP_no (fun i hi => by omega)]; omega
    · rw [if_neg hz, sumP_one (by omega)]; omega
theorem sum_list {g : Nat → Int} {n : Nat} : ∀ (S : List Nat), S.Pairwise (· ≠ ·) → (∀ z ∈ S, z < n) → sumL (S.map g) = sumP (fun i => i ∈ S) g n
  | [], _, _ => (sumP_no (fun i _ => by simp)).symm
  | z :: S, h, hS => by
    rw [List.pairwise_cons] at h
    have ih := sum_list (g := g) (n := n) S h.2 (fun y hy => hS y (by simp [hy]))
    have e : sumP (fun i => i ∈ z :: S) g n = sumP (fun i => i = z ∨ i ∈ S) g n := sumP_congr (fun i _ => by rw [List.mem_cons]) (fun _ _ _ => rfl)
    rw [e, sumP_or (fun i _ hh => (h.1 i hh.2) hh.1.symm), sumP_one (hS z (by simp)), ← ih]
    rfl
theorem maxP_congr {p q : Nat → Prop} [DecidablePred p] [DecidablePred q] {g : Nat → Int} : ∀ {n : Nat}, (∀ i, i < n → (p i ↔ q i)) → maxP p g n = maxP q g n
  | 0, _ => rfl
  | n + 1, h => by
    have ih := maxP_congr (g := g) (n := n) (fun i hi => h i (by omega))
    have hn := h n (by omega)
    simp only [maxP, ih]
    by_cases hp : p n
    · rw [if_pos hp, if_pos (hn.1 hp)]
    · rw [if_neg hp, if_neg (fun h => hp (hn.2 h))]
theorem maxP_no {p : Nat → Prop} [DecidablePred p] {g : Nat → Int} : ∀ {n : Nat}, (∀ i, i < n → ¬ p i) → maxP p g n = 0
  | 0, _ => rfl
  | n + 1, h => by
    simp only [maxP]
    rw [maxP_no (fun i hi => h i (by omega)), if_neg (h n (by omega))]
theorem maxP_0 {p : Nat → Prop} [DecidablePred p] {g : Nat → Int} : ∀ {n : Nat}, 0 ≤ maxP p g n
  | 0 => by simp [maxP]
  | n + 1 => by
    have := maxP_0 (p := p) (g := g) (n := n)
    simp only [maxP]
    split <;> omega
theorem maxP_or {p q : Nat → Prop} [DecidablePred p] [DecidablePred q] {g : Nat → Int} : ∀ {n : Nat}, maxP (fun i => p i ∨ q i) g n = max (maxP p g n) (maxP q g n)
  | 0 => rfl
  | n + 1 => by
    have ih := maxP_or (p := p) (q := q) (g := g) (n := n)
    simp only [maxP, ih]
    by_cases hp : p n
    · by_cases hq : q n
      · rw [if_pos (.inl hp), if_pos hp, if_pos hq]; omega
      · rw [if_pos (.inl hp), if_pos hp, if_neg hq]; omega
    · by_cases hq : q n
      · rw [if_pos (.inr hq), if_neg hp, if_pos hq]; omega
      · rw [if_neg (fun h => h.elim hp hq), if_neg hp, if_neg hq]
theorem maxP_one {g : Nat → Int} {c : Prop} [Decidable c] {z : Nat} (h0 : 0 ≤ g z) : ∀ {n : Nat}, z < n → maxP (fun i => i = z ∧ c) g n = if c then g z else 0
  | 0, h => by omega
  | n + 1, h => by
    simp only [maxP]
    by_cases hz : n = z
    · subst hz
      rw [maxP_no (fun i hi hh => by omega)]
      by_cases hc : c
      · rw [if_pos ⟨rfl, hc⟩, if_pos hc]; omega
      · rw [if_neg (fun h => hc h.2), if_neg hc]
    · rw [if_neg (fun h => hz h.1), maxP_one h0 (by omega)]
theorem max_list {g : Nat → Int} {c : Nat → Prop} [DecidablePred c] {n : Nat} : ∀ (S : List Nat) (m : Int), 0 ≤ m → (∀ z ∈ S, z < n ∧ 0 ≤ g z) → S.foldl (fun m z => if c z then max m (g z) else m) m = max m (maxP (fun i => i ∈ S ∧ c i) g n)
  | [], m, h, _ => by
    rw [maxP_no (fun i _ hh => by simp at hh)]
    simp only [List.foldl_nil]
    omega
  | z :: S, m, h, hS => by
    have hz := hS z (by simp)
    have ih := max_list (g := g) (c := c) (n := n) S (if c z then max m (g z) else m) (by split <;> omega) (fun y hy => hS y (by simp [hy]))
    have e : maxP (fun i => i ∈ z :: S ∧ c i) g n = maxP (fun i => (i = z ∧ c z) ∨ (i ∈ S ∧ c i)) g n := maxP_congr (fun i _ => by
      rw [List.mem_cons]
      constructor
      · rintro ⟨rfl | h1, h2⟩
        · exact .inl ⟨rfl, h2⟩
        · exact .inr ⟨h1, h2⟩
      · rintro (⟨rfl, h2⟩ | ⟨h1, h2⟩)
        · exact ⟨.inl rfl, h2⟩
        · exact ⟨.inr h1, h2⟩)
    rw [List.foldl_cons, ih, e, maxP_or, maxP_one hz.2 hz.1]
    split <;> omega
theorem prR_at (l : Sl Mach) (r : Nat → Bool) (w : Nat → Int) (x : Int) (j : Nat) : ∀ n, prR l r w x n j = maxP (fun i => ((l.el i).kind - 1).toNat = j ∧ r i = true ∧ w i > (rowAt (l.el i) x).least) (fun i => (rowAt (l.el i) x).energy) n
  | 0 => rfl
  | n + 1 => by
    have ih := prR_at l r w x j n
    simp only [prR, maxP]
    by_cases h : r n = true ∧ w n > (rowAt (l.el n) x).least
    · rw [if_pos h]
      by_cases hj : j = ((l.el n).kind - 1).toNat
      · rw [if_pos hj, if_pos ⟨hj.symm, h⟩, ← ih, ← hj]
      · rw [if_neg hj, if_neg (fun hh => hj hh.1.symm), ih]
    · rw [if_neg h, if_neg (fun hh => h hh.2), ih]
theorem leasts_sh {l : Sl Mach} {x : Int} {z : Nat} : ∀ (S : List Nat) (s : Shr), z ∉ S → (S.foldl (leastF l x) s).sh z = s.sh z
  | [], s, _ => rfl
  | y :: S, s, h => by
    rw [List.mem_cons, not_or] at h
    rw [List.foldl_cons, leasts_sh S _ h.2]
    show (if z = y then _ else s.sh z) = _
    rw [if_neg h.1]
theorem mores_sh {l : Sl Mach} {x k : Int} {z : Nat} : ∀ (S : List Nat) (s : Shr), z ∉ S → (S.foldl (moreF l x k) s).sh z = s.sh z
  | [], s, _ => rfl
  | y :: S, s, h => by
    rw [List.mem_cons, not_or] at h
    rw [List.foldl_cons, mores_sh S _ h.2]
    show (if z = y then _ else s.sh z) = _
    rw [if_neg h.1]
theorem mores_map {l : Sl Mach} {x k : Int} : ∀ (S : List Nat) (s : Shr), S.Pairwise (· ≠ ·) → (S.foldl (moreF l x k) s).es = s.es ++ S.map (enT l (S.foldl (moreF l x k) s).sh x)
  | [], s, _ => by simp
  | y :: S, s, h => by
    rw [List.pairwise_cons] at h
    have hy : y ∉ S := fun hh => h.1 y hh rfl
    rw [List.foldl_cons, mores_map S _ h.2, List.map_cons]
    have e : enT l (S.foldl (moreF l x k) (moreF l x k s y)).sh x y = (rowAt (l.el y) x).energy * max (s.sh y + min s.left ((rowAt (l.el y) x).most - s.sh y)) (rowAt (l.el y) x).least := by
      show _ * max ((S.foldl (moreF l x k) (moreF l x k s y)).sh y) _ = _
      rw [mores_sh S _ hy]
      show _ * max (if y = y then _ else _) _ = _
      rw [if_pos rfl]
    rw [e]
    show (s.es ++ [_]) ++ _ = _
    rw [List.append_assoc]; rfl
def prL (l : Sl Mach) (x : Int) (w : Nat → Int) (S : List Nat) (m : Int) : Int := S.foldl (fun m z => if w z > (rowAt (l.el z) x).least then max m (rowAt (l.el z) x).energy else m) m
theorem mores_pr {l : Sl Mach} {x k : Int} {j : Nat} (w : Nat → Int) : ∀ (S : List Nat) (s : Shr), S.Pairwise (· ≠ ·) → (S.foldl (moreF l x k) s).sh = w → (S.foldl (moreF l x k) s).pr j = if j = (k - 1).toNat then prL l x w S (s.pr j) else s.pr j
  | [], s, _, _ => by simp [prL]
  | y :: S, s, h, hw => by
    rw [List.pairwise_cons] at h
    have hy : y ∉ S := fun hh => h.1 y hh rfl
    have hw' : (S.foldl (moreF l x k) (moreF l x k s y)).sh = w := hw
    have ih := mores_pr (l := l) (x := x) (k := k) (j := j) w S (moreF l x k s y) h.2 hw'
    have e1 : w y = s.sh y + min s.left ((rowAt (l.el y) x).most - s.sh y) := by
      rw [← hw', mores_sh S _ hy]
      show (if y = y then _ else _) = _
      rw [if_pos rfl]
    have e2 : prL l x w (y :: S) (s.pr j) = prL l x w S (if w y > (rowAt (l.el y) x).least then max (s.pr j) (rowAt (l.el y) x).energy else s.pr j) := rfl
    rw [List.foldl_cons, ih, e2]
    by_cases hj : j = (k - 1).toNat
    · rw [if_pos hj, if_pos hj]
      congr 1
      simp only [moreF]
      by_cases hgt : s.sh y + min s.left ((rowAt (l.el y) x).most - s.sh y) > (rowAt (l.el y) x).least
      · rw [if_pos hgt, if_pos hj, ← hj, if_pos (by omega)]
      · rw [if_neg hgt, if_neg (by omega)]
    · rw [if_neg hj, if_neg hj]
      simp only [moreF]
      split
      · exact if_neg hj
      · rfl
theorem mineE_ne (l : Sl Mach) (r : Nat → Bool) (x k : Int) : (mineE l r x k).Pairwise (· ≠ ·) :=
  (mineE_ord l r x k).imp fun {a b} h hab => by subst hab; exact bef_self h
section
variable {l : Sl Mach} {r : Nat → Bool} {f x k : Int}
theorem kind_sh {s : Shr} {z : Nat} (h : ¬ ((l.el z).kind = k ∧ r z = true)) : (kindF l r f x s k).sh z = s.sh z := by
  unfold kindF
  rw [mores_sh _ _ (fun hh => h (mineE_mem.1 hh).2), leasts_sh _ _ (fun hh => h (mine_mem.1 hh).2)]
theorem kind_map {s : Shr} : (kindF l r f x s k).es = s.es ++ (mineE l r x k).map (enT l (kindF l r f x s k).sh x) := by
  have h := mores_map (l := l) (x := x) (k := k) (mineE l r x k) ((mine l r k).foldl (leastF l x) { s with left := f }) (mineE_ne l r x k)
  rw [(leasts_keep _ _).2] at h
  exact h
theorem kind_pr {s : Shr} {j : Nat} : (kindF l r f x s k).pr j = if j = (k - 1).toNat then prL l x (kindF l r f x s k).sh (mineE l r x k) (s.pr j) else s.pr j := by
  have h := mores_pr (l := l) (x := x) (k := k) (j := j) (kindF l r f x s k).sh (mineE l r x k) ((mine l r k).foldl (leastF l x) { s with left := f }) (mineE_ne l r x k) rfl
  rw [(leasts_keep _ _).1] at h
  exact h
end
def shr1 (l : Sl Mach) (r : Nat → Bool) (f x : Int) : Shr := kindF l r f x shr0 1
def shr2 (l : Sl Mach) (r : Nat → Bool) (f x : Int) : Shr := kindF l r f x (shr1 l r f x) 2
theorem shareS_eq (l : Sl Mach) (r : Nat → Bool) (f x : Int) : shareS l r f x = kindF l r f x (shr2 l r f x) 3 := rfl
section
variable {l : Sl Mach} (hl : PlantOk l) (r : Nat → Bool) (f x : Int)
theorem sh_1 {z : Nat} (h : (l.el z).kind = 1) : (shareS l r f x).sh z = (shr1 l r f x).sh z := by
  rw [shareS_eq, kind_sh (fun hh => by omega)]
  exact kind_sh (fun hh => by omega)
theorem sh_2 {z : Nat} (h : (l.el z).kind = 2) : (shareS l r f x).sh z = (shr2 l r f x).sh z := by
  rw [shareS_eq, kind_sh (fun hh => by omega)]
theorem es_all : (shareS l r f x).es = (mineE l r x 1).map (enT l (shareS l r f x).sh x) ++ ((mineE l r x 2).map (enT l (shareS l r f x).sh x) ++ (mineE l r x 3).map (enT l (shareS l r f x).sh x)) := by
  have e1 : (mineE l r x 1).map (enT l (shr1 l r f x).sh x) = (mineE l r x 1).map (enT l (shareS l r f x).sh x) := List.map_congr_left fun z hz => by
    show _ * max _ _ = _ * max _ _
    rw [sh_1 r f x (mineE_mem.1 hz).2.1]
  have e2 : (mineE l r x 2).map (enT l (shr2 l r f x).sh x) = (mineE l r x 2).map (enT l (shareS l r f x).sh x) := List.map_congr_left fun z hz => by
    show _ * max _ _ = _ * max _ _
    rw [sh_2 r f x (mineE_mem.1 hz).2.1]
  rw [← e1, ← e2, shareS_eq, kind_map, show (shr2 l r f x).es = _ from kind_map, show (shr1 l r f x).es = _ from kind_map]
  show (([] ++ _) ++ _) ++ _ = _
  rw [List.nil_append, List.append_assoc]
  rfl
theorem sumL_app : ∀ (a b : List Int), sumL (a ++ b) = sumL a + sumL b
  | [], b => by simp [sumL]
  | x :: a, b => by
    have := sumL_app a b
    show x + sumL (a ++ b) = x + sumL a + sumL b
    omega
include hl
theorem energy_eq : sumL (shareS l r f x).es = sumP (fun i => r i = true) (enT l (shareS l r f x).sh x) l.len := by
  have hk : ∀ k, sumL ((mineE l r x k).map (enT l (shareS l r f x).sh x)) = sumP (fun i => (l.el i).kind = k ∧ r i = true) (enT l (shareS l r f x).sh x) l.len := fun k => by
    rw [sum_list (n := l.len) _ (mineE_ne l r x k) (fun z hz => (mineE_mem.1 hz).1)]
    exact sumP_congr (fun i hi => by rw [mineE_mem]; exact ⟨fun h => h.2, fun h => ⟨hi, h⟩⟩) (fun _ _ _ => rfl)
  rw [es_all, sumL_app, sumL_app, hk, hk, hk, ← sumP_or (fun i hi hh => by omega), ← sumP_or (fun i hi hh => by omega)]
  refine sumP_congr (fun i hi => ?_) (fun _ _ _ => rfl)
  have := (hl.1 i hi).2.1
  constructor
  · rintro (h | h | h) <;> exact h.2
  · intro h
    have h3 : (l.el i).kind = 1 ∨ (l.el i).kind = 2 ∨ (l.el i).kind = 3 := by omega
    rcases h3 with h3 | h3 | h3
    · exact .inl ⟨h3, h⟩
    · exact .inr (.inl ⟨h3, h⟩)
    · exact .inr (.inr ⟨h3, h⟩)
theorem price_eq {j : Nat} (hj : j < 3) : (shareS l r f x).pr j = maxP (fun i => (l.el i).kind = (j : Int) + 1 ∧ r i = true ∧ (shareS l r f x).sh i > (rowAt (l.el i) x).least) (fun i => (rowAt (l.el i) x).energy) l.len := by
  have hm : ∀ (k : Int) (w : Nat → Int), prL l x w (mineE l r x k) 0 = maxP (fun i => (l.el i).kind = k ∧ r i = true ∧ w i > (rowAt (l.el i) x).least) (fun i => (rowAt (l.el i) x).energy) l.len := fun k w => by
    unfold prL
    rw [max_list (g := fun z => (rowAt (l.el z) x).energy) (c := fun z => w z > (rowAt (l.el z) x).least) (n := l.len) (mineE l r x k) 0 (by omega) (fun z hz => ⟨(mineE_mem.1 hz).1, (row_in (hl.1 z (mineE_mem.1 hz).1) x).2.2.1⟩)]
    have := maxP_0 (p := fun i => i ∈ mineE l r x k ∧ w i > (rowAt (l.el i) x).least) (g := fun z => (rowAt (l.el z) x).energy) (n := l.len)
    rw [Int.max_eq_right this]
    refine maxP_congr (fun i hi => ?_)
    rw [mineE_mem]
    exact ⟨fun h => ⟨h.1.2.1, h.1.2.2, h.2⟩, fun h => ⟨⟨hi, h.1, h.2.1⟩, h.2.2⟩⟩
  have hc : ∀ (k : Int) (w w' : Nat → Int), (∀ z, (l.el z).kind = k → w z = w' z) → maxP (fun i => (l.el i).kind = k ∧ r i = true ∧ w i > (rowAt (l.el i) x).least) (fun i => (rowAt (l.el i) x).energy) l.len = maxP (fun i => (l.el i).kind = k ∧ r i = true ∧ w' i > (rowAt (l.el i) x).least) (fun i => (rowAt (l.el i) x).energy) l.len := fun k w w' h => by
    refine maxP_congr (fun i hi => ?_)
    constructor
    · rintro ⟨h1, h2, h3⟩; exact ⟨h1, h2, by rw [← h i h1]; exact h3⟩
    · rintro ⟨h1, h2, h3⟩; exact ⟨h1, h2, by rw [h i h1]; exact h3⟩
  have e3 := kind_pr (l := l) (r := r) (f := f) (x := x) (k := 3) (s := shr2 l r f x) (j := j)
  have e2 := kind_pr (l := l) (r := r) (f := f) (x := x) (k := 2) (s := shr1 l r f x) (j := j)
  have e1 := kind_pr (l := l) (r := r) (f := f) (x := x) (k := 1) (s := shr0) (j := j)
  rw [← shareS_eq] at e3
  rw [show kindF l r f x (shr1 l r f x) 2 = shr2 l r f x from rfl] at e2
  rw [show kindF l r f x shr0 1 = shr1 l r f x from rfl, show shr0.pr j = 0 from rfl] at e1
  have h3 : j = 0 ∨ j = 1 ∨ j = 2 := by omega
  rcases h3 with rfl | rfl | rfl
  · rw [if_neg (by decide)] at e3 e2
    rw [if_pos (by decide), hm] at e1
    rw [e3, e2, e1]
    exact hc 1 _ _ fun z hz => (sh_1 r f x hz).symm
  · rw [if_neg (by decide)] at e3 e1
    rw [if_pos (by decide), e1, hm] at e2
    rw [e3, e2]
    exact hc 2 _ _ fun z hz => (sh_2 r f x hz).symm
  · rw [if_neg (by decide)] at e1 e2
    rw [if_pos (by decide), e2, e1, hm] at e3
    rw [e3]
    rfl
theorem price_ref {j : Nat} (hj : j < 3) : (shareS l r f x).pr j = prR l r (shareS l r f x).sh x l.len j := by
  rw [price_eq hl r f x hj, prR_at]
  refine maxP_congr (fun i hi => ?_)
  have := (hl.1 i hi).2.1
  constructor
  · rintro ⟨h1, h2⟩; exact ⟨by omega, h2⟩
  · rintro ⟨h1, h2⟩; exact ⟨by omega, h2⟩
end
end Go.Sim.Pl


namespace Go.Sim.Pl
open Go.Proofs
def wo (r : Nat → Bool) (i : Nat) : Nat → Bool := fun j => if j = i then false else r j
def weakR (l : Sl Mach) (r : Nat → Bool) (f : Int) (s : Span) : Nat → Nat → Int
  | 0, _ => -1
  | j + 1, i => if r i = true ∧ failsB l (wo r i) f (ratL l s) = true then (i : Int) else weakR l r f s j (i + 1)
def weakS (l : Sl Mach) (r : Nat → Bool) (f : Int) (s : Span) : Int := weakR l r f s l.len 0
abbrev RunOk (l : Sl Mach) (r : Sl Bool) (f : Int) : Prop := PlantOk l ∧ r.len = l.len ∧ FlowOk f
instance decRun (l : Sl Mach) (r : Sl Bool) (f : Int) : Decidable (RunOk l r f) := inferInstance
def nilR : V := .row true 0 0 fun _ => []
variable (F d : Nat)
theorem e53 (x : Int) : (E F (d + 1)).pf 53 [.agg [.int .i64 x, .int .i64 x]] = some (.ret (.bool (decide (1000 ≤ x ∧ x ≤ 5000)))) := by
  have e := s53 F d ⟨x, x⟩
  simp only [eSpan] at e
  rw [e]
  refine b3 (b2 ?_)
  simp only [decide_eq_true_iff]
  constructor
  · rintro ⟨h1, h2, h3⟩; exact ⟨h1, h3⟩
  · rintro ⟨h1, h2⟩; exact ⟨h1, Int.le_refl _, h2⟩
theorem s17xbad (l : Sl Mach) (r : Sl Bool) (f x : Int) (hB : l.len < Big) (hF : l.len < F) (hR : RowsB l F) (h : ¬ (RunOk l r f ∧ 1000 ≤ x ∧ x ≤ 5000)) : (E F (d + 10)).pf 17 [sl eMach 10 l, sl eBool 1 r, .int .i64 f, .int .i64 x] = some (.ret (.tup [.row true 0 0 (fun _ => []), .row true 0 0 (fun _ => []), .int .i64 0, .int .i64 2])) := by
  have q1 := s51 F (d + 1) l r hB hF hR
  have q2 := s52 F (d + 8) f 0 1000000
  have q3 := e53 F (d + 8) x
  rw [E_pf, t17]
  simp only [q1, tkOut_ret, tkBool_b]
  by_cases h1 : PlantOk l ∧ r.len = l.len
  · rw [decide_eq_true h1, Bool.not_true, pF]
    simp only [q2, tkOut_ret, tkBool_b]
    by_cases h2 : 0 ≤ f ∧ f ≤ 1000000
    · rw [decide_eq_true h2, Bool.not_true, pF]
      simp only [q3, tkOut_ret, tkBool_b]
      rw [decide_eq_false (fun h3 => h ⟨⟨h1.1, h1.2, h2⟩, h3⟩), Bool.not_false, pT]
    · rw [decide_eq_false h2, Bool.not_false, pT]
  · rw [decide_eq_false h1, Bool.not_false, pT]
section
variable {l : Sl Mach} {r : Sl Bool} {f x : Int} (h : RunOk l r f) (hF : 2000 < F)
include h hF
theorem s17xnone (hx : 1000 ≤ x ∧ x ≤ 5000) (hk : lacks l r.el f x ≠ 0) : (E F (d + 10)).pf 17 [sl eMach 10 l, sl eBool 1 r, .int .i64 f, .int .i64 x] = some (.ret (.tup [.row true 0 0 (fun _ => []), .row true 0 0 (fun _ => []), .int .i64 0, .int .i64 5])) := by
  have hl2 := h.1.2
  have q1 := s51 F (d + 1) l r (lenB (by omega)) (by omega) (rowsB F h.1 (by omega))
  have q2 := s52 F (d + 8) f 0 1000000
  have q3 := e53 F (d + 8) x
  have q4 := s54 F (d + 7) h.1 (by omega) r h.2.1 f x
  rw [E_pf, t17]
  simp only [q1, tkOut_ret, tkBool_b]
  rw [decide_eq_true ⟨h.1, h.2.1⟩, Bool.not_true, pF]
  simp only [q2, tkOut_ret, tkBool_b]
  rw [decide_eq_true h.2.2, Bool.not_true, pF]
  simp only [q3, tkOut_ret, tkBool_b]
  rw [decide_eq_true hx, Bool.not_true, pF]
  simp only [q4, tkOut_ret, tkInt_i, decide_true, pT]
  rw [show (lacks l r.el f x != 0) = true by simp [hk], pT]
theorem s17xok (hx : 1000 ≤ x ∧ x ≤ 5000) (hk : lacks l r.el f x = 0) : (E F (d + 10)).pf 17 [sl eMach 10 l, sl eBool 1 r, .int .i64 f, .int .i64 x] = some (.ret (.tup [.row false l.len 1 (fun i => eInt ((shareS l r.el f x).sh i)), .row false 3 1 (fun i => eInt ((shareS l r.el f x).pr i)), .int .i64 (sumL (shareS l r.el f x).es), .int .i64 0])) := by
  have hl2 := h.1.2
  have q1 := s51 F (d + 1) l r (lenB (by omega)) (by omega) (rowsB F h.1 (by omega))
  have q2 := s52 F (d + 8) f 0 1000000
  have q3 := e53 F (d + 8) x
  have q4 := s54 F (d + 7) h.1 (by omega) r h.2.1 f x
  have q5 := s55 F d h.1 (by omega) r h.2.1 f x h.2.2
  rw [E_pf, t17]
  simp only [q1, tkOut_ret, tkBool_b]
  rw [decide_eq_true ⟨h.1, h.2.1⟩, Bool.not_true, pF]
  simp only [q2, tkOut_ret, tkBool_b]
  rw [decide_eq_true h.2.2, Bool.not_true, pF]
  simp only [q3, tkOut_ret, tkBool_b]
  rw [decide_eq_true hx, Bool.not_true, pF]
  simp only [q4, tkOut_ret, tkInt_i, decide_true, pT]
  rw [show (lacks l r.el f x != 0) = false by simp [hk], pF]
  simp only [q5, tkOut_ret, tkTup_t, tkCons_c, tkRow_r, tkInt_i, tkNil_n]
end
theorem s58 (r : Sl Bool) (hn : r.nl = false) (h0 : 0 < r.len) (hB : r.len ≤ 1000) : (E F (d + 1)).hv 58 [sl eBool 1 r] [] = some (.ret (.osl 0 0 r.len), [.arr 4 1 r.len (fun j => eBool (r.el j)) true]) := by
  rw [E_hv, t58, hn]
  simp (disch := omega) only [pF, decide_eq_true, pT, Nat.zero_add]
  rw [show (r.len == 0) = false by rw [beq_eq_false_iff_ne]; omega, pF]
  congr 3
theorem s30 (r : Sl Bool) (hn : r.nl = false) (i : Nat) (hi : i < r.len) (hB : r.len ≤ 1000) : (E F (d + 1)).pf 30 [sl eBool 1 r, .int .i64 i] = some (.ret (sl eBool 1 ⟨false, r.len, wo r.el i⟩)) := by
  rw [E_pf, t30, hn]
  rw [show (r.len == 0) = false by rw [beq_eq_false_iff_ne]; omega]
  simp (disch := omega) only [pF, decide_eq_true, pT, Int.toNat_natCast, upd_bool]
  rfl
section
variable {l : Sl Mach} (hl : PlantOk l) (hF : 1000 < F) {s : Span} (hs : RatioOk s) (r : Sl Bool) (hr : r.len = l.len) (hn : r.nl = false) (f : Int)
include hl hF hs hr hn
theorem l29 : ∀ (j i fu : Nat), i + j = l.len → j < fu → L29x0 (E F (d + 3)) F l r f s fu i = some (.ret (.int .i64 (weakR l r.el f s j i))) := by
  have hl2 := hl.2
  intro j
  induction j with
  | zero =>
    intro i fu h hfu
    obtain ⟨fu, rfl⟩ : ∃ k, fu = k + 1 := ⟨fu - 1, by omega⟩
    rw [L29x0s, decide_eq_false (by omega), pF]
    rfl
  | succ j ih =>
    intro i fu h hfu
    obtain ⟨fu, rfl⟩ : ∃ k, fu = k + 1 := ⟨fu - 1, by omega⟩
    have hS' : IntKind.i64.wrap ((i : Int) + 1) = ((i + 1 : Nat) : Int) := wrS (by omega)
    have q1 := s30 F (d + 2) r hn i (by omega) (by omega)
    have q2 := s28 F d hl hF hs ⟨false, r.len, wo r.el i⟩ hr f
    rw [L29x0s]
    simp (disch := omega) only [decide_eq_true, pT, Int.toNat_natCast, hS', weakR]
    by_cases h1 : r.el i = true
    · rw [h1, pT]
      simp only [q1, q2, tkOut_ret, tkRow_r, tkBool_b]
      cases h2 : failsB l (wo r.el i) f (ratL l s) with
      | true => rw [pT, if_pos (by simp)]
      | false =>
        rw [pF, if_neg (fun hh => by cases hh.2)]
        exact ih (i + 1) fu (by omega) (by omega)
    · rw [show r.el i = false by simpa using h1, pF, if_neg (fun hh => by cases hh.1)]
      exact ih (i + 1) fu (by omega) (by omega)
theorem s29 : (E F (d + 4)).pf 29 [sl eMach 10 l, sl eBool 1 r, .int .i64 f, .agg (eSpan s)] = some (.ret (.int .i64 (weakS l r.el f s))) := by
  have hl2 := hl.2
  rw [E_pf, t29]
  exact l29 F d hl hF hs r hr hn f l.len 0 F (by omega) (by omega)
theorem l26 : ∀ (j i fu : Nat), i + j = l.len → j < fu → L26x0 (E F (d + 3)) F l r f s fu i = some (.ret (.tup [.int .i64 (weakR l r.el f s j i), .int .i64 0])) := by
  have hl2 := hl.2
  intro j
  induction j with
  | zero =>
    intro i fu h hfu
    obtain ⟨fu, rfl⟩ : ∃ k, fu = k + 1 := ⟨fu - 1, by omega⟩
    rw [L26x0s, decide_eq_false (by omega), pF]
    rfl
  | succ j ih =>
    intro i fu h hfu
    obtain ⟨fu, rfl⟩ : ∃ k, fu = k + 1 := ⟨fu - 1, by omega⟩
    have hS' : IntKind.i64.wrap ((i : Int) + 1) = ((i + 1 : Nat) : Int) := wrS (by omega)
    have q1 := s58 F (d + 2) r hn (by omega) (by omega)
    have q2 := s57 F d hl hF hs ⟨false, r.len, wo r.el i⟩ hr f
    have h0 := shortest_0 l (wo r.el i) f s
    rw [L26x0s]
    simp (disch := omega) only [decide_eq_true, pT, Int.toNat_natCast, hS', weakR]
    by_cases h1 : r.el i = true
    · rw [h1, Bool.not_true, pF]
      simp (disch := omega) only [q1, tkHv_h, tkSl_o, Nat.beq_refl, Bool.and_self, pT, tkSCons_c, tkSNil_n, tkArr_a, beq_self_eq_true, decide_eq_true, Int.toNat_natCast, upd_bool]
      have q2' : (E F (d + 3)).pf 57 [sl eMach 10 l, .row false r.len 1 (fun u => eBool (if u = i then false else r.el u)), .int .i64 f, .agg (eSpan s)] = some (.ret (.int .i64 (shortest l (wo r.el i) f s))) := q2
      simp only [q2', tkOut_ret, tkInt_i, decide_true, pT]
      by_cases h2 : failsB l (wo r.el i) f (ratL l s) = true
      · rw [show (shortest l (wo r.el i) f s != 0) = true by simp [h0.2 h2], pT, if_pos (by simp [h2])]
      · have h3 : shortest l (wo r.el i) f s = 0 := by
          by_cases h4 : shortest l (wo r.el i) f s = 0
          · exact h4
          · exact (h2 (h0.1 h4)).elim
        rw [h3, show ((0 : Int) != 0) = false from rfl, pF, if_neg (fun hh => h2 hh.2)]
        exact ih (i + 1) fu (by omega) (by omega)
    · rw [show r.el i = false by simpa using h1, Bool.not_false, pT, if_neg (fun hh => by cases hh.1)]
      exact ih (i + 1) fu (by omega) (by omega)
end
theorem s26xbad (l : Sl Mach) (r : Sl Bool) (f : Int) (s : Span) (hB : l.len < Big) (hF : l.len < F) (hR : RowsB l F) (h : ¬ (RunOk l r f ∧ RatioOk s)) : (E F (d + 9)).pf 26 [sl eMach 10 l, sl eBool 1 r, .int .i64 f, .agg (eSpan s)] = some (.ret (.tup [.int .i64 0, .int .i64 2])) := by
  have q1 := s51 F d l r hB hF hR
  have q2 := s52 F (d + 7) f 0 1000000
  have q3 := s53 F (d + 7) s
  rw [E_pf, t26]
  simp only [q1, tkOut_ret, tkBool_b]
  by_cases h1 : PlantOk l ∧ r.len = l.len
  · rw [decide_eq_true h1, Bool.not_true, pF]
    simp only [q2, tkOut_ret, tkBool_b]
    by_cases h2 : 0 ≤ f ∧ f ≤ 1000000
    · rw [decide_eq_true h2, Bool.not_true, pF]
      simp only [q3, tkOut_ret, tkBool_b]
      rw [decide_eq_false (fun h3 => h ⟨⟨h1.1, h1.2, h2⟩, h3⟩), Bool.not_false, pT]
    · rw [decide_eq_false h2, Bool.not_false, pT]
  · rw [decide_eq_false h1, Bool.not_false, pT]
theorem s26xok {l : Sl Mach} {r : Sl Bool} {f : Int} {s : Span} (h : RunOk l r f) (hF : 2000 < F) (hs : RatioOk s) (hn : r.nl = false) : (E F (d + 9)).pf 26 [sl eMach 10 l, sl eBool 1 r, .int .i64 f, .agg (eSpan s)] = some (.ret (.tup (if failsB l r.el f (ratL l s) = true then [.int .i64 0, .int .i64 5] else [.int .i64 (weakS l r.el f s), .int .i64 0]))) := by
  have hl2 := h.1.2
  have q1 := s51 F d l r (lenB (by omega)) (by omega) (rowsB F h.1 (by omega))
  have q2 := s52 F (d + 7) f 0 1000000
  have q3 := s53 F (d + 7) s
  have q4 := s57 F (d + 5) h.1 (by omega) hs r h.2.1 f
  have h0 := shortest_0 l r.el f s
  rw [E_pf, t26]
  simp only [q1, tkOut_ret, tkBool_b]
  rw [decide_eq_true ⟨h.1, h.2.1⟩, Bool.not_true, pF]
  simp only [q2, tkOut_ret, tkBool_b]
  rw [decide_eq_true h.2.2, Bool.not_true, pF]
  simp only [q3, tkOut_ret, tkBool_b]
  rw [decide_eq_true hs, Bool.not_true, pF]
  simp only [q4, tkOut_ret, tkInt_i, decide_true, pT]
  by_cases h2 : failsB l r.el f (ratL l s) = true
  · rw [show (shortest l r.el f s != 0) = true by simp [h0.2 h2], pT, if_pos h2]
  · have h3 : shortest l r.el f s = 0 := by
      by_cases h4 : shortest l r.el f s = 0
      · exact h4
      · exact (h2 (h0.1 h4)).elim
    rw [h3, show ((0 : Int) != 0) = false from rfl, pF, if_neg h2]
    exact l26 F (d + 5) h.1 (by omega) hs r h.2.1 hn f l.len 0 F (by omega) (by omega)
end Go.Sim.Pl


namespace Go.Sim.Pl
open Go.Proofs
def sta0 : Sta := ⟨false, 0, 0, 0, false⟩
def beginS (m : Mach) : Sta := ⟨m.runs, m.since, m.left, 0, false⟩
def afterS (s : Sta) (m : Mach) (x : Int) : Sta :=
  { runs := x == 1
    since := bif (x == 1) == s.runs then s.since + 1 else 1
    left := bif x == 2 && s.served + 1 == m.service then m.life else bif x == 1 then s.left - 1 else s.left
    served := bif x == 2 then s.served + 1 else 0
    complete := x == 2 && s.served + 1 == m.service }
def rowT {α : Type} (z : α) (f : Nat → α) (n : Nat) : Sl α := ⟨false, n, fun j => (tabL f n).getD j ((tabL f n).getLastD z)⟩
theorem rowT_el {α : Type} {z : α} {f : Nat → α} {n j : Nat} (h : j < n) : (rowT z f n).el j = f j := tabL_get f h _
theorem rowT_congr {α : Type} {z : α} {f g : Nat → α} {n : Nat} (h : ∀ j, j < n → f j = g j) : rowT z f n = rowT z g n := by
  have e : tabL f n = tabL g n := List.map_congr_left fun j hj => h j (List.mem_range.1 hj)
  unfold rowT
  rw [e]
abbrev rowS (f : Nat → Sta) (n : Nat) : Sl Sta := rowT sta0 f n
abbrev rowB (f : Nat → Bool) (n : Nat) : Sl Bool := rowT false f n
abbrev runsS (w : Sl Int) : Sl Bool := rowB (fun i => w.el i == 1) w.len
abbrev HV (l : Sl Mach) (st : Sl Sta) (w : Sl Int) (h : Hour) : V := .rptr 1 6 (fun _ => [sl eMach 10 l, sl eSta 5 st, sl eInt 1 w, .int .i64 h.flow, .int .i64 h.ratio.lo, .int .i64 h.ratio.hi]) 0 0
def firstP (p : Nat → Bool) : Nat → Nat → Option Nat
  | 0, _ => none
  | j + 1, i => bif p i then some i else firstP p j (i + 1)
def fO : Option Nat → List V
  | some i => [.int .i64 i, .bool true]
  | none => [.int .i64 0, .bool false]
def upB (m : Mach) (s : Sta) (x : Int) : Bool := s.runs && (x != 1 && decide (s.since < m.up))
def downB (m : Mach) (s : Sta) (x : Int) : Bool := !s.runs && (x == 1 && decide (s.since < m.down))
def cutB (_ : Mach) (s : Sta) (x : Int) : Bool := bif x == 2 then s.complete else decide (s.served > 0) && !s.complete
def wornB (_ : Mach) (s : Sta) (x : Int) : Bool := x == 1 && decide (s.left ≤ 0)
def busyB (w : Nat → Int) : Nat → Bool
  | 0 => false
  | i + 1 => busyB w i || w i == 2
def crewB (w : Nat → Int) (i : Nat) : Bool := busyB w i && w i == 2
def faultS (l : Sl Mach) (st : Nat → Sta) (w : Sl Int) (h : Hour) : Int × Int :=
  match firstP (fun i => upB (l.el i) (st i) (w.el i)) l.len 0 with
  | some i => (2, (i : Int))
  | none => match firstP (fun i => downB (l.el i) (st i) (w.el i)) l.len 0 with
    | some i => (3, (i : Int))
    | none => match firstP (fun i => cutB (l.el i) (st i) (w.el i)) l.len 0 with
      | some i => (4, (i : Int))
      | none => match firstP (crewB w.el) l.len 0 with
        | some i => (5, (i : Int))
        | none => match firstP (fun i => wornB (l.el i) (st i) (w.el i)) l.len 0 with
          | some i => (6, (i : Int))
          | none => if shortest l (runsS w).el h.flow h.ratio ≠ 0 then (7, shortest l (runsS w).el h.flow h.ratio) else (1, 0)
variable (F d : Nat)
theorem s105 (m : Mach) : (E F (d + 1)).pf 105 [.agg (eMach m)] = some (.ret (.agg (eSta (beginS m)))) := by rw [E_pf, t105]; rfl
abbrev StaOk (s : Sta) : Prop := (0 ≤ s.since ∧ s.since ≤ 1000000) ∧ (-1000000 ≤ s.left ∧ s.left ≤ 1000000) ∧ 0 ≤ s.served ∧ s.served ≤ 1000000
theorem s103 (s : Sta) (m : Mach) (x : Int) (hs : StaOk s) : (E F (d + 1)).pf 103 [.agg (eSta s), .agg (eMach m), .int .i64 x] = some (.ret (.agg (eSta (afterS s m x)))) := by
  rw [E_pf, t103]
  simp (disch := omega) only [wr]
  unfold afterS
  by_cases h1 : x = 1
  · have h2 : (x == 2) = false := by simp; omega
    rw [h2, show (x == 1) = true by simp [h1]]
    cases hr : s.runs <;> rfl
  · rw [show (x == 1) = false by simp [h1]]
    cases (x == 2) <;> cases (s.served + 1 == m.service) <;> cases hr : s.runs <;> rfl
theorem l76 (l : Sl Mach) (hl2 : l.len ≤ 1000) : ∀ j i fu, i + j = l.len → j < fu → 0 < i →
    L76x1 (E F (d + 1)) F l fu i i i (gl eSta sta0 (tabL (fun i => beginS (l.el i)) i)) = some (.ret (sl eSta 5 (rowS (fun i => beginS (l.el i)) l.len))) := by
  intro j
  induction j with
  | zero =>
    intro i fu h hf h0
    obtain ⟨fu, rfl⟩ : ∃ k, fu = k + 1 := ⟨fu - 1, by omega⟩
    have hi : i = l.len := by omega
    subst hi
    rw [L76x1s, decide_eq_false (by omega), pF]
    rfl
  | succ j ih =>
    intro i fu h hf h0
    obtain ⟨fu, rfl⟩ : ∃ k, fu = k + 1 := ⟨fu - 1, by omega⟩
    have hS' : IntKind.i64.wrap ((i : Int) + 1) = ((i + 1 : Nat) : Int) := wrS (by omega)
    have q := s105 F d (l.el i)
    have e := ih (i + 1) fu (by omega) (by omega) (by omega)
    rw [tabL_S, ← gl_snoc (e := eSta) (z := sta0) (k := i) (tabL_len _ _) rfl] at e
    rw [L76x1s]
    simp (disch := omega) only [decide_eq_true, pT, Int.toNat_natCast, hS', q, tkOut_ret, tkAgg_a, tkCons_c, tkInt_i, tkBool_b, tkNil_n]
    exact e
theorem s76 (l : Sl Mach) (hl2 : l.len ≤ 1000) (hF : 1000 < F) (h0 : 0 < l.len) : (E F (d + 2)).pf 76 [sl eMach 10 l] = some (.ret (sl eSta 5 (rowS (fun i => beginS (l.el i)) l.len))) := by
  obtain ⟨F, rfl⟩ : ∃ k, F = k + 1 := ⟨F - 1, by omega⟩
  have q := s105 (F + 1) d (l.el 0)
  have e := l76 (F + 1) d l hl2 (l.len - 1) 1 F (by omega) (by omega) (by omega)
  rw [show tabL (fun i => beginS (l.el i)) 1 = [beginS (l.el 0)] from rfl, ← gl_one (e := eSta) (z := sta0) rfl] at e
  rw [E_pf, t76, L76x0s]
  rw [show IntKind.i64.wrap ((0 : Int) + 1) = ((1 : Nat) : Int) by rw [wr (by omega)]; rfl]
  simp (disch := omega) only [decide_eq_true, pT, q, tkOut_ret, tkAgg_a, tkCons_c, tkInt_i, tkBool_b, tkNil_n]
  exact e
section
variable {l : Sl Mach} {st : Sl Sta} {w : Sl Int} {h : Hour} (hl2 : l.len ≤ 1000) (hF : 1000 < F) (hst : st.len = l.len) (hw : w.len = l.len)
include hl2 hF hst hw
theorem l74 (hsto : ∀ i, i < l.len → StaOk (st.el i)) : ∀ j i fu, i + j = l.len → j < fu → 0 < i →
    L74x1 (E F (d + 1)) F l st w h fu i i i (gl eSta sta0 (tabL (fun i => afterS (st.el i) (l.el i) (w.el i)) i)) = some (.ret (sl eSta 5 (rowS (fun i => afterS (st.el i) (l.el i) (w.el i)) l.len))) := by
  intro j
  induction j with
  | zero =>
    intro i fu h hf h0
    obtain ⟨fu, rfl⟩ : ∃ k, fu = k + 1 := ⟨fu - 1, by omega⟩
    have hi : i = l.len := by omega
    subst hi
    rw [L74x1s, decide_eq_false (by omega), pF]
    rfl
  | succ j ih =>
    intro i fu h hf h0
    obtain ⟨fu, rfl⟩ : ∃ k, fu = k + 1 := ⟨fu - 1, by omega⟩
    have hS' : IntKind.i64.wrap ((i : Int) + 1) = ((i + 1 : Nat) : Int) := wrS (by omega)
    have q := s103 F d (st.el i) (l.el i) (w.el i) (hsto i (by omega))
    have e := ih (i + 1) fu (by omega) (by omega) (by omega)
    rw [tabL_S, ← gl_snoc (e := eSta) (z := sta0) (k := i) (tabL_len _ _) rfl] at e
    rw [L74x1s]
    simp (disch := omega) only [decide_eq_true, pT, Int.toNat_natCast, hS', q, tkOut_ret, tkAgg_a, tkCons_c, tkInt_i, tkBool_b, tkNil_n]
    exact e
theorem s74 (hsto : ∀ i, i < l.len → StaOk (st.el i)) (h0 : 0 < l.len) : (E F (d + 2)).pf 74 [HV l st w h] = some (.ret (sl eSta 5 (rowS (fun i => afterS (st.el i) (l.el i) (w.el i)) l.len))) := by
  obtain ⟨F, rfl⟩ : ∃ k, F = k + 1 := ⟨F - 1, by omega⟩
  have q := s103 (F + 1) d (st.el 0) (l.el 0) (w.el 0) (hsto 0 (by omega))
  have e := l74 (F + 1) d (h := h) hl2 hF hst hw hsto (l.len - 1) 1 F (by omega) (by omega) (by omega)
  rw [show tabL (fun i => afterS (st.el i) (l.el i) (w.el i)) 1 = [afterS (st.el 0) (l.el 0) (w.el 0)] from rfl, ← gl_one (e := eSta) (z := sta0) rfl] at e
  rw [E_pf, t74, L74x0s]
  rw [show IntKind.i64.wrap ((0 : Int) + 1) = ((1 : Nat) : Int) by rw [wr (by omega)]; rfl]
  simp (disch := omega) only [decide_eq_true, pT, q, tkOut_ret, tkAgg_a, tkCons_c, tkInt_i, tkBool_b, tkNil_n]
  exact e
theorem l104 : ∀ j i fu, i + j = w.len → j < fu → 0 < i →
    L104x1 (E F d) F l st w h fu i i i (gl eBool false (tabL (fun i => w.el i == 1) i)) = some (.ret (sl eBool 1 (runsS w))) := by
  intro j
  induction j with
  | zero =>
    intro i fu h hf h0
    obtain ⟨fu, rfl⟩ : ∃ k, fu = k + 1 := ⟨fu - 1, by omega⟩
    have hi : i = w.len := by omega
    subst hi
    rw [L104x1s, decide_eq_false (by omega), pF]
    rfl
  | succ j ih =>
    intro i fu h hf h0
    obtain ⟨fu, rfl⟩ : ∃ k, fu = k + 1 := ⟨fu - 1, by omega⟩
    have hS' : IntKind.i64.wrap ((i : Int) + 1) = ((i + 1 : Nat) : Int) := wrS (by omega)
    have e := ih (i + 1) fu (by omega) (by omega) (by omega)
    rw [tabL_S, ← gl_snoc (e := eBool) (z := false) (k := i) (tabL_len _ _) rfl] at e
    rw [L104x1s]
    simp (disch := omega) only [decide_eq_true, pT, Int.toNat_natCast, hS']
    exact e
theorem s104 (h0 : 0 < l.len) : (E F (d + 1)).pf 104 [HV l st w h] = some (.ret (sl eBool 1 (runsS w))) := by
  obtain ⟨F, rfl⟩ : ∃ k, F = k + 1 := ⟨F - 1, by omega⟩
  have e := l104 (F + 1) d (h := h) hl2 hF hst hw (w.len - 1) 1 F (by omega) (by omega) (by omega)
  rw [show tabL (fun i => w.el i == 1) 1 = [w.el 0 == 1] from rfl, ← gl_one (e := eBool) (z := false) rfl] at e
  rw [E_pf, t104, L104x0s]
  rw [show IntKind.i64.wrap ((0 : Int) + 1) = ((1 : Nat) : Int) by rw [wr (by omega)]; rfl]
  simp (disch := omega) only [decide_eq_true, pT]
  exact e
theorem l1145 : ∀ j i fu, i + j = l.len → j < fu → L1145x0 (E F (d + 1)) F l st w h fu i = some (.ret (.tup (fO (firstP (fun i => upB (l.el i) (st.el i) (w.el i)) j i))), []) := by
  intro j
  induction j with
  | zero =>
    intro i fu h hf
    obtain ⟨fu, rfl⟩ : ∃ k, fu = k + 1 := ⟨fu - 1, by omega⟩
    rw [L1145x0s, decide_eq_false (by omega), pF]
    rfl
  | succ j ih =>
    intro i fu h hf
    obtain ⟨fu, rfl⟩ : ∃ k, fu = k + 1 := ⟨fu - 1, by omega⟩
    have hS' : IntKind.i64.wrap ((i : Int) + 1) = ((i + 1 : Nat) : Int) := wrS (by omega)
    have e := ih (i + 1) fu (by omega) (by omega)
    have q : (E F (d + 1)).pf 115 [.agg (eMach (l.el i)), .agg (eSta (st.el i)), .int .i64 (w.el i)] = some (.ret (.bool (upB (l.el i) (st.el i) (w.el i)))) := by
      rw [E_pf, t115]
      unfold upB
      cases (st.el i).runs <;> cases (w.el i != 1) <;> rfl
    rw [L1145x0s]
    simp (disch := omega) only [decide_eq_true, pT, Int.toNat_natCast, hS', q, tkOut_ret, tkBool_b]
    simp only [firstP]
    cases hp : upB (l.el i) (st.el i) (w.el i) with
    | true => rw [pT, pT]; rfl
    | false => rw [pF, pF]; exact e
theorem s97 : (E F (d + 3)).pf 97 [HV l st w h] = some (.ret (.tup (fO (firstP (fun i => upB (l.el i) (st.el i) (w.el i)) l.len 0)))) := by
  have q : (E F (d + 2)).hv 114 [HV l st w h, .fn (.func 115) [] []] [] = some (.ret (.tup (fO (firstP (fun i => upB (l.el i) (st.el i) (w.el i)) l.len 0))), []) := by
    rw [E_hv, t1145]
    exact l1145 F d (h := h) hl2 hF hst hw l.len 0 F (by omega) (by omega)
  rw [E_pf, t97]
  simp only [q, tkHv_h, tkTup_t]
  cases firstP (fun i => upB (l.el i) (st.el i) (w.el i)) l.len 0 with
  | none => rfl
  | some i => rfl
theorem l1146 : ∀ j i fu, i + j = l.len → j < fu → L1146x0 (E F (d + 1)) F l st w h fu i = some (.ret (.tup (fO (firstP (fun i => downB (l.el i) (st.el i) (w.el i)) j i))), []) := by
  intro j
  induction j with
  | zero =>
    intro i fu h hf
    obtain ⟨fu, rfl⟩ : ∃ k, fu = k + 1 := ⟨fu - 1, by omega⟩
    rw [L1146x0s, decide_eq_false (by omega), pF]
    rfl
  | succ j ih =>
    intro i fu h hf
    obtain ⟨fu, rfl⟩ : ∃ k, fu = k + 1 := ⟨fu - 1, by omega⟩
    have hS' : IntKind.i64.wrap ((i : Int) + 1) = ((i + 1 : Nat) : Int) := wrS (by omega)
    have e := ih (i + 1) fu (by omega) (by omega)
    have q : (E F (d + 1)).pf 116 [.agg (eMach (l.el i)), .agg (eSta (st.el i)), .int .i64 (w.el i)] = some (.ret (.bool (downB (l.el i) (st.el i) (w.el i)))) := by
      rw [E_pf, t116]
      unfold downB
      cases (st.el i).runs <;> cases (w.el i == 1) <;> rfl
    rw [L1146x0s]
    simp (disch := omega) only [decide_eq_true, pT, Int.toNat_natCast, hS', q, tkOut_ret, tkBool_b]
    simp only [firstP]
    cases hp : downB (l.el i) (st.el i) (w.el i) with
    | true => rw [pT, pT]; rfl
    | false => rw [pF, pF]; exact e
theorem s98 : (E F (d + 3)).pf 98 [HV l st w h] = some (.ret (.tup (fO (firstP (fun i => downB (l.el i) (st.el i) (w.el i)) l.len 0)))) := by
  have q : (E F (d + 2)).hv 114 [HV l st w h, .fn (.func 116) [] []] [] = some (.ret (.tup (fO (firstP (fun i => downB (l.el i) (st.el i) (w.el i)) l.len 0))), []) := by
    rw [E_hv, t1146]
    exact l1146 F d (h := h) hl2 hF hst hw l.len 0 F (by omega) (by omega)
  rw [E_pf, t98]
  simp only [q, tkHv_h, tkTup_t]
  cases firstP (fun i => downB (l.el i) (st.el i) (w.el i)) l.len 0 with
  | none => rfl
  | some i => rfl
theorem l1147 : ∀ j i fu, i + j = l.len → j < fu → L1147x0 (E F (d + 1)) F l st w h fu i = some (.ret (.tup (fO (firstP (fun i => cutB (l.el i) (st.el i) (w.el i)) j i))), []) := by
  intro j
  induction j with
  | zero =>
    intro i fu h hf
    obtain ⟨fu, rfl⟩ : ∃ k, fu = k + 1 := ⟨fu - 1, by omega⟩
    rw [L1147x0s, decide_eq_false (by omega), pF]
    rfl
  | succ j ih =>
    intro i fu h hf
    obtain ⟨fu, rfl⟩ : ∃ k, fu = k + 1 := ⟨fu - 1, by omega⟩
    have hS' : IntKind.i64.wrap ((i : Int) + 1) = ((i + 1 : Nat) : Int) := wrS (by omega)
    have e := ih (i + 1) fu (by omega) (by omega)
    have q : (E F (d + 1)).pf 117 [.agg (eMach (l.el i)), .agg (eSta (st.el i)), .int .i64 (w.el i)] = some (.ret (.bool (cutB (l.el i) (st.el i) (w.el i)))) := by
      rw [E_pf, t117]
      unfold cutB
      cases (w.el i == 2) <;> cases decide ((st.el i).served > 0) <;> rfl
    rw [L1147x0s]
    simp (disch := omega) only [decide_eq_true, pT, Int.toNat_natCast, hS', q, tkOut_ret, tkBool_b]
    simp only [firstP]
    cases hp : cutB (l.el i) (st.el i) (w.el i) with
    | true => rw [pT, pT]; rfl
    | false => rw [pF, pF]; exact e
theorem s99 : (E F (d + 3)).pf 99 [HV l st w h] = some (.ret (.tup (fO (firstP (fun i => cutB (l.el i) (st.el i) (w.el i)) l.len 0)))) := by
  have q : (E F (d + 2)).hv 114 [HV l st w h, .fn (.func 117) [] []] [] = some (.ret (.tup (fO (firstP (fun i => cutB (l.el i) (st.el i) (w.el i)) l.len 0))), []) := by
    rw [E_hv, t1147]
    exact l1147 F d (h := h) hl2 hF hst hw l.len 0 F (by omega) (by omega)
  rw [E_pf, t99]
  simp only [q, tkHv_h, tkTup_t]
  cases firstP (fun i => cutB (l.el i) (st.el i) (w.el i)) l.len 0 with
  | none => rfl
  | some i => rfl
theorem l1149 : ∀ j i fu, i + j = l.len → j < fu → L1149x0 (E F (d + 1)) F l st w h fu i = some (.ret (.tup (fO (firstP (fun i => wornB (l.el i) (st.el i) (w.el i)) j i))), []) := by
  intro j
  induction j with
  | zero =>
    intro i fu h hf
    obtain ⟨fu, rfl⟩ : ∃ k, fu = k + 1 := ⟨fu - 1, by omega⟩
    rw [L1149x0s, decide_eq_false (by omega), pF]
    rfl
  | succ j ih =>
    intro i fu h hf
    obtain ⟨fu, rfl⟩ : ∃ k, fu = k + 1 := ⟨fu - 1, by omega⟩
    have hS' : IntKind.i64.wrap ((i : Int) + 1) = ((i + 1 : Nat) : Int) := wrS (by omega)
    have e := ih (i + 1) fu (by omega) (by omega)
    have q : (E F (d + 1)).pf 119 [.agg (eMach (l.el i)), .agg (eSta (st.el i)), .int .i64 (w.el i)] = some (.ret (.bool (wornB (l.el i) (st.el i) (w.el i)))) := by
      rw [E_pf, t119]
      unfold wornB
      cases (w.el i == 1) <;> rfl
    rw [L1149x0s]
    simp (disch := omega) only [decide_eq_true, pT, Int.toNat_natCast, hS', q, tkOut_ret, tkBool_b]
    simp only [firstP]
    cases hp : wornB (l.el i) (st.el i) (w.el i) with
    | true => rw [pT, pT]; rfl
    | false => rw [pF, pF]; exact e
theorem s101 : (E F (d + 3)).pf 101 [HV l st w h] = some (.ret (.tup (fO (firstP (fun i => wornB (l.el i) (st.el i) (w.el i)) l.len 0)))) := by
  have q : (E F (d + 2)).hv 114 [HV l st w h, .fn (.func 119) [] []] [] = some (.ret (.tup (fO (firstP (fun i => wornB (l.el i) (st.el i) (w.el i)) l.len 0))), []) := by
    rw [E_hv, t1149]
    exact l1149 F d (h := h) hl2 hF hst hw l.len 0 F (by omega) (by omega)
  rw [E_pf, t101]
  simp only [q, tkHv_h, tkTup_t]
  cases firstP (fun i => wornB (l.el i) (st.el i) (w.el i)) l.len 0 with
  | none => rfl
  | some i => rfl
theorem l1148 : ∀ j i fu, i + j = l.len → j < fu → ∃ b, L1148x0 (E F (d + 1)) F l st w h false fu i (busyB w.el i) = some (.ret (.tup (fO (firstP (crewB w.el) j i))), [.box 4 [.bool b] true]) := by
  intro j
  induction j with
  | zero =>
    intro i fu h hf
    obtain ⟨fu, rfl⟩ : ∃ k, fu = k + 1 := ⟨fu - 1, by omega⟩
    refine ⟨busyB w.el i, ?_⟩
    rw [L1148x0s, decide_eq_false (by omega), pF]
    rfl
  | succ j ih =>
    intro i fu h hf
    obtain ⟨fu, rfl⟩ : ∃ k, fu = k + 1 := ⟨fu - 1, by omega⟩
    have hS' : IntKind.i64.wrap ((i : Int) + 1) = ((i + 1 : Nat) : Int) := wrS (by omega)
    have e := ih (i + 1) fu (by omega) (by omega)
    have q : (E F (d + 1)).hv 118 [.agg (eMach (l.el i)), .agg (eSta (st.el i)), .int .i64 (w.el i), .optr 0 0 0] [.box 4 [.bool (busyB w.el i)] true] = some (.ret (.bool (crewB w.el i)), [.box 4 [.bool (busyB w.el (i + 1))] true]) := by
      rw [E_hv, t118]
      simp only [busyB, crewB]
      cases busyB w.el i <;> cases (w.el i == 2) <;> rfl
    rw [L1148x0s]
    simp (disch := omega) only [decide_eq_true, pT, Int.toNat_natCast, hS', q, tkHv_h, tkBool_b, tkSCons_c, tkBox_b, Nat.beq_refl, beq_self_eq_true, Bool.and_self, tkCons_c, tkNil_n, tkSNil_n]
    simp only [firstP]
    cases hp : crewB w.el i with
    | true => exact ⟨_, rfl⟩
    | false => rw [pF, pF]; exact e
theorem s100 : (E F (d + 3)).pf 100 [HV l st w h] = some (.ret (.tup (fO (firstP (crewB w.el) l.len 0)))) := by
  obtain ⟨b, e⟩ := l1148 F d (h := h) hl2 hF hst hw l.len 0 F (by omega) (by omega)
  have q : (E F (d + 2)).hv 114 [HV l st w h, .fn (.func 118) [] [.optr 0 0 0]] [.box 4 [.bool false] true] = some (.ret (.tup (fO (firstP (crewB w.el) l.len 0))), [.box 4 [.bool b] true]) := by
    rw [E_hv, t1148]
    exact e
  rw [E_pf, t100]
  simp only [q, tkHv_h, tkTup_t]
  cases firstP (crewB w.el) l.len 0 with
  | none => rfl
  | some i => rfl
end
section
variable {l : Sl Mach} (hl : PlantOk l) {st : Sl Sta} {w : Sl Int} {h : Hour} (hF : 1000 < F) (hst : st.len = l.len) (hw : w.len = l.len) (hh : HourOk h)
include hl hF hst hw hh
theorem s102 : (E F (d + 4)).pf 102 [HV l st w h] = some (.ret (.tup [.int .i64 (shortest l (runsS w).el h.flow h.ratio), .bool (shortest l (runsS w).el h.flow h.ratio != 0)])) := by
  have hl2 := hl.2
  have q1 := s104 F (d + 2) (st := st) (h := h) (by omega) hF hst hw (by omega)
  have q2 := s57 F d hl hF hh.2 (runsS w) (by show w.len = l.len; exact hw) h.flow
  rw [E_pf, t102]
  simp only [q1, q2, tkOut_ret, tkRow_r, tkInt_i, decide_true, pT]
theorem s73 : (E F (d + 5)).pf 73 [HV l st w h] = some (.ret (.tup [.int .i64 (faultS l st.el w h).1, .int .i64 (faultS l st.el w h).2])) := by
  have hl2 := hl.2
  have q1 := s97 F (d + 1) (st := st) (h := h) (by omega) hF hst hw
  have q2 := s98 F (d + 1) (st := st) (h := h) (by omega) hF hst hw
  have q3 := s99 F (d + 1) (st := st) (h := h) (by omega) hF hst hw
  have q4 := s100 F (d + 1) (st := st) (h := h) (by omega) hF hst hw
  have q5 := s101 F (d + 1) (st := st) (h := h) (by omega) hF hst hw
  have q6 := s102 F d (h := h) hl hF hst hw hh
  rw [E_pf, t73]
  unfold faultS
  simp (disch := omega) only [q1, tkOut_ret, tkTup_t, wr]
  cases firstP (fun i => upB (l.el i) (st.el i) (w.el i)) l.len 0 with
  | some i => rfl
  | none =>
    simp only [fO, tkCons_c, tkInt_i, tkBool_b, tkNil_n, pF, q2, tkOut_ret, tkTup_t]
    cases firstP (fun i => downB (l.el i) (st.el i) (w.el i)) l.len 0 with
    | some i => rfl
    | none =>
      simp only [fO, tkCons_c, tkInt_i, tkBool_b, tkNil_n, pF, q3, tkOut_ret, tkTup_t]
      cases firstP (fun i => cutB (l.el i) (st.el i) (w.el i)) l.len 0 with
      | some i => rfl
      | none =>
        simp only [fO, tkCons_c, tkInt_i, tkBool_b, tkNil_n, pF, q4, tkOut_ret, tkTup_t]
        cases firstP (crewB w.el) l.len 0 with
        | some i => rfl
        | none =>
          simp only [fO, tkCons_c, tkInt_i, tkBool_b, tkNil_n, pF, q5, tkOut_ret, tkTup_t]
          cases firstP (fun i => wornB (l.el i) (st.el i) (w.el i)) l.len 0 with
          | some i => rfl
          | none =>
            simp only [fO, tkCons_c, tkInt_i, tkBool_b, tkNil_n, pF, q6, tkOut_ret, tkTup_t]
            by_cases hk : shortest l (runsS w).el h.flow h.ratio = 0
            · rw [hk]; rfl
            · rw [show (shortest l (runsS w).el h.flow h.ratio != 0) = true by simp [hk], pT, if_pos hk]; rfl
end
end Go.Sim.Pl


namespace Go.Sim.Pl
open Go.Proofs
def enS (l : Sl Mach) (r : Nat → Bool) (f x : Int) : Int := sumL (shareS l r f x).es
def costF (e : Int → Int) (p : Int × Int) (xs : List Int) : Int × Int := xs.foldl (fun p x => (min p.1 (e x), max p.2 (e x))) p
def startB (w : Sl Int) (st : Nat → Sta) (i : Nat) : Bool := (runsS w).el i && !(st i).runs
def startN (w : Sl Int) (st : Nat → Sta) : Nat → Int
  | 0 => 0
  | i + 1 => startN w st i + (if startB w st i = true then 1 else 0)
def startE (l : Sl Mach) (w : Sl Int) (st : Nat → Sta) : Nat → Int
  | 0 => 0
  | i + 1 => startE l w st i + (if startB w st i = true then (l.el i).start else 0)
def hourE (l : Sl Mach) (w : Sl Int) (h : Hour) : Int × Int := costF (enS l (runsS w).el h.flow) (enS l (runsS w).el h.flow h.ratio.lo, enS l (runsS w).el h.flow h.ratio.lo) (ratM l h.ratio l.len 0)
theorem enS_in {l : Sl Mach} (hl : PlantOk l) (hF : 1000 < (2000 : Nat)) {r : Nat → Bool} {f x : Int} (hf : FlowOk f) : 0 ≤ enS l r f x ∧ enS l r f x ≤ 18000000000 := by
  have hl2 := hl.2
  have hI := shK_inv 2000 hl (by omega) (r := r) (f := f) (x := x) hf 3 1 shr0 (shr0xinv 2000 hl (by omega) ⟨false, l.len, r⟩ rfl f x hf)
  have hs := sumL_in 2000 hl (by omega) _ hI.es
  have hm : ∀ k, (mine l r k).length ≤ 6 := fun k => by
    have := mineR_len l r k l.len 0
    unfold mine
    omega
  have h1 := hm 1
  have h2 := hm 2
  have h3 := hm 3
  have e3 := kind_es (l := l) (r := r) (f := f) (x := x) (k := 3) (s := shr2 l r f x)
  have e2 := kind_es (l := l) (r := r) (f := f) (x := x) (k := 2) (s := shr1 l r f x)
  have e1 := kind_es (l := l) (r := r) (f := f) (x := x) (k := 1) (s := shr0)
  have e3' : (shareS l r f x).es.length = _ := e3
  have e2' : (shr2 l r f x).es.length = _ := e2
  have e1' : (shr1 l r f x).es.length = (mine l r 1).length := by rw [show (shr1 l r f x).es.length = _ from e1]; show 0 + _ = _; omega
  have hs' : 0 ≤ enS l r f x ∧ enS l r f x ≤ 1000000000 * ((shareS l r f x).es.length : Nat) := hs
  omega
theorem costF_in {e : Int → Int} (he : ∀ x, 0 ≤ e x ∧ e x ≤ 18000000000) : ∀ (xs : List Int) (p : Int × Int), (0 ≤ p.1 ∧ p.1 ≤ 18000000000) ∧ (0 ≤ p.2 ∧ p.2 ≤ 18000000000) → (0 ≤ (costF e p xs).1 ∧ (costF e p xs).1 ≤ 18000000000) ∧ (0 ≤ (costF e p xs).2 ∧ (costF e p xs).2 ≤ 18000000000)
  | [], p, h => h
  | x :: xs, p, h => by
    have := he x
    exact costF_in he xs (min p.1 (e x), max p.2 (e x)) (by constructor <;> constructor <;> simp only [] <;> omega)
variable (F d : Nat)
section
variable {l : Sl Mach} (hl : PlantOk l) {st : Sl Sta} {w : Sl Int} {h : Hour} (hF : 1000 < F) (hst : st.len = l.len) (hw : w.len = l.len) (hh : HourOk h)
include hl hF hst hw hh
theorem startE_in (st : Nat → Sta) : ∀ i, i ≤ l.len → (0 ≤ startE l w st i ∧ startE l w st i ≤ 1000000000 * i) ∧ 0 ≤ startN w st i ∧ startN w st i ≤ i
  | 0, _ => by simp [startE, startN]
  | i + 1, hi => by
    have ih := startE_in st i (by omega)
    have := (hl.1 i (by omega)).2.2.2.1
    simp only [startE, startN]
    split <;> omega
theorem l75x2 (lo hi : Int) (h1 : 0 ≤ lo ∧ lo ≤ 18000000000) (h2 : 0 ≤ hi ∧ hi ≤ 18000000000) : ∀ j i fu, i + j = l.len → j < fu →
    L75x2 (E F (d + 1)) F l st w h fu (startN w st.el i) i .i64 (lo + startE l w st.el i) .i64 (hi + startE l w st.el i) (runsS w).nl (runsS w).len 1 (fun j => eBool ((runsS w).el j)) = some (.ret (.tup [.agg [.int .i64 (lo + startE l w st.el l.len), .int .i64 (hi + startE l w st.el l.len)], .int .i64 (startN w st.el l.len)])) := by
  have hl2 := hl.2
  intro j
  induction j with
  | zero =>
    intro i fu hij hf
    obtain ⟨fu, rfl⟩ : ∃ k, fu = k + 1 := ⟨fu - 1, by omega⟩
    have hi : i = l.len := by omega
    subst hi
    rw [L75x2s, decide_eq_false (by omega), pF]
  | succ j ih =>
    intro i fu hij hf
    obtain ⟨fu, rfl⟩ : ∃ k, fu = k + 1 := ⟨fu - 1, by omega⟩
    have hS' : IntKind.i64.wrap ((i : Int) + 1) = ((i + 1 : Nat) : Int) := wrS (by omega)
    have e := ih (i + 1) fu (by omega) (by omega)
    have hb := startE_in F hl hF hst hw hh st.el i (by omega)
    have hs := (hl.1 i (by omega)).2.2.2.1
    have hrl : (runsS w).len = l.len := hw
    simp only [startE, startN] at e
    rw [L75x2s]
    simp (disch := omega) only [decide_eq_true, decide_true, pT, Int.toNat_natCast, hS', tkCons_c, tkBool_b, beq_self_eq_true, wr]
    cases hr : (runsS w).el i with
    | false =>
      have sb : startB w st.el i = false := by unfold startB; rw [hr]; rfl
      rw [sb, if_neg (by simp), Int.add_zero, if_neg (by simp), Int.add_zero] at e
      rw [pF]
      exact e
    | true =>
      rw [pT]
      cases hs2 : (st.el i).runs with
      | true =>
        have sb : startB w st.el i = false := by unfold startB; rw [hr, hs2]; rfl
        rw [sb, if_neg (by simp), Int.add_zero, if_neg (by simp), Int.add_zero] at e
        rw [Bool.not_true, pF]
        exact e
      | false =>
        have sb : startB w st.el i = true := by unfold startB; rw [hr, hs2]; rfl
        rw [sb, if_pos rfl, if_pos rfl, ← Int.add_assoc, ← Int.add_assoc] at e
        rw [Bool.not_false, pT]
        exact e
end
section
variable {l : Sl Mach} (hl : PlantOk l) {st : Sl Sta} {w : Sl Int} {h : Hour} (hF : 1000 < F) (hst : st.len = l.len) (hw : w.len = l.len) (hh : HourOk h)
include hl hF hst hw hh
theorem l75x1 (m0 i : Nat) (hi : i < l.len) (R : Option Out) (q : Int × Int) (K : L75x0 (E F (d + 9)) F l st w h m0 (fun _ => eSpan h.ratio) l.nl l.len 10 (fun i => eMach (l.el i)) l.len ((i + 1 : Nat) : Int) .i64 q.1 .i64 q.2 (runsS w).nl (runsS w).len 1 (fun j => eBool ((runsS w).el j)) (runsS w).nl (runsS w).len 1 (fun j => eBool ((runsS w).el j)) (fun _ => eSpan h.ratio) (fun _ => [sl eMach 10 l]) = R) :
    ∀ (j k fu : Nat) (p : Int × Int), k + j = (l.el i).rows.len → j < fu → costF (enS l (runsS w).el h.flow) p (ratR (l.el i) h.ratio j k) = q →
    L75x1 (E F (d + 9)) F l st w h m0 fu (fun _ => eSpan h.ratio) l.nl l.len 10 (fun i => eMach (l.el i)) l.len i (l.el i).rows.nl (l.el i).rows.len 4 (fun k => eRow ((l.el i).rows.el k)) (l.el i).rows.len k .i64 p.1 .i64 p.2 (runsS w).nl (runsS w).len 1 (fun j => eBool ((runsS w).el j)) (runsS w).nl (runsS w).len 1 (fun j => eBool ((runsS w).el j)) (fun _ => eSpan h.ratio) (fun _ => [sl eMach 10 l]) = R := by
  have hll := hl.2
  intro j
  induction j with
  | zero =>
    intro k fu p hk hf hq
    obtain ⟨fu, rfl⟩ : ∃ k, fu = k + 1 := ⟨fu - 1, by omega⟩
    have hS : IntKind.i64.wrap ((i : Int) + 1) = ((i + 1 : Nat) : Int) := wrS (by omega)
    simp only [ratR, costF, List.foldl_nil] at hq
    subst hq
    rw [L75x1s, decide_eq_false (by omega), pF, hS]
    exact K
  | succ j ih =>
    intro k fu p hk hf hq
    obtain ⟨fu, rfl⟩ : ∃ k, fu = k + 1 := ⟨fu - 1, by omega⟩
    have hm := (hl.1 i hi).1 k (by omega)
    have hml := (hl.1 i hi).2.2.1
    have hhr := hh.2
    have hS : IntKind.i64.wrap ((k : Int) + 1) = ((k + 1 : Nat) : Int) := wrS (by omega)
    have q52 := s52 F (d + 8) (((l.el i).rows.el k).ratio + 1) (h.ratio.lo + 1) h.ratio.hi
    have q55 := s55 F d hl hF (runsS w) (show w.len = l.len from hw) h.flow (((l.el i).rows.el k).ratio + 1) hh.1
    simp only [ratR] at hq
    rw [L75x1s]
    simp (disch := omega) only [decide_eq_true, decide_true, pT, Int.toNat_natCast, show ((4 : Nat) == 4) = true from rfl, List.take, List.length, List.drop, show ((0 + 1 + 1 + 1 + 1 : Nat) == 4) = true from rfl, tkCons_c, tkInt_i, tkNil_n, wr (n := ((l.el i).rows.el k).ratio + 1), wr (n := h.ratio.lo + 1), q52, tkOut_ret, tkBool_b, hS]
    by_cases h1 : h.ratio.lo < ((l.el i).rows.el k).ratio + 1 ∧ ((l.el i).rows.el k).ratio + 1 ≤ h.ratio.hi
    · rw [decide_eq_true (show h.ratio.lo + 1 ≤ ((l.el i).rows.el k).ratio + 1 ∧ ((l.el i).rows.el k).ratio + 1 ≤ h.ratio.hi by omega), pT]
      rw [if_pos h1] at hq
      have e := ih (k + 1) fu (min p.1 (enS l (runsS w).el h.flow (((l.el i).rows.el k).ratio + 1)), max p.2 (enS l (runsS w).el h.flow (((l.el i).rows.el k).ratio + 1))) (by omega) (by omega) hq
      simp only [q55, tkOut_ret, tkTup_t, tkCons_c, tkRow_r, tkInt_i, tkNil_n, mnE, mxE]
      exact e
    · rw [decide_eq_false (show ¬ (h.ratio.lo + 1 ≤ ((l.el i).rows.el k).ratio + 1 ∧ ((l.el i).rows.el k).ratio + 1 ≤ h.ratio.hi) by omega), pF]
      rw [if_neg h1, List.nil_append] at hq
      exact ih (k + 1) fu p (by omega) (by omega) hq
theorem l75x0 (q : Int × Int) (hq2 : (0 ≤ q.1 ∧ q.1 ≤ 18000000000) ∧ (0 ≤ q.2 ∧ q.2 ≤ 18000000000)) : ∀ (j i fu : Nat) (p : Int × Int), i + j = l.len → j < fu → costF (enS l (runsS w).el h.flow) p (ratM l h.ratio j i) = q →
    L75x0 (E F (d + 9)) F l st w h fu (fun _ => eSpan h.ratio) l.nl l.len 10 (fun i => eMach (l.el i)) l.len i .i64 p.1 .i64 p.2 (runsS w).nl (runsS w).len 1 (fun j => eBool ((runsS w).el j)) (runsS w).nl (runsS w).len 1 (fun j => eBool ((runsS w).el j)) (fun _ => eSpan h.ratio) (fun _ => [sl eMach 10 l]) = some (.ret (.tup [.agg [.int .i64 (q.1 + startE l w st.el l.len), .int .i64 (q.2 + startE l w st.el l.len)], .int .i64 (startN w st.el l.len)])) := by
  have hll := hl.2
  intro j
  induction j with
  | zero =>
    intro i fu p hij hf hq
    obtain ⟨fu, rfl⟩ : ∃ k, fu = k + 1 := ⟨fu - 1, by omega⟩
    simp only [ratM, costF, List.foldl_nil] at hq
    subst hq
    have e := l75x2 F (d + 8) hl hF hst hw hh p.1 p.2 hq2.1 hq2.2 l.len 0 F (by omega) (by omega)
    simp only [startE, startN, Int.add_zero] at e
    rw [L75x0s, decide_eq_false (by omega), pF]
    exact e
  | succ j ih =>
    intro i fu p hij hf hq
    obtain ⟨fu, rfl⟩ : ∃ k, fu = k + 1 := ⟨fu - 1, by omega⟩
    have hml := (hl.1 i (by omega)).2.2.1
    have e := ih (i + 1) fu (costF (enS l (runsS w).el h.flow) p (ratR (l.el i) h.ratio (l.el i).rows.len 0)) (by omega) (by omega) (by
      rw [← hq]
      unfold costF
      rw [ratM, List.foldl_append])
    rw [L75x0s]
    simp (disch := omega) only [decide_eq_true, decide_true, pT, Int.toNat_natCast, show ((10 : Nat) == 10) = true from rfl, List.take, List.length, show ((0 + 1 + 1 + 1 + 1 + 1 + 1 + 1 + 1 + 1 + 1 : Nat) == 10) = true from rfl, tkCons_c, tkInt_i, tkBool_b, tkRow_r, tkNil_n]
    exact l75x1 F d hl hF hst hw hh fu i (by omega) _ _ e (l.el i).rows.len 0 F p (by omega) (by omega) rfl
theorem s75 : (E F (d + 10)).pf 75 [HV l st w h] = some (.ret (.tup [.agg [.int .i64 ((hourE l w h).1 + startE l w st.el l.len), .int .i64 ((hourE l w h).2 + startE l w st.el l.len)], .int .i64 (startN w st.el l.len)])) := by
  have hll := hl.2
  have q90 : (E F (d + 9)).pf 90 [sl eMach 10 l, .agg (eSpan h.ratio)] = some (.ret (.fn (.func 113) [] [.rptr 1 2 (fun _ => eSpan h.ratio) 0 0, .rptr 1 1 (fun _ => [sl eMach 10 l]) 0 0])) := by
    rw [E_pf]
    exact t90 _ _ l h.ratio
  have q1 := s104 F (d + 8) (st := st) (h := h) (by omega) hF hst hw (by omega)
  have q55 := s55 F d hl hF (runsS w) (show w.len = l.len from hw) h.flow h.ratio.lo hh.1
  have hen := fun x => enS_in hl (by omega) (r := (runsS w).el) (x := x) hh.1
  have hin := costF_in hen (ratM l h.ratio l.len 0) (enS l (runsS w).el h.flow h.ratio.lo, enS l (runsS w).el h.flow h.ratio.lo) ⟨hen _, hen _⟩
  have e := l75x0 F d hl hF hst hw hh (hourE l w h) hin l.len 0 F (enS l (runsS w).el h.flow h.ratio.lo, enS l (runsS w).el h.flow h.ratio.lo) (by omega) (by omega) rfl
  rw [E_pf, t75]
  simp only [q1, q90, tkOut_ret, tkFn_f, Nat.beq_refl, pT, tkNil_n, tkCons_c, tkPtr_p, Bool.and_self, tkInt_i, tkRow_r]
  simp only [q55, tkOut_ret, tkTup_t, tkCons_c, tkRow_r, tkInt_i, tkNil_n, ite_self]
  exact e
end
end Go.Sim.Pl


namespace Go.Sim.Pl
open Go.Proofs
def stAt (l : Sl Mach) (sc : Nat → Sl Int) : Nat → Nat → Sta
  | 0 => fun i => beginS (l.el i)
  | t + 1 => fun i => afterS (stAt l sc t i) (l.el i) ((sc t).el i)
theorem stAt_in {l : Sl Mach} (hl : PlantOk l) (sc : Nat → Sl Int) {i : Nat} (hi : i < l.len) : ∀ t : Nat, (0 ≤ (stAt l sc t i).since ∧ (stAt l sc t i).since ≤ 1000 + t) ∧ (-t ≤ (stAt l sc t i).left ∧ (stAt l sc t i).left ≤ 1000) ∧ 0 ≤ (stAt l sc t i).served ∧ (stAt l sc t i).served ≤ t
  | 0 => by
    have := (hl.1 i hi).2.2.2.2.2.2.2
    simp only [stAt, beginS]
    omega
  | t + 1 => by
    have ih := stAt_in hl sc hi t
    have := (hl.1 i hi).2.2.2.2.2.2.2
    simp only [stAt, afterS]
    generalize stAt l sc t i = s at ih
    refine ⟨?_, ?_, ?_⟩
    · cases (((sc t).el i == 1) == s.runs) <;> simp only [cond_true, cond_false] <;> omega
    · cases ((sc t).el i == 2 && s.served + 1 == (l.el i).service) <;> cases ((sc t).el i == 1) <;> simp only [cond_true, cond_false] <;> omega
    · cases ((sc t).el i == 2) <;> simp only [cond_true, cond_false] <;> omega
theorem firstP_congr {p q : Nat → Bool} : ∀ j i, (∀ k, i ≤ k → k < i + j → p k = q k) → firstP p j i = firstP q j i
  | 0, _, _ => rfl
  | j + 1, i, h => by
    simp only [firstP]
    rw [h i (Nat.le_refl _) (by omega), firstP_congr j (i + 1) fun k h1 h2 => h k (by omega) (by omega)]
theorem faultS_congr {l : Sl Mach} {st st' : Nat → Sta} {w : Sl Int} {h : Hour} (e : ∀ i, i < l.len → st i = st' i) : faultS l st w h = faultS l st' w h := by
  unfold faultS
  rw [firstP_congr (p := fun i => upB (l.el i) (st i) (w.el i)) (q := fun i => upB (l.el i) (st' i) (w.el i)) l.len 0 (fun k _ h2 => by rw [e k (by omega)])]
  rw [firstP_congr (p := fun i => downB (l.el i) (st i) (w.el i)) (q := fun i => downB (l.el i) (st' i) (w.el i)) l.len 0 (fun k _ h2 => by rw [e k (by omega)])]
  rw [firstP_congr (p := fun i => cutB (l.el i) (st i) (w.el i)) (q := fun i => cutB (l.el i) (st' i) (w.el i)) l.len 0 (fun k _ h2 => by rw [e k (by omega)])]
  rw [firstP_congr (p := fun i => wornB (l.el i) (st i) (w.el i)) (q := fun i => wornB (l.el i) (st' i) (w.el i)) l.len 0 (fun k _ h2 => by rw [e k (by omega)])]
theorem start_congr {l : Sl Mach} {w : Sl Int} {st st' : Nat → Sta} : ∀ n, (∀ i, i < n → st i = st' i) → startE l w st n = startE l w st' n ∧ startN w st n = startN w st' n
  | 0, _ => ⟨rfl, rfl⟩
  | n + 1, e => by
    have ih := start_congr (l := l) (w := w) n fun i hi => e i (by omega)
    have hb : startB w st n = startB w st' n := by unfold startB; rw [e n (by omega)]
    simp only [startE, startN]
    rw [ih.1, ih.2, hb]
    exact ⟨rfl, rfl⟩
structure Ply where
  hour : Int
  rule : Int
  of : Int
  lo : Int
  hi : Int
  many : Int
def playR (l : Sl Mach) (hs : Nat → Hour) (sc : Nat → Sl Int) : Nat → Nat → Int → Int → Int → Ply
  | 0, _, lo, hi, n => ⟨0, 1, 0, lo, hi, n⟩
  | j + 1, t, lo, hi, n => if (faultS l (stAt l sc t) (sc t) (hs t)).1 ≠ 1 then ⟨t, (faultS l (stAt l sc t) (sc t) (hs t)).1, (faultS l (stAt l sc t) (sc t) (hs t)).2, 0, 0, 0⟩
    else playR l hs sc j (t + 1) (lo + ((hourE l (sc t) (hs t)).1 + startE l (sc t) (stAt l sc t) l.len)) (hi + ((hourE l (sc t) (hs t)).2 + startE l (sc t) (stAt l sc t) l.len)) (n + startN (sc t) (stAt l sc t) l.len)
def playS (l : Sl Mach) (hs : Sl Hour) (sc : Sl (Sl Int)) : Ply := playR l hs.el sc.el hs.len 0 0 0 0
def errA (l : Sl Mach) (hs : Sl Hour) : Int := if hs.len > 24 then 3 else if PlantOk l ∧ HoursOk hs then 0 else 2
def errS (l : Sl Mach) (hs : Sl Hour) (sc : Sl (Sl Int)) : Int := if hs.len > 24 then 3 else if PlantOk l ∧ HoursOk hs ∧ SchedOk l hs.len sc then 0 else 2
theorem hourE_in {l : Sl Mach} (hl : PlantOk l) {w : Sl Int} {h : Hour} (hh : HourOk h) : (0 ≤ (hourE l w h).1 ∧ (hourE l w h).1 ≤ 18000000000) ∧ (0 ≤ (hourE l w h).2 ∧ (hourE l w h).2 ≤ 18000000000) := by
  have hen := fun x => enS_in hl (by omega) (r := (runsS w).el) (x := x) hh.1
  exact costF_in hen (ratM l h.ratio l.len 0) (enS l (runsS w).el h.flow h.ratio.lo, enS l (runsS w).el h.flow h.ratio.lo) ⟨hen _, hen _⟩
variable (F d : Nat)
section
variable {l : Sl Mach} (hl : PlantOk l) {hs : Sl Hour} (hh : HoursOk hs) (h24 : hs.len ≤ 24) {sc : Sl (Sl Int)} (hsc : SchedOk l hs.len sc) (hF : 1000 < F)
include hl hh h24 hsc hF
theorem l61 : ∀ (j t fu : Nat) (lo hi n : Int), t + j = hs.len → j < fu → (0 ≤ lo ∧ lo ≤ 100000000000 * t) → (0 ≤ hi ∧ hi ≤ 100000000000 * t) → (0 ≤ n ∧ n ≤ 1000 * t) →
    L61x0 (E F (d + 10)) F l hs sc fu false l.len 5 (fun j => eSta ((rowS (stAt l sc.el t) l.len).el j)) n t lo hi = some (.ret (.tup [.agg [.int .i64 (playR l hs.el sc.el j t lo hi n).hour, .int .i64 (playR l hs.el sc.el j t lo hi n).rule, .int .i64 (playR l hs.el sc.el j t lo hi n).of], .agg [.int .i64 (playR l hs.el sc.el j t lo hi n).lo, .int .i64 (playR l hs.el sc.el j t lo hi n).hi], .int .i64 (playR l hs.el sc.el j t lo hi n).many])) := by
  have hl2 := hl.2
  have hscl := hsc.2
  intro j
  induction j with
  | zero =>
    intro t fu lo hi n h hf h1 h2 h3
    obtain ⟨fu, rfl⟩ : ∃ k, fu = k + 1 := ⟨fu - 1, by omega⟩
    rw [L61x0s, decide_eq_false (by omega), pF]
    rfl
  | succ j ih =>
    intro t fu lo hi n h hf h1 h2 h3
    obtain ⟨fu, rfl⟩ : ∃ k, fu = k + 1 := ⟨fu - 1, by omega⟩
    have hS' : IntKind.i64.wrap ((t : Int) + 1) = ((t + 1 : Nat) : Int) := wrS (by omega)
    have hw := (hsc.1 t (by omega)).1
    have hho := hh t (by omega)
    have hel : ∀ i, i < l.len → (rowS (stAt l sc.el t) l.len).el i = stAt l sc.el t i := fun i hi => rowT_el hi
    have q73 := s73 F (d + 5) (st := rowS (stAt l sc.el t) l.len) hl hF rfl hw hho
    have q75 := s75 F d (st := rowS (stAt l sc.el t) l.len) hl hF rfl hw hho
    have q74 := s74 F (d + 8) (st := rowS (stAt l sc.el t) l.len) (h := hs.el t) (show l.len ≤ 1000 by omega) hF rfl hw (fun i hi => by
      have := stAt_in hl sc.el hi t
      rw [hel i hi]
      exact ⟨by omega, by omega, by omega⟩) (by omega)
    have hcg : rowS (fun i => afterS ((rowS (stAt l sc.el t) l.len).el i) (l.el i) ((sc.el t).el i)) l.len = rowS (stAt l sc.el (t + 1)) l.len := rowT_congr fun i hi => by
      show afterS _ _ _ = afterS _ _ _
      rw [hel i hi]
    rw [hcg] at q74
    rw [faultS_congr hel] at q73
    rw [(start_congr (l := l) (w := sc.el t) l.len hel).1, (start_congr (l := l) (w := sc.el t) l.len hel).2] at q75
    have hE := hourE_in hl (w := sc.el t) hho
    have hN := startE_in F hl (st := rowS (stAt l sc.el t) l.len) hF rfl hw hho (stAt l sc.el t) l.len (by omega)
    have e := ih (t + 1) fu (lo + ((hourE l (sc.el t) (hs.el t)).1 + startE l (sc.el t) (stAt l sc.el t) l.len)) (hi + ((hourE l (sc.el t) (hs.el t)).2 + startE l (sc.el t) (stAt l sc.el t) l.len)) (n + startN (sc.el t) (stAt l sc.el t) l.len) (by omega) (by omega) (by omega) (by omega) (by omega)
    rw [L61x0s]
    have q73' : (E F (d + 10)).pf 73 [.rptr 1 6 (fun _ => [sl eMach 10 l, .row false l.len 5 (fun j => eSta ((rowS (stAt l sc.el t) l.len).el j)), sl eInt 1 (sc.el t), .int .i64 (hs.el t).flow, .int .i64 (hs.el t).ratio.lo, .int .i64 (hs.el t).ratio.hi]) 0 0] = _ := q73
    have q75' : (E F (d + 10)).pf 75 [.rptr 1 6 (fun _ => [sl eMach 10 l, .row false l.len 5 (fun j => eSta ((rowS (stAt l sc.el t) l.len).el j)), sl eInt 1 (sc.el t), .int .i64 (hs.el t).flow, .int .i64 (hs.el t).ratio.lo, .int .i64 (hs.el t).ratio.hi]) 0 0] = _ := q75
    have q74' : (E F (d + 10)).pf 74 [.rptr 1 6 (fun _ => [sl eMach 10 l, .row false l.len 5 (fun j => eSta ((rowS (stAt l sc.el t) l.len).el j)), sl eInt 1 (sc.el t), .int .i64 (hs.el t).flow, .int .i64 (hs.el t).ratio.lo, .int .i64 (hs.el t).ratio.hi]) 0 0] = _ := q74
    simp (disch := omega) only [decide_eq_true, decide_true, pT, Int.toNat_natCast, hS', q73', tkOut_ret, tkTup_t, tkCons_c, tkInt_i, tkNil_n]
    simp only [playR]
    by_cases hr : (faultS l (stAt l sc.el t) (sc.el t) (hs.el t)).1 = 1
    · rw [if_neg (fun hh => hh hr), show ((faultS l (stAt l sc.el t) (sc.el t) (hs.el t)).1 != 1) = false by simp [hr], pF]
      simp (disch := omega) only [q75', q74', tkOut_ret, tkTup_t, tkCons_c, tkAgg_a, tkInt_i, tkNil_n, decide_true, pT, tkRow_r, wr]
      exact e
    · rw [if_pos hr, show ((faultS l (stAt l sc.el t) (sc.el t) (hs.el t)).1 != 1) = true by simp [hr], pT]
theorem s61 : (E F (d + 11)).pf 61 [sl eMach 10 l, sl eHour 3 hs, sl eIL 1 sc] = some (.ret (.tup [.agg [.int .i64 (playS l hs sc).hour, .int .i64 (playS l hs sc).rule, .int .i64 (playS l hs sc).of], .agg [.int .i64 (playS l hs sc).lo, .int .i64 (playS l hs sc).hi], .int .i64 (playS l hs sc).many])) := by
  have hl2 := hl.2
  have q := s76 F (d + 8) l (by omega) hF (by omega)
  have e := l61 F d hl hh h24 hsc hF hs.len 0 F 0 0 0 (by omega) (by omega) (by omega) (by omega) (by omega)
  rw [E_pf, t61]
  simp only [q, tkOut_ret, tkRow_r]
  exact e
end
theorem s96 (a : Int) (h : Hour) : (E F (d + 2)).pf 96 [.int .i64 a, .agg (eHour h)] = some (.ret (.bool (decide (HourOk h)))) := by
  have q1 := s52 F d h.flow 0 1000000
  have q2 := s53 F d h.ratio
  rw [E_pf, t96]
  simp only [q1, q2, tkOut_ret, tkBool_b, cAnd]
  exact b3 (b2 (by simp only [Bool.and_eq_true, decide_eq_true_iff]))
theorem l95 (hs : Sl Hour) (hB : hs.len < Big) : ∀ j i fu, i + j = hs.len → j < fu →
    L95x0 (E F (d + 2)) F hs fu i = some (.ret (.bool (allF (fun i => decide (HourOk (hs.el i))) j i))) := by
  intro j
  induction j with
  | zero =>
    intro i fu h hf
    obtain ⟨fu, rfl⟩ : ∃ k, fu = k + 1 := ⟨fu - 1, by omega⟩
    rw [L95x0s, decide_eq_false (by omega), pF]; rfl
  | succ j ih =>
    intro i fu h hf
    obtain ⟨fu, rfl⟩ : ∃ k, fu = k + 1 := ⟨fu - 1, by omega⟩
    have hB' : hs.len < 4611686018427387904 := hB
    have hS : IntKind.i64.wrap ((i : Int) + 1) = ((i + 1 : Nat) : Int) := wrS (by omega)
    have e := s96 F d i (hs.el i)
    rw [L95x0s]
    simp (disch := omega) only [decide_eq_true, decide_true, pT, Int.toNat_natCast, hS, e, tkOut_ret, tkBool_b, ih (i + 1) fu (by omega) (by omega), allF, cStep]
theorem s95 (hs : Sl Hour) (hB : hs.len < Big) (hF : hs.len < F) : (E F (d + 3)).pf 95 [sl eHour 3 hs, .fn (.func 96) [] []] = some (.ret (.bool (decide (HoursOk hs)))) := by
  rw [E_pf, t95]
  refine Eq.trans (l95 F d hs hB hs.len 0 F (by omega) hF) (b3 (b2 ?_))
  rw [allF_dec]
  simp only [decide_eq_true_iff]
theorem l93 (w : Sl Int) (hB : w.len < Big) : ∀ j i fu, i + j = w.len → j < fu →
    L93x0 (E F (d + 1)) F w fu i = some (.ret (.bool (allF (fun i => decide (0 ≤ w.el i ∧ w.el i ≤ 2)) j i))) := by
  intro j
  induction j with
  | zero =>
    intro i fu h hf
    obtain ⟨fu, rfl⟩ : ∃ k, fu = k + 1 := ⟨fu - 1, by omega⟩
    rw [L93x0s, decide_eq_false (by omega), pF]; rfl
  | succ j ih =>
    intro i fu h hf
    obtain ⟨fu, rfl⟩ : ∃ k, fu = k + 1 := ⟨fu - 1, by omega⟩
    have hB' : w.len < 4611686018427387904 := hB
    have hS : IntKind.i64.wrap ((i : Int) + 1) = ((i + 1 : Nat) : Int) := wrS (by omega)
    have e : (E F (d + 1)).pf 94 [.int .i64 i, .int .i64 (w.el i)] = some (.ret (.bool (decide (0 ≤ w.el i ∧ w.el i ≤ 2)))) := by
      rw [E_pf, t94]; simp only [cAnd, Bool.decide_and, ge_iff_le]
    rw [L93x0s]
    simp (disch := omega) only [decide_eq_true, decide_true, pT, Int.toNat_natCast, hS, e, tkOut_ret, tkBool_b, ih (i + 1) fu (by omega) (by omega), allF, cStep]
theorem s92 (a : Int) (w : Sl Int) (l : Sl Mach) (hB : w.len < Big) (hF : w.len < F) : (E F (d + 3)).pf 92 [.int .i64 a, sl eInt 1 w, .rptr 1 1 (fun _ => [sl eMach 10 l]) 0 0] = some (.ret (.bool (decide (DoesOk l.len w)))) := by
  have q : (E F (d + 2)).pf 93 [sl eInt 1 w, .fn (.func 94) [] []] = some (.ret (.bool (allF (fun i => decide (0 ≤ w.el i ∧ w.el i ≤ 2)) w.len 0))) := by
    rw [E_pf, t93]
    exact l93 F d w hB w.len 0 F (by omega) hF
  rw [E_pf, t92]
  simp only [q, tkOut_ret, tkBool_b, cAnd]
  refine b3 (b2 ?_)
  rw [allF_dec]
  simp only [Bool.and_eq_true, decide_eq_true_iff, beq_iff_eq, Int.natCast_inj]
  constructor
  · rintro ⟨h1, h2⟩; exact ⟨h1, fun i hi => h2 i (by omega)⟩
  · rintro ⟨h1, h2⟩; exact ⟨h1, fun i hi => h2 i (by omega)⟩
theorem l91 (sc : Sl (Sl Int)) (l : Sl Mach) (hB : sc.len < Big) (hR : ∀ i, i < sc.len → (sc.el i).len < Big ∧ (sc.el i).len < F) : ∀ j i fu, i + j = sc.len → j < fu →
    L91x0 (E F (d + 3)) F sc l fu i = some (.ret (.bool (allF (fun i => decide (DoesOk l.len (sc.el i))) j i))) := by
  intro j
  induction j with
  | zero =>
    intro i fu h hf
    obtain ⟨fu, rfl⟩ : ∃ k, fu = k + 1 := ⟨fu - 1, by omega⟩
    rw [L91x0s, decide_eq_false (by omega), pF]; rfl
  | succ j ih =>
    intro i fu h hf
    obtain ⟨fu, rfl⟩ : ∃ k, fu = k + 1 := ⟨fu - 1, by omega⟩
    have hB' : sc.len < 4611686018427387904 := hB
    have hS : IntKind.i64.wrap ((i : Int) + 1) = ((i + 1 : Nat) : Int) := wrS (by omega)
    have hr := hR i (by omega)
    have e := s92 F d i (sc.el i) l hr.1 hr.2
    rw [L91x0s]
    simp (disch := omega) only [decide_eq_true, decide_true, pT, Int.toNat_natCast, hS, e, tkOut_ret, tkBool_b, ih (i + 1) fu (by omega) (by omega), allF, cStep]
abbrev SchB (sc : Sl (Sl Int)) (F : Nat) : Prop := (sc.len < Big ∧ sc.len < F) ∧ ∀ i, i < sc.len → (sc.el i).len < Big ∧ (sc.el i).len < F
abbrev InB (l : Sl Mach) (hs : Sl Hour) (F : Nat) : Prop := (l.len < Big ∧ l.len < F) ∧ RowsB l F ∧ hs.len < Big ∧ hs.len < F
theorem s69 (l : Sl Mach) (hs : Sl Hour) (hB : InB l hs F) : (E F (d + 8)).pf 69 [sl eMach 10 l, sl eHour 3 hs] = some (.ret (.int .i64 (errA l hs))) := by
  have q1 := s80 F d l hB.1.1 hB.1.2 hB.2.1
  have q2 := s95 F (d + 4) hs hB.2.2.1 hB.2.2.2
  rw [E_pf, t69]
  unfold errA
  by_cases h1 : hs.len > 24
  · rw [if_pos h1, decide_eq_true (by omega), pT]
  · rw [if_neg h1, decide_eq_false (by omega), pF]
    simp only [q1, tkOut_ret, tkBool_b]
    by_cases h2 : PlantOk l
    · rw [decide_eq_true h2, Bool.not_true, pF]
      simp only [q2, tkOut_ret, tkBool_b]
      by_cases h3 : HoursOk hs
      · rw [decide_eq_true h3, Bool.not_true, pF, if_pos ⟨h2, h3⟩]
      · rw [decide_eq_false h3, Bool.not_false, pT, if_neg (fun h => h3 h.2)]
    · rw [decide_eq_false h2, Bool.not_false, pT, if_neg (fun h => h2 h.1)]
theorem s60 (l : Sl Mach) (hs : Sl Hour) (sc : Sl (Sl Int)) (hB : InB l hs F) (hS : SchB sc F) : (E F (d + 9)).pf 60 [sl eMach 10 l, sl eHour 3 hs, sl eIL 1 sc] = some (.ret (.int .i64 (errS l hs sc))) := by
  have q1 := s69 F d l hs hB
  have q2 : (E F (d + 8)).pf 91 [sl eIL 1 sc, .fn (.func 92) [] [.rptr 1 1 (fun _ => [sl eMach 10 l]) 0 0]] = some (.ret (.bool (allF (fun i => decide (DoesOk l.len (sc.el i))) sc.len 0))) := by
    rw [E_pf, t91]
    exact l91 F (d + 4) sc l hS.1.1 hS.2 sc.len 0 F (by omega) hS.1.2
  rw [allF_dec] at q2
  rw [E_pf, t60]
  simp only [q1, tkOut_ret, tkInt_i, decide_true, pT]
  unfold errA errS
  by_cases h1 : hs.len > 24
  · rw [if_pos h1, if_pos h1]; rfl
  · rw [if_neg h1, if_neg h1]
    by_cases h2 : PlantOk l ∧ HoursOk hs
    · rw [if_pos h2, show ((0 : Int) != 0) = false from rfl, pF]
      by_cases h3 : sc.len = hs.len
      · rw [show (((sc.len : Nat) : Int) != ((hs.len : Nat) : Int)) = false by simp [h3], pF]
        simp only [q2, tkOut_ret, tkBool_b]
        by_cases h4 : ∀ i, i < sc.len → decide (DoesOk l.len (sc.el i)) = true
        · rw [decide_eq_true h4, Bool.not_true, pF, if_pos ⟨h2.1, h2.2, fun i hi => of_decide_eq_true (h4 i hi), h3⟩]
        · rw [decide_eq_false h4, Bool.not_false, pT, if_neg (fun h => h4 fun i hi => decide_eq_true (h.2.2.1 i hi))]
      · rw [show (((sc.len : Nat) : Int) != ((hs.len : Nat) : Int)) = true by simp; omega, pT, if_neg (fun h => h3 h.2.2.2)]
    · rw [if_neg h2, if_neg (fun h => h2 ⟨h.1, h.2.1⟩)]; rfl
theorem errS_0 {l : Sl Mach} {hs : Sl Hour} {sc : Sl (Sl Int)} (h : errS l hs sc = 0) : PlantOk l ∧ HoursOk hs ∧ hs.len ≤ 24 ∧ SchedOk l hs.len sc := by
  unfold errS at h
  split at h
  · omega
  · rename_i h1
    split at h
    · rename_i h2
      exact ⟨h2.1, h2.2.1, by omega, h2.2.2⟩
    · omega
theorem s32 (l : Sl Mach) (hs : Sl Hour) (sc : Sl (Sl Int)) (hF : 1000 < F) (hB : InB l hs F) (hS : SchB sc F) : (E F (d + 12)).pf 32 [sl eMach 10 l, sl eHour 3 hs, sl eIL 1 sc] = some (.ret (.tup (if errS l hs sc = 0 then [.agg [.int .i64 (playS l hs sc).hour, .int .i64 (playS l hs sc).rule, .int .i64 (playS l hs sc).of], .int .i64 0] else [.agg [.int .i64 0, .int .i64 0, .int .i64 0], .int .i64 (errS l hs sc)]))) := by
  have q1 := s60 F (d + 2) l hs sc hB hS
  rw [E_pf, t32]
  simp only [q1, tkOut_ret, tkInt_i, decide_true, pT]
  by_cases h : errS l hs sc = 0
  · have h0 := errS_0 h
    have q2 := s61 F d h0.1 h0.2.1 h0.2.2.1 h0.2.2.2 hF
    rw [if_pos h, h, show ((0 : Int) != 0) = false from rfl, pF]
    simp only [q2, tkOut_ret, tkTup_t, tkCons_c, tkAgg_a, tkInt_i, tkNil_n]
  · rw [if_neg h, show (errS l hs sc != 0) = true by simp [h], pT]
theorem s37 (l : Sl Mach) (hs : Sl Hour) (sc : Sl (Sl Int)) (hF : 1000 < F) (hB : InB l hs F) (hS : SchB sc F) : (E F (d + 12)).pf 37 [sl eMach 10 l, sl eHour 3 hs, sl eIL 1 sc] = some (.ret (.tup (if errS l hs sc = 0 then (if (playS l hs sc).rule = 1 then [.agg [.int .i64 (playS l hs sc).lo, .int .i64 (playS l hs sc).hi], .int .i64 (playS l hs sc).many, .int .i64 0] else [.agg [.int .i64 0, .int .i64 0], .int .i64 0, .int .i64 7]) else [.agg [.int .i64 0, .int .i64 0], .int .i64 0, .int .i64 (errS l hs sc)]))) := by
  have q1 := s60 F (d + 2) l hs sc hB hS
  rw [E_pf, t37]
  simp only [q1, tkOut_ret, tkInt_i, decide_true, pT]
  by_cases h : errS l hs sc = 0
  · have h0 := errS_0 h
    have q2 := s61 F d h0.1 h0.2.1 h0.2.2.1 h0.2.2.2 hF
    rw [if_pos h, h, show ((0 : Int) != 0) = false from rfl, pF]
    simp only [q2, tkOut_ret, tkTup_t, tkCons_c, tkAgg_a, tkInt_i, tkNil_n, decide_true, pT]
    by_cases hr : (playS l hs sc).rule = 1
    · rw [if_pos hr, hr]; rfl
    · rw [if_neg hr, show ((playS l hs sc).rule != 1) = true by simp [hr], pT]
  · rw [if_neg h, show (errS l hs sc != 0) = true by simp [h], pT]
end Go.Sim.Pl


namespace Go.Sim.Pl
open Go.Proofs
variable (F d : Nat)
theorem l35 (w : Sl Int) (hB : w.len ≤ 1000) : ∀ j i fu, i + j = w.len → j < fu → 0 < i →
    L35x1 (E F d) F w fu i i i (gl eBool false (tabL (fun i => w.el i == 1) i)) = some (.ret (sl eBool 1 (runsS w))) := by
  intro j
  induction j with
  | zero =>
    intro i fu h hf h0
    obtain ⟨fu, rfl⟩ : ∃ k, fu = k + 1 := ⟨fu - 1, by omega⟩
    have hi : i = w.len := by omega
    subst hi
    rw [L35x1s, decide_eq_false (by omega), pF]
    rfl
  | succ j ih =>
    intro i fu h hf h0
    obtain ⟨fu, rfl⟩ : ∃ k, fu = k + 1 := ⟨fu - 1, by omega⟩
    have hS' : IntKind.i64.wrap ((i : Int) + 1) = ((i + 1 : Nat) : Int) := wrS (by omega)
    have e := ih (i + 1) fu (by omega) (by omega) (by omega)
    rw [tabL_S, ← gl_snoc (e := eBool) (z := false) (k := i) (tabL_len _ _) rfl] at e
    rw [L35x1s]
    simp (disch := omega) only [decide_eq_true, pT, Int.toNat_natCast, hS']
    exact e
theorem s35 (w : Sl Int) (hB : w.len ≤ 1000) (hF : 1000 < F) (h0 : 0 < w.len) : (E F (d + 1)).pf 35 [sl eInt 1 w] = some (.ret (sl eBool 1 (runsS w))) := by
  obtain ⟨F, rfl⟩ : ∃ k, F = k + 1 := ⟨F - 1, by omega⟩
  have e := l35 (F + 1) d w hB (w.len - 1) 1 F (by omega) (by omega) (by omega)
  rw [show tabL (fun i => w.el i == 1) 1 = [w.el 0 == 1] from rfl, ← gl_one (e := eBool) (z := false) rfl] at e
  rw [E_pf, t35, L35x0s]
  rw [show IntKind.i64.wrap ((0 : Int) + 1) = ((1 : Nat) : Int) by rw [wr (by omega)]; rfl]
  simp (disch := omega) only [decide_eq_true, pT]
  exact e
section
variable {l : Sl Mach} (hl : PlantOk l) {sc : Sl (Sl Int)} {n : Nat} (hn : n ≤ 24) (hsc : SchedOk l n sc) (hF : 1000 < F) {a : Nat} (ha : a < l.len)
include hl hn hsc hF ha
theorem s62 {t : Nat} (ht : t ≤ n) : (E F (d + 1)).pf 62 [.agg (eMach (l.el a)), .int .i64 a, sl eIL 1 sc, .int .i64 ((t : Int) - 1)] = some (.ret (.bool (stAt l sc.el t a).runs)) := by
  have h2 := hsc.2
  rw [E_pf, t62]
  match t with
  | 0 =>
    rw [decide_eq_true (by omega), pT]
    rfl
  | t + 1 =>
    have h1 := (hsc.1 t (by omega)).1
    rw [show (((t + 1 : Nat) : Int) - 1) = (t : Int) by omega]
    rw [decide_eq_false (by omega), pF]
    simp (disch := omega) only [decide_eq_true, pT, Int.toNat_natCast]
    rfl
theorem l63 (m : Nat) : ∀ (k fu : Nat) (c : Int), k ≤ n → k < fu → 0 ≤ c ∧ c + k ≤ 1000 → L63x0 (E F d) F a sc m fu c ((k : Int) - 1) = some (.ret (.int .i64 (c + (stAt l sc.el k a).served))) := by
  have h2 := hsc.2
  intro k
  induction k with
  | zero =>
    intro fu c hk hf hc
    obtain ⟨fu, rfl⟩ : ∃ k, fu = k + 1 := ⟨fu - 1, by omega⟩
    rw [L63x0s, decide_eq_false (by omega), pF]
    show _ = some (Out.ret (.int .i64 (c + 0)))
    rw [Int.add_zero]
  | succ k ih =>
    intro fu c hk hf hc
    obtain ⟨fu, rfl⟩ : ∃ k, fu = k + 1 := ⟨fu - 1, by omega⟩
    have h1 := (hsc.1 k (by omega)).1
    have e := ih fu (c + 1) (by omega) (by omega) (by omega)
    rw [show (((k + 1 : Nat) : Int) - 1) = (k : Int) by omega]
    rw [L63x0s]
    simp (disch := omega) only [decide_eq_true, pT, Int.toNat_natCast, wr]
    have es : (stAt l sc.el (k + 1) a).served = bif (sc.el k).el a == 2 then (stAt l sc.el k a).served + 1 else 0 := rfl
    rw [es]
    cases (sc.el k).el a == 2 with
    | true =>
      rw [pT, cond_true, e, show c + ((stAt l sc.el k a).served + 1) = c + 1 + (stAt l sc.el k a).served by omega]
    | false =>
      rw [pF, cond_false, Int.add_zero]
theorem s63 {t : Nat} (ht : t ≤ n) : (E F (d + 1)).pf 63 [.int .i64 a, sl eIL 1 sc, .int .i64 t] = some (.ret (.int .i64 (stAt l sc.el t a).served)) := by
  have e := l63 F d hl hn hsc hF ha t t F 0 ht (by omega) (by omega)
  rw [Int.zero_add] at e
  rw [E_pf, t63, wr (by omega)]
  exact e
def sncB (m : Mach) (sc : Nat → Sl Int) (a : Nat) (b : Bool) : Nat → Int
  | 0 => bif m.runs == b then m.since else 0
  | k + 1 => bif ((sc k).el a == 1) == b then sncB m sc a b k + 1 else 0
omit hl hn hsc hF ha in
theorem sncB_eq (l : Sl Mach) (sc : Nat → Sl Int) (a : Nat) (b : Bool) : ∀ k, sncB (l.el a) sc a b k = bif (stAt l sc k a).runs == b then (stAt l sc k a).since else 0
  | 0 => rfl
  | k + 1 => by
    have ih := sncB_eq l sc a b k
    simp only [sncB, stAt, afterS]
    rw [ih]
    cases ((sc k).el a == 1) <;> cases (stAt l sc k a).runs <;> cases b <;> rfl
theorem l64 (m : Nat) (b : Bool) : ∀ (k fu : Nat) (c : Int), k ≤ n → k < fu → 0 ≤ c ∧ c + k ≤ 1000 → L64x0 (E F (d + 1)) F (l.el a) a sc m fu b c ((k : Int) - 1) = some (.ret (.int .i64 (c + sncB (l.el a) sc.el a b k))) := by
  have h2 := hsc.2
  have hm := (hl.1 a ha).2.2.2.2.2.2.2
  intro k
  induction k with
  | zero =>
    intro fu c hk hf hc
    obtain ⟨fu, rfl⟩ : ∃ k, fu = k + 1 := ⟨fu - 1, by omega⟩
    rw [L64x0s, decide_eq_false (by omega), pF]
    simp only [sncB]
    cases hb : (l.el a).runs == b with
    | true => rw [pT, pT, wr (by omega)]
    | false => rw [pF, pF, Int.add_zero]
  | succ k ih =>
    intro fu c hk hf hc
    obtain ⟨fu, rfl⟩ : ∃ k, fu = k + 1 := ⟨fu - 1, by omega⟩
    have e := ih fu (c + 1) (by omega) (by omega) (by omega)
    have q := s62 F d hl hn hsc hF ha (t := k + 1) (by omega)
    have er : (stAt l sc.el (k + 1) a).runs = ((sc.el k).el a == 1) := rfl
    rw [er, show (((k + 1 : Nat) : Int) - 1) = (k : Int) by omega] at q
    rw [show (((k + 1 : Nat) : Int) - 1) = (k : Int) by omega]
    rw [L64x0s]
    simp (disch := omega) only [decide_eq_true, pT, q, tkOut_ret, tkBool_b, wr]
    simp only [sncB]
    cases ((sc.el k).el a == 1) == b with
    | true =>
      rw [Bool.not_true, pF, pT, e, show c + (sncB (l.el a) sc.el a b k + 1) = c + 1 + sncB (l.el a) sc.el a b k by omega]
    | false => rw [Bool.not_false, pT, pF, Int.add_zero]
theorem s64 {t : Nat} (ht : t ≤ n) : (E F (d + 2)).pf 64 [.agg (eMach (l.el a)), .int .i64 a, sl eIL 1 sc, .int .i64 t] = some (.ret (.int .i64 (stAt l sc.el t a).since)) := by
  have e := l64 F d hl hn hsc hF ha t (stAt l sc.el t a).runs t F 0 ht (by omega) (by omega)
  have q := s62 F d hl hn hsc hF ha ht
  rw [Int.zero_add, sncB_eq, beq_self_eq_true, pT] at e
  rw [E_pf, t64]
  simp (disch := omega) only [wr, q, tkOut_ret, tkBool_b]
  exact e
theorem l65 {t : Nat} (ht : t ≤ n) : ∀ (j k fu : Nat), k + j = t → j < fu → L65x0 (E F (d + 1)) F (l.el a) a sc t fu (stAt l sc.el k a).left k = some (.ret (.int .i64 (stAt l sc.el t a).left)) := by
  have h2 := hsc.2
  intro j
  induction j with
  | zero =>
    intro k fu hk hf
    obtain ⟨fu, rfl⟩ : ∃ k, fu = k + 1 := ⟨fu - 1, by omega⟩
    have hkt : k = t := by omega
    subst hkt
    rw [L65x0s, decide_eq_false (by omega), pF]
  | succ j ih =>
    intro k fu hk hf
    obtain ⟨fu, rfl⟩ : ∃ k, fu = k + 1 := ⟨fu - 1, by omega⟩
    have hS' : IntKind.i64.wrap ((k : Int) + 1) = ((k + 1 : Nat) : Int) := wrS (by omega)
    have e := ih (k + 1) fu (by omega) (by omega)
    have q := s63 F d hl hn hsc hF ha (t := k + 1) (by omega)
    have hin := stAt_in hl sc.el ha k
    have h1 := (hsc.1 k (by omega)).1
    have el : (stAt l sc.el (k + 1) a).left = bif (sc.el k).el a == 2 && (stAt l sc.el k a).served + 1 == (l.el a).service then (l.el a).life else bif (sc.el k).el a == 1 then (stAt l sc.el k a).left - 1 else (stAt l sc.el k a).left := rfl
    have es : (stAt l sc.el (k + 1) a).served = bif (sc.el k).el a == 2 then (stAt l sc.el k a).served + 1 else 0 := rfl
    rw [el] at e
    rw [es] at q
    rw [L65x0s]
    simp (disch := omega) only [decide_eq_true, pT, Int.toNat_natCast, hS', wr]
    by_cases hx2 : (sc.el k).el a = 2
    · rw [show ((sc.el k).el a == 2) = true by simp [hx2]] at e q ⊢
      rw [show ((sc.el k).el a == 1) = false by rw [beq_eq_false_iff_ne]; omega] at e ⊢
      rw [cond_true] at q
      rw [Bool.true_and, cond_false] at e
      simp only [pF, pT, q, tkOut_ret, tkInt_i, decide_true]
      cases hsv : (stAt l sc.el k a).served + 1 == (l.el a).service with
      | true =>
        rw [hsv, cond_true] at e
        rw [pT]; exact e
      | false =>
        rw [hsv, cond_false] at e
        rw [pF]; exact e
    · rw [show ((sc.el k).el a == 2) = false by simp [hx2]] at e ⊢
      rw [Bool.false_and, cond_false] at e
      cases hx1 : (sc.el k).el a == 1 with
      | true =>
        rw [hx1, cond_true] at e
        rw [pT, pF]; exact e
      | false =>
        rw [hx1, cond_false] at e
        rw [pF, pF]; exact e
theorem s65 {t : Nat} (ht : t ≤ n) : (E F (d + 2)).pf 65 [.agg (eMach (l.el a)), .int .i64 a, sl eIL 1 sc, .int .i64 t] = some (.ret (.int .i64 (stAt l sc.el t a).left)) := by
  rw [E_pf, t65]
  exact l65 F d hl hn hsc hF ha ht t 0 F (by omega) (by omega)
end
def fI : Option Nat → Int
  | some i => i
  | none => -1
theorem l66 (r : Sl Bool) (hB : r.len ≤ 1000) : ∀ j i fu, i + j = r.len → j < fu → L66x0 (E F d) F r fu i = some (.ret (.int .i64 (fI (firstP r.el j i)))) := by
  intro j
  induction j with
  | zero =>
    intro i fu h hf
    obtain ⟨fu, rfl⟩ : ∃ k, fu = k + 1 := ⟨fu - 1, by omega⟩
    rw [L66x0s, decide_eq_false (by omega), pF]; rfl
  | succ j ih =>
    intro i fu h hf
    obtain ⟨fu, rfl⟩ : ∃ k, fu = k + 1 := ⟨fu - 1, by omega⟩
    have hS' : IntKind.i64.wrap ((i : Int) + 1) = ((i + 1 : Nat) : Int) := wrS (by omega)
    rw [L66x0s]
    simp (disch := omega) only [decide_eq_true, pT, Int.toNat_natCast, hS']
    simp only [firstP]
    cases r.el i with
    | true => rw [pT, pT]; rfl
    | false => rw [pF, pF]; exact ih (i + 1) fu (by omega) (by omega)
theorem s66 (r : Sl Bool) (hB : r.len ≤ 1000) (hF : 1000 < F) : (E F (d + 1)).pf 66 [sl eBool 1 r] = some (.ret (.int .i64 (fI (firstP r.el r.len 0)))) := by
  rw [E_pf, t66]
  exact l66 F d r hB r.len 0 F (by omega) (by omega)
theorem l40 (hs : Sl Hour) (hB : hs.len < Big) : ∀ j i fu, i + j = hs.len → j < fu →
    L40x0 (E F (d + 2)) F hs fu i = some (.ret (.bool (allF (fun i => decide (HourOk (hs.el i))) j i))) := by
  intro j
  induction j with
  | zero =>
    intro i fu h hf
    obtain ⟨fu, rfl⟩ : ∃ k, fu = k + 1 := ⟨fu - 1, by omega⟩
    rw [L40x0s, decide_eq_false (by omega), pF]; rfl
  | succ j ih =>
    intro i fu h hf
    obtain ⟨fu, rfl⟩ : ∃ k, fu = k + 1 := ⟨fu - 1, by omega⟩
    have hB' : hs.len < 4611686018427387904 := hB
    have hS : IntKind.i64.wrap ((i : Int) + 1) = ((i + 1 : Nat) : Int) := wrS (by omega)
    have q1 := s56 F d (hs.el i).flow
    have q2 := s27 F (d + 1) (hs.el i).ratio
    rw [L40x0s]
    simp (disch := omega) only [decide_eq_true, pT, Int.toNat_natCast, hS, q1, q2, tkOut_ret, tkBool_b, ih (i + 1) fu (by omega) (by omega), allF, cStep]
    refine b3 ?_
    rw [show decide (HourOk (hs.el i)) = (decide (FlowOk (hs.el i).flow) && decide (RatioOk (hs.el i).ratio)) from Bool.decide_and _ _, Bool.and_assoc]
theorem s40 (hs : Sl Hour) (hB : hs.len < Big) (hF : hs.len < F) : (E F (d + 3)).pf 40 [sl eHour 3 hs] = some (.ret (.bool (decide (HoursOk hs)))) := by
  rw [E_pf, t40]
  refine Eq.trans (l40 F d hs hB hs.len 0 F (by omega) hF) (b3 (b2 ?_))
  rw [allF_dec]
  simp only [decide_eq_true_iff]
theorem l44x1 (l : Sl Mach) (nn : Int) (sc : Sl (Sl Int)) (hB : l.len < Big) (m0 i : Nat) (hi : i < sc.len) (hw : (sc.el i).len = l.len) (b : Bool) (K : L44x0 (E F d) F l nn sc m0 (IntKind.i64.wrap ((i : Int) + 1)) = some (.ret (.bool b))) : ∀ j k fu, k + j = l.len → j < fu →
    L44x1 (E F d) F l nn sc m0 fu i k = some (.ret (.bool (allF (fun k => decide (0 ≤ (sc.el i).el k ∧ (sc.el i).el k ≤ 2)) j k && b))) := by
  intro j
  induction j with
  | zero =>
    intro k fu h hf
    obtain ⟨fu, rfl⟩ : ∃ k, fu = k + 1 := ⟨fu - 1, by omega⟩
    rw [L44x1s, decide_eq_false (by omega), pF, K]; rfl
  | succ j ih =>
    intro k fu h hf
    obtain ⟨fu, rfl⟩ : ∃ k, fu = k + 1 := ⟨fu - 1, by omega⟩
    have hB' : l.len < 4611686018427387904 := hB
    have hS : IntKind.i64.wrap ((k : Int) + 1) = ((k + 1 : Nat) : Int) := wrS (by omega)
    rw [L44x1s]
    simp (disch := omega) only [decide_eq_true, pT, Int.toNat_natCast, hS, ih (k + 1) fu (by omega) (by omega), allF]
    by_cases h1 : (sc.el i).el k < 0
    · rw [decide_eq_true h1, pT, decide_eq_false (by omega)]; rfl
    · rw [decide_eq_false h1, pF]
      by_cases h2 : (sc.el i).el k > 2
      · rw [decide_eq_true h2, pT, decide_eq_false (by omega)]; rfl
      · rw [decide_eq_false h2, pF, decide_eq_true (by omega)]; rfl
theorem does_dec (n : Nat) (w : Sl Int) : decide (DoesOk n w) = (decide (w.len = n) && allF (fun k => decide (0 ≤ w.el k ∧ w.el k ≤ 2)) n 0) := by
  refine b2 ?_
  rw [allF_dec]
  simp only [Bool.and_eq_true, decide_eq_true_iff]
theorem l44x0 (l : Sl Mach) (nn : Int) (sc : Sl (Sl Int)) (hB : l.len < Big) (hF : l.len < F) (hS : sc.len < Big) : ∀ j i fu, i + j = sc.len → j < fu →
    L44x0 (E F d) F l nn sc fu i = some (.ret (.bool (allF (fun i => decide (DoesOk l.len (sc.el i))) j i && decide ((sc.len : Int) = nn)))) := by
  intro j
  induction j with
  | zero =>
    intro i fu h hf
    obtain ⟨fu, rfl⟩ : ∃ k, fu = k + 1 := ⟨fu - 1, by omega⟩
    rw [L44x0s, decide_eq_false (by omega), pF]
    refine b3 (b2 ?_)
    simp only [allF, Bool.true_and, beq_iff_eq, decide_eq_true_iff]
  | succ j ih =>
    intro i fu h hf
    obtain ⟨fu, rfl⟩ : ∃ k, fu = k + 1 := ⟨fu - 1, by omega⟩
    have hB' : sc.len < 4611686018427387904 := hS
    have hS2 : IntKind.i64.wrap ((i : Int) + 1) = ((i + 1 : Nat) : Int) := wrS (by omega)
    rw [L44x0s]
    simp (disch := omega) only [decide_eq_true, pT, Int.toNat_natCast, allF, does_dec]
    by_cases h1 : (sc.el i).len = l.len
    · rw [show (((sc.el i).len : Int) != (l.len : Int)) = false by simp [h1], pF, decide_eq_true h1, Bool.true_and, Bool.and_assoc]
      refine l44x1 F d l nn sc hB fu i (by omega) h1 _ ?_ l.len 0 F (by omega) (by omega)
      rw [hS2]
      have e := ih (i + 1) fu (by omega) (by omega)
      simp only [does_dec] at e
      exact e
    · rw [show (((sc.el i).len : Int) != (l.len : Int)) = true by simp; omega, pT, decide_eq_false h1]; rfl
theorem s44 (l : Sl Mach) (n : Nat) (sc : Sl (Sl Int)) (hB : l.len < Big) (hF : l.len < F) (hS : SchB sc F) : (E F (d + 1)).pf 44 [sl eMach 10 l, .int .i64 n, sl eIL 1 sc] = some (.ret (.bool (decide (SchedOk l n sc)))) := by
  rw [E_pf, t44]
  refine Eq.trans (l44x0 F d l n sc hB hF hS.1.1 sc.len 0 F (by omega) hS.1.2) (b3 (b2 ?_))
  rw [allF_dec]
  simp only [Bool.and_eq_true, decide_eq_true_iff, Int.natCast_inj]
theorem s33 (l : Sl Mach) (hs : Sl Hour) (sc : Sl (Sl Int)) (hB : InB l hs F) (hS : SchB sc F) : (E F (d + 4)).pf 33 [sl eMach 10 l, sl eHour 3 hs, sl eIL 1 sc] = some (.ret (.int .i64 (errS l hs sc))) := by
  have q1 := s39 F d l hB.1.1 hB.1.2 hB.2.1
  have q2 := s40 F d hs hB.2.2.1 hB.2.2.2
  have q3 := s44 F (d + 2) l hs.len sc hB.1.1 hB.1.2 hS
  rw [E_pf, t33]
  unfold errS
  by_cases h1 : hs.len > 24
  · rw [if_pos h1, decide_eq_true (by omega), pT]
  · rw [if_neg h1, decide_eq_false (by omega), pF]
    simp only [q1, tkOut_ret, tkBool_b]
    by_cases h2 : PlantOk l
    · rw [decide_eq_true h2, Bool.not_true, pF]
      simp only [q2, tkOut_ret, tkBool_b]
      by_cases h3 : HoursOk hs
      · rw [decide_eq_true h3, Bool.not_true, pF]
        simp only [q3, tkOut_ret, tkBool_b]
        by_cases h4 : SchedOk l hs.len sc
        · rw [decide_eq_true h4, Bool.not_true, pF, if_pos ⟨h2, h3, h4⟩]
        · rw [decide_eq_false h4, Bool.not_false, pT, if_neg (fun h => h4 h.2.2)]
      · rw [decide_eq_false h3, Bool.not_false, pT, if_neg (fun h => h3 h.2.1)]
    · rw [decide_eq_false h2, Bool.not_false, pT, if_neg (fun h => h2 h.1)]
abbrev BriefP (hs : Sl Hour) (sc : Sl (Sl Int)) : Prop := (∀ i, i < sc.len → (sc.el i).len ≤ 10) ∧ sc.len ≤ 40 ∧ (hs.len ≤ 12 ∨ 24 < hs.len ∧ hs.len ≤ 34)
def briefT (hs : Sl Hour) (sc : Sl (Sl Int)) : Bool := decide (sc.len ≤ 40 ∧ (hs.len ≤ 12 ∨ 24 < hs.len ∧ hs.len ≤ 34))
theorem l31 (hs : Sl Hour) (sc : Sl (Sl Int)) (hB : sc.len < Big) : ∀ j i fu, i + j = sc.len → j < fu →
    L31x0 (E F d) F hs sc fu i = some (.ret (.bool (allF (fun i => decide ((sc.el i).len ≤ 10)) j i && briefT hs sc))) := by
  intro j
  induction j with
  | zero =>
    intro i fu h hf
    obtain ⟨fu, rfl⟩ : ∃ k, fu = k + 1 := ⟨fu - 1, by omega⟩
    rw [L31x0s, decide_eq_false (by omega), pF]
    unfold briefT
    simp only [allF, Bool.true_and]
    by_cases h1 : sc.len ≤ 40
    · rw [decide_eq_true (show (sc.len : Int) ≤ 40 by omega), pT]
      by_cases h2 : hs.len ≤ 12
      · rw [decide_eq_true (show (hs.len : Int) ≤ 12 by omega), pT, decide_eq_true ⟨h1, .inl h2⟩]
      · rw [decide_eq_false (show ¬ (hs.len : Int) ≤ 12 by omega), pF]
        by_cases h3 : 24 < hs.len
        · rw [decide_eq_true (show (hs.len : Int) > 24 by omega), pT]
          refine b3 (b2 ?_)
          simp only [decide_eq_true_iff]
          omega
        · rw [decide_eq_false (show ¬ (hs.len : Int) > 24 by omega), pF, decide_eq_false (by omega)]
    · rw [decide_eq_false (show ¬ (sc.len : Int) ≤ 40 by omega), pF, decide_eq_false (fun h => h1 h.1)]
  | succ j ih =>
    intro i fu h hf
    obtain ⟨fu, rfl⟩ : ∃ k, fu = k + 1 := ⟨fu - 1, by omega⟩
    have hB' : sc.len < 4611686018427387904 := hB
    have hS : IntKind.i64.wrap ((i : Int) + 1) = ((i + 1 : Nat) : Int) := wrS (by omega)
    rw [L31x0s]
    simp (disch := omega) only [decide_eq_true, pT, Int.toNat_natCast, hS, ih (i + 1) fu (by omega) (by omega), allF]
    by_cases h1 : (sc.el i).len ≤ 10
    · rw [decide_eq_false (show ¬ ((sc.el i).len : Int) > 10 by omega), pF, decide_eq_true h1]; rfl
    · rw [decide_eq_true (show ((sc.el i).len : Int) > 10 by omega), pT, decide_eq_false h1]; rfl
theorem s31 (hs : Sl Hour) (sc : Sl (Sl Int)) (hB : sc.len < Big) (hF : sc.len < F) : (E F (d + 1)).pf 31 [sl eHour 3 hs, sl eIL 1 sc] = some (.ret (.bool (decide (BriefP hs sc)))) := by
  rw [E_pf, t31]
  refine Eq.trans (l31 F d hs sc hB sc.len 0 F (by omega) hF) (b3 (b2 ?_))
  rw [allF_dec]
  unfold briefT
  simp only [Bool.and_eq_true, decide_eq_true_iff]
end Go.Sim.Pl
